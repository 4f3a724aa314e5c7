import PyProof.Rows.All
import Wide.All
import OpenK.AllK
import Wide.FinOn
import KE.KStateDown
import HandS.ForMost
import HandS.Exc
import HandS.TryOnly
import HandS.ExcOwn
import HandS.WordsExc
import HandS.Defaults
import HandS.Codes
import HandS.IsInst
import HandS.Zip
import HandS.Wide
import HandS.Head0
import HandS.Head1
import HandS.Head2
import HandS.Head3
import HandS.HeadEnd
import HandS.HeadHook1
import HandS.HeadHook2
import HandS.HeadHook4
import KE.KeyNested
import KE.KDictKeyed
import HandS.ListItems
import HandS.Small
import HandS.TupLen
import KE.KDictCopyH
import KE.KDictWalk
import KE.KExcIs
import HandS.ExcInit
import KE.KExcInit
import HandS.ExcIs
import HandS.ExcField
import HandS.HotCalls
import HandS.Strs
import KE.GoesMore
import HandS.Iter
import HandS.Gcd
import HandS.DictComp
import HandS.TryMany
import PySem.Challenge.RW_fewestcells_k00_errors_and_names_judged
section -- FwBase
set_option Elab.async false
set_option linter.all false
set_option maxRecDepth 100000
set_option maxHeartbeats 4000000
/-! FwBase: what all laws of this program share: operators by any operands, a callee in one piece, heaps that grow beside one object. -/
namespace L2
open PySem PySem.Spec PyProof.Rows

/-! ### operators by any operands -/
section
variable {X : Cx}
/-- a + b of ints, texts, lists that are tracked -/
def rAddG : R2 := fun x y H Q => match x, y with
  | .int i, .int j => Q (.int (i + j)) H
  | .str a, .str b => a.length + b.length ≤ sizeLine ∧ Q (.str (a ++ b)) H
  | .ref a, .ref b => ∃ xs ys, H a = some (.lst xs) ∧ H b = some (.lst ys) ∧ xs.length + ys.length ≤ sizeLine ∧ ∀ p, H p = none → Q (.ref p) (upd H p (.lst (xs ++ ys)))
  | _, _ => False
theorem op_addG : OpR X (binaryOp .Add) rAddG := by
  intro pins s σ H x y v u Q I rx ry h
  cases x <;> cases y <;> first
    | exact h.elim
    | exact op_add pins s σ H _ _ v u Q I rx ry ⟨_, _, rfl, rfl, h⟩
    | exact op_add_str pins s σ H _ _ v u Q I rx ry ⟨_, _, rfl, rfl, h⟩
    | exact (by obtain ⟨xs, ys, h1, h2, h3, h4⟩ := h; exact op_cat pins s σ H _ _ v u Q I rx ry ⟨_, _, _, _, rfl, rfl, h1, h2, h3, h4⟩)
end

/-- a * b: one factor below 2^64, or both together of less than a million bits -/
def CMulG (i j : Int) : Prop := CMul i j ∨ CMulW i j
section
variable {X : Cx}
theorem op_mulI : OpR X (binaryOp .Mult) (rI CMulG fun i j => .int (i * j)) := opI fun _ _ _ _ _ _ _ hc q => mul_int q (by
  rcases hc with h | h
  · exact h.ok
  · exact h.ok)
/-- int(x) of an int, a bool -/
def rInt1 : List V → Hp → VK → Prop := fun xs H Q => match xs with
  | [.int i] => Q (.int i) H
  | [.bl k] => Q (.int (if k then 1 else 0)) H
  | _ => False
theorem call_intG : CallR X (.type "int") rInt1 := by
  intro pins s σ H xs us Q I r h
  match xs, h with
  | [.int i], h => exact call_int1 pins s σ H _ us Q I r (.inl ⟨_, rfl, h⟩)
  | [.bl k], h => exact call_int1 pins s σ H _ us Q I r (.inr ⟨_, rfl, h⟩)
/-- the length of what stands at p -/
def LenR (K : PySem.W.Frag) (H : Hp) (p : Addr) (n : Nat) : Prop := (∃ xs, SqL K H p xs ∧ n = xs.length) ∨ ∃ xs, SqT K H p xs ∧ n = xs.length
theorem lenr_l {K : PySem.W.Frag} {H : Hp} {p : Addr} {xs : List V} (h : H p = some (.lst xs)) : LenR K H p xs.length := .inl ⟨_, SqL.of h, rfl⟩
theorem lenr_t {K : PySem.W.Frag} {H : Hp} {p : Addr} {xs : List V} (h : H p = some (.tup xs)) : LenR K H p xs.length := .inr ⟨_, .inl (.inl h), rfl⟩
@[irreducible] def rLenG (K : PySem.W.Frag) : List V → Hp → VK → Prop := fun xs H Q => match xs with
  | [.str y] => y.length ≤ sizeLine ∧ Q (.int y.length) H
  | [.ref p] => ∃ n, LenR K H p n ∧ Q (.int n) H
  | _ => False
theorem call_lenG : CallR X (.builtin "len") (rLenG X.K) := by
  intro pins s σ H xs us Q I r h
  unfold rLenG at h
  match xs, h with
  | [.str y], h => exact call_len pins s σ H _ us Q I r ⟨_, _, rfl, ⟨h.1, rfl⟩, h.2⟩
  | [.ref p], h =>
    obtain ⟨n, hn, q⟩ := h
    exact call_len pins s σ H _ us Q I r ⟨_, _, rfl, hn, q⟩
/-- list(xs), tuple(xs): new ones -/
@[irreducible] def rListG (K : PySem.W.Frag) : List V → Hp → VK → Prop := fun xs H Q => match xs with
  | [.ref p] => ∃ ys, (SqL K H p ys ∨ SqT K H p ys) ∧ ∀ l, H l = none → Q (.ref l) (upd H l (.lst ys))
  | _ => False
theorem call_listG : CallR X (.type "list") (rListG X.K) := by
  intro pins s σ H xs us Q I r h
  unfold rListG at h
  match xs, h with
  | [.ref p], h =>
    obtain ⟨ys, h1, q⟩ := h
    exact call_list_of pins s σ H _ us Q I r ⟨p, ys, rfl, h1, q⟩
@[irreducible] def rTupG (K : PySem.W.Frag) : List V → Hp → VK → Prop := fun xs H Q => match xs with
  | [.ref p] => ∃ ys, (SqL K H p ys ∧ ∀ l, H l = none → Q (.ref l) (upd H l (.tup ys))) ∨ (SqT K H p ys ∧ Q (.ref p) H)
  | _ => False
theorem call_tupG : CallR X (.type "tuple") (rTupG X.K) := by
  intro pins s σ H xs us Q I r h
  unfold rTupG at h
  match xs, h with
  | [.ref p], h =>
    obtain ⟨ys, h1⟩ := h
    exact call_tuple_of pins s σ H _ us Q I r ⟨p, ys, rfl, h1⟩
end

/-! ### a callee in one piece -/
/-- the def that the module's name x stands for keeps sp; dvs fill up behind the written arguments -/
structure FX (P : Program) (w : World) (K : PySem.W.Frag) (mg : Str → Option Value) (base : Heap) (k : Nat) (x : Str) (dvs : List V) (sp : Sp) : Prop where
  ex : ∃ (f : Addr) (fd : FuncData) (ps : List Str) (ds : List Value), FnOk P w K mg base (L2.CX P w) k f fd ps sp ∧ mg x = some (.ref f) ∧ PySem.W.keepIn K (.ref f) = true ∧ Binds K fd ps ds ∧ Vals dvs ds
theorem FX.mono {P : Program} {w : World} {K : PySem.W.Frag} {mg : Str → Option Value} {base : Heap} {j k : Nat} {x : Str} {dvs : List V} {sp : Sp} (F : FX P w K mg base j x dvs sp) (h : j ≤ k) : FX P w K mg base k x dvs sp := by
  obtain ⟨f, fd, ps, ds, h1, h2⟩ := F.ex
  exact ⟨f, fd, ps, ds, h1.mono h, h2⟩
theorem FnOk.toX {P : Program} {w : World} {K : PySem.W.Frag} {mg : Str → Option Value} {base : Heap} {k : Nat} {f : Addr} {fd : FuncData} {ps : List Str} {sp : Sp} (F : FnOk P w K mg base CX0 k f fd ps sp) : FnOk P w K mg base (L2.CX P w) k f fd ps sp :=
  ⟨F.len, fun A outer s H args us vs Q E hr e0 hb hv hs => codeAny_mono (F.run A outer s H args us vs Q E hr e0 hb hv hs) fun r s' q => by
    cases r with
    | error e => exact False.elim q
    | ok fl => cases fl <;> exact q⟩
section
variable {X : Cx} {k : Nat} {sp : Sp} {dvs : List V} {E : XK} {x : Str} {p pos : Pos} {e : Expr} {es : List Expr} {t : TA}
theorem pe_fx (F : FX X.prog X.w X.K X.mg X.base k x dvs sp) (hr : Room k X.A) (hx : Passes (L2.CX X.prog X.w) X E) (ha : PA X (e :: es) t) (hg : Gl X x := by rfl)
    (hdb : (x == ("__debug__" : Str)) = false := by decide) (he : starEach (e :: es) X.env = (false, eval e X.env) :: starEach es X.env := by rfl) (hpl : (backTo pos (starEach es X.env)).any (·.1) = false := by rfl) :
    PE X (.Call (.Name x p) (e :: es) [] pos) (tCall sp dvs E t) := by
  obtain ⟨f, fd, ps, ds, h1, h2, h3, h4, h5⟩ := F.ex
  exact pe_call h1 hr hg h2 h3 h4 h5 hx ha hdb he hpl
theorem pe_fxS {W : WX} (F : FX X.prog X.w X.K X.mg X.base k x [] sp) (hr : Room k X.A) (tk : Takes X W) (ha : PA X (e :: es) t) (hg : Gl X x := by rfl)
    (hdb : (x == ("__debug__" : Str)) = false := by decide) (he : starEach (e :: es) X.env = (false, eval e X.env) :: starEach es X.env := by rfl) (hpl : (backTo pos (starEach es X.env)).any (·.1) = false := by rfl) :
    PE X (.Call (.Name x p) (e :: es) [] pos) (tCallS sp (WE W) t) := by
  obtain ⟨f, fd, ps, ds, h1, h2, h3, h4, h5⟩ := F.ex
  cases h5
  exact pe_callS h1 hr hg h2 h3 h4 (fun σ => passAt tk σ) ha hdb he hpl
end

/-! ### a def of the text, its body in a context that lets nothing out -/
section
variable {P : Program} {w : World} {K : PySem.W.Frag} {mg : Str → Option Value} {base : Heap} {x qual : Str} {params : Arguments} {body : List Stmt} {scope : Scope} {dvs : List V} {kws : List (Str × V)} {f : Addr} {fd : FuncData}
theorem FunD.ok0 {N ps : List Str} {k : Nat} {sp : Sp} (F : FunD K x qual params body scope dvs kws f fd) (S : FnScope N ps scope) (len : ∀ vs H Q E, sp vs H Q E → vs.length = ps.length)
    (hbody : ∀ (cdv : Value) (A : Around) (outer : List Env) (s : Shared) (H : Hp) (vs : List V) (Q : VK) (E : XK), Room k (A.deeper (envOfC qual scope s.heap.objs.size f cdv)) → sp vs H Q E →
      ∃ t, PSs (cxOf CX0 P w K mg base N qual scope f cdv A outer s H E).nox body t ∧ t { nx := fun _ H' => Q .non H', rt := Q } (start N vs) H) : FnOk P w K mg base (L2.CX P w) (k + 1) f fd ps sp :=
  (FunD.ok (CX := CX0) F S len fun cdv A outer s H vs Q E hr hsp => by
    obtain ⟨t, h, q⟩ := hbody cdv A outer s H vs Q E hr hsp
    exact ⟨t, h.nox, q⟩).toX
/-- all arguments are written -/
theorem FX.of {ps : List Str} {k : Nat} {y : Str} {sp : Sp} (F : FunD K x qual params body scope [] kws f fd) (hm : mg y = some (.ref f)) (h : FnOk P w K mg base (L2.CX P w) k f fd ps sp)
    (hb : ∀ (kV doc pm : Value) (an : Option Addr) (cdv ct : Value) (us : List Value), us.length = ps.length → bindArgs (PySem.W.fnOf x qual params body scope .none kV doc pm an cdv ct) ⟨us, []⟩ = pure (ps.zip us)) : FX P w K mg base k y [] sp :=
  ⟨f, fd, ps, [], h, hm, F.kp, F.bindsN hb, .nil⟩
end

/-! ### heaps that grow beside one object -/
/-- all that was tracked, but at b, is as it was -/
def Ext (b : Addr) (H H' : Hp) : Prop := ∀ a o, a ≠ b → H a = some o → H' a = some o
theorem Ext.refl (b : Addr) (H : Hp) : Ext b H H := fun _ _ _ h => h
theorem Ext.trans {b : Addr} {H H1 H2 : Hp} (a : Ext b H H1) (c : Ext b H1 H2) : Ext b H H2 := fun d o n h => c d o n (a d o n h)
theorem Ext.of {b : Addr} {H H' : Hp} (s : Same H H') : Ext b H H' := fun a o _ h => s a o h
theorem Ext.new {b : Addr} {H : Hp} {p : Addr} {o : HO} (h : H p = none) : Ext b H (upd H p o) := fun a u _ e => by rw [upd_ne (ne_of_none e h)]; exact e
theorem Ext.put {b : Addr} {H : Hp} {o : HO} : Ext b H (upd H b o) := fun a u n e => by rw [upd_ne n]; exact e
theorem Same.new {H : Hp} {p : Addr} {o : HO} (h : H p = none) : Same H (upd H p o) := fun a u e => by rw [upd_ne (ne_of_none e h)]; exact e
theorem Ext.seq {K : PySem.W.Frag} {b : Addr} {H H' : Hp} {a : Addr} {xs : List V} (e : Ext b H H') (n : a ≠ b) (h : SqL K H a xs) : SqL K H' a xs := by
  rcases h with (h | ⟨o, h⟩) | h
  · exact .inl (.inl (e _ _ n h))
  · exact .inl (.inr ⟨o, e _ _ n h⟩)
  · exact .inr h
theorem Ext.seqT {K : PySem.W.Frag} {b : Addr} {H H' : Hp} {a : Addr} {xs : List V} (e : Ext b H H') (n : a ≠ b) (h : SqT K H a xs) : SqT K H' a xs := by
  rcases h with (h | ⟨o, h⟩) | h
  · exact .inl (.inl (e _ _ n h))
  · exact .inl (.inr ⟨o, e _ _ n h⟩)
  · exact .inr h
theorem Same.seqT {K : PySem.W.Frag} {H H' : Hp} {a : Addr} {xs : List V} (e : Same H H') (h : SqT K H a xs) : SqT K H' a xs := by
  rcases h with (h | ⟨o, h⟩) | h
  · exact .inl (.inl (e _ _ h))
  · exact .inl (.inr ⟨o, e _ _ h⟩)
  · exact .inr h
end L2
namespace L2
open PySem PySem.Spec PyProof.Rows
/-! ### what the head tells, in one piece -/
structure Tx (fa : List He.Fa) (fn : List He.DefD) (ex : PySem.W.Frag → Bool) (K : PySem.W.Frag) (mg : Str → Option Value) : Prop where
  fact : ∀ (i : Nat) {f : He.Fa}, fa[i]? = some f → f.ok K = true
  def_ : ∀ (i : Nat) {d : He.DefD}, fn[i]? = some d → ∃ fd, FunD K d.name d.qual d.params d.body d.scope (d.dvs K) (d.kws K) (He.fAd K d.at_) fd
  more : ex K = true
  kin : ∃ h : Heap, K.In h ∧ h.Ns mainGlobals mg
section
variable {fa : List He.Fa} {fn : List He.DefD} {ex : PySem.W.Frag → Bool} {K : PySem.W.Frag} {mg : Str → Option Value}
theorem Tx.glo (T : Tx fa fn ex K mg) (i : Nat) {x : Str} (h : fa[i]? = some (.glo x) := by rfl) : mg x = some (.ref (He.ga K x)) := by
  obtain ⟨hp, X, G⟩ := T.kin
  exact He.glo_ok X G (T.fact i h)
theorem Tx.free (T : Tx fa fn ex K mg) (i : Nat) {x : Str} (h : fa[i]? = some (.free x) := by rfl) : mg x = none := by
  obtain ⟨hp, X, G⟩ := T.kin
  exact He.free_ok X G (T.fact i h)
theorem Tx.str (T : Tx fa fn ex K mg) (i : Nat) {x z : Str} (h : fa[i]? = some (.str x z) := by rfl) : ∃ t, mg x = some (.str z t) := by
  obtain ⟨hp, X, G⟩ := T.kin
  exact He.str_ok X G (T.fact i h)
theorem Tx.int (T : Tx fa fn ex K mg) (i : Nat) {x : Str} {z : Int} (h : fa[i]? = some (.int x z) := by rfl) : ∃ t, mg x = some (.int z t) := by
  obtain ⟨hp, X, G⟩ := T.kin
  exact He.int_ok X G (T.fact i h)
theorem Tx.keep (T : Tx fa fn ex K mg) (i : Nat) {x : Str} (h : fa[i]? = some (.keep x) := by rfl) : PySem.W.keepIn K (.ref (He.ga K x)) = true := He.keep_ok (T.fact i h)
end
section
variable {X : Cx} {x : Str} {pos : Pos}
theorem pe_gs {z : Str} (h : ∃ t, X.mg x = some (.str z t)) (hg : Gl X x := by rfl) (hd : (x == ("__debug__" : Str)) = false := by decide) : PE X (.Name x pos) (tC (.str z)) := by
  obtain ⟨t, h⟩ := h
  exact pe_glob hg h ⟨t, rfl⟩ hd
theorem pe_gi {z : Int} (h : ∃ t, X.mg x = some (.int z t)) (hg : Gl X x := by rfl) (hd : (x == ("__debug__" : Str)) = false := by decide) : PE X (.Name x pos) (tC (.int z)) := by
  obtain ⟨t, h⟩ := h
  exact pe_glob hg h ⟨t, rfl⟩ hd
theorem pe_gr {a : Addr} (h : X.mg x = some (.ref a)) (hg : Gl X x := by rfl) (hd : (x == ("__debug__" : Str)) = false := by decide) : PE X (.Name x pos) (tC (.ref a)) := pe_glob hg h rfl hd
theorem pe_bty {n : String} (h : X.mg x = none) (hv : bootBuiltins x = some (.type n)) (hg : Gl X x := by rfl) (hn : x ≠ "__name__" := by decide) (hd : (x == ("__debug__" : Str)) = false := by decide) : PE X (.Name x pos) (tC (.ty n)) := pe_bltn hg h hv rfl hn hd
end
end L2
namespace L2
open PySem PySem.Spec PyProof.Rows
/-! ### the bag of draws -/
/-- at b stands a bag: the script's copy (at l), the index of the next cell, the rest of a great one, a mixed number, the number of draws -/
def BagAt (b l : Addr) (H : Hp) : Prop := ∃ (ns : List Int) (k : Nat) (r m n : Int), H b = some (.lst [.ref l, .int (k : Int), .int r, .int m, .int n]) ∧ H l = some (.lst (ns.map V.int)) ∧ l ≠ b ∧ 0 ≤ r ∧ (0 ≤ m ∧ m < 2147483647) ∧ 0 ≤ n
theorem BagAt.ext {b l : Addr} {H H' : Hp} (h : BagAt b l H) (e : Ext b H H') (hb : H' b = H b) : BagAt b l H' := by
  obtain ⟨ns, k, r, m, n, h1, h2, h3, h4⟩ := h
  exact ⟨ns, k, r, m, n, hb.trans h1, e l _ h3 h2, h3, h4⟩
theorem BagAt.new {b l p : Addr} {H : Hp} {o : HO} (h : BagAt b l H) (hp : H p = none) : BagAt b l (upd H p o) := by
  have hb := h
  obtain ⟨ns, k, r, m, n, h1, h2, h3, h4⟩ := hb
  exact h.ext (Ext.new hp) (by rw [upd_ne (ne_of_none h1 hp)])
theorem BagAt.same {b l : Addr} {H H' : Hp} (h : BagAt b l H) (e : Same H H') : BagAt b l H' := by
  obtain ⟨ns, k, r, m, n, h1, h2, h3, h4⟩ := h
  exact ⟨ns, k, r, m, n, e _ _ h1, e _ _ h2, h3, h4⟩
/-- a bag at the same places, when two objects stay -/
theorem BagAt.two {b l : Addr} {H H' : Hp} (h : BagAt b l H) (h1 : H' b = H b) (h2 : H' l = H l) : BagAt b l H' := by
  obtain ⟨ns, k, r, m, n, e1, e2, e3, e4⟩ := h
  exact ⟨ns, k, r, m, n, h1.trans e1, h2.trans e2, e3, e4⟩
theorem BagAt.isL {b l : Addr} {H : Hp} (h : BagAt b l H) : ∃ xs, H b = some (.lst xs) := by
  obtain ⟨ns, k, r, m, n, h1, h2, h3, h4⟩ := h
  exact ⟨_, h1⟩
theorem BagAt.isL2 {b l : Addr} {H : Hp} (h : BagAt b l H) : ∃ xs, H l = some (.lst xs) := by
  obtain ⟨ns, k, r, m, n, h1, h2, h3, h4⟩ := h
  exact ⟨_, h2⟩
/-- a number is drawn: from 0 to size - 1 (0 for a size below 1) -/
def spDraw : Sp := fun vs H Q _ => ∃ (b l : Addr) (size : Int), vs = [.ref b, .int size] ∧ BagAt b l H ∧ size < 1000000 ∧
  ∀ (d : Int) (H' : Hp), 0 ≤ d → (d < size ∨ d = 0) → BagAt b l H' → Ext b H H' → Q (.int d) H'
def spBag (K : PySem.W.Frag) : Sp := fun vs H Q _ => ∃ (a : Addr) (ns : List Int), vs = [.ref a] ∧ SqL K H a (ns.map V.int) ∧ ns.length ≤ 63 ∧ ∀ (b l : Addr) (H' : Hp), H b = none → BagAt b l H' → Same H H' → Q (.ref b) H'
end L2
namespace L2
open PySem PySem.Spec PyProof.Rows
/-! ### answers, one step each -/
theorem st_ixl {K : PySem.W.Frag} {p : Addr} {xs : List V} {i : Int} {v : V} {H : Hp} {Q : VK} (h : H p = some (.lst xs)) (hi : atI xs i = some v) (q : Q v H) : rIx K (.ref p) (.int i) H Q := .inl ⟨_, _, _, _, rfl, rfl, SqL.of h, hi, q⟩
theorem st_ixL {K : PySem.W.Frag} {p : Addr} {xs : List V} {i : Int} {v : V} {H : Hp} {Q : VK} (h : SqL K H p xs) (hi : atI xs i = some v) (q : Q v H) : rIx K (.ref p) (.int i) H Q := .inl ⟨_, _, _, _, rfl, rfl, h, hi, q⟩
theorem st_ixt {K : PySem.W.Frag} {p : Addr} {xs : List V} {i : Int} {v : V} {H : Hp} {Q : VK} (h : H p = some (.tup xs)) (hi : atI xs i = some v) (q : Q v H) : rIx K (.ref p) (.int i) H Q := .inr (.inl ⟨_, _, _, _, rfl, rfl, .inl (.inl h), hi, q⟩)
theorem st_ixs {K : PySem.W.Frag} {z : Str} {i : Int} {c : Nat} {H : Hp} {Q : VK} (hz : z.length ≤ sizeLine) (hi : atI z.cps.toList i = some c) (q : Q (.str ⟨#[c]⟩) H) : rIx K (.str z) (.int i) H Q := .inr (.inr ⟨_, _, _, rfl, rfl, hz, hi, q⟩)
theorem st_setl {p : Addr} {xs : List V} {i : Int} {y : V} {j : Nat} {H : Hp} {Q : Hp → Prop} (h : H p = some (.lst xs)) (hi : ixN xs.length i = some j) (q : Q (upd H p (.lst (xs.set j y)))) : rSetL (.ref p) (.int i) y H Q := ⟨_, _, _, _, rfl, rfl, h, hi, q⟩
theorem st_setX {p : Addr} {xs : List V} {i : Int} {y : V} {j : Nat} {H : Hp} {Q : Hp → Prop} (h : H p = some (.lst xs)) (hi : ixN xs.length i = some j) (q : ∀ H', H' p = some (.lst (xs.set j y)) → Ext p H H' → Q H') : rSetL (.ref p) (.int i) y H Q :=
  ⟨_, _, _, _, rfl, rfl, h, hi, q _ upd_same Ext.put⟩
/-- a new object -/
theorem st_new {H : Hp} {o : HO} {Q : VK} (q : ∀ p H', H p = none → H' p = some o → Same H H' → Q (.ref p) H') : ∀ p, H p = none → Q (.ref p) (upd H p o) := fun p n => q p _ n upd_same (Same.new n)
theorem st_lst {H : Hp} {xs : List V} {Q : VK} (hl : xs.length ≤ sizeLine) (q : ∀ p H', H p = none → H' p = some (.lst xs) → Same H H' → Q (.ref p) H') : xs.length ≤ sizeLine ∧ ∀ p, H p = none → Q (.ref p) (upd H p (.lst xs)) := ⟨hl, st_new q⟩
theorem st_tup {H : Hp} {xs : List V} {Q : VK} (hl : xs.length ≤ sizeLine) (q : ∀ p H', H p = none → H' p = some (.tup xs) → Same H H' → Q (.ref p) H') : xs.length ≤ sizeLine ∧ ∀ p, H p = none → Q (.ref p) (upd H p (.tup xs)) := ⟨hl, st_new q⟩
theorem cutV_map {α : Type} (f : α → V) (ns : List α) (lo hi : Option Int) : ∃ ms : List α, cutV (ns.map f) lo hi = ms.map f := by
  unfold cutV
  exact ⟨(ns.drop (HT.sIx (ns.map f).length 0 lo)).take (HT.sIx (ns.map f).length (ns.map f).length hi - HT.sIx (ns.map f).length 0 lo), by rw [List.map_take, List.map_drop]⟩
/-- a slice of a list, a new one -/
theorem st_sll {K : PySem.W.Frag} {p : Addr} {xs : List V} {lo hi : Option Int} {H : Hp} {Q : VK} (h : SqL K H p xs) (q : ∀ r H', H r = none → H' r = some (.lst (cutV xs lo hi)) → Same H H' → Q (.ref r) H') : rSlL K (.ref p) lo hi H Q := ⟨p, xs, rfl, h, st_new q⟩
/-- list(xs), tuple(xs) -/
theorem st_listL {K : PySem.W.Frag} {p : Addr} {xs : List V} {H : Hp} {Q : VK} (h : SqL K H p xs) (q : ∀ r H', H r = none → H' r = some (.lst xs) → Same H H' → Q (.ref r) H') : rListG K [.ref p] H Q := by unfold rListG; exact ⟨xs, .inl h, st_new q⟩
theorem st_listT {K : PySem.W.Frag} {p : Addr} {xs : List V} {H : Hp} {Q : VK} (h : SqT K H p xs) (q : ∀ r H', H r = none → H' r = some (.lst xs) → Same H H' → Q (.ref r) H') : rListG K [.ref p] H Q := by unfold rListG; exact ⟨xs, .inr h, st_new q⟩
theorem st_tupL {K : PySem.W.Frag} {p : Addr} {xs : List V} {H : Hp} {Q : VK} (h : SqL K H p xs) (q : ∀ r H', H r = none → H' r = some (.tup xs) → Same H H' → Q (.ref r) H') : rTupG K [.ref p] H Q := by unfold rTupG; exact ⟨xs, .inl ⟨h, st_new q⟩⟩
/-- a loop over a list that stays -/
theorem st_forL {K : PySem.W.Frag} {a : Addr} {xs : List V} {te : TE} {g : TG} {tb : TS} {D : Ends} {σ : L2.St} {H : Hp} (ht : ∀ R : VK, R (.ref a) H → te σ H R) (hs0 : SqL K H a xs) (Pv : Nat → L2.St → Hp → Prop) (h0 : Pv 0 σ H) (hl : ∀ i σ H, i ≤ xs.length → Pv i σ H → SqL K H a xs)
    (hs : ∀ i x σ H, xs[i]? = some x → Pv i σ H → g x σ H fun σ2 H2 => tb { D with nx := Pv (i + 1), ct := Pv (i + 1), bk := D.nx } σ2 H2) (hd : ∀ σ H, Pv xs.length σ H → D.nx σ H) : tFor (iList K te) g tb D σ H :=
  ht _ ⟨a, rfl, ⟨xs, hs0⟩, for_list Pv h0 hl hs hd⟩
theorem st_lenR {K : PySem.W.Frag} {p : Addr} {n : Nat} {H : Hp} {Q : VK} (h : LenR K H p n) (q : Q (.int n) H) : rLenG K [.ref p] H Q := by unfold rLenG; exact ⟨n, h, q⟩
theorem st_lenS {K : PySem.W.Frag} {z : Str} {H : Hp} {Q : VK} (h : z.length ≤ sizeLine) (q : Q (.int z.length) H) : rLenG K [.str z] H Q := by unfold rLenG; exact ⟨h, q⟩
/-- the test of an if, met -/
theorem st_if {c A B : Prop} {i : Decidable c} (h1 : c → A) (h2 : ¬ c → B) : if decide c = true then A else B := by
  by_cases h : c
  · rw [if_pos (decide_eq_true h)]
    exact h1 h
  · rw [if_neg (by simpa using h)]
    exact h2 h
theorem st_ifn {c A B : Prop} {i : Decidable c} (h1 : ¬ c → A) (h2 : c → B) : if (!decide c) = true then A else B := by
  by_cases h : c
  · rw [if_neg (by simpa using h)]
    exact h2 h
  · rw [if_pos (by simpa using h)]
    exact h1 h
theorem st_ifb {c : Bool} {A B : Prop} (h1 : c = true → A) (h2 : c = false → B) : if c = true then A else B := by
  cases c
  · exact (if_neg Bool.false_ne_true).mpr (h2 rfl)
  · exact (if_pos rfl).mpr (h1 rfl)
end L2
end -- FwBase
section -- FwDict
set_option Elab.async false
set_option linter.all false
set_option maxRecDepth 100000
set_option maxHeartbeats 4000000
/-! FwDict: a dict of at most two entries whose keys are ints, texts and tuples of such, mixed. -/
namespace PySem
open PySem.W
theorem fw_map {M : Model} {A : Around} {α β : Type} {t : Sem α} {f : α → β} {Q : β → Shared → Prop} {E : Value → Shared → Prop} {s : Shared} (h : wpAny M A t (fun a s => Q (f a) s) E s) : wpAny M A (f <$> t) Q E s := by
  rw [map_eq_pure_bind]
  exact wpAny_bind (wpAny_mono h (fun a s q => wpAny_pure q) fun _ _ z => z)
section
variable {prog : Program} {w : World} {A : Around} {E : Value → Shared → Prop} {s : Shared} {d : Addr} {o : Obj} {ep : Nat}
/-- a key of such a dict -/
def KeyV (h : Heap) (k : NestedKey) (v : Value) : Prop := NestedIs h k v ∧ k.depth ≤ 2 ∧ ((∃ i t, v = .int i t) ∨ (∃ x t, v = .str x t) ∨ ∃ a, v = .ref a)
theorem fw_find0 {k : NestedKey} {v : Value} {h : Int} {Q : Option Nat → Shared → Prop} (hk : KeyV s.heap k v) (ho : s.heap.get? d = some o) (hd : o.data = .dict #[] ep) (hq : Q none s) : wpAny (model prog w) A (dictFind d v h) Q E s := by
  obtain ⟨hn, hdp, hv⟩ := hk
  unfold dictFind
  refine wpAny_holding ?_
  refine wpAny_bind (wpAny_dictEntries ho hd ?_)
  rcases hv with ⟨i, t, rfl⟩ | ⟨x, t, rfl⟩ | ⟨a, rfl⟩
  · simp [placesWithHash, carriedByValue, dictWalkPlain]
    exact wpAny_pure hq
  · simp [placesWithHash, carriedByValue, dictWalkPlain, foundByValue]
    exact wpAny_pure hq
  · simp [placesWithHash, carriedByValue, dictWalkPlain, tableMayTell]
    exact wpAny_pure hq
theorem fw_find1 {k k1 : NestedKey} {v v1 u1 : Value} {Q : Option Nat → Shared → Prop} (hu : A.units + 8 < cLine) (hk : KeyV s.heap k v) (hk1 : KeyV s.heap k1 v1) (ho : s.heap.get? d = some o) (hd : o.data = .dict #[⟨k1.hash w, v1, u1⟩] ep)
    (h1 : k1 = k → Q (some 0) s) (h2 : k1 ≠ k → Q none s) : wpAny (model prog w) A (dictFind d v (k.hash w)) Q E s := by
  obtain ⟨hn, hdp, hv⟩ := hk
  obtain ⟨hn1, hdp1, hv1⟩ := hk1
  have eqr := eqAt_key (prog := prog) (w := w) k1 k A s v1 v hn1 hn (by omega)
  unfold dictFind
  refine wpAny_holding ?_
  refine wpAny_bind (wpAny_dictEntries ho hd ?_)
  have ebq : NestedKey.beq k1 k = decide (k1 = k) := by rw [← NestedKey.decide_eq]
  have yes : NestedKey.beq k1 k = true → Q (some 0) s := fun e => h1 (of_decide_eq_true (by rw [← ebq]; exact e))
  have no : NestedKey.beq k1 k = false → Q none s := fun e => h2 (of_decide_eq_false (by rw [← ebq]; exact e))
  have quiet : ∀ {Q' : Bool → Shared → Prop}, Q' false s → wpAny (model prog w) A (tableMayTell v [v1]) Q' E s := fun {Q'} q => by
    unfold tableMayTell
    simp only [List.isEmpty_cons, Bool.false_eq_true, if_false]
    refine wpAny_bind (quiet_key k v 8 s hn (by omega) A E _ ?_)
    simp
    refine wpAny_bind (quiet_key k1 v1 8 s hn1 (by omega) A E _ ?_)
    simp
    exact wpAny_pure q
  have stx : ∀ {x x1 : Str} {t t1 : Tok}, v = .str x t → v1 = .str x1 t1 → wpAny (model prog w) A (foundByValue d v #[⟨k1.hash w, v1, u1⟩] x) Q E s := fun {x x1 t t1} ev ev1 => by
    subst ev
    subst ev1
    cases hn
    cases hn1
    unfold foundByValue
    by_cases e : x1 = x
    · subst e
      simp [Value.isStr]
      refine wpAny_bind (wpAny_dictEpoch ho hd (wpAny_bind (eqr _ _ (wpAny_bind (wpAny_dictEpoch ho hd ?_)))))
      have hb : NestedKey.beq (.text x1) (.text x1) = true := by simp [NestedKey.beq]
      simp [hb]
      repeat (first | exact wpAny_pure (yes hb) | refine wpAny_bind ?_ | refine wpAny_rule ?_ | refine fw_map ?_)
    · have hb : NestedKey.beq (.text x1) (.text x) = false := by simp [NestedKey.beq, e]
      simp [Value.isStr, e]
      exact wpAny_pure (no hb)
  by_cases hh : k1.hash w = k.hash w
  · rcases hv with ⟨i, t, rfl⟩ | ⟨x, t, rfl⟩ | ⟨a, rfl⟩ <;> rcases hv1 with ⟨i1, t1, rfl⟩ | ⟨x1, t1, rfl⟩ | ⟨a1, rfl⟩ <;> simp [placesWithHash, carriedByValue, dictWalkPlain, isExactStrKey, hh, List.range_succ]
    all_goals try (
      refine wpAny_bind (wpAny_dictEpoch ho hd (wpAny_bind (eqr _ _ (wpAny_bind (wpAny_dictEpoch ho hd ?_)))))
      cases hb : NestedKey.beq k1 k <;> simp <;> (repeat (first | exact wpAny_pure (no hb) | exact wpAny_pure (yes hb) | refine wpAny_bind ?_ | refine wpAny_rule ?_ | refine fw_map ?_)) <;> done)
    all_goals try (
      refine wpAny_bind (quiet (wpAny_bind (wpAny_dictEpoch ho hd (wpAny_bind (eqr _ _ (wpAny_bind (wpAny_dictEpoch ho hd ?_)))))))
      cases hb : NestedKey.beq k1 k <;> simp <;> (repeat (first | exact wpAny_pure (no hb) | exact wpAny_pure (yes hb) | refine wpAny_bind ?_ | refine wpAny_rule ?_ | refine fw_map ?_)) <;> done)
    · rw [← hh]
      exact stx rfl rfl
    · split
      · refine wpAny_bind (wpAny_dictEpoch ho hd (wpAny_bind (eqr _ _ (wpAny_bind (wpAny_dictEpoch ho hd ?_)))))
        cases hb : NestedKey.beq k1 k <;> simp <;> (repeat (first | exact wpAny_pure (no hb) | exact wpAny_pure (yes hb) | refine wpAny_bind ?_ | refine wpAny_rule ?_ | refine fw_map ?_)) <;> done
      · refine wpAny_bind (quiet (wpAny_bind (wpAny_dictEpoch ho hd (wpAny_bind (eqr _ _ (wpAny_bind (wpAny_dictEpoch ho hd ?_)))))))
        cases hb : NestedKey.beq k1 k <;> simp <;> (repeat (first | exact wpAny_pure (no hb) | exact wpAny_pure (yes hb) | refine wpAny_bind ?_ | refine wpAny_rule ?_ | refine fw_map ?_)) <;> done
  · have hne : k1 ≠ k := fun e => hh (by rw [e])
    rcases hv with ⟨i, t, rfl⟩ | ⟨x, t, rfl⟩ | ⟨a, rfl⟩ <;> rcases hv1 with ⟨i1, t1, rfl⟩ | ⟨x1, t1, rfl⟩ | ⟨a1, rfl⟩ <;> simp [placesWithHash, carriedByValue, dictWalkPlain, isExactStrKey, hh, List.range_succ, tableMayTell]
    all_goals try exact wpAny_pure (h2 hne)
    · exact stx rfl rfl
    · rw [if_neg (fun e => hne (by subst e; exact NestedIs.inj _ _ _ hn1 hn))]
      exact wpAny_pure (h2 hne)
theorem fw_set0 {k : NestedKey} {v u : Value} {Q : Unit → Shared → Prop} (hu : A.units + 8 < cLine) (hk : KeyV s.heap k v) (ho : s.heap.get? d = some o) (hx : o.ExactDict) (hd : o.data = .dict #[] ep)
    (hq : ∀ h' o' ep', h'.get? d = some o' → o'.ExactDict → o'.data = .dict #[⟨k.hash w, v, u⟩] ep' → Heap.SameBut d s.heap h' → Q () { s with heap := h', toks := s.toks + k.draws }) : wpAny (model prog w) A (dictSet d v u) Q E s := by
  unfold dictSet
  refine wpAny_holding (wpAny_bind (pyHash_key k v A s _ hk.1 (by have := hk.2.1; omega) ?_))
  unfold dictSetHashed
  refine wpAny_holding (wpAny_bind (fw_find0 (s := { s with toks := s.toks + k.draws }) hk ho hd ?_))
  refine wpAny_bind (wpAny_rule (wpAny_updateDictKeys (hz := by simp) (s := { s with toks := s.toks + k.draws }) ho hd (hq _ _ (ep + 1) (Heap.get?_update_self _ ho (Obj.isFreed_of_dict (Obj.data_mapDictKeys hd _))) (hx.mapDictKeys _) (Obj.data_mapDictKeys hd _) (Heap.SameBut.update ..))))
theorem fw_set1 {k k1 : NestedKey} {v v1 u u1 : Value} {Q : Unit → Shared → Prop} (hu : A.units + 8 < cLine) (hk : KeyV s.heap k v) (hk1 : KeyV s.heap k1 v1) (ho : s.heap.get? d = some o) (hx : o.ExactDict) (hd : o.data = .dict #[⟨k1.hash w, v1, u1⟩] ep)
    (hq : ∀ h' o' ep', h'.get? d = some o' → o'.ExactDict → (k1 = k ∧ o'.data = .dict #[⟨k1.hash w, v1, u⟩] ep' ∨ k1 ≠ k ∧ o'.data = .dict #[⟨k1.hash w, v1, u1⟩, ⟨k.hash w, v, u⟩] ep') → Heap.SameBut d s.heap h' → Q () { s with heap := h', toks := s.toks + k.draws }) : wpAny (model prog w) A (dictSet d v u) Q E s := by
  unfold dictSet
  refine wpAny_holding (wpAny_bind (pyHash_key k v A s _ hk.1 (by have := hk.2.1; omega) ?_))
  unfold dictSetHashed
  refine wpAny_holding (wpAny_bind (fw_find1 (s := { s with toks := s.toks + k.draws }) hu hk hk1 ho hd (fun e => ?_) (fun e => ?_)))
  · refine wpAny_bind (wpAny_rule (wpAny_bind (wpAny_updateDict (s := { s with toks := s.toks + k.draws }) ho hd (wpAny_point (hq _ _ ep (Heap.get?_update_self _ ho (Obj.isFreed_of_dict (Obj.data_mapDict hd _))) (hx.mapDict _) (.inl ⟨e, ?_⟩) (Heap.SameBut.update ..))))))
    exact Obj.data_mapDict hd _
  · refine wpAny_bind (wpAny_rule (wpAny_updateDictKeys (hz := by simp; rw [sizeLine_eq]; decide) (s := { s with toks := s.toks + k.draws }) ho hd (hq _ _ (ep + 1) (Heap.get?_update_self _ ho (Obj.isFreed_of_dict (Obj.data_mapDictKeys hd _))) (hx.mapDictKeys _) (.inr ⟨e, Obj.data_mapDictKeys hd _⟩) (Heap.SameBut.update ..))))
end
end PySem
end -- FwDict
section -- Fw2
set_option Elab.async false
set_option linter.all false
set_option maxRecDepth 100000
set_option maxHeartbeats 4000000
/-! Fw2: a dict of at most two entries whose keys are ints, texts and pairs of such, mixed, as it is tracked. -/
namespace L2
open PySem PySem.Spec PyProof.Rows
/-- a key, as it is tracked -/
def KeyH (H : Hp) (k : NestedKey) (v : V) : Prop := (∃ i, k = .num i ∧ v = .int i) ∨ (∃ x, k = .text x ∧ v = .str x) ∨ ∃ a i x, k = .tup [.num i, .text x] ∧ v = .ref a ∧ H a = some (.tup [.int i, .str x])
theorem KeyH.ext {H H' : Hp} {k : NestedKey} {v : V} (h : KeyH H k v) (e : ∀ a xs, H a = some (.tup xs) → H' a = some (.tup xs)) : KeyH H' k v := by
  rcases h with h | h | ⟨a, i, x, h1, h2, h3⟩
  · exact .inl h
  · exact .inr (.inl h)
  · exact .inr (.inr ⟨a, i, x, h1, h2, e _ _ h3⟩)
theorem KeyH.keyV {P : Program} {w : World} {H : Hp} {h : Heap} {k : NestedKey} {v : V} {u : Value} (ok : HOk P w H h) (kh : KeyH H k v) (r : RelV v u) : KeyV h k u := by
  rcases kh with ⟨i, rfl, rfl⟩ | ⟨x, rfl, rfl⟩ | ⟨a, i, x, rfl, rfl, ha⟩
  · obtain ⟨t, rfl⟩ := (show ∃ t, u = Value.int i t from r)
    exact ⟨.int i t, Nat.zero_le _, .inl ⟨i, t, rfl⟩⟩
  · obtain ⟨t, rfl⟩ := (show ∃ t, u = Value.str x t from r)
    exact ⟨.text x t, Nat.zero_le _, .inr (.inl ⟨x, t, rfl⟩)⟩
  · obtain rfl : u = Value.ref a := r
    obtain ⟨_, its, rs, ob, e1, e2, n, e3⟩ := ok a _ ha
    refine ⟨.tup e1 e2 e3 ?_, by show max 0 (max 0 0) + 1 ≤ 2; decide, .inr (.inr ⟨a, rfl⟩)⟩
    cases rs with
    | cons r1 rs => cases rs with
      | cons r2 rs =>
        cases rs
        obtain ⟨t1, rfl⟩ := (show ∃ t, _ = Value.int i t from r1)
        obtain ⟨t2, rfl⟩ := (show ∃ t, _ = Value.str x t from r2)
        exact .cons (.int i t1) (.cons (.text x t2) .nil)
abbrev NKV := NestedKey × V × V
/-- what the entries of such a dict are -/
def EnOk (w : World) (p : NKV) (e : DictEntry) : Prop := e.hash = p.1.hash w ∧ RelV p.2.1 e.key ∧ RelV p.2.2 e.val
/-- a dict of the entries kvs, in order -/
def dN (w : World) (a : Addr) (kvs : List NKV) : HO := .ext fun h => (a == sysModules) = false ∧ ∃ o es ep, h.get? a = some o ∧ o.ExactDict ∧ o.data = .dict es ep ∧ Paired (EnOk w) kvs es.toList
theorem dn_ok {P : Program} {w : World} {H : Hp} {h : Heap} {a : Addr} {kvs : List NKV} {o : Obj} {es : Array DictEntry} {ep : Nat} (hs : (a == sysModules) = false) (h1 : h.get? a = some o) (h2 : o.ExactDict) (h3 : o.data = .dict es ep) (h4 : Paired (EnOk w) kvs es.toList) : ObjOk P w H h a (dN w a kvs) :=
  ⟨⟨hs, o, es, ep, h1, h2, h3, h4⟩, ⟨o, h1⟩, fun _ _ ⟨c1, o', es', ep', c2, c3⟩ e => ⟨c1, o', es', ep', e _ c2, c3⟩⟩
section
variable {X : Cx} {pins : List (Addr × Obj)} {σ : St} {H : Hp} {s : Shared}
theorem dn_at {a : Addr} {kvs : List NKV} (I : Inv X pins σ H s) (h : H a = some (dN X.w a kvs)) : (a == sysModules) = false ∧ ∃ o es ep, s.heap.get? a = some o ∧ o.ExactDict ∧ o.data = .dict es ep ∧ Paired (EnOk X.w) kvs es.toList := (I.hok a _ h).1
/-- {} -/
def tDNewN (w : World) : TE := fun _ H Q => ∀ p H', H p = none → H' p = some (dN w p []) → Same H H' → Q (.ref p) H'
theorem pe_dnewN {pos : Pos} : PE X (.Dict [] [] pos) (tDNewN X.w) := ⟨fun pins s σ H Q I h =>
  wpAny_Dict_empty ⟨.ref s.heap.objs.size, _, I.laid (a := s.heap.objs.size) (o := dN X.w s.heap.objs.size []) (t' := s.toks) (fun _ _ q => Heap.get?_push_of_some _ q) (Nat.le_refl _)
    (dn_ok (beq_eq_false_iff_ne.mpr (Ne.symm (Nat.ne_of_lt I.big))) (Heap.get?_push_size _ rfl) ⟨rfl, rfl, rfl⟩ rfl .nil), rfl, h _ _ (I.hok.fresh (Nat.le_refl _)) upd_same (Same.new (I.hok.fresh (Nat.le_refl _)))⟩⟩
/-- d[i] = v, d of at most one entry -/
def rSetN (w : World) : TSet := fun o i v H Q => ∃ a k, o = .ref a ∧ KeyH H k i ∧ ((H a = some (dN w a []) ∧ ∀ H', H' a = some (dN w a [(k, i, v)]) → Ext a H H' → Q H') ∨
  ∃ k1 i1 v1, H a = some (dN w a [(k1, i1, v1)]) ∧ KeyH H k1 i1 ∧ ∀ H' kvs, (kvs = [(k1, i1, v)] ∨ kvs = [(k1, i1, v1), (k, i, v)]) → H' a = some (dN w a kvs) → Ext a H H' → Q H')
theorem set_dictN (hu : X.A.units + 20 < cLine) : PSet X (rSetN X.w) := by
  intro pins s σ H o i v ov iv u Q I ro ri rv h
  obtain ⟨a, k, rfl, kh, h⟩ := h
  obtain rfl : ov = Value.ref a := ro
  have kv := kh.keyV I.hok ri
  have hT : s.TypeIs (.ref a) "dict" := by
    rcases h with ⟨ha, _⟩ | ⟨_, _, _, ha, _⟩
    · obtain ⟨_, ob, es, ep, e1, e2, _⟩ := dn_at I ha
      exact ⟨ob, e1, e2.1⟩
    · obtain ⟨_, ob, es, ep, e1, e2, _⟩ := dn_at I ha
      exact ⟨ob, e1, e2.1⟩
  unfold setItem
  try with_reducible refine wpAny_holding ?_
  refine wpAny_bind (wpAny_sequenceKey hT (by decide) ?_)
  refine wpAny_bind (wpAny_callSpecial?_slot (name := Str.ofString "__setitem__") hT PySem.F.slot_dict_setitem (wpAny_call_entry PySem.F.slot_dict_setitem hT PySem.F.entry_dict_setitem ?_ (PySem.F.args_dict_setitem_3 _ _ _)))
  show wpAny _ _ (Builtin.Dict.notOrdered "__setitem__" ⟨[.ref a, iv, u], []⟩ >>= _) _ _ s
  refine wpAny_bind (wpAny_notOrdered_dict hT ?_)
  show wpAny _ _ (dictSet a iv u >>= _) _ _ s
  rcases h with ⟨ha, q⟩ | ⟨k1, i1, v1, ha, kh1, q⟩
  · obtain ⟨hs, ob, es, ep, e1, e2, e3, e4⟩ := dn_at I ha
    obtain rfl : es = #[] := by
      cases es with
      | mk l =>
        cases e4
        rfl
    refine wpAny_bind (fw_set0 (A := _) ?_ kv e1 e2 e3 fun h' o' ep' g1 g2 g3 g4 => wpAny_pure ⟨.none, rfl, wpAny_pure ⟨upd H a (dN X.w a [(k, i, v)]), ?_, q _ upd_same Ext.put⟩⟩)
    · show X.A.units + 1 + 8 < cLine
      omega
    · exact d_write I (by rw [ha]; exact True.intro) g4 ⟨_, g1⟩ (dn_ok hs g1 g2 g3 (.cons ⟨rfl, ri, rv⟩ .nil))
  · obtain ⟨hs, ob, es, ep, e1, e2, e3, e4⟩ := dn_at I ha
    have kv1 := fun u r => kh1.keyV (u := u) I.hok r
    obtain ⟨en, rfl, g0, g1, g2⟩ : ∃ en : DictEntry, es = #[en] ∧ EnOk X.w (k1, i1, v1) en := by
      cases es with
      | mk l =>
        cases e4 with
        | cons r t =>
          cases t
          exact ⟨_, rfl, r⟩
    obtain ⟨eh, ek, ev⟩ := en
    obtain rfl : eh = k1.hash X.w := g0
    refine wpAny_bind (fw_set1 (A := _) ?_ kv (kv1 _ g1) e1 e2 e3 fun h' o' ep' g1' g2' g3 g4 => ?_)
    · show X.A.units + 1 + 8 < cLine
      omega
    · rcases g3 with ⟨hk, g3⟩ | ⟨hk, g3⟩
      · exact wpAny_pure ⟨.none, rfl, wpAny_pure ⟨upd H a (dN X.w a [(k1, i1, v)]), d_write I (by rw [ha]; exact True.intro) g4 ⟨_, g1'⟩ (dn_ok hs g1' g2' g3 (.cons ⟨rfl, g1, rv⟩ .nil)), q _ _ (.inl rfl) upd_same Ext.put⟩⟩
      · exact wpAny_pure ⟨.none, rfl, wpAny_pure ⟨upd H a (dN X.w a [(k1, i1, v1), (k, i, v)]), d_write I (by rw [ha]; exact True.intro) g4 ⟨_, g1'⟩ (dn_ok hs g1' g2' g3 (.cons ⟨rfl, g1, g2⟩ (.cons ⟨rfl, ri, rv⟩ .nil))), q _ _ (.inr rfl) upd_same Ext.put⟩⟩
end
end L2
end -- Fw2
section -- Fw3
set_option Elab.async false
set_option linter.all false
set_option maxRecDepth 100000
set_option maxHeartbeats 4000000
/-! Fw3: len(d) and list(d.items()) of a dict told by its raw entries. -/
namespace PySem
open PySem.W PySem.Calls PyProof.Rows
section
variable {prog : Program} {w : World} {A : Around} {E : Value → Shared → Prop} {s : Shared} {d : Addr} {es : Array DictEntry} {ep : Nat}
theorem fw_len {Q : Value → Shared → Prop} (hd : (d == sysModules) = false) (hm : s.heap.DictRaw d es ep) (hfit : (es.size : Int) < 2 ^ 63) (h : ∀ t, Q (.int es.size t) { s with toks := s.toks + 1 + 1 }) : wpAny (model prog w) A (call (.builtin "len") [.ref d]) Q E s := by
  refine Calls.call_function_entry kind_len plain_len entry_len (args_len1 _) ?_
  unfold Builtin.«len»
  refine wpAny_bind (m := oneArg "len" _) (wpAny_pure (wpAny_bind (m := callSpecial? (.ref d) (Str.ofString "__len__")) (wpAny_callSpecial?_slot (name := Str.ofString "__len__") hm.typeIs PySem.F.slot_dict_len ?_)))
  refine call_meetsIn PySem.F.slot_dict_len hm.typeIs PySem.F.entry_dict_len (PySem.F.args_dict_len_1 _) (meets_dict_len_raw d hd) ⟨es, ep, hm, ?_⟩
  show wpAny _ _ _ _ _ { s with toks := s.toks + 1 }
  refine wpAny_bind (wpAny_holding (wpAny_pure (wpAny_bind (wpAny_letGo ?_))))
  show wpAny _ _ (if ((es.size : Nat) : Int) < 0 then _ else _) _ _ _
  rw [if_neg (by omega)]
  show wpAny _ _ (if ((es.size : Nat) : Int) ≥ 2 ^ 63 then _ else _) _ _ _
  rw [if_neg (by omega)]
  exact wpAny_bind (wpAny_mkInt (wpAny_pure ⟨_, rfl, h _⟩))
/-- the addresses of the tuples so far -/
structure FwT (es : Array DictEntry) (lo : Addr) (h : Heap) (as : List Addr) : Prop where
  up : as.Pairwise (· < ·)
  over : ∀ a, a ∈ as → lo < a
  what : ∀ (j : Nat) (a : Addr), as[j]? = some a → ∃ hj : j < es.size, h.get? a = some { cls := .type "tuple", data := .seq #[es[j].key, es[j].val] }
theorem FwT.lt {lo : Addr} {h : Heap} {as : List Addr} (g : FwT es lo h as) {a : Addr} (ha : a ∈ as) : a < h.objs.size := by
  obtain ⟨j, hj⟩ := List.mem_iff_getElem?.mp ha
  obtain ⟨_, e⟩ := g.what j a hj
  exact Heap.lt_size e
theorem FwT.snoc {lo : Addr} {h h' : Heap} {as : List Addr} {p : Addr} (g : FwT es lo h as) (hj : as.length < es.size) (hp : ∀ a ∈ as, a < p) (hl : lo < p) (k : ∀ a o, a ∈ as → h.get? a = some o → h'.get? a = some o)
    (e : h'.get? p = some { cls := .type "tuple", data := .seq #[es[as.length].key, es[as.length].val] }) : FwT es lo h' (as ++ [p]) where
  up := List.pairwise_append.mpr ⟨g.up, List.pairwise_singleton _ _, fun a ha b hb => by
    rw [List.mem_singleton.mp hb]
    exact hp a ha⟩
  over := fun a ha => by
    rcases List.mem_append.mp ha with ha | ha
    · exact g.over a ha
    · exact List.mem_singleton.mp ha ▸ hl
  what := fun j a hja => by
    by_cases h1 : j < as.length
    · rw [List.getElem?_append_left h1] at hja
      obtain ⟨hj', e'⟩ := g.what j a hja
      exact ⟨hj', k a _ (List.mem_of_getElem? hja) e'⟩
    · have h2 : j = as.length := by
        have := (List.getElem?_eq_some_iff.mp hja).1
        rw [List.length_append, List.length_singleton] at this
        omega
      subst h2
      rw [List.getElem?_append_right (Nat.le_refl _), Nat.sub_self] at hja
      have := Option.some.inj hja
      subst this
      exact ⟨hj, e⟩
/-- the iterator over the items, i are through -/
def FwSt (h : Heap) (it d S : Addr) (i n ep : Nat) : Prop := (i = 0 ∧ ∃ ok ov, IsItemIter h it d 0 n ep ok ov) ∨ ∃ ok ov a f oa, KdxIt h it d i n ep ok ov a f ∧ h.get? a = some oa ∧ a ≠ it ∧ a ≠ S
theorem FwSt.keep {h h' : Heap} {it S : Addr} {i n : Nat} (x : FwSt h it d S i n ep) (hI : it ≠ S) (hk : ∀ b o, b ≠ S → h.get? b = some o → h'.get? b = some o) : FwSt h' it d S i n ep := by
  rcases x with ⟨e, ok, ov, z⟩ | ⟨ok, ov, a, f, oa, z, ha, h1, h2⟩
  · exact .inl ⟨e, ok, ov, hk _ _ hI z⟩
  · exact .inr ⟨ok, ov, a, f, oa, hk _ _ hI z, hk _ _ h2 ha, h1, h2⟩
theorem fw_next {it S : Addr} {i : Nat} {Q : Option Value → Shared → Prop} (st : FwSt s.heap it d S i es.size ep) (hS : S < s.heap.objs.size) (hm : s.heap.DictRaw d es ep) (hi : i < es.size)
    (hQ : ∀ h', FwSt h' it d S (i + 1) es.size ep → h'.get? s.heap.objs.size = some { cls := .type "tuple", data := .seq #[es[i].key, es[i].val] } → h'.objs.size = s.heap.objs.size + 1 →
      (∀ b o, b ≠ it → s.heap.get? b = some o → h'.get? b = some o) → Q (some (.ref s.heap.objs.size)) { s with heap := h' }) : wpAny (model prog w) A (pyNext (.ref it)) Q E s := by
  rcases st with ⟨rfl, ok, ov, z⟩ | ⟨ok, ov, a, f, oa, z, ha, h1, h2⟩
  · exact wpAny_pyNext_items_item_raw z hm hi fun h' z' ht hz hk => hQ h' (.inr ⟨_, _, _, false, _, z', ht, Nat.ne_of_gt (Heap.lt_size z), Nat.ne_of_gt hS⟩) ht hz hk
  · exact wpAny_pyNext_items_item_out_raw z ha h1 hm hi fun h' z' ht hz hk => hQ h' (.inr ⟨ok, ov, a, true, oa, z', hk a oa h1 ha, h1, h2⟩) ht hz hk
theorem fw_stop {it S : Addr} {i : Nat} {Q : Option Value → Shared → Prop} (hh : A.handled = none) (st : FwSt s.heap it d S i es.size ep) (hm : s.heap.DictRaw d es ep) (hi : es.size ≤ i)
    (hQ : ∀ h', Heap.ExtBut it s.heap h' → Q none { s with heap := h' }) : wpAny (model prog w) A (pyNext (.ref it)) Q E s := by
  rcases st with ⟨rfl, ok, ov, z⟩ | ⟨ok, ov, a, f, oa, z, _, _, _⟩
  · exact wpAny_pyNext_items_end_raw hh z hm hi hQ
  · exact wpAny_pyNext_items_end_out_raw hh z hm hi hQ
end
section
variable {prog : Program} {w : World} {A : Around} {s : Shared} {R : Result → Shared → Prop} {d S I : Addr} {es : Array DictEntry} {ep : Nat}
theorem fw_loop (hh : A.handled = none) (hSI : S < I) (hSd : d ≠ S) (hId : d ≠ I) (hn : es.size ≤ sizeLine) (res : Value) {h₁ : Heap}
    (hR : ∀ h' tk acc c as, (∀ b o, b ≠ S → b ≠ I → h₁.get? b = some o → h'.get? b = some o) → h'.get? S = some { cls := .type "list", dict := none, data := .seq acc c, slots := #[] } → as.length = es.size → FwT es I h' as → acc.toList = as.map Value.ref → R (.ok (.ret res)) { s with heap := h', toks := tk }) :
    ∀ (k : Nat) (h : Heap) (tk c : Nat) (acc : Array Value) (as : List Addr), as.length + k = es.size → FwSt h I d S as.length es.size ep → h.DictRaw d es ep → (∀ b o, b ≠ S → b ≠ I → h₁.get? b = some o → h.get? b = some o) →
      h.get? S = some { cls := .type "list", dict := none, data := .seq acc c, slots := #[] } → acc.toList = as.map Value.ref → FwT es I h as → I < h.objs.size →
      codeAny (model prog w) A (.builtin "list.extend.loop" ⟨[.ref S, .ref I, res], []⟩) R { s with heap := h, toks := tk } := by
  intro k
  induction k with
  | zero =>
    intro h tk c acc as hk st hD keep hS hacc g hI
    refine codeAny_builtin PySem.F.entry_extend_loop ?_
    rw [Around.under_plainId PySem.F.plain_extend_loop _]
    show wpAny _ A.in1 (pyNext (.ref I) >>= _) _ _ _
    refine wpAny_bind (fw_stop (s := { s with heap := h, toks := tk }) (A := A.in1) hh st hD (by omega) fun h' he => ?_)
    refine wpAny_pure (hR h' tk acc c as (fun b o h1 h2 e => he b o h2 (keep b o h1 h2 e)) (he S _ (Nat.ne_of_lt hSI) hS) (by omega) ⟨g.up, g.over, fun j a hj => ?_⟩ hacc)
    obtain ⟨h1, e⟩ := g.what j a hj
    exact ⟨h1, he a _ (Nat.ne_of_gt (g.over a (List.mem_of_getElem? hj))) e⟩
  | succ k ih =>
    intro h tk c acc as hk st hD keep hS hacc g hI
    have hlt : as.length < es.size := by omega
    have hsz : acc.size = as.length := by rw [← Array.length_toList, hacc, List.length_map]
    have hSl : S < h.objs.size := Heap.lt_size hS
    refine codeAny_builtin PySem.F.entry_extend_loop ?_
    rw [Around.under_plainId PySem.F.plain_extend_loop _]
    show wpAny _ A.in1 (pyNext (.ref I) >>= _) _ _ _
    refine wpAny_bind (fw_next (s := { s with heap := h, toks := tk }) (S := S) st hSl hD hlt fun h' st' ht hz hkp => ?_)
    dsimp only at ht hz hkp ⊢
    have hS' := hkp S _ (Nat.ne_of_lt hSI) hS
    have up : ∀ b o, b ≠ S → h'.get? b = some o → (h'.update S (Obj.mapSeq (·.push (Value.ref h.objs.size)))).get? b = some o := fun b o hb e => (Heap.get?_update_other _ _ (Ne.symm hb)).trans e
    show wpAny _ A.in1 (updateSeq S (·.push (Value.ref h.objs.size)) >>= _) _ _ _
    refine wpAny_bind (wpAny_updateSeq hS' rfl (wpAny_pure ⟨plainId_quiet PySem.F.plain_extend_loop _, ?_⟩) (by rw [hsz]; omega) (by show (acc.push (Value.ref h.objs.size)).size ≤ sizeLine + 1; rw [Array.size_push, hsz]; omega))
    have g' : FwT es I (h'.update S (Obj.mapSeq (·.push (Value.ref h.objs.size)))) (as ++ [h.objs.size]) :=
      g.snoc hlt (fun a ha => g.lt ha) hI (fun a o ha e => up a o (Nat.ne_of_gt (Nat.lt_trans hSI (g.over a ha))) (hkp a o (Nat.ne_of_gt (g.over a ha)) e)) (up _ _ (Nat.ne_of_gt hSl) ht)
    refine ih _ tk _ (acc.push (Value.ref h.objs.size)) (as ++ [h.objs.size]) (by rw [List.length_append, List.length_singleton]; omega) ?_ (hD.at fun o e => up d o hSd (hkp d o hId e)) (fun b o h1 h2 e => up b o h1 (hkp b o h2 (keep b o h1 h2 e)))
      (Heap.get?_update_self _ hS' rfl) (by rw [Array.toList_push, hacc, List.map_append]; rfl) g' ?_
    · rw [List.length_append, List.length_singleton]
      exact st'.keep (Nat.ne_of_gt hSI) up
    · exact Nat.lt_trans hI (g'.lt (List.mem_append_right _ (List.mem_singleton.mpr rfl)))
end
section
variable {prog : Program} {w : World} {A : Around} {E : Value → Shared → Prop} {s : Shared} {r d : Addr} {es : Array DictEntry} {ep : Nat}
theorem fw_ext {R : Result → Shared → Prop} (hh : A.handled = none) (hv : s.heap.IsItemsView r d) (hm : s.heap.DictRaw d es ep) (hn : es.size ≤ sizeLine) (S : Addr) (hSr : S ≠ r) (hSd : d ≠ S) (c₀ : Nat) (hS : s.heap.get? S = some { cls := .type "list", data := .seq #[] c₀ })
    (hR : ∀ h' tk acc c as, (∀ b o, b ≠ S → s.heap.get? b = some o → h'.get? b = some o) → h'.get? S = some { cls := .type "list", dict := none, data := .seq acc c, slots := #[] } → as.length = es.size → FwT es s.heap.objs.size h' as → acc.toList = as.map Value.ref → R (.ok (.ret .none)) { s with heap := h', toks := tk }) :
    wpAny (model prog w) A.in1 (Builtin.List.listExtendWith (.ref S) (.ref r) .none)
      (fun fin s' => match fin with | .done f => R (.ok f) s' | .again c' => c'.quiet = true ∧ codeAny (model prog w) A c' R s') (fun e s' => R (.error e) s') s := by
  have hSI : S < s.heap.objs.size := Heap.lt_size hS
  have hdI : d < s.heap.objs.size := by obtain ⟨o, ho, _⟩ := hm; exact Heap.lt_size ho
  generalize hit : ({ cls := .type "dict_itemiterator", data := .fields #[.none, .bool false, .ref d, .int 0 0, .int es.size 0, .int ep 0, .none, .none] } : Obj) = oi
  have go : ∀ (h : Heap) (c₁ tk : Nat), (∀ b o, b ≠ S → (s.heap.push oi).get? b = some o → h.get? b = some o) → h.get? S = some { cls := .type "list", data := .seq #[] c₁ } →
      codeAny (model prog w) A (.builtin "list.extend.loop" ⟨[.ref S, .ref s.heap.objs.size, .none], []⟩) R { s with heap := h, toks := tk } := by
    intro h c₁ tk hk hS₁
    have hI : h.get? s.heap.objs.size = some oi := hk s.heap.objs.size _ (Nat.ne_of_gt hSI) (Heap.get?_push_size _ (by rw [← hit]; rfl))
    refine fw_loop (s := s) (h₁ := s.heap) (ep := ep) hh hSI hSd (Nat.ne_of_lt hdI) hn .none (fun h' tk' acc c as k' => hR h' tk' acc c as fun b o hb e => k' b o hb (Nat.ne_of_lt (Heap.lt_size e)) e)
      es.size h tk c₁ #[] [] (by simp) (.inl ⟨rfl, .none, .none, by rw [← hit] at hI; exact hI⟩) (hm.at fun o e => hk d o hSd (Heap.get?_push_of_some _ e)) (fun b o hb _ e => hk b o hb (Heap.get?_push_of_some _ e)) hS₁ rfl ⟨.nil, (fun _ ha => nomatch ha), fun j a hj => by simp at hj⟩ (Heap.lt_size hI)
  unfold Builtin.List.listExtendWith
  refine wpAny_bind (wpAny_typeOf (T := "dict_items") hv.typeIs ?_)
  have n1 : Builtin.List.listSameRef (.ref S) (.ref r) = false := by simp [Builtin.List.listSameRef, hSr]
  simp only [n1, show (Value.type "dict_items" == Value.type "list") = false from by decide, show (Value.type "dict_items" == Value.type "tuple") = false from by decide, Bool.or_false, Bool.false_eq_true, if_false]
  refine wpAny_bind (wpAny_pyIter_items_raw hv hm ?_)
  rw [hit]
  have hS₁ := Heap.get?_push_of_some oi hS
  refine wpAny_bind (wpAny_holding (kdx_hint (by obtain ⟨o, ho, hc, _⟩ := hv; exact ⟨o, Heap.get?_push_of_some _ ho, hc⟩) ?_))
  refine wpAny_ite_split (fun _ => ?_) (fun _ => wpAny_pure ⟨plainId_quiet PySem.F.plain_extend_loop _, go _ c₀ _ (fun b o _ e => e) hS₁⟩)
  refine wpAny_bind (wpAny_rule (wpAny_bind ?_))
  show wpAny _ _ (updateSeq S (·.push .none) >>= fun _ => updateSeq S (·.pop)) _ _ _
  refine wpAny_bind (wpAny_updateSeq hS₁ rfl ?_)
  have hS₂ := Heap.get?_update_self (Obj.mapSeq (·.push Value.none)) hS₁ rfl
  refine wpAny_updateSeq (hz := by seq_fits) hS₂ rfl (wpAny_pure ⟨plainId_quiet PySem.F.plain_extend_loop _, go _ _ _ (fun b o hb e => ?_) (Heap.get?_update_self (Obj.mapSeq (·.pop)) hS₂ rfl)⟩)
  exact (Heap.get?_update_other _ _ (Ne.symm hb)).trans ((Heap.get?_update_other _ _ (Ne.symm hb)).trans e)
/-- list(v), v the items of a dict -/
theorem fw_list {Q : Value → Shared → Prop} (hh : A.handled = none) (hv : s.heap.IsItemsView r d) (hm : s.heap.DictRaw d es ep) (hn : es.size ≤ sizeLine)
    (hQ : ∀ h' tk acc c as, (∀ b o, s.heap.get? b = some o → h'.get? b = some o) → h'.get? s.heap.objs.size = some { cls := .type "list", dict := none, data := .seq acc c, slots := #[] } → as.length = es.size → FwT es s.heap.objs.size h' as → acc.toList = as.map Value.ref → Q (.ref s.heap.objs.size) { s with heap := h', toks := tk }) :
    wpAny (model prog w) A (call (.type "list") [.ref r]) Q E s := by
  refine callType_codes (Q₁ := fun obj s₁ => obj = .ref s.heap.objs.size ∧ s₁ = { s with heap := s.heap.push { cls := .type "list", data := .seq #[] } }) PySem.F.called_list (PySem.F.typeCall_list_1 _) PySem.F.entry_list_init (code_list_new _ ⟨rfl, rfl⟩) fun obj s₁ h₁ => ?_
  obtain ⟨rfl, rfl⟩ := h₁
  generalize ea : s.heap.objs.size = a at *
  have hS : (s.heap.push { cls := .type "list", data := .seq #[] }).get? a = some { cls := .type "list", data := .seq #[] } := by rw [← ea]; exact Heap.get?_push_size _ rfl
  have hr : r < a := by rw [← ea]; obtain ⟨_, ho, _⟩ := hv; exact Heap.lt_size ho
  have hd : d < a := by rw [← ea]; obtain ⟨o, ho, _⟩ := hm; exact Heap.lt_size ho
  refine ⟨⟨_, hS, rfl⟩, PySem.F.args_list_init_2 _ _, ?_⟩
  show wpAny _ A.in1.in1 (do let old ← Builtin.List.listItems (.ref a); Builtin.List.listUpdate (.ref a) (fun _ => #[]); letGo old.toList.reverse; Builtin.List.listExtendWith (.ref a) (.ref r) .none) _ _ _
  unfold Builtin.List.listItems
  refine wpAny_bind (wpAny_bind (wpAny_seqItems hS rfl (wpAny_pure ?_)))
  show wpAny _ _ (updateSeq a (fun _ => #[]) >>= fun _ => letGo (#[] : Array Value).toList.reverse >>= fun _ => Builtin.List.listExtendWith (.ref a) (.ref r) .none) _ _ _
  refine wpAny_bind (wpAny_updateSeq hS rfl ?_)
  have hS₂ := Heap.get?_update_self (Obj.mapSeq (fun _ => (#[] : Array Value))) hS rfl
  have oth : ∀ b o, b ≠ a → s.heap.get? b = some o → ((s.heap.push { cls := .type "list", data := .seq #[] }).update a (Obj.mapSeq (fun _ => (#[] : Array Value)))).get? b = some o := fun b o hb e => (Heap.get?_update_other _ _ (Ne.symm hb)).trans (Heap.get?_push_of_some _ e)
  refine wpAny_bind (wpAny_letGo ?_)
  refine fw_ext (A := A.in1) hh (by obtain ⟨o, ho, x⟩ := hv; exact ⟨o, oth r o (Nat.ne_of_lt hr) ho, x⟩) (hm.at fun o e => oth d o (Nat.ne_of_lt hd) e) hn a (Nat.ne_of_gt hr) (Nat.ne_of_lt hd) _ hS₂ (fun h' tk acc c as hk hS' hl g hacc => ?_)
  have lo : a < ((s.heap.push { cls := .type "list", data := .seq #[] }).update a (Obj.mapSeq (fun _ => (#[] : Array Value)))).objs.size := Heap.lt_size hS₂
  exact ⟨rfl, hQ h' tk acc c as (fun b o e => by
    have hb : b ≠ a := by rw [← ea]; exact Nat.ne_of_lt (Heap.lt_size e)
    exact hk b o hb (oth b o hb e)) hS' hl ⟨g.up, fun b hb => Nat.lt_trans lo (g.over b hb), g.what⟩ hacc⟩
end
end PySem
end -- Fw3
section -- Fw4
set_option Elab.async false
set_option linter.all false
set_option maxRecDepth 100000
set_option maxHeartbeats 4000000
/-! Fw4: len(d), list(d.items()) and isinstance of mixed dicts, as readings. -/
namespace L2
open PySem PySem.Spec PyProof.Rows
/-- the tuples that are tracked at their addresses -/
def putP : Hp → List Addr → List (V × V) → Hp
  | H, a :: as, p :: ps => putP (upd H a (.tup [p.1, p.2])) as ps
  | H, _, _ => H
theorem putP_off {b : Addr} : ∀ (as : List Addr) (ps : List (V × V)) (H : Hp), b ∉ as → putP H as ps b = H b
  | [], _, _, _ => rfl
  | _ :: _, [], _, _ => rfl
  | a :: as, p :: ps, H, h => by
    have h1 := putP_off as ps (upd H a (.tup [p.1, p.2])) (fun z => h (List.mem_cons_of_mem _ z))
    rw [upd_ne (fun z => h (by rw [z]; exact List.mem_cons_self))] at h1
    exact h1
theorem putP_at : ∀ (as : List Addr) (ps : List (V × V)) (H : Hp), as.length = ps.length → as.Nodup → Paired (fun (t : Addr) (p : V × V) => putP H as ps t = some (.tup [p.1, p.2])) as ps
  | [], [], _, _, _ => .nil
  | [], _ :: _, _, h, _ => nomatch h
  | _ :: _, [], _, h, _ => nomatch h
  | a :: as, p :: ps, H, h, hn => by
    have nd := List.nodup_cons.mp hn
    refine .cons ?_ (putP_at as ps (upd H a (.tup [p.1, p.2])) (Nat.succ.inj h) nd.2)
    have h1 := putP_off as ps (upd H a (.tup [p.1, p.2])) nd.1
    rw [upd_same] at h1
    exact h1
/-- what is told of list(d.items()) -/
def rItemsN (w : World) : V → Hp → VK → Prop := fun x H Q => ∃ (d : Addr) (kvs : List NKV), x = .ref d ∧ H d = some (dN w d kvs) ∧ kvs.length ≤ 1000 ∧
  ∀ (H' : Hp) (p : Addr) (ts : List Addr), Same H H' → H p = none → (∀ t ∈ ts, H t = none) → H' p = some (.lst (ts.map V.ref)) → Paired (fun (t : Addr) (q : NKV) => H' t = some (.tup [q.2.1, q.2.2])) ts kvs → Q (.ref p) H'
def tItemsN (w : World) (te : TE) : TE := fun σ H Q => te σ H fun x H1 => rItemsN w x H1 Q
def rLenN (w : World) : List V → Hp → VK → Prop := fun xs H Q => match xs with
  | [.ref p] => ∃ kvs, H p = some (dN w p kvs) ∧ kvs.length ≤ 1000 ∧ Q (.int kvs.length) H
  | _ => False
section
variable {X : Cx}
theorem paired_toP {F : Addr → NKV → Prop} {G : Addr → V × V → Prop} (h : ∀ t q, G t q.2 → F t q) : ∀ {ts : List Addr} {kvs : List NKV}, Paired G ts (kvs.map (·.2)) → Paired F ts kvs
  | [], [], _ => .nil
  | [], _ :: _, z => nomatch z
  | _ :: _, [], z => nomatch z
  | t :: ts, q :: kvs, .cons r z => .cons (h _ _ r) (paired_toP h z)
theorem itemsN_laid {pins : List (Addr × Obj)} {σ : L2.St} {H : Hp} {s : Shared} {h' : Heap} {tk : Nat} {kvs : List NKV} {es : Array DictEntry} {acc : Array Value} {c : Nat} {as : List Addr} (I : Inv X pins σ H s) (hz : kvs.length ≤ 1000) (kv : Paired (EnOk X.w) kvs es.toList)
    (hk : ∀ b o, s.heap.get? b = some o → h'.get? b = some o) (hS : h'.get? s.heap.objs.size = some { cls := .type "list", dict := none, data := .seq acc c, slots := #[] }) (hl : as.length = es.size) (hG : FwT es s.heap.objs.size h' as) (hacc : acc.toList = as.map Value.ref) :
    ∃ H' : Hp, Same H H' ∧ H s.heap.objs.size = none ∧ (∀ t ∈ as, H t = none) ∧ H' s.heap.objs.size = some (.lst (as.map V.ref)) ∧ Paired (fun (t : Addr) (q : NKV) => H' t = some (.tup [q.2.1, q.2.2])) as kvs ∧ Inv X pins σ H' { s with heap := h', toks := tk } := by
  generalize ep : s.heap.objs.size = p at *
  have lk : kvs.length = es.size := by rw [Paired.length kv, Array.length_toList]
  have pn : p ∉ as := fun z => Nat.lt_irrefl _ (hG.over _ z)
  have nd : as.Nodup := List.Pairwise.imp (fun {a b} (h : a < b) => Nat.ne_of_lt h) hG.up
  have new : ∀ t ∈ as, H t = none := fun t ht => I.hok.fresh (by rw [ep]; exact Nat.le_of_lt (hG.over t ht))
  have newp : H p = none := I.hok.fresh (by rw [ep]; exact Nat.le_refl _)
  have atP := putP_at as (kvs.map (·.2)) (upd H p (.lst (as.map V.ref))) (by rw [List.length_map]; omega) nd
  have off : ∀ b, b ∉ as → b ≠ p → putP (upd H p (.lst (as.map V.ref))) as (kvs.map (·.2)) b = H b := fun b h1 h2 => by rw [putP_off as _ _ h1, upd_ne h2]
  have low : ∀ b o, s.heap.get? b = some o → b ∉ as ∧ b ≠ p := fun b o e => by
    have hb : b < p := by rw [← ep]; exact Heap.lt_size e
    exact ⟨fun z => absurd hb (Nat.not_lt.mpr (Nat.le_of_lt (hG.over b z))), Nat.ne_of_lt hb⟩
  have kp : Same H (putP (upd H p (.lst (as.map V.ref))) as (kvs.map (·.2))) := fun b u e => by
    rw [off b (fun z => by rw [new b z] at e; cases e) (fun z => by rw [z, newp] at e; cases e)]
    exact e
  have eS : putP (upd H p (.lst (as.map V.ref))) as (kvs.map (·.2)) p = some (.lst (as.map V.ref)) := by rw [putP_off as _ _ pn, upd_same]
  refine ⟨_, kp, newp, new, eS, paired_toP (fun _ _ z => z) atP, ?_⟩
  refine I.call' (ch := []) rfl ⟨fun b o q _ _ _ => hk b o q, fun b o q _ _ _ => ⟨o.slots, hk b o q⟩, fun b o q n _ => ?_, fun b o q _ => ⟨o, hk b o q⟩, fun b xs q => kp b _ q, fun b o u q => kp b _ q, fun b ps q => ⟨#[], by rw [kp b _ q]; simp⟩⟩ (fun b u q => ?_) I.bare fun b z => by simp at z
  · obtain ⟨z1, z2⟩ := low b o q
    rw [off b z1 z2]
    exact n
  · by_cases hb : b ∈ as
    · obtain ⟨j, pk, e1, e2, e3⟩ := LiI.paired_ix atP hb
      rw [e3] at q
      cases q
      obtain ⟨hj, f3⟩ := hG.what j b e1
      obtain ⟨kv0, g1, g2⟩ := List.getElem?_eq_some_iff.mp e2 |> fun ⟨hl, hv⟩ => (⟨kvs[j]'(by simpa using hl), by rw [List.getElem?_eq_getElem], by rw [← hv]; simp⟩ : ∃ q : NKV, kvs[j]? = some q ∧ pk = q.2)
      obtain ⟨en, k1, k2⟩ := LiI.paired_get kv g1
      have ee : en = es[j] := by
        rw [Array.getElem?_toList, Array.getElem?_eq_getElem hj] at k1
        exact (Option.some.inj k1).symm
      subst ee g2
      exact ⟨by show 2 ≤ sizeLine; decide, [es[j].key, es[j].val], .cons k2.2.1 (.cons k2.2.2 .nil), ⟨_, f3, rfl, _, rfl⟩⟩
    · by_cases hb2 : b = p
      · rw [hb2] at q ⊢
        rw [eS] at q
        cases q
        refine ⟨by rw [List.length_map, sizeLine_eq]; omega, acc.toList, c, by rw [hacc]; exact LiI.vals_refs as, ?_⟩
        rw [Array.toArray_toList]
        exact hS
      · rw [off b hb hb2] at q
        exact (I.hok b u q).stay (fun d v _ y => hk d v y) (fun d y => kp d _ y) fun d xs y => kp d _ y
/-- list(e.items()), e a mixed dict -/
theorem pe_listItemsN {e : Expr} {te : TE} {p apos cpos pos : Pos} (hc : X.calm = true) (he : PE X e te) (hg : Gl X "list") (hm : X.mg "list" = none) (hv : bootBuiltins "list" = some (.type "list")) (hbase : attributeBase e "items" X.env (eval e X.env) = eval e X.env := by rfl) (hline : (apos.endLine == cpos.line) = true := by rfl)
    (hs : starEach [.Call (.Attribute e "items" apos) [] [] cpos] X.env = (false, eval (.Call (.Attribute e "items" apos) [] [] cpos) X.env) :: starEach [] X.env := by rfl) :
    PE X (.Call (.Name "list" p) [.Call (.Attribute e "items" apos) [] [] cpos] [] pos) (tItemsN X.w te) := by
  refine ⟨fun pins s σ H Q I hq => ?_⟩
  refine wpAny_Call_Name_kw (ld_blt I hg hm hv (PyProof.Rows.callWith_type1 ?_ hs rfl))
  rw [hs]
  show wpAny _ _ (spliced ((false, eval (.Call (.Attribute e "items" apos) [] [] cpos) X.env) :: backTo pos (starEach [] X.env))) _ _ s
  refine Calls.spliced_cons (wpAny_Call_method (T := "dict") (id := "dict.items") hbase rfl hline F.plainAttrs_dict F.slot_dict_items F.type_dict_items (thn (he.run pins s σ H _ I hq) fun u s1 ⟨x, H1, I1, rx, d, kvs, ex, hd, hz, q⟩ => ?_))
  subst ex
  obtain rfl : u = Value.ref d := rx
  obtain ⟨hs0, o, es, ep, e1, e2, e3, kv⟩ := dn_at I1 hd
  have hr : s1.heap.DictRaw d es ep := ⟨o, e1, e2, e3⟩
  have I2 : Inv X pins σ H1 { s1 with heap := s1.heap.push { cls := .type "dict_items", data := .fields #[.ref d] } } := I1.kept (t' := s1.toks) fun b ob q => Heap.get?_push_of_some _ q
  refine ⟨hr.typeIs, fun o' ho' => ?_, ?_⟩
  · cases ho'
    exact ⟨o, e1, e2.2.1⟩
  show wpAny _ _ (callWith cpos (.builtin "dict.items") [.ref d] [] []) _ X.xe s1
  refine method_meetsIn F.slot_dict_items F.entry_dict_items rfl (PySem.evalArgs_none ⟨rfl, hr.typeIs, F.args_dict_items_1 _, _, meets_dict_items_raw d hs0, ⟨es, ep, hr⟩, ?_⟩)
  have ez : es.size ≤ sizeLine := by
    rw [← Array.length_toList, ← Paired.length kv, sizeLine_eq]
    omega
  refine Calls.spliced_nil (fw_list (I1.ok.hd hc) ⟨_, Heap.get?_push_size _ rfl, rfl, rfl⟩ (hr.at fun o' q => Heap.get?_push_of_some _ q) ez fun h' tk acc c as hk hS hl hG hacc => ?_)
  obtain ⟨H', k1, k2, k3, k4, k5, J⟩ := itemsN_laid (tk := tk) I2 hz kv hk hS hl hG hacc
  exact ⟨.ref _, H', J, rfl, q H' _ as k1 k2 k3 k4 k5⟩
theorem call_lenN : CallR X (.builtin "len") (rLenN X.w) := by
  intro pins s σ H xs us Q I r h
  match xs, h with
  | [.ref p], h =>
    obtain ⟨kvs, hp, hz, q⟩ := h
    obtain ⟨u, rfl, rx⟩ := vals1 r
    obtain rfl : u = .ref p := rx
    obtain ⟨hs, o, es, ep, e1, e2, e3, kv⟩ := dn_at I hp
    have hl : kvs.length = es.size := by rw [Paired.length kv, Array.length_toList]
    refine fw_len hs ⟨o, e1, e2, e3⟩ (by omega) fun t => ⟨.int kvs.length, H, I.tok _, ⟨t, by rw [hl]⟩, q⟩
end
end L2
end -- Fw4
section -- FwX1
set_option Elab.async false
set_option linter.all false
set_option maxRecDepth 100000
set_option maxHeartbeats 4000000
/-! FwX1: an own exception class with an __init__ of its own is called, with keywords as well. -/
namespace PySem
namespace FwX
open Builtin Builtin.ObjectAttr HandSPX
section
variable {M : Model} {A : Around} {E : Value → Shared → Prop} {h : Heap} {g : Array GenState} {d : Drawn} {t : Nat} {os : OsState}
variable {nm q : Str} {C N : Addr} {bs bm bmB : List Value} {hdct : Bool} {sn : List Str} {sub : List Value} {ab : Bool} {col : Option Bool} {dd : Option Addr} {k0 k1 k2 k3 k5 : Option Value} {B newId initId : String}
theorem fx_checkNew (F : ExcBaseFacts B newId initId bmB) (hT : ∀ X : String, bm.contains (.type X) = bmB.contains (.type X)) {rest : List Value} {kw : List (Str × Value)} {Q : Unit → Shared → Prop}
    (hC : h.get? C = some (excClassObj nm q C N bs bm hdct sn sub ab col dd k0 k1 k2 k3 k5 newId)) (hq : Q () ⟨h, g, d, t, os⟩) : wpAny M A (checkBuiltinCall newId ⟨.ref C :: rest, kw⟩) Q E ⟨h, g, d, t, os⟩ := by
  have c1 : (Value.ref C :: bm).contains (.type B) = true := by rw [List.contains_cons, hT, F.hasB, Bool.or_true]
  have c2 := F.noStar
  simp only [checkBuiltinCall, F.newKind, F.newSplit, F.newRow]
  repeat (first
    | refine wpAny_loadPart_at hC ?_
    | (refine wpAny_isSubtype_exc hC ?_; rw [c1])
    | refine wpAny_staticBase_exc hC ?_
    | refine wpAny_madeBy_exc hC ?_
    | simp only [bne_self_eq_false, Bool.false_eq_true, if_false]
    | wp_step)
  exact hq
theorem fx_checkCall {rest : List Value} {kw : List (Str × Value)} {Q : Unit → Shared → Prop} (hC : h.get? C = some (excClassObj nm q C N bs bm hdct sn sub ab col dd k0 k1 k2 k3 k5 newId)) (hq : Q () ⟨h, g, d, t, os⟩) :
    wpAny M A (checkBuiltinCall "type.__call__" ⟨.ref C :: rest, kw⟩) Q E ⟨h, g, d, t, os⟩ := by
  have f3 := tc_sub
  have hT : (⟨h, g, d, t, os⟩ : Shared).TypeIs (.ref C) "type" := ⟨_, hC, rfl⟩
  simp only [checkBuiltinCall, tc_kind, tc_split]
  repeat (any_goals (first
    | assumption
    | with_reducible refine wpAny_loadPart_at hC ?_
    | with_reducible refine wpAny_onRaise ?_
    | with_reducible refine wpAny_map ?_
    | wp_step))
end
section
variable {prog : Program} {w : World} {A : Around} {E : Value → Shared → Prop} {R : Result → Shared → Prop} {h : Heap} {g : Array GenState} {d : Drawn} {t : Nat} {os : OsState}
variable {nm q : Str} {C N : Addr} {bs bm bmB : List Value} {hdct : Bool} {sn : List Str} {sub : List Value} {ab : Bool} {col : Option Bool} {dd : Option Addr} {k0 k1 k2 k3 k5 : Option Value} {B newId initId : String}
theorem fx_new (F : ExcBaseFacts B newId initId bmB) (hT : ∀ X : String, bm.contains (.type X) = bmB.contains (.type X)) {rest : List Value} {kw : List (Str × Value)} (hC : h.get? C = some (excClassObj nm q C N bs bm hdct sn sub ab col dd k0 k1 k2 k3 k5 newId)) (hz : rest.length ≤ sizeLine)
    (hq : R (.ok (.ret (.ref (h.objs.size + 1)))) ⟨(h.push (W.kdv_tup rest)).push (excO C h.objs.size), g, d, t, os⟩) : codeAny (model prog w) A (.builtin newId ⟨.ref C :: rest, kw⟩) R ⟨h, g, d, t, os⟩ := by
  have e1 := F.ends
  have c1 : (Value.ref C :: bm).contains (.type B) = true := by rw [List.contains_cons, hT, F.hasB, Bool.or_true]
  have c2 : (Value.ref C :: bm).contains (.type "AttributeError") = false := by rw [List.contains_cons, hT, F.noAttr]; rfl
  have c3 : (Value.ref C :: bm).contains (.type "NameError") = false := by rw [List.contains_cons, hT, F.noName]; rfl
  refine codeAny_builtinAt F.entry ?_
  unfold Builtin.«BaseException.__new__»
  refine wpAt_bind ?_
  show wpAt _ _ _ (stack >>= _) _ _ _
  refine wpAt_bind (wpAt_stack fun p below => wpAt_of_wpAny ?_)
  wp_walk
  refine wpAt_of_wpAny ?_
  rw [F.owner]
  repeat (first
    | with_reducible refine wpAny_madeHere_exc F.canon hC ?_
    | with_reducible refine wpAny_loadPart_at hC ?_
    | (with_reducible refine wpAny_isSubtype_exc hC ?_; first | rw [c1] | rw [c2] | rw [c3])
    | wp_step)
  show R _ _
  rw [Heap.size_push]
  exact hq
theorem fx_typeCall (F : ExcBaseFacts B newId initId bmB) (hT : ∀ X : String, bm.contains (.type X) = bmB.contains (.type X)) {rest : List Value} {kw : List (Str × Value)} {fI : Addr} {Q : Fin → Shared → Prop}
    (hC : h.get? C = some (excClassObj nm q C N bs bm hdct sn sub ab col dd k0 k1 k2 k3 k5 newId)) (hi : W.Looks (model prog w) h (typeLookup (.ref C) "__init__") (some (.ref fI))) (hb : ∀ self, W.Looks (model prog w) h (bindSpecial (.ref fI) self) (.ref fI, [self])) (hz : rest.length ≤ sizeLine)
    (hq : codeAny (model prog w) A (.call (.ref fI) ⟨.ref (h.objs.size + 1) :: rest, kw⟩) (fun r s' => match r with | .ok (.ret v) => v = .none ∧ Q (.done (.ret (.ref (h.objs.size + 1)))) s' | .ok _ => False | .error e => E e s')
      ⟨(h.push (W.kdv_tup rest)).push (excO C h.objs.size), g, d, t, os⟩) : wpAny (model prog w) A (Builtin.«type.__call__» ⟨.ref C :: rest, kw⟩) Q E ⟨h, g, d, t, os⟩ := by
  repeat (first
    | with_reducible refine wpAny_loadPart_at hC ?_
    | with_reducible refine wpAny_madeBy_exc hC ?_
    | wp_step)
  refine codeAny_call_builtin_code (Code.quiet_builtin _ F.quiet) (fx_checkNew F hT hC (fx_new F hT hC hz ?_))
  show wpAny _ _ _ _ _ _
  have keep : ∀ b o, h.get? b = some o → ((h.push (W.kdv_tup rest)).push (excO C h.objs.size)).get? b = some o := fun b o e => Heap.get?_push_of_some _ (Heap.get?_push_of_some _ e)
  have hC1 := keep _ _ hC
  have here : ((h.push (W.kdv_tup rest)).push (excO C h.objs.size)).get? (h.objs.size + 1) = some (excO C h.objs.size) := by heap_get
  have c4 : (Value.ref C :: bm).contains (.ref C) = true := by simp
  have i1 := hi.keeps keep
  have b1 := (hb (.ref (h.objs.size + 1))).keeps keep
  unfold isInstance
  repeat (first
    | with_reducible refine wpAny_loadPart_at here ?_
    | (with_reducible refine wpAny_isSubtype_exc hC1 ?_; rw [c4])
    | wp_step)
  show wpAny _ _ (typeLookup (.ref C) _) _ _ _
  refine i1.at (wpAny_holding (wpAny_bind (b1.at (wpAny_bind (wpAny_call (codeAny_mono hq fun r s' z => ?_))))))
  rcases r with e | (v | _ | _ | _) <;> first | exact z | exact z.elim | skip
  obtain ⟨rfl, z⟩ := z
  first
    | exact wpAny_pure (wpAny_pure z)
    | (wp_walk; exact z)
theorem fx_call (F : ExcBaseFacts B newId initId bmB) (hT : ∀ X : String, bm.contains (.type X) = bmB.contains (.type X)) {rest : List Value} {kw : List (Str × Value)} {fI : Addr}
    (hC : h.get? C = some (excClassObj nm q C N bs bm hdct sn sub ab col dd k0 k1 k2 k3 k5 newId)) (hi : W.Looks (model prog w) h (typeLookup (.ref C) "__init__") (some (.ref fI))) (hb : ∀ self, W.Looks (model prog w) h (bindSpecial (.ref fI) self) (.ref fI, [self])) (hz : rest.length ≤ sizeLine)
    (hq : codeAny (model prog w) (A.under (.builtin "type.__call__" ⟨.ref C :: rest, kw⟩)) (.call (.ref fI) ⟨.ref (h.objs.size + 1) :: rest, kw⟩) (W.InitBack (h.objs.size + 1) R) ⟨(h.push (W.kdv_tup rest)).push (excO C h.objs.size), g, d, t, os⟩) :
    codeAny (model prog w) A (.call (.ref C) ⟨rest, kw⟩) R ⟨h, g, d, t, os⟩ := by
  have f1 := tc_lookup
  have f2 := tc_bind (.ref C)
  have hTy : (⟨h, g, d, t, os⟩ : Shared).TypeIs (.ref C) "type" := ⟨_, hC, rfl⟩
  refine codeAny_of_tree ?_
  show wpAny _ _ (callAny (.ref C) _) _ _ _
  repeat (any_goals (first
    | assumption
    | with_reducible refine wpAny_loadPart_at hC ?_
    | wp_step))
  refine ⟨rfl, codeAny_call_builtin_at (Code.quiet_builtin _ (by decide +kernel)) entry_typeCall (fx_checkCall hC (fx_typeCall F hT hC hi hb hz (codeAny_mono hq fun r s' z => ?_)))⟩
  rcases r with e | (v | _ | _ | _) <;> exact z
end
end FwX
end PySem
end -- FwX1
section -- FwX2
set_option Elab.async false
set_option linter.all false
set_option maxRecDepth 100000
set_option maxHeartbeats 4000000
/-! FwX2: exceptions of own classes as values: made by position and by keyword, stored into, read, asked by isinstance. -/
namespace PySem
namespace FwX
open Builtin Builtin.ObjectAttr HandSPX
section
variable {prog : Program} {w : World} {A : Around} {E : Value → Shared → Prop} {R : Result → Shared → Prop} {hp : Heap} {g : Array GenState} {d : Drawn} {t : Nat} {os : OsState} {K : W.Frag} {B : String} {bmB : List Value}
/-- the first field of an exception -/
theorem fx_saNew {name : Str} {tk : Tok} {v : Value} {x C : Addr} {fv : Array Value} (SF : StoreFacts B bmB "object.__setattr__" "object") (X : K.In hp) (hx : hp.get? x = some { cls := .ref C, data := .fields fv }) (hov : W.excOver K C bmB = true) (ht : W.takerIn K C name = some none) (hh : W.hasDictIn K C = true)
    (hq : ∀ h' tk' dx, (∀ b o, b ≠ x → hp.get? b = some o → h'.get? b = some o) → hp.objs.size ≤ dx → dx ≠ x → h'.get? x = some { cls := .ref C, dict := some dx, data := .fields fv } → h'.Ns1 dx (fun y => if y = name then some v else none) → R (.ok (.ret .none)) ⟨h', g, d, tk', os⟩) :
    codeAny (model prog w) A (.call (.builtin "object.__setattr__") ⟨[.ref x, .str name tk, v], []⟩) R ⟨hp, g, d, t, os⟩ := by
  obtain ⟨cd, hc, hd⟩ := W.any_some hh
  have hxs : x ≠ hp.objs.size := Nat.ne_of_lt (Heap.lt_size hx)
  have Lc : W.Looks (model prog w) hp (classData C) cd := W.looks_clsIn X hc
  refine W.osa_openX (od := none) SF X ⟨hx, rfl, rfl, trivial⟩ hov ht fun b => ?_
  show wpAny _ _ (storeInOwnDict (.ref x) (.ref C) (.str name tk) name v b) _ _ _
  obtain ⟨nm, bs, mro, ns, qn, hd', sn, sb, ab, col, del⟩ := cd
  dsimp only at hd
  subst hd
  unfold storeInOwnDict ownDictForStores
  repeat (first
    | with_reducible refine store_in_new ?_ ?_
    | with_reducible refine wpAny_loadPart_at hx ?_
    | with_reducible refine Lc.at ?_
    | wp_step)
  · exact ⟨_, #[], _, (Heap.get?_update_ne _ _ _ _ hxs.symm).trans (Heap.get?_push_at rfl rfl), rfl, fun e he => absurd he (by simp), fun _ => rfl⟩
  · intro h' tk' hn' hs
    refine hq h' tk' hp.objs.size (fun b o hb ho => ?_) (Nat.le_refl _) hxs.symm ?_ hn'
    · exact (hs.2 b (Nat.ne_of_lt (Heap.lt_size ho))).trans ((Heap.get?_update_ne _ _ _ _ hb).trans (Heap.get?_push_of_some _ ho))
    · exact (hs.2 x hxs).trans (Heap.get?_update_self _ (Heap.get?_push_of_some _ hx) rfl)
/-- a further field -/
theorem fx_saOld {name : Str} {tk : Tok} {v : Value} {x C dx : Addr} {fv : Array Value} {m0 : Str → Option Value} {nl : List Str} (SF : StoreFacts B bmB "object.__setattr__" "object") (X : K.In hp) (hx : hp.get? x = some { cls := .ref C, dict := some dx, data := .fields fv }) (hns : hp.Ns1 dx m0) (hw : Within m0 nl)
    (hz : nl.length ≤ 1000) (hov : W.excOver K C bmB = true) (ht : W.takerIn K C name = some none) (hh : W.hasDictIn K C = true)
    (hq : ∀ h' tk', (∀ b o, b ≠ dx → hp.get? b = some o → h'.get? b = some o) → h'.Ns1 dx (fun y => if y = name then some v else m0 y) → R (.ok (.ret .none)) ⟨h', g, d, tk', os⟩) :
    codeAny (model prog w) A (.call (.builtin "object.__setattr__") ⟨[.ref x, .str name tk, v], []⟩) R ⟨hp, g, d, t, os⟩ := by
  obtain ⟨oD, esD, epD, hoD, hdD, _⟩ := hns.count hw
  obtain ⟨cd, hc, hd⟩ := W.any_some hh
  have Lc : W.Looks (model prog w) hp (classData C) cd := W.looks_clsIn X hc
  refine W.osa_openX (od := some oD) SF X ⟨hx, rfl, rfl, hoD⟩ hov ht fun b => ?_
  show wpAny _ _ (storeInOwnDict (.ref x) (.ref C) (.str name tk) name v b) _ _ _
  obtain ⟨nm, bs, mro, ns, qn, hd', sn, sb, ab, col, del⟩ := cd
  dsimp only at hd
  subst hd
  unfold storeInOwnDict ownDictForStores
  repeat (first
    | with_reducible refine OEX.store_in_old hns hw hz ?_
    | with_reducible refine wpAny_loadPart_at hx ?_
    | with_reducible refine Lc.at ?_
    | wp_step)
  intro h' tk' hn' hs
  exact hq h' tk' (fun b o hb ho => (hs.2 b hb).trans ho) hn'
end
end FwX
end PySem
namespace L2
open PySem PySem.Spec PyProof.Rows
/-- what the written part says of an own exception class -/
structure OxC (K : PySem.W.Frag) (C : Addr) (B newId initId : String) (bmB : List Value) : Prop where
  fb : ExcBaseFacts B newId initId bmB
  sf : StoreFacts B bmB "object.__setattr__" "object"
  q : PySem.W.excInitIn K C bmB newId = true
  ov : PySem.W.excOver K C bmB = true
  sa : PySem.W.findIn K (.ref C) "__setattr__" = some (some (.builtin "object.__setattr__"))
  tyC : PySem.W.typeIn K (.ref C) = some (.type "type")
  kC : PySem.W.keepIn K (.ref C) = true
  xc : ExcC K C
/-- the check of it -/
def oxB (K : PySem.W.Frag) (C : Addr) (newId : String) (bmB : List Value) : Bool :=
  PySem.W.excInitIn K C bmB newId && PySem.W.excOver K C bmB && (PySem.W.findIn K (.ref C) "__setattr__" == some (some (.builtin "object.__setattr__"))) && (PySem.W.typeIn K (.ref C) == some (.type "type")) && PySem.W.keepIn K (.ref C) &&
  ((PySem.W.findIn K (.ref C) "__getattribute__" == some (some (.builtin "BaseException.__getattribute__"))) && (PySem.W.findIn K (.ref C) "__getattr__" == some none) && (PySem.W.subIn K (.ref C) (.type "BaseException") == some true) && PySem.W.hasDictIn K C &&
    (PySem.W.findIn K (.ref C) "__class__" == some (some (.builtin "object.__class__"))) && (PySem.W.specialIn K (.builtin "object.__class__") "__get__" == some (some (.builtin "getset_descriptor.__get__"))) && (PySem.W.takesIn K (.builtin "object.__class__") == some true) && (PySem.W.mroIn K C (.type "object") == some true))
theorem oxB_ok {K : PySem.W.Frag} {C : Addr} {B newId initId : String} {bmB : List Value} (fb : ExcBaseFacts B newId initId bmB) (sf : StoreFacts B bmB "object.__setattr__" "object") (h : oxB K C newId bmB = true) : OxC K C B newId initId bmB := by
  unfold oxB at h
  simp only [Bool.and_eq_true, beq_iff_eq] at h
  obtain ⟨⟨⟨⟨⟨h1, h2⟩, h3⟩, h4⟩, h5⟩, ⟨⟨⟨⟨⟨⟨h6, h7⟩, h8⟩, h9⟩, h10⟩, h11⟩, h12⟩, h13⟩ := h
  exact ⟨fb, sf, h1, h2, h3, h4, h5, ⟨h6, h7, h8, h9, h10, h11, h12, h13⟩⟩
/-- a name that the class does not have -/
theorem taker_none {K : PySem.W.Frag} {C : Addr} {f : Str} (h : PySem.W.findIn K (.ref C) f = some none) : PySem.W.takerIn K C f = some none := by
  unfold PySem.W.takerIn
  rw [h] <;> rfl
section
variable {X : Cx} {pins : List (Addr × Obj)} {σ : L2.St} {H : Hp} {s : Shared} {a C dx : Addr} {f : Str} {y : V} {u : Value} {fs : List (Str × V)} {Q : Unit → Shared → Prop} {E : Value → Shared → Prop} {A : Around} {B newId initId : String} {bmB : List Value}
theorem oxs_new (T : OxC X.K C B newId initId bmB) (I : Inv X pins σ H s) (e : H a = some (exo a C none)) (hno : PySem.W.findIn X.K (.ref C) f = some none) (ry : RelV y u)
    (h : ∀ dx s', H dx = none → dx ≠ a → Inv X pins σ (upd (upd H dx (exd dx [(f, y)])) a (exo a C (some dx))) s' → Q () s') : wpAny (model X.prog X.w) A (setAttr (.ref a) f u) Q E s := by
  obtain ⟨t1, ho⟩ := exo_at I.hok e
  obtain ⟨hp, g, d, t, os⟩ := s
  refine PySem.W.set_plain I.kIn (ox := { cls := .ref C, dict := none, data := .fields #[.ref t1, .none, .none, .none, .bool false, .none] }) (od := none) ⟨ho, rfl, rfl, trivial⟩ T.sa ?_
  refine PySem.FwX.fx_saNew T.sf I.kIn ho T.ov (taker_none hno) T.xc.hd (fun h' tk' dx k dn dne hx hn => ?_)
  have hnd : H dx = none := I.hok.fresh dn
  have nd : ∀ {b : Addr} {o : Obj}, hp.get? b = some o → b ≠ dx := fun {b o} q => Nat.ne_of_lt (Nat.lt_of_lt_of_le (Heap.lt_size q) dn)
  have na : ∀ {b : Addr}, H b = none → b ≠ a := fun {b} n z => by
    rw [z, e] at n
    cases n
  have U : Un X.fs [] H (upd (upd H dx (exd dx [(f, y)])) a (exo a C (some dx))) hp h' := {
    keep := fun b o q n _ _ => k b o (na n) q
    slot := fun b o q n _ _ => ⟨o.slots, k b o (na n) q⟩
    free := fun b o q n _ => by rw [upd_ne (na n), upd_ne (nd q)]; exact n
    there := fun b o q _ => by
      by_cases hb : b = a
      · exact ⟨_, by rw [hb]; exact hx⟩
      · exact ⟨o, k b o hb q⟩
    tups := fun b xs q => by rw [upd_ne (at_ne e q exo_tup), upd_ne (ne_of_none q hnd)]; exact q
    frzs := fun b o v q => by rw [upd_ne (at_ne e q exo_frz), upd_ne (ne_of_none q hnd)]; exact q
    tbls := fun b ps q => ⟨#[], by rw [upd_ne (at_ne e q exo_tbl), upd_ne (ne_of_none q hnd), q]; simp⟩ }
  refine h dx _ hnd dne (I.un (t' := tk') U fun b o q => ?_)
  by_cases hb : b = a
  · subst hb
    rw [upd_same] at q
    cases q
    exact exo_ok hx
  · rw [upd_ne hb] at q
    by_cases hd : b = dx
    · subst hd
      rw [upd_same] at q
      cases q
      exact exd_ok hn (relO_put (fs := []) ry fun g => True.intro)
    · rw [upd_ne hd] at q
      refine (I.hok b o q).stay (fun c v hc z => k c v ?_ z) (fun c hc => ?_) (fun c xs hc => ?_)
      · rcases hc with hc | hc
        · rw [hc]
          exact hb
        · exact at_ne e hc exo_own
      · rw [upd_ne (at_ne e hc exo_own), upd_ne (ne_of_none hc hnd)]
        exact hc
      · rw [upd_ne (at_ne e hc exo_tup), upd_ne (ne_of_none hc hnd)]
        exact hc
theorem oxs_old (T : OxC X.K C B newId initId bmB) (I : Inv X pins σ H s) (e : H a = some (exo a C (some dx))) (ed : H dx = some (exd dx fs)) (hl : fs.length ≤ 900) (hno : PySem.W.findIn X.K (.ref C) f = some none) (ry : RelV y u)
    (h : ∀ s', Inv X pins σ (upd H dx (exd dx ((f, y) :: fs))) s' → Q () s') : wpAny (model X.prog X.w) A (setAttr (.ref a) f u) Q E s := by
  obtain ⟨t1, ho⟩ := exo_at I.hok e
  obtain ⟨mA, hns, rel⟩ := exd_at I.hok ed
  have hw := within_of rel
  obtain ⟨hp, g, d, t, os⟩ := s
  obtain ⟨oD, _, _, hoD, _, _⟩ := hns.count hw
  refine PySem.W.set_plain I.kIn (ox := { cls := .ref C, dict := some dx, data := .fields #[.ref t1, .none, .none, .none, .bool false, .none] }) (od := some oD) ⟨ho, rfl, rfl, hoD⟩ T.sa ?_
  refine PySem.FwX.fx_saOld T.sf I.kIn ho hns hw (by rw [List.length_map]; omega) T.ov (taker_none hno) T.xc.hd (fun h' tk' k hn => ?_)
  have hd : ∃ o, h'.get? dx = some o := by
    obtain ⟨o, _, _, e', _⟩ := hn
    exact ⟨o, e'⟩
  exact h _ (I.write (t' := tk') (x := dx) (e := dx) (o := exd dx ((f, y) :: fs)) (by rw [ed]; exact True.intro) (.inl rfl) k hd (exd_ok hn (relO_put ry rel)))
end
/-- self.f = e, self such an exception -/
def tOxs (K : PySem.W.Frag) (f : Str) (to te : TE) : TS := fun D σ H => te σ H fun y H1 => to σ H1 fun x H2 => ∃ (a C : Addr) (B newId initId : String) (bmB : List Value), x = .ref a ∧ OxC K C B newId initId bmB ∧ PySem.W.findIn K (.ref C) f = some none ∧
  ((H2 a = some (exo a C none) ∧ ∀ dx H', H2 dx = none → dx ≠ a → H' dx = some (exd dx [(f, y)]) → H' a = some (exo a C (some dx)) → (∀ b o, b ≠ a → H2 b = some o → H' b = some o) → D.nx σ H') ∨
    ∃ (dx : Addr) (fs : List (Str × V)), H2 a = some (exo a C (some dx)) ∧ H2 dx = some (exd dx fs) ∧ fs.length ≤ 900 ∧ ∀ H', H' dx = some (exd dx ((f, y) :: fs)) → H' a = some (exo a C (some dx)) → (∀ b o, b ≠ dx → H2 b = some o → H' b = some o) → D.nx σ H')
theorem exo_exd {e d C : Addr} {dd : Option Addr} {fs : List (Str × V)} {h : Heap} {P : Program} {w : World} {H : Hp} (ok : HOk P w H h) (h1 : H e = some (exo e C dd)) (h2 : H d = some (exd d fs)) : d ≠ e := fun z => by
  obtain ⟨t, e1⟩ := exo_at ok h1
  obtain ⟨mA, ⟨o, es, ep, e2, e3, _⟩, _⟩ := exd_at ok h2
  rw [z, e1] at e2
  have := Option.some.inj e2
  subst this
  cases e3
section
variable {X : Cx} {o e : Expr} {es : List Expr} {to te : TE} {ta : TA} {f : Str} {p p' p1 p2 pos : Pos}
theorem ps_oxs (ho : PE X o to) (he : PE X e te) (hs : swapsWith e (some (.Attribute o f p')) pos.line X.env = pure false := by rfl) : PS X (.Assign [.Attribute o f p'] e pos) (tOxs X.K f to te) := by
  refine ⟨fun pins s σ H D I h => ?_⟩
  refine plainObj_wpAny_Assign_Attribute (thn (he.run pins s σ H _ I h) fun v s1 ⟨y, H1, I1, r1, q1⟩ => thn (ho.run pins s1 σ H1 _ I1 q1) fun u s2 ⟨x, H2, I2, r2, a, C, B, newId, initId, bmB, ex, T, hno, q⟩ => ?_) hs
  subst ex
  obtain rfl : u = Value.ref a := r2
  rcases q with ⟨ea, q⟩ | ⟨dx, fs, ea, ed, hl, q⟩
  · refine oxs_new T I2 ea hno r1 fun dx s' n ne J => ⟨σ, _, J, q dx _ n ne ?_ upd_same ?_⟩
    · rw [upd_ne ne, upd_same]
    · intro b o hb hbo
      rw [upd_ne hb, upd_ne (ne_of_none hbo n)]
      exact hbo
  · refine oxs_old T I2 ea ed hl hno r1 fun s' J => ⟨σ, _, J, q _ upd_same ?_ fun b o hb hbo => ?_⟩
    · rw [upd_ne (Ne.symm (exo_exd I2.hok ea ed))]
      exact ea
    · rw [upd_ne hb]
      exact hbo
end
/-! ### such an exception is made -/
/-- the promise of an __init__ at its exception a: what stands behind it -/
@[irreducible] def OxMade (C : Addr) (sp : Sp) (vs : List V) (H : Hp) (Q : VK) : Prop := vs.length ≤ 1000 ∧ ∀ a H1, H a = none → H1 a = some (exo a C none) → Same H H1 → sp (.ref a :: vs) H1
  (fun v H2 => v = .non ∧ Q (.ref a) H2) (fun _ _ _ => False)
section
variable {X : Cx} {pins : List (Addr × Obj)} {σ : L2.St} {H : Hp} {s : Shared} {C fI : Addr} {B newId initId : String} {bmB : List Value} {k : Nat} {fd : FuncData} {ps : List Str} {sp : Sp}
theorem run_ox (T : OxC X.K C B newId initId bmB) (iC : PySem.W.findIn X.K (.ref C) "__init__" = some (some (.ref fI))) (tI : PySem.W.typeIn X.K (.ref fI) = some (.type "function"))
    (F1 : FnOk X.prog X.w X.K X.mg X.base (L2.CX X.prog X.w) k fI fd ps sp) (hr : Room (k + 1) X.A) (I : Inv X pins σ H s) {us ws : List Value} {kw : List (Str × Value)} {vs : List V} {Q : VK} (hx : Passes (L2.CX X.prog X.w) X (fun _ _ _ => False))
    (hz : us.length ≤ 1000) (hb : ∀ (s : Shared) (x : Value), BindsTo s fd ⟨x :: us, kw⟩ (ps.zip (x :: ws))) (r : Vals vs ws) (h : OxMade C sp vs H Q) : wpAny (model X.prog X.w) X.A (call (.ref C) us kw) (EP X pins σ Q) X.xe s := by
  unfold OxMade at h
  obtain ⟨nm, N, qn, bs, bm, hdct, sn, sub, ab, col, dd, k0, k1, k2, k3, k5, hC, hT⟩ := PySem.W.excInit_of I.kIn T.q
  obtain ⟨hp, g, dr, tk, os⟩ := s
  have hsz : hp.objs.size ≤ hp.objs.size + 1 := Nat.le_succ _
  have hn : H (hp.objs.size + 1) = none := I.hok.fresh hsz
  have hq := h.2 (hp.objs.size + 1) _ hn upd_same (Same.new hn)
  have kk : ∀ b o, hp.get? b = some o → ((hp.push (PySem.W.kdv_tup us)).push (PySem.HandSPX.excO C hp.objs.size)).get? b = some o := fun b o e => Heap.get?_push_of_some _ (Heap.get?_push_of_some _ e)
  have hget : ((hp.push (PySem.W.kdv_tup us)).push (PySem.HandSPX.excO C hp.objs.size)).get? (hp.objs.size + 1) = some (PySem.HandSPX.excO C hp.objs.size) := by heap_get
  have I2 : Inv X pins σ (upd H (hp.objs.size + 1) (exo (hp.objs.size + 1) C none)) ⟨(hp.push (PySem.W.kdv_tup us)).push (PySem.HandSPX.excO C hp.objs.size), g, dr, tk, os⟩ :=
    I.laid (t' := tk) (a := hp.objs.size + 1) (o := exo (hp.objs.size + 1) C none) (h' := (hp.push (PySem.W.kdv_tup us)).push (PySem.HandSPX.excO C hp.objs.size)) kk hsz (exo_ok hget)
  have r2 : Vals (V.ref (hp.objs.size + 1) :: vs) (Value.ref (hp.objs.size + 1) :: ws) := .cons rfl r
  have hus : us.length ≤ sizeLine := by rw [sizeLine_eq]; omega
  refine wpAny_call (PySem.FwX.fx_call T.fb hT hC (PySem.W.looks_findIn I.kIn iC) (fun self => PySem.W.bind_fn I.kIn self tI) hus
    (codeAny_mono (F1.run _ X.stack _ _ ⟨Value.ref (hp.objs.size + 1) :: us, kw⟩ (Value.ref (hp.objs.size + 1) :: ws) _ _ (fun _ _ _ => False) (hr.make C us kw) (I2.env0.make C us kw) (hb _ _) r2 hq) fun r s' hq' => ?_))
  cases r with
  | error er => exact hx pins σ _ _ er s' I2 hq'
  | ok fl =>
    cases fl with
    | ret u =>
      obtain ⟨v, H2, J, rv, ev, q2⟩ := I2.after hq'
      subst ev
      exact ⟨rv, .ref _, H2, J, rfl, q2⟩
    | next => exact False.elim hq'
    | brk => exact False.elim hq'
    | cont => exact False.elim hq'
end
/-- the class that the module's name x stands for, its __init__ keeping sp; every written way to bind is in hb -/
structure OxX (P : Program) (w : World) (K : PySem.W.Frag) (mg : Str → Option Value) (base : Heap) (k : Nat) (x : Str) (C : Addr) (ps : List Str) (sp : Sp) : Prop where
  ex : ∃ (B newId initId : String) (bmB : List Value) (fI : Addr) (fd : FuncData), OxC K C B newId initId bmB ∧ mg x = some (.ref C) ∧ PySem.W.findIn K (.ref C) "__init__" = some (some (.ref fI)) ∧ PySem.W.typeIn K (.ref fI) = some (.type "function") ∧ FnOk P w K mg base (L2.CX P w) k fI fd ps sp ∧
    (∀ (s : Shared) (us : List Value), us.length = ps.length → BindsTo s fd ⟨us, []⟩ (ps.zip us)) ∧
    (∀ (s : Shared) (x u : Value) (n m : Str), ps = [n, m] → BindsTo s fd ⟨[x], [(m, u)]⟩ (ps.zip [x, u])) ∧
    (∀ (s : Shared) (x u v : Value) (n m l : Str), ps = [n, m, l] → BindsTo s fd ⟨[x], [(l, v), (m, u)]⟩ (ps.zip [x, u, v]))
def tOx (C : Addr) (sp : Sp) (n : Nat) (ta : TA) : TE := fun σ H Q => ta σ H fun vs H1 => vs.length = n ∧ OxMade C sp vs H1 Q
section
variable {X : Cx} {k : Nat} {sp : Sp} {C : Addr} {ps : List Str} {x n m l : Str} {p pos kp kp2 : Pos} {e e2 : Expr} {es : List Expr} {te te2 : TE} {ta : TA}
theorem pe_ox (F : OxX X.prog X.w X.K X.mg X.base k x C ps sp) (hr : Room (k + 1) X.A) (hx : Passes (L2.CX X.prog X.w) X (fun _ _ _ => False)) (ha : PA X (e :: es) ta) (hg : Gl X x := by rfl) (hn : ps.length = (e :: es).length + 1 := by rfl)
    (hdb : (x == ("__debug__" : Str)) = false := by decide) (he : starEach (e :: es) X.env = (false, eval e X.env) :: starEach es X.env := by rfl) (hpl : (backTo pos (starEach es X.env)).any (·.1) = false := by rfl) :
    PE X (.Call (.Name x p) (e :: es) [] pos) (tOx C sp (e :: es).length ta) := by
  obtain ⟨B, newId, initId, bmB, fI, fd, T, gC, iC, tI, F1, b1, b2, b3⟩ := F.ex
  refine ⟨fun pins s σ H Q I h => wpAny_Call_Name_kw (ld_glob I hg gC ?_ hdb)⟩
  refine PySem.W.callWith_K (h₀ := X.base) I.ok.mod.kin T.kC (thn (ha.run pos pins s σ H _ I h) fun us s1 ⟨vs, H1, I1, r1, hz, q1⟩ => ⟨I1.kIn, ?_⟩) he hpl
  show wpAny _ _ (call (.ref C) us) _ _ _
  refine run_ox T iC tI F1 hr I1 hx (by unfold OxMade at q1; rw [← Paired.length r1]; exact q1.1) (fun s' y => b1 s' (y :: us) ?_) r1 q1
  rw [List.length_cons, ← Paired.length r1, hz, hn]
theorem pe_ox0 (F : OxX X.prog X.w X.K X.mg X.base k x C ps sp) (hr : Room (k + 1) X.A) (hx : Passes (L2.CX X.prog X.w) X (fun _ _ _ => False)) (hg : Gl X x := by rfl) (hn : ps.length = 1 := by rfl) (hdb : (x == ("__debug__" : Str)) = false := by decide) :
    PE X (.Call (.Name x p) [] [] pos) (tOx C sp 0 tNil) := by
  obtain ⟨B, newId, initId, bmB, fI, fd, T, gC, iC, tI, F1, b1, b2, b3⟩ := F.ex
  refine ⟨fun pins s σ H Q I h => wpAny_Call_Name_kw (ld_glob I hg gC ?_ hdb)⟩
  exact PySem.W.callWith_K0 I.kIn T.kC (run_ox T iC tI F1 hr I hx (Nat.zero_le _) (fun s' y => b1 s' [y] hn.symm) .nil h.2)
/-- X(m = e) -/
theorem pe_oxK (F : OxX X.prog X.w X.K X.mg X.base k x C [n, m] sp) (hr : Room (k + 1) X.A) (hx : Passes (L2.CX X.prog X.w) X (fun _ _ _ => False)) (he : PE X e te) (hg : Gl X x := by rfl) (hdb : (x == ("__debug__" : Str)) = false := by decide) :
    PE X (.Call (.Name x p) [] [⟨some m, e, kp⟩] pos) (fun σ H Q => te σ H fun v H1 => OxMade C sp [v] H1 Q) := by
  obtain ⟨B, newId, initId, bmB, fI, fd, T, gC, iC, tI, F1, b1, b2, b3⟩ := F.ex
  refine ⟨fun pins s σ H Q I h => wpAny_Call_Name_kw (ld_glob I hg gC ?_ hdb)⟩
  refine PySem.W.callWith_KW0 (h₀ := X.base) I.ok.mod.kin T.kC rfl (thn ((pk_cons he pk_nil).run pos pins s σ H (fun vs H1 => match vs with | [v] => OxMade C sp [v] H1 Q | _ => False) I h) fun us s1 ⟨vs, H1, I1, r1, q1⟩ => ⟨I1.kIn, ?_⟩) rfl
  match vs, q1 with
  | [v], q1 =>
    obtain ⟨u, rfl, ru⟩ := vals1 r1
    exact run_ox (us := []) (ws := [u]) (kw := [(m, u)]) T iC tI F1 hr I1 hx (Nat.zero_le _) (fun s' y => b2 s' y u n m rfl) (.cons ru .nil) q1
/-- X(l = e, m = e2) -/
theorem pe_oxK2 (F : OxX X.prog X.w X.K X.mg X.base k x C [n, m, l] sp) (hr : Room (k + 1) X.A) (hx : Passes (L2.CX X.prog X.w) X (fun _ _ _ => False)) (he : PE X e te) (he2 : PE X e2 te2) (hg : Gl X x := by rfl) (hdb : (x == ("__debug__" : Str)) = false := by decide) :
    PE X (.Call (.Name x p) [] [⟨some l, e, kp⟩, ⟨some m, e2, kp2⟩] pos) (fun σ H Q => te σ H fun v H1 => te2 σ H1 fun v2 H2 => OxMade C sp [v2, v] H2 Q) := by
  obtain ⟨B, newId, initId, bmB, fI, fd, T, gC, iC, tI, F1, b1, b2, b3⟩ := F.ex
  refine ⟨fun pins s σ H Q I h => wpAny_Call_Name_kw (ld_glob I hg gC ?_ hdb)⟩
  refine PySem.W.callWith_KW0 (h₀ := X.base) I.ok.mod.kin T.kC rfl (thn ((pk_cons he (pk_cons he2 pk_nil)).run pos pins s σ H (fun vs H1 => match vs with | [v, v2] => OxMade C sp [v2, v] H1 Q | _ => False) I h) fun us s1 ⟨vs, H1, I1, r1, q1⟩ => ⟨I1.kIn, ?_⟩) rfl
  match vs, q1 with
  | [v, v2], q1 =>
    obtain ⟨u, u2, rfl, ru, ru2⟩ := vals2 r1
    exact run_ox (us := []) (ws := [u2, u]) (kw := [(l, u), (m, u2)]) T iC tI F1 hr I1 hx (Nat.zero_le _) (fun s' y => b3 s' y u2 u n m l rfl) (.cons ru2 (.cons ru .nil)) q1
end
end L2
end -- FwX2
section -- FwX3
set_option Elab.async false
set_option linter.all false
set_option maxRecDepth 100000
set_option maxHeartbeats 4000000
/-! FwX3: an exception's fields are read; isinstance of all that is tracked. -/
namespace L2
open PySem PySem.Spec PyProof.Rows
/-- at e: an exception of the class at C that was caught -/
def exq (e C : Addr) (d : Option Addr) : HO := .ext fun h => ∃ (o : Obj) (vs : Array Value), h.get? e = some o ∧ o.cls = .ref C ∧ o.dict = d ∧ o.data = .fields vs
/-- an exception with its dict -/
def ExAt (H : Hp) (a C d : Addr) : Prop := H a = some (exo a C (some d)) ∨ H a = some (exq a C (some d))
/-- the dict of an exception -/
def ExD (H : Hp) (d : Addr) (fs : List (Str × V)) : Prop := H d = some (exd d fs) ∨ H d = some (.xd fs)
theorem ExAt.same {H H' : Hp} {a C d : Addr} (h : ExAt H a C d) (e : Same H H') : ExAt H' a C d := by
  rcases h with h | h
  · exact .inl (e _ _ h)
  · exact .inr (e _ _ h)
theorem ExD.same {H H' : Hp} {d : Addr} {fs : List (Str × V)} (h : ExD H d fs) (e : Same H H') : ExD H' d fs := by
  rcases h with h | h
  · exact .inl (e _ _ h)
  · exact .inr (e _ _ h)
section
variable {X : Cx} {pins : List (Addr × Obj)} {σ : L2.St} {H : Hp} {s : Shared}
theorem ex_at {P : Program} {w : World} {h : Heap} {a C d : Addr} (ok : HOk P w H h) (e : ExAt H a C d) : ∃ (o : Obj) (vs : Array Value), h.get? a = some o ∧ o.cls = .ref C ∧ o.dict = some d ∧ o.data = .fields vs := by
  rcases e with e | e
  · obtain ⟨t, z⟩ := exo_at ok e
    exact ⟨_, _, z, rfl, rfl, rfl⟩
  · exact (ok a _ e).1
theorem ex_dict {P : Program} {w : World} {h : Heap} {d : Addr} {fs : List (Str × V)} (ok : HOk P w H h) (e : ExD H d fs) : ∃ mA, h.Ns1 d mA ∧ ∀ f, RelO (fs.lookup f) (mA f) := by
  rcases e with e | e
  · exact exd_at ok e
  · exact ok d _ e
theorem ex_inst {P : Program} {w : World} {h : Heap} {a C d : Addr} {fs : List (Str × V)} (ok : HOk P w H h) (e : ExAt H a C d) (ed : ExD H d fs) :
    ∃ (ox od : Obj) (mA : Str → Option Value), PySem.W.InstAt h a ox C (some od) ∧ (∀ name, PySem.W.lookIn name od = some (mA name)) ∧ ∀ f, RelO (fs.lookup f) (mA f) := by
  obtain ⟨ox, vs, h1, h2, h3, h4⟩ := ex_at ok e
  obtain ⟨mA, hns, rel⟩ := ex_dict ok ed
  obtain ⟨od, g1, g2⟩ := lookIn_ns hns
  exact ⟨ox, od, mA, ⟨h1, h2, by unfold PySem.W.notCls; rw [h4] <;> rfl, by rw [h3]; exact g1⟩, g2, rel⟩
end
/-- e.f, e an exception -/
def tXat (K : PySem.W.Frag) (f : Str) (te : TE) : TE := fun σ H Q => te σ H fun x H1 => ∃ (a C d : Addr) (fs : List (Str × V)) (v : V), x = .ref a ∧ ExAt H1 a C d ∧ ExD H1 d fs ∧ ExcC K C ∧ PySem.W.findIn K (.ref C) f = some none ∧ fs.lookup f = some v ∧ Q v H1
theorem pe_xat {X : Cx} {e : Expr} {te : TE} {pos : Pos} {n : Str} (he : PE X e te) (hb : attributeBase e n X.env (eval e X.env) = eval e X.env := by rfl) : PE X (.Attribute e n pos) (tXat X.K n te) := by
  refine ⟨fun pins s σ H Q I h => attr_of hb (thn (he.run pins s σ H _ I h) fun u s1 hh => ?_)⟩
  obtain ⟨x, H1, I1, rx, a, C, d, fs, v, rfl, ea, ed, T, hno, hl, q⟩ := hh
  obtain rfl : u = Value.ref a := rx
  obtain ⟨ox, od, mA, J, g2, rel⟩ := ex_inst I1.hok ea ed
  obtain ⟨u, hu, ru⟩ := RelO.some_of (v := v) (o := mA n) (by rw [← hl]; exact rel n)
  exact HandSPX.exc_get I1.kIn J T.hg T.hk T.hs (PySem.W.findObj_own T.hd hno rfl (by rw [g2, hu])) (handed_of ru) ⟨v, H1, I1.tok _, ru, q⟩
/-! ### what a value is, for isinstance -/
inductive TyG (K : PySem.W.Frag) (w : World) (H : Hp) : V → Value → Prop where
  | x {x : V} {t : Value} (h : TyX K H x t) : TyG K w H x t
  | dn {a : Addr} {kvs : List NKV} (h : H a = some (dN w a kvs)) : TyG K w H (.ref a) (.type "dict")
  | ex {a C d : Addr} {fs : List (Str × V)} (h : ExAt H a C d) (hd : ExD H d fs) (c : ExcC K C) : TyG K w H (.ref a) (.ref C)
@[irreducible] def rIsG (K : PySem.W.Frag) (w : World) : List V → Hp → VK → Prop := fun xs H Q => ∃ (x c : V) (t u : Value) (b : Bool), xs = [x, c] ∧ ClsV c u ∧ TyG K w H x t ∧ PySem.W.kitOne K t u = some b ∧ Q (.bl b) H
theorem call_isG {X : Cx} : CallR X (.builtin "isinstance") (rIsG X.K X.w) := by
  intro pins s σ H xs us Q I r h
  unfold rIsG at h
  obtain ⟨x, c, t, u, b, rfl, k, ty, e, q⟩ := h
  cases ty with
  | x h => exact call_isi pins s σ H _ us Q I r ⟨x, c, t, u, b, rfl, k, h, e, q⟩
  | @dn a kvs ha =>
    obtain ⟨u1, u2, rfl, r1, r2⟩ := vals2 r
    have e2 := k.eq r2
    subst e2
    obtain rfl : u1 = .ref a := r1
    obtain ⟨hs, o, es, ep, e1, e2, e3, kv⟩ := dn_at I ha
    exact PySem.W.kia_one PySem.W.kitx_dict I.kIn ⟨o, e1, e2.1⟩ e (fun z => nomatch z) fun tk => ⟨.bl b, H, I.tok tk, rfl, q⟩
  | @ex a C d fs ha hd c =>
    obtain ⟨u1, u2, rfl, r1, r2⟩ := vals2 r
    have e2 := k.eq r2
    subst e2
    obtain rfl : u1 = .ref a := r1
    obtain ⟨ox, od, mA, J, g2, rel⟩ := ex_inst I.hok ha hd
    obtain ⟨cd, hcd, _⟩ := PySem.W.any_some c.hd
    exact PySem.W.kia_one (PySem.W.kitx_exc (by rw [hcd]; rfl) c.hg c.hk c.hs c.ha c.hn c.ht c.hm) I.kIn J e (fun z => nomatch z) fun tk => ⟨.bl b, H, I.tok tk, rfl, q⟩
theorem st_isG {K : PySem.W.Frag} {w : World} {x c : V} {t u : Value} {b : Bool} {H : Hp} {Q : VK} (ty : TyG K w H x t) (k : ClsV c u) (e : PySem.W.kitOne K t u = some b) (q : Q (.bl b) H) : rIsG K w [x, c] H Q := by
  unfold rIsG
  exact ⟨x, c, t, u, b, rfl, k, ty, e, q⟩
end L2
end -- FwX3
section -- FwHook
set_option Elab.async false
set_option linter.all false
set_option maxRecDepth 100000
set_option maxHeartbeats 4000000
/-! FwHook: the head's facts over a written list of addresses. -/
namespace L2
open PySem PySem.Spec PyProof.Rows
abbrev AlN : Type := He.AlD × Bool
def obsN (as : List Addr) (fa : List He.Fa) (fn : List He.DefD) (ex : PySem.W.Frag → Bool) (g : Addr → Option Obj) : AlN := (He.obsD fa fn (He.frG g as), ex (He.frG g as))
def hookN (as : List Addr) (fa : List He.Fa) (fn : List He.DefD) (ex : PySem.W.Frag → Bool) : PySem.W.Hook where
  α := AlN
  obs := fun s => obsN as fa fn ex s.heap.get?
  val := fun _ => (He.valD fn, true)
  says := fun _ h => ∃ K : PySem.W.Frag, K.In h ∧ He.SaysD fa fn K ∧ ex K = true
  of := fun _ _ e => ⟨_, He.frG_in, congrArg (fun z : AlN => z.1) e, congrArg (fun z : AlN => z.2) e⟩
  keeps := fun _ _ _ ⟨K, hK, c⟩ k => ⟨K, PySem.W.Frag.In.keeps hK k, c⟩
theorem obsN_eq {as : List Addr} {fa : List He.Fa} {fn : List He.DefD} {ex : PySem.W.Frag → Bool} {g : Addr → Option Obj} {s : Shared} (h : ∀ a, g a = s.heap.get? a) : obsN as fa fn ex g = (hookN as fa fn ex).obs s := by
  have e : g = s.heap.get? := funext h
  rw [e] <;> rfl
theorem tx_of {fa : List He.Fa} {fn : List He.DefD} {ex : PySem.W.Frag → Bool} {K : PySem.W.Frag} {mg : Str → Option Value} {h : Heap} (hK : K.In h) (G : h.Ns mainGlobals mg) (c : He.SaysD fa fn K) (e : ex K = true) : Tx fa fn ex K mg :=
  ⟨fun i _ hi => c.fact i hi, fun i _ hi => c.def_ i hi, e, ⟨h, hK, G⟩⟩
end L2
end -- FwHook
section -- a0
set_option Elab.async false
set_option linter.all false
set_option maxRecDepth 100000
set_option maxHeartbeats 4000000
namespace K00
open PySem PySem.Spec PyProof.Rows L2
def top (i : Nat) : Stmt := PySem.Challenge.pw_fewestcells_k00_errors_and_names_judged.main.body.getD i (.Pass ⟨0, 0, 0, 0⟩)
abbrev s__law_bag : Stmt := top 44
abbrev N__law_bag : List Str := ["script", "mix", "item"]
theorem sc__law_bag : FnScope N__law_bag ["script"] (defScope s__law_bag) := ⟨rfl, rfl, rfl, by decide +kernel, rfl, by decide +kernel, by decide +kernel⟩
abbrev d__law_bag : He.DefD := ⟨("_law_bag", none), "_law_bag", "_law_bag", defArgs s__law_bag, defBody s__law_bag, defScope s__law_bag, [], []⟩
abbrev s__law_draw : Stmt := top 45
abbrev N__law_draw : List Str := ["bag", "size", "item", "digit", "mix"]
theorem sc__law_draw : FnScope N__law_draw ["bag", "size"] (defScope s__law_draw) := ⟨rfl, rfl, rfl, by decide +kernel, rfl, by decide +kernel, by decide +kernel⟩
abbrev d__law_draw : He.DefD := ⟨("_law_draw", none), "_law_draw", "_law_draw", defArgs s__law_draw, defBody s__law_draw, defScope s__law_draw, [], []⟩
abbrev s__law_of : Stmt := top 46
abbrev N__law_of : List Str := ["bag", "things"]
theorem sc__law_of : FnScope N__law_of ["bag", "things"] (defScope s__law_of) := ⟨rfl, rfl, rfl, by decide +kernel, rfl, by decide +kernel, by decide +kernel⟩
abbrev d__law_of : He.DefD := ⟨("_law_of", none), "_law_of", "_law_of", defArgs s__law_of, defBody s__law_of, defScope s__law_of, [], []⟩
abbrev s__law_digits : Stmt := top 47
abbrev N__law_digits : List Str := ["bag", "cap", "told", "k"]
theorem sc__law_digits : FnScope N__law_digits ["bag", "cap"] (defScope s__law_digits) := ⟨rfl, rfl, rfl, by decide +kernel, rfl, by decide +kernel, by decide +kernel⟩
abbrev d__law_digits : He.DefD := ⟨("_law_digits", none), "_law_digits", "_law_digits", defArgs s__law_digits, defBody s__law_digits, defScope s__law_digits, [], []⟩
abbrev s__law_int : Stmt := top 48
abbrev N__law_int : List Str := ["v"]
theorem sc__law_int : FnScope N__law_int ["v"] (defScope s__law_int) := ⟨rfl, rfl, rfl, by decide +kernel, rfl, by decide +kernel, by decide +kernel⟩
abbrev d__law_int : He.DefD := ⟨("_law_int", none), "_law_int", "_law_int", defArgs s__law_int, defBody s__law_int, defScope s__law_int, [], []⟩
abbrev s__law_like : Stmt := top 49
abbrev N__law_like : List Str := ["told", "due", "a", "b"]
theorem sc__law_like : FnScope N__law_like ["told", "due"] (defScope s__law_like) := ⟨rfl, rfl, rfl, by decide +kernel, rfl, by decide +kernel, by decide +kernel⟩
abbrev d__law_like : He.DefD := ⟨("_law_like", none), "_law_like", "_law_like", defArgs s__law_like, defBody s__law_like, defScope s__law_like, [], []⟩
abbrev s__law_exact : Stmt := top 50
abbrev N__law_exact : List Str := ["told", "due", "pair", "wanted", "a", "b"]
theorem sc__law_exact : FnScope N__law_exact ["told", "due"] (defScope s__law_exact) := ⟨rfl, rfl, rfl, by decide +kernel, rfl, by decide +kernel, by decide +kernel⟩
abbrev d__law_exact : He.DefD := ⟨("_law_exact", none), "_law_exact", "_law_exact", defArgs s__law_exact, defBody s__law_exact, defScope s__law_exact, [], []⟩
abbrev s__law_value : Stmt := top 51
abbrev N__law_value : List Str := ["bag", "deep", "pick", "some", "k", "told", "thing"]
theorem sc__law_value : FnScope N__law_value ["bag", "deep"] (defScope s__law_value) := ⟨rfl, rfl, rfl, by decide +kernel, rfl, by decide +kernel, by decide +kernel⟩
abbrev d__law_value : He.DefD := ⟨("_law_value", none), "_law_value", "_law_value", defArgs s__law_value, defBody s__law_value, defScope s__law_value, [], []⟩
abbrev s__law_is_name : Stmt := top 52
abbrev N__law_is_name : List Str := ["v", "c"]
theorem sc__law_is_name : FnScope N__law_is_name ["v"] (defScope s__law_is_name) := ⟨rfl, rfl, rfl, by decide +kernel, rfl, by decide +kernel, by decide +kernel⟩
abbrev d__law_is_name : He.DefD := ⟨("_law_is_name", none), "_law_is_name", "_law_is_name", defArgs s__law_is_name, defBody s__law_is_name, defScope s__law_is_name, [], []⟩
abbrev s__law_name : Stmt := top 53
abbrev N__law_name : List Str := ["bag", "taken", "mine", "k", "pool", "fresh"]
theorem sc__law_name : FnScope N__law_name ["bag", "taken"] (defScope s__law_name) := ⟨rfl, rfl, rfl, by decide +kernel, rfl, by decide +kernel, by decide +kernel⟩
abbrev d__law_name : He.DefD := ⟨("_law_name", none), "_law_name", "_law_name", defArgs s__law_name, defBody s__law_name, defScope s__law_name, [], []⟩
abbrev s__law_made : Stmt := top 54
abbrev N__law_made : List Str := ["pick", "by", "a", "b"]
theorem sc__law_made : FnScope N__law_made ["pick", "by", "a", "b"] (defScope s__law_made) := ⟨rfl, rfl, rfl, by decide +kernel, rfl, by decide +kernel, by decide +kernel⟩
abbrev d__law_made : He.DefD := ⟨("_law_made", none), "_law_made", "_law_made", defArgs s__law_made, defBody s__law_made, defScope s__law_made, [], []⟩
abbrev s__law_held : Stmt := top 55
abbrev N__law_held : List Str := ["pick", "err"]
theorem sc__law_held : FnScope N__law_held ["pick", "err"] (defScope s__law_held) := ⟨rfl, rfl, rfl, by decide +kernel, rfl, by decide +kernel, by decide +kernel⟩
abbrev d__law_held : He.DefD := ⟨("_law_held", none), "_law_held", "_law_held", defArgs s__law_held, defBody s__law_held, defScope s__law_held, [], []⟩
abbrev s__law_ranks : Stmt := top 56
abbrev N__law_ranks : List Str := ["err", "told"]
theorem sc__law_ranks : FnScope N__law_ranks ["err"] (defScope s__law_ranks) := ⟨rfl, rfl, rfl, by decide +kernel, rfl, by decide +kernel, by decide +kernel⟩
abbrev d__law_ranks : He.DefD := ⟨("_law_ranks", none), "_law_ranks", "_law_ranks", defArgs s__law_ranks, defBody s__law_ranks, defScope s__law_ranks, [], []⟩
abbrev s__law_bases : Stmt := top 57
abbrev N__law_bases : List Str := ["err", "told"]
theorem sc__law_bases : FnScope N__law_bases ["err"] (defScope s__law_bases) := ⟨rfl, rfl, rfl, by decide +kernel, rfl, by decide +kernel, by decide +kernel⟩
abbrev d__law_bases : He.DefD := ⟨("_law_bases", none), "_law_bases", "_law_bases", defArgs s__law_bases, defBody s__law_bases, defScope s__law_bases, [], []⟩
abbrev s__law_bases_due : Stmt := top 58
abbrev N__law_bases_due : List Str := ["pick", "missing", "ended", "own"]
theorem sc__law_bases_due : FnScope N__law_bases_due ["pick"] (defScope s__law_bases_due) := ⟨rfl, rfl, rfl, by decide +kernel, rfl, by decide +kernel, by decide +kernel⟩
abbrev d__law_bases_due : He.DefD := ⟨("_law_bases_due", none), "_law_bases_due", "_law_bases_due", defArgs s__law_bases_due, defBody s__law_bases_due, defScope s__law_bases_due, [], []⟩
abbrev s__law_error_so : Stmt := top 59
abbrev N__law_error_so : List Str := ["pick", "by", "a", "b", "codes", "err", "due", "k"]
theorem sc__law_error_so : FnScope N__law_error_so ["pick", "by", "a", "b"] (defScope s__law_error_so) := ⟨rfl, rfl, rfl, by decide +kernel, rfl, by decide +kernel, by decide +kernel⟩
abbrev d__law_error_so : He.DefD := ⟨("_law_error_so", none), "_law_error_so", "_law_error_so", defArgs s__law_error_so, defBody s__law_error_so, defScope s__law_error_so, [], []⟩
abbrev s__law_string : Stmt := top 60
abbrev N__law_string : List Str := ["bag", "menu", "told", "k"]
theorem sc__law_string : FnScope N__law_string ["bag"] (defScope s__law_string) := ⟨rfl, rfl, rfl, by decide +kernel, rfl, by decide +kernel, by decide +kernel⟩
abbrev d__law_string : He.DefD := ⟨("_law_string", none), "_law_string", "_law_string", defArgs s__law_string, defBody s__law_string, defScope s__law_string, [], []⟩
abbrev s__law_names_so : Stmt := top 61
abbrev N__law_names_so : List Str := ["bag", "k", "v", "told", "mine", "others"]
theorem sc__law_names_so : FnScope N__law_names_so ["bag"] (defScope s__law_names_so) := ⟨rfl, rfl, rfl, by decide +kernel, rfl, by decide +kernel, by decide +kernel⟩
abbrev d__law_names_so : He.DefD := ⟨("_law_names_so", none), "_law_names_so", "_law_names_so", defArgs s__law_names_so, defBody s__law_names_so, defScope s__law_names_so, [], []⟩
abbrev s__law_taken : Stmt := top 62
abbrev N__law_taken : List Str := ["bag", "gr", "strange", "num", "told", "e"]
theorem sc__law_taken : FnScope N__law_taken ["bag"] (defScope s__law_taken) := ⟨rfl, rfl, rfl, by decide +kernel, rfl, by decide +kernel, by decide +kernel⟩
abbrev d__law_taken : He.DefD := ⟨("_law_taken", none), "_law_taken", "_law_taken", defArgs s__law_taken, defBody s__law_taken, defScope s__law_taken, [], []⟩
abbrev s_law : Stmt := top 63
abbrev N_law : List Str := ["script", "bag", "pick", "a", "b"]
theorem sc_law : FnScope N_law ["script"] (defScope s_law) := ⟨rfl, rfl, rfl, by decide +kernel, rfl, by decide +kernel, by decide +kernel⟩
abbrev d_law : He.DefD := ⟨("law", none), "law", "law", defArgs s_law, defBody s_law, defScope s_law, [], []⟩
abbrev s_is_name : Stmt := top 31
abbrev N_is_name : List Str := ["value", "sign"]
theorem sc_is_name : FnScope N_is_name ["value"] (defScope s_is_name) := ⟨rfl, rfl, rfl, by decide +kernel, rfl, by decide +kernel, by decide +kernel⟩
abbrev d_is_name : He.DefD := ⟨("is_name", none), "is_name", "is_name", defArgs s_is_name, defBody s_is_name, defScope s_is_name, [], []⟩
abbrev s_are_names : Stmt := top 32
abbrev N_are_names : List Str := ["values", "value"]
theorem sc_are_names : FnScope N_are_names ["values"] (defScope s_are_names) := ⟨rfl, rfl, rfl, by decide +kernel, rfl, by decide +kernel, by decide +kernel⟩
abbrev d_are_names : He.DefD := ⟨("are_names", none), "are_names", "are_names", defArgs s_are_names, defBody s_are_names, defScope s_are_names, [], []⟩
abbrev s_Ground___init__ : Stmt := inClass (top 33) 0
abbrev N_Ground___init__ : List Str := ["self", "letters", "at", "letter"]
theorem sc_Ground___init__ : FnScope N_Ground___init__ ["self", "letters"] (defScope s_Ground___init__) := ⟨rfl, rfl, rfl, by decide +kernel, rfl, by decide +kernel, by decide +kernel⟩
abbrev d_Ground___init__ : He.DefD := ⟨("Ground", some "__init__"), "__init__", "Ground.__init__", defArgs s_Ground___init__, defBody s_Ground___init__, defScope s_Ground___init__, [], []⟩
abbrev s_Ground___contains__ : Stmt := inClass (top 33) 1
abbrev N_Ground___contains__ : List Str := ["self", "letter"]
theorem sc_Ground___contains__ : FnScope N_Ground___contains__ ["self", "letter"] (defScope s_Ground___contains__) := ⟨rfl, rfl, rfl, by decide +kernel, rfl, by decide +kernel, by decide +kernel⟩
abbrev d_Ground___contains__ : He.DefD := ⟨("Ground", some "__contains__"), "__contains__", "Ground.__contains__", defArgs s_Ground___contains__, defBody s_Ground___contains__, defScope s_Ground___contains__, [], []⟩
abbrev s_Ground_word_of : Stmt := inClass (top 33) 9
abbrev N_Ground_word_of : List Str := ["self", "letters", "letter"]
theorem sc_Ground_word_of : FnScope N_Ground_word_of ["self", "letters"] (defScope s_Ground_word_of) := ⟨rfl, rfl, rfl, by decide +kernel, rfl, by decide +kernel, by decide +kernel⟩
abbrev d_Ground_word_of : He.DefD := ⟨("Ground", some "word_of"), "word_of", "Ground.word_of", defArgs s_Ground_word_of, defBody s_Ground_word_of, defScope s_Ground_word_of, [], []⟩
abbrev s_is_whole : Stmt := top 37
abbrev N_is_whole : List Str := ["value"]
theorem sc_is_whole : FnScope N_is_whole ["value"] (defScope s_is_whole) := ⟨rfl, rfl, rfl, by decide +kernel, rfl, by decide +kernel, by decide +kernel⟩
abbrev d_is_whole : He.DefD := ⟨("is_whole", none), "is_whole", "is_whole", defArgs s_is_whole, defBody s_is_whole, defScope s_is_whole, [], []⟩
abbrev s_Ratio___init__ : Stmt := inClass (top 42) 0
abbrev N_Ratio___init__ : List Str := ["self", "top", "bottom", "common"]
theorem sc_Ratio___init__ : FnScope N_Ratio___init__ ["self", "top", "bottom"] (defScope s_Ratio___init__) := ⟨rfl, rfl, rfl, by decide +kernel, rfl, by decide +kernel, by decide +kernel⟩
abbrev d_Ratio___init__ : He.DefD := ⟨("Ratio", some "__init__"), "__init__", "Ratio.__init__", defArgs s_Ratio___init__, defBody s_Ratio___init__, defScope s_Ratio___init__, [.int (1)], []⟩
abbrev s_InvalidRatio___init__ : Stmt := inClass (top 5) 0
abbrev N_InvalidRatio___init__ : List Str := ["self", "value"]
theorem sc_InvalidRatio___init__ : FnScope N_InvalidRatio___init__ ["self", "value"] (defScope s_InvalidRatio___init__) := ⟨rfl, rfl, rfl, by decide +kernel, rfl, by decide +kernel, by decide +kernel⟩
abbrev d_InvalidRatio___init__ : He.DefD := ⟨("InvalidRatio", some "__init__"), "__init__", "InvalidRatio.__init__", defArgs s_InvalidRatio___init__, defBody s_InvalidRatio___init__, defScope s_InvalidRatio___init__, [], []⟩
abbrev s_InvalidGround___init__ : Stmt := inClass (top 6) 0
abbrev N_InvalidGround___init__ : List Str := ["self", "value"]
theorem sc_InvalidGround___init__ : FnScope N_InvalidGround___init__ ["self", "value"] (defScope s_InvalidGround___init__) := ⟨rfl, rfl, rfl, by decide +kernel, rfl, by decide +kernel, by decide +kernel⟩
abbrev d_InvalidGround___init__ : He.DefD := ⟨("InvalidGround", some "__init__"), "__init__", "InvalidGround.__init__", defArgs s_InvalidGround___init__, defBody s_InvalidGround___init__, defScope s_InvalidGround___init__, [], []⟩
abbrev s_BadWord___init__ : Stmt := inClass (top 7) 0
abbrev N_BadWord___init__ : List Str := ["self", "value"]
theorem sc_BadWord___init__ : FnScope N_BadWord___init__ ["self", "value"] (defScope s_BadWord___init__) := ⟨rfl, rfl, rfl, by decide +kernel, rfl, by decide +kernel, by decide +kernel⟩
abbrev d_BadWord___init__ : He.DefD := ⟨("BadWord", some "__init__"), "__init__", "BadWord.__init__", defArgs s_BadWord___init__, defBody s_BadWord___init__, defScope s_BadWord___init__, [], []⟩
abbrev s_BadSum___init__ : Stmt := inClass (top 8) 0
abbrev N_BadSum___init__ : List Str := ["self", "value"]
theorem sc_BadSum___init__ : FnScope N_BadSum___init__ ["self", "value"] (defScope s_BadSum___init__) := ⟨rfl, rfl, rfl, by decide +kernel, rfl, by decide +kernel, by decide +kernel⟩
abbrev d_BadSum___init__ : He.DefD := ⟨("BadSum", some "__init__"), "__init__", "BadSum.__init__", defArgs s_BadSum___init__, defBody s_BadSum___init__, defScope s_BadSum___init__, [], []⟩
abbrev s_BadStanding___init__ : Stmt := inClass (top 9) 0
abbrev N_BadStanding___init__ : List Str := ["self", "value"]
theorem sc_BadStanding___init__ : FnScope N_BadStanding___init__ ["self", "value"] (defScope s_BadStanding___init__) := ⟨rfl, rfl, rfl, by decide +kernel, rfl, by decide +kernel, by decide +kernel⟩
abbrev d_BadStanding___init__ : He.DefD := ⟨("BadStanding", some "__init__"), "__init__", "BadStanding.__init__", defArgs s_BadStanding___init__, defBody s_BadStanding___init__, defScope s_BadStanding___init__, [], []⟩
abbrev s_BadFlat___init__ : Stmt := inClass (top 11) 0
abbrev N_BadFlat___init__ : List Str := ["self", "value"]
theorem sc_BadFlat___init__ : FnScope N_BadFlat___init__ ["self", "value"] (defScope s_BadFlat___init__) := ⟨rfl, rfl, rfl, by decide +kernel, rfl, by decide +kernel, by decide +kernel⟩
abbrev d_BadFlat___init__ : He.DefD := ⟨("BadFlat", some "__init__"), "__init__", "BadFlat.__init__", defArgs s_BadFlat___init__, defBody s_BadFlat___init__, defScope s_BadFlat___init__, [], []⟩
abbrev s_BadClaim___init__ : Stmt := inClass (top 15) 0
abbrev N_BadClaim___init__ : List Str := ["self", "value"]
theorem sc_BadClaim___init__ : FnScope N_BadClaim___init__ ["self", "value"] (defScope s_BadClaim___init__) := ⟨rfl, rfl, rfl, by decide +kernel, rfl, by decide +kernel, by decide +kernel⟩
abbrev d_BadClaim___init__ : He.DefD := ⟨("BadClaim", some "__init__"), "__init__", "BadClaim.__init__", defArgs s_BadClaim___init__, defBody s_BadClaim___init__, defScope s_BadClaim___init__, [], []⟩
abbrev s_Unknown___init__ : Stmt := inClass (top 22) 0
abbrev N_Unknown___init__ : List Str := ["self", "value"]
theorem sc_Unknown___init__ : FnScope N_Unknown___init__ ["self", "value"] (defScope s_Unknown___init__) := ⟨rfl, rfl, rfl, by decide +kernel, rfl, by decide +kernel, by decide +kernel⟩
abbrev d_Unknown___init__ : He.DefD := ⟨("Unknown", some "__init__"), "__init__", "Unknown.__init__", defArgs s_Unknown___init__, defBody s_Unknown___init__, defScope s_Unknown___init__, [], []⟩
abbrev s_NotThere___init__ : Stmt := inClass (top 23) 0
abbrev N_NotThere___init__ : List Str := ["self", "value"]
theorem sc_NotThere___init__ : FnScope N_NotThere___init__ ["self", "value"] (defScope s_NotThere___init__) := ⟨rfl, rfl, rfl, by decide +kernel, rfl, by decide +kernel, by decide +kernel⟩
abbrev d_NotThere___init__ : He.DefD := ⟨("NotThere", some "__init__"), "__init__", "NotThere.__init__", defArgs s_NotThere___init__, defBody s_NotThere___init__, defScope s_NotThere___init__, [], []⟩
abbrev s_BadDevice___init__ : Stmt := inClass (top 10) 0
abbrev N_BadDevice___init__ : List Str := ["self", "line"]
theorem sc_BadDevice___init__ : FnScope N_BadDevice___init__ ["self", "line"] (defScope s_BadDevice___init__) := ⟨rfl, rfl, rfl, by decide +kernel, rfl, by decide +kernel, by decide +kernel⟩
abbrev d_BadDevice___init__ : He.DefD := ⟨("BadDevice", some "__init__"), "__init__", "BadDevice.__init__", defArgs s_BadDevice___init__, defBody s_BadDevice___init__, defScope s_BadDevice___init__, [], []⟩
abbrev s_BadForm___init__ : Stmt := inClass (top 16) 0
abbrev N_BadForm___init__ : List Str := ["self", "line"]
theorem sc_BadForm___init__ : FnScope N_BadForm___init__ ["self", "line"] (defScope s_BadForm___init__) := ⟨rfl, rfl, rfl, by decide +kernel, rfl, by decide +kernel, by decide +kernel⟩
abbrev d_BadForm___init__ : He.DefD := ⟨("BadForm", some "__init__"), "__init__", "BadForm.__init__", defArgs s_BadForm___init__, defBody s_BadForm___init__, defScope s_BadForm___init__, [], []⟩
abbrev s_BadBook___init__ : Stmt := inClass (top 18) 0
abbrev N_BadBook___init__ : List Str := ["self", "line"]
theorem sc_BadBook___init__ : FnScope N_BadBook___init__ ["self", "line"] (defScope s_BadBook___init__) := ⟨rfl, rfl, rfl, by decide +kernel, rfl, by decide +kernel, by decide +kernel⟩
abbrev d_BadBook___init__ : He.DefD := ⟨("BadBook", some "__init__"), "__init__", "BadBook.__init__", defArgs s_BadBook___init__, defBody s_BadBook___init__, defScope s_BadBook___init__, [], []⟩
abbrev s_BadScript___init__ : Stmt := inClass (top 21) 0
abbrev N_BadScript___init__ : List Str := ["self", "line"]
theorem sc_BadScript___init__ : FnScope N_BadScript___init__ ["self", "line"] (defScope s_BadScript___init__) := ⟨rfl, rfl, rfl, by decide +kernel, rfl, by decide +kernel, by decide +kernel⟩
abbrev d_BadScript___init__ : He.DefD := ⟨("BadScript", some "__init__"), "__init__", "BadScript.__init__", defArgs s_BadScript___init__, defBody s_BadScript___init__, defScope s_BadScript___init__, [], []⟩
abbrev s_BadPaper___init__ : Stmt := inClass (top 12) 0
abbrev N_BadPaper___init__ : List Str := ["self", "part"]
theorem sc_BadPaper___init__ : FnScope N_BadPaper___init__ ["self", "part"] (defScope s_BadPaper___init__) := ⟨rfl, rfl, rfl, by decide +kernel, rfl, by decide +kernel, by decide +kernel⟩
abbrev d_BadPaper___init__ : He.DefD := ⟨("BadPaper", some "__init__"), "__init__", "BadPaper.__init__", defArgs s_BadPaper___init__, defBody s_BadPaper___init__, defScope s_BadPaper___init__, [], []⟩
abbrev s_BadStep___init__ : Stmt := inClass (top 14) 0
abbrev N_BadStep___init__ : List Str := ["self", "at"]
theorem sc_BadStep___init__ : FnScope N_BadStep___init__ ["self", "at"] (defScope s_BadStep___init__) := ⟨rfl, rfl, rfl, by decide +kernel, rfl, by decide +kernel, by decide +kernel⟩
abbrev d_BadStep___init__ : He.DefD := ⟨("BadStep", some "__init__"), "__init__", "BadStep.__init__", defArgs s_BadStep___init__, defBody s_BadStep___init__, defScope s_BadStep___init__, [], []⟩
abbrev s_NotKept___init__ : Stmt := inClass (top 17) 0
abbrev N_NotKept___init__ : List Str := ["self", "condition", "where"]
theorem sc_NotKept___init__ : FnScope N_NotKept___init__ ["self", "condition", "where"] (defScope s_NotKept___init__) := ⟨rfl, rfl, rfl, by decide +kernel, rfl, by decide +kernel, by decide +kernel⟩
abbrev d_NotKept___init__ : He.DefD := ⟨("NotKept", some "__init__"), "__init__", "NotKept.__init__", defArgs s_NotKept___init__, defBody s_NotKept___init__, defScope s_NotKept___init__, [], []⟩
abbrev s_NotEnough___init__ : Stmt := inClass (top 19) 0
abbrev N_NotEnough___init__ : List Str := ["self", "fewest"]
theorem sc_NotEnough___init__ : FnScope N_NotEnough___init__ ["self", "fewest"] (defScope s_NotEnough___init__) := ⟨rfl, rfl, rfl, by decide +kernel, rfl, by decide +kernel, by decide +kernel⟩
abbrev d_NotEnough___init__ : He.DefD := ⟨("NotEnough", some "__init__"), "__init__", "NotEnough.__init__", defArgs s_NotEnough___init__, defBody s_NotEnough___init__, defScope s_NotEnough___init__, [], []⟩
abbrev s_Unlike___init__ : Stmt := inClass (top 20) 0
abbrev N_Unlike___init__ : List Str := ["self", "what"]
theorem sc_Unlike___init__ : FnScope N_Unlike___init__ ["self", "what"] (defScope s_Unlike___init__) := ⟨rfl, rfl, rfl, by decide +kernel, rfl, by decide +kernel, by decide +kernel⟩
abbrev d_Unlike___init__ : He.DefD := ⟨("Unlike", some "__init__"), "__init__", "Unlike.__init__", defArgs s_Unlike___init__, defBody s_Unlike___init__, defScope s_Unlike___init__, [], []⟩
abbrev s_BadRay___init__ : Stmt := inClass (top 13) 0
abbrev N_BadRay___init__ : List Str := ["self"]
theorem sc_BadRay___init__ : FnScope N_BadRay___init__ ["self"] (defScope s_BadRay___init__) := ⟨rfl, rfl, rfl, by decide +kernel, rfl, by decide +kernel, by decide +kernel⟩
abbrev d_BadRay___init__ : He.DefD := ⟨("BadRay", some "__init__"), "__init__", "BadRay.__init__", defArgs s_BadRay___init__, defBody s_BadRay___init__, defScope s_BadRay___init__, [], []⟩
abbrev s_Ended___init__ : Stmt := inClass (top 24) 0
abbrev N_Ended___init__ : List Str := ["self"]
theorem sc_Ended___init__ : FnScope N_Ended___init__ ["self"] (defScope s_Ended___init__) := ⟨rfl, rfl, rfl, by decide +kernel, rfl, by decide +kernel, by decide +kernel⟩
abbrev d_Ended___init__ : He.DefD := ⟨("Ended", some "__init__"), "__init__", "Ended.__init__", defArgs s_Ended___init__, defBody s_Ended___init__, defScope s_Ended___init__, [], []⟩
def faL0 : List He.Fa := [.free "len", .free "int", .free "list", .free "range", .free "isinstance", .free "bool", .free "str", .free "tuple", .free "dict", .free "all", .free "zip", .free "set", .free "enumerate", .free "ValueError", .free "LookupError", .free "RuntimeError", .free "KeyError", .free "IndexError", .free "ArithmeticError", .glo "_law_bag", .glo "_law_draw", .glo "_law_of", .glo "_law_digits", .glo "_law_int", .glo "_law_like", .glo "_law_exact", .glo "_law_value", .glo "_law_is_name", .glo "_law_name", .glo "_law_made"]
def faL1 : List He.Fa := [.glo "_law_held", .glo "_law_ranks", .glo "_law_bases", .glo "_law_bases_due", .glo "_law_error_so", .glo "_law_string", .glo "_law_names_so", .glo "_law_taken", .glo "law", .glo "is_name", .glo "are_names", .glo "is_whole", .glo "Ground", .glo "Ratio", .glo "CellsError", .glo "MissingError", .glo "NO_NAMES", .glo "InvalidRatio", .glo "InvalidGround", .glo "BadWord", .glo "BadSum", .glo "BadStanding", .glo "BadFlat", .glo "BadClaim", .glo "Unknown", .glo "NotThere", .glo "BadDevice", .glo "BadForm", .glo "BadBook", .glo "BadScript"]
def faL2 : List He.Fa := [.glo "BadPaper", .glo "BadStep", .glo "NotKept", .glo "NotEnough", .glo "Unlike", .glo "BadRay", .glo "Ended", .str "EMPTY" ".", .str "FIRST_SIGNS" "abcdefghijklmnopqrstuvwxyz", .str "SIGNS" "abcdefghijklmnopqrstuvwxyz0123456789", .int "MOST_SIGNS" (8), .cls "Ratio", .cls "Ground", .mkr "Ratio", .mkr "Ground", .meth "Ground" "__contains__", .meth "Ground" "word_of", .noat "Ratio" "top", .noat "Ratio" "bottom", .noat "Ground" "letters", .noat "Ground" "_ranks", .exm "Unknown" "MissingError" true, .exm "InvalidRatio" "CellsError" true, .meth "InvalidRatio" "__init__", .noat "InvalidRatio" "code", .noat "InvalidRatio" "value", .meth "InvalidGround" "__init__", .noat "InvalidGround" "code", .noat "InvalidGround" "value", .meth "BadWord" "__init__"]
def faL3 : List He.Fa := [.noat "BadWord" "code", .noat "BadWord" "value", .meth "BadSum" "__init__", .noat "BadSum" "code", .noat "BadSum" "value", .meth "BadStanding" "__init__", .noat "BadStanding" "code", .noat "BadStanding" "value", .meth "BadFlat" "__init__", .noat "BadFlat" "code", .noat "BadFlat" "value", .meth "BadClaim" "__init__", .noat "BadClaim" "code", .noat "BadClaim" "value", .meth "Unknown" "__init__", .noat "Unknown" "code", .noat "Unknown" "value", .meth "NotThere" "__init__", .noat "NotThere" "code", .noat "NotThere" "value", .meth "BadDevice" "__init__", .noat "BadDevice" "code", .noat "BadDevice" "line", .meth "BadForm" "__init__", .noat "BadForm" "code", .noat "BadForm" "line", .meth "BadBook" "__init__", .noat "BadBook" "code", .noat "BadBook" "line", .meth "BadScript" "__init__"]
def faL4 : List He.Fa := [.noat "BadScript" "code", .noat "BadScript" "line", .meth "BadPaper" "__init__", .noat "BadPaper" "code", .noat "BadPaper" "part", .meth "BadStep" "__init__", .noat "BadStep" "code", .noat "BadStep" "at", .meth "NotKept" "__init__", .noat "NotKept" "code", .noat "NotKept" "condition", .noat "NotKept" "where", .meth "NotEnough" "__init__", .noat "NotEnough" "code", .noat "NotEnough" "fewest", .meth "Unlike" "__init__", .noat "Unlike" "code", .noat "Unlike" "what", .meth "BadRay" "__init__", .noat "BadRay" "code", .meth "Ended" "__init__", .noat "Ended" "code"]
def faL : List He.Fa := faL0 ++ (faL1 ++ (faL2 ++ (faL3 ++ (faL4))))
def fnL0 : List He.DefD := [d__law_bag, d__law_draw, d__law_of, d__law_digits, d__law_int, d__law_like, d__law_exact, d__law_value, d__law_is_name, d__law_name, d__law_made, d__law_held, d__law_ranks, d__law_bases, d__law_bases_due, d__law_error_so, d__law_string, d__law_names_so, d__law_taken, d_law, d_is_name, d_are_names, d_Ground___init__, d_Ground___contains__, d_Ground_word_of, d_is_whole, d_Ratio___init__, d_InvalidRatio___init__, d_InvalidGround___init__, d_BadWord___init__]
def fnL1 : List He.DefD := [d_BadSum___init__, d_BadStanding___init__, d_BadFlat___init__, d_BadClaim___init__, d_Unknown___init__, d_NotThere___init__, d_BadDevice___init__, d_BadForm___init__, d_BadBook___init__, d_BadScript___init__, d_BadPaper___init__, d_BadStep___init__, d_NotKept___init__, d_NotEnough___init__, d_Unlike___init__, d_BadRay___init__, d_Ended___init__]
def fnL : List He.DefD := fnL0 ++ (fnL1)
def exN : List (Str × Nat) := [("InvalidRatio", 0), ("InvalidGround", 0), ("BadWord", 0), ("BadSum", 0), ("BadStanding", 0), ("BadFlat", 0), ("BadClaim", 0), ("Unknown", 1), ("NotThere", 1), ("BadDevice", 0), ("BadForm", 0), ("BadBook", 0), ("BadScript", 0), ("BadPaper", 0), ("BadStep", 0), ("NotKept", 0), ("NotEnough", 0), ("Unlike", 0), ("BadRay", 0), ("Ended", 2)]
def exBm : Nat → String × List Value
  | 0 => ("ValueError.__new__", [.type "ValueError", .type "Exception", .type "BaseException", .type "object"])
  | 1 => ("LookupError.__new__", [.type "LookupError", .type "Exception", .type "BaseException", .type "object"])
  | _ => ("RuntimeError.__new__", [.type "RuntimeError", .type "Exception", .type "BaseException", .type "object"])
def exOx (K : PySem.W.Frag) : Bool := exN.all fun p => oxB K (He.ga K p.1) (exBm p.2).1 (exBm p.2).2
def exRk (K : PySem.W.Frag) : Bool := exN.zipIdx.all fun p => exN.zipIdx.all fun q => PySem.W.kitOne K (.ref (He.ga K p.1.1)) (.ref (He.ga K q.1.1)) == some (decide (p.2 = q.2))
def exBs (K : PySem.W.Frag) : List Value := [.ref (He.ga K "CellsError"), .type "ValueError", .ref (He.ga K "MissingError"), .type "LookupError", .type "RuntimeError", .type "KeyError", .type "IndexError", .type "ArithmeticError"]
def exBd : Nat → List Bool
  | 0 => [true, true, false, false, false, false, false, false]
  | 1 => [false, false, true, true, false, false, false, false]
  | _ => [false, false, false, false, true, false, false, false]
def exBa (K : PySem.W.Frag) : Bool := exN.all fun p => ((exBs K).zip (exBd p.2)).all fun q => PySem.W.kitOne K (.ref (He.ga K p.1)) q.1 == some q.2
def exR (K : PySem.W.Frag) : Bool := ["NoneType", "bool", "int", "str", "list", "tuple", "dict"].all fun t => PySem.W.kitOne K (.type t) (.ref (He.ga K "Ratio")) == some false
def exR2 (K : PySem.W.Frag) : Bool := ["bool", "int", "str", "list", "tuple", "dict"].all fun t => PySem.W.kitOne K (.ref (He.ga K "Ratio")) (.type t) == some false
def exR3 (K : PySem.W.Frag) : Bool := (PySem.W.kitOne K (.ref (He.ga K "Ratio")) (.ref (He.ga K "Ratio")) == some true) && (PySem.W.findIn K (.ref (He.ga K "Ratio")) "__class__" == some (some (.builtin "object.__class__"))) && (PySem.W.specialIn K (.builtin "object.__class__") "__get__" == some (some (.builtin "getset_descriptor.__get__"))) &&
  (PySem.W.takesIn K (.builtin "object.__class__") == some true) && (PySem.W.mroIn K (He.ga K "Ratio") (.type "object") == some true)
def exNm (K : PySem.W.Frag) : Bool := He.tupB K "NO_NAMES" [.str "and", .str "or", .str "all", .str "none", .str "again", .str "any"]
def exG (K : PySem.W.Frag) : Bool := He.eqO (PySem.W.nsIn K mainGlobals "gcd") (some (some (.builtin "math.gcd")))
def exK (K : PySem.W.Frag) : Bool := exOx K && (exRk K && (exBa K && (exR K && (exR2 K && (exR3 K && (exNm K && exG K))))))
def exL (K : PySem.W.Frag) : Bool := exK K
abbrev TL (K : PySem.W.Frag) (mg : Str → Option Value) : Prop := Tx faL fnL exL K mg
section
variable {K : PySem.W.Frag} {mg : Str → Option Value}
theorem f_len (T : TL K mg) : mg "len" = none := T.free 0
theorem f_int (T : TL K mg) : mg "int" = none := T.free 1
theorem f_list (T : TL K mg) : mg "list" = none := T.free 2
theorem f_range (T : TL K mg) : mg "range" = none := T.free 3
theorem f_isinstance (T : TL K mg) : mg "isinstance" = none := T.free 4
theorem f_bool (T : TL K mg) : mg "bool" = none := T.free 5
theorem f_str (T : TL K mg) : mg "str" = none := T.free 6
theorem f_tuple (T : TL K mg) : mg "tuple" = none := T.free 7
theorem f_dict (T : TL K mg) : mg "dict" = none := T.free 8
theorem f_all (T : TL K mg) : mg "all" = none := T.free 9
theorem f_zip (T : TL K mg) : mg "zip" = none := T.free 10
theorem f_set (T : TL K mg) : mg "set" = none := T.free 11
theorem f_enumerate (T : TL K mg) : mg "enumerate" = none := T.free 12
theorem f_ValueError (T : TL K mg) : mg "ValueError" = none := T.free 13
theorem f_LookupError (T : TL K mg) : mg "LookupError" = none := T.free 14
theorem f_RuntimeError (T : TL K mg) : mg "RuntimeError" = none := T.free 15
theorem f_KeyError (T : TL K mg) : mg "KeyError" = none := T.free 16
theorem f_IndexError (T : TL K mg) : mg "IndexError" = none := T.free 17
theorem f_ArithmeticError (T : TL K mg) : mg "ArithmeticError" = none := T.free 18
theorem g__law_bag (T : TL K mg) : mg "_law_bag" = some (.ref (He.ga K "_law_bag")) := T.glo 19
theorem g__law_draw (T : TL K mg) : mg "_law_draw" = some (.ref (He.ga K "_law_draw")) := T.glo 20
theorem g__law_of (T : TL K mg) : mg "_law_of" = some (.ref (He.ga K "_law_of")) := T.glo 21
theorem g__law_digits (T : TL K mg) : mg "_law_digits" = some (.ref (He.ga K "_law_digits")) := T.glo 22
theorem g__law_int (T : TL K mg) : mg "_law_int" = some (.ref (He.ga K "_law_int")) := T.glo 23
theorem g__law_like (T : TL K mg) : mg "_law_like" = some (.ref (He.ga K "_law_like")) := T.glo 24
theorem g__law_exact (T : TL K mg) : mg "_law_exact" = some (.ref (He.ga K "_law_exact")) := T.glo 25
theorem g__law_value (T : TL K mg) : mg "_law_value" = some (.ref (He.ga K "_law_value")) := T.glo 26
theorem g__law_is_name (T : TL K mg) : mg "_law_is_name" = some (.ref (He.ga K "_law_is_name")) := T.glo 27
theorem g__law_name (T : TL K mg) : mg "_law_name" = some (.ref (He.ga K "_law_name")) := T.glo 28
theorem g__law_made (T : TL K mg) : mg "_law_made" = some (.ref (He.ga K "_law_made")) := T.glo 29
theorem g__law_held (T : TL K mg) : mg "_law_held" = some (.ref (He.ga K "_law_held")) := T.glo 30
theorem g__law_ranks (T : TL K mg) : mg "_law_ranks" = some (.ref (He.ga K "_law_ranks")) := T.glo 31
theorem g__law_bases (T : TL K mg) : mg "_law_bases" = some (.ref (He.ga K "_law_bases")) := T.glo 32
theorem g__law_bases_due (T : TL K mg) : mg "_law_bases_due" = some (.ref (He.ga K "_law_bases_due")) := T.glo 33
theorem g__law_error_so (T : TL K mg) : mg "_law_error_so" = some (.ref (He.ga K "_law_error_so")) := T.glo 34
theorem g__law_string (T : TL K mg) : mg "_law_string" = some (.ref (He.ga K "_law_string")) := T.glo 35
theorem g__law_names_so (T : TL K mg) : mg "_law_names_so" = some (.ref (He.ga K "_law_names_so")) := T.glo 36
theorem g__law_taken (T : TL K mg) : mg "_law_taken" = some (.ref (He.ga K "_law_taken")) := T.glo 37
theorem g_law (T : TL K mg) : mg "law" = some (.ref (He.ga K "law")) := T.glo 38
theorem g_is_name (T : TL K mg) : mg "is_name" = some (.ref (He.ga K "is_name")) := T.glo 39
theorem g_are_names (T : TL K mg) : mg "are_names" = some (.ref (He.ga K "are_names")) := T.glo 40
theorem g_is_whole (T : TL K mg) : mg "is_whole" = some (.ref (He.ga K "is_whole")) := T.glo 41
theorem g_Ground (T : TL K mg) : mg "Ground" = some (.ref (He.ga K "Ground")) := T.glo 42
theorem g_Ratio (T : TL K mg) : mg "Ratio" = some (.ref (He.ga K "Ratio")) := T.glo 43
theorem g_CellsError (T : TL K mg) : mg "CellsError" = some (.ref (He.ga K "CellsError")) := T.glo 44
theorem g_MissingError (T : TL K mg) : mg "MissingError" = some (.ref (He.ga K "MissingError")) := T.glo 45
theorem g_NO_NAMES (T : TL K mg) : mg "NO_NAMES" = some (.ref (He.ga K "NO_NAMES")) := T.glo 46
theorem g_InvalidRatio (T : TL K mg) : mg "InvalidRatio" = some (.ref (He.ga K "InvalidRatio")) := T.glo 47
theorem g_InvalidGround (T : TL K mg) : mg "InvalidGround" = some (.ref (He.ga K "InvalidGround")) := T.glo 48
theorem g_BadWord (T : TL K mg) : mg "BadWord" = some (.ref (He.ga K "BadWord")) := T.glo 49
theorem g_BadSum (T : TL K mg) : mg "BadSum" = some (.ref (He.ga K "BadSum")) := T.glo 50
theorem g_BadStanding (T : TL K mg) : mg "BadStanding" = some (.ref (He.ga K "BadStanding")) := T.glo 51
theorem g_BadFlat (T : TL K mg) : mg "BadFlat" = some (.ref (He.ga K "BadFlat")) := T.glo 52
theorem g_BadClaim (T : TL K mg) : mg "BadClaim" = some (.ref (He.ga K "BadClaim")) := T.glo 53
theorem g_Unknown (T : TL K mg) : mg "Unknown" = some (.ref (He.ga K "Unknown")) := T.glo 54
theorem g_NotThere (T : TL K mg) : mg "NotThere" = some (.ref (He.ga K "NotThere")) := T.glo 55
theorem g_BadDevice (T : TL K mg) : mg "BadDevice" = some (.ref (He.ga K "BadDevice")) := T.glo 56
theorem g_BadForm (T : TL K mg) : mg "BadForm" = some (.ref (He.ga K "BadForm")) := T.glo 57
theorem g_BadBook (T : TL K mg) : mg "BadBook" = some (.ref (He.ga K "BadBook")) := T.glo 58
theorem g_BadScript (T : TL K mg) : mg "BadScript" = some (.ref (He.ga K "BadScript")) := T.glo 59
theorem g_BadPaper (T : TL K mg) : mg "BadPaper" = some (.ref (He.ga K "BadPaper")) := T.glo 60
theorem g_BadStep (T : TL K mg) : mg "BadStep" = some (.ref (He.ga K "BadStep")) := T.glo 61
theorem g_NotKept (T : TL K mg) : mg "NotKept" = some (.ref (He.ga K "NotKept")) := T.glo 62
theorem g_NotEnough (T : TL K mg) : mg "NotEnough" = some (.ref (He.ga K "NotEnough")) := T.glo 63
theorem g_Unlike (T : TL K mg) : mg "Unlike" = some (.ref (He.ga K "Unlike")) := T.glo 64
theorem g_BadRay (T : TL K mg) : mg "BadRay" = some (.ref (He.ga K "BadRay")) := T.glo 65
theorem g_Ended (T : TL K mg) : mg "Ended" = some (.ref (He.ga K "Ended")) := T.glo 66
theorem c_EMPTY (T : TL K mg) : ∃ t, mg "EMPTY" = some (.str "." t) := T.str 67
theorem c_FIRST_SIGNS (T : TL K mg) : ∃ t, mg "FIRST_SIGNS" = some (.str "abcdefghijklmnopqrstuvwxyz" t) := T.str 68
theorem c_SIGNS (T : TL K mg) : ∃ t, mg "SIGNS" = some (.str "abcdefghijklmnopqrstuvwxyz0123456789" t) := T.str 69
theorem c_MOST_SIGNS (T : TL K mg) : ∃ t, mg "MOST_SIGNS" = some (.int (8) t) := T.int 70
theorem F__law_bag (T : TL K mg) : ∃ fd, FunD K d__law_bag.name d__law_bag.qual d__law_bag.params d__law_bag.body d__law_bag.scope (d__law_bag.dvs K) (d__law_bag.kws K) (He.fAd K d__law_bag.at_) fd := T.def_ 0 rfl
theorem F__law_draw (T : TL K mg) : ∃ fd, FunD K d__law_draw.name d__law_draw.qual d__law_draw.params d__law_draw.body d__law_draw.scope (d__law_draw.dvs K) (d__law_draw.kws K) (He.fAd K d__law_draw.at_) fd := T.def_ 1 rfl
theorem F__law_of (T : TL K mg) : ∃ fd, FunD K d__law_of.name d__law_of.qual d__law_of.params d__law_of.body d__law_of.scope (d__law_of.dvs K) (d__law_of.kws K) (He.fAd K d__law_of.at_) fd := T.def_ 2 rfl
theorem F__law_digits (T : TL K mg) : ∃ fd, FunD K d__law_digits.name d__law_digits.qual d__law_digits.params d__law_digits.body d__law_digits.scope (d__law_digits.dvs K) (d__law_digits.kws K) (He.fAd K d__law_digits.at_) fd := T.def_ 3 rfl
theorem F__law_int (T : TL K mg) : ∃ fd, FunD K d__law_int.name d__law_int.qual d__law_int.params d__law_int.body d__law_int.scope (d__law_int.dvs K) (d__law_int.kws K) (He.fAd K d__law_int.at_) fd := T.def_ 4 rfl
theorem F__law_like (T : TL K mg) : ∃ fd, FunD K d__law_like.name d__law_like.qual d__law_like.params d__law_like.body d__law_like.scope (d__law_like.dvs K) (d__law_like.kws K) (He.fAd K d__law_like.at_) fd := T.def_ 5 rfl
theorem F__law_exact (T : TL K mg) : ∃ fd, FunD K d__law_exact.name d__law_exact.qual d__law_exact.params d__law_exact.body d__law_exact.scope (d__law_exact.dvs K) (d__law_exact.kws K) (He.fAd K d__law_exact.at_) fd := T.def_ 6 rfl
theorem F__law_value (T : TL K mg) : ∃ fd, FunD K d__law_value.name d__law_value.qual d__law_value.params d__law_value.body d__law_value.scope (d__law_value.dvs K) (d__law_value.kws K) (He.fAd K d__law_value.at_) fd := T.def_ 7 rfl
theorem F__law_is_name (T : TL K mg) : ∃ fd, FunD K d__law_is_name.name d__law_is_name.qual d__law_is_name.params d__law_is_name.body d__law_is_name.scope (d__law_is_name.dvs K) (d__law_is_name.kws K) (He.fAd K d__law_is_name.at_) fd := T.def_ 8 rfl
theorem F__law_name (T : TL K mg) : ∃ fd, FunD K d__law_name.name d__law_name.qual d__law_name.params d__law_name.body d__law_name.scope (d__law_name.dvs K) (d__law_name.kws K) (He.fAd K d__law_name.at_) fd := T.def_ 9 rfl
theorem F__law_made (T : TL K mg) : ∃ fd, FunD K d__law_made.name d__law_made.qual d__law_made.params d__law_made.body d__law_made.scope (d__law_made.dvs K) (d__law_made.kws K) (He.fAd K d__law_made.at_) fd := T.def_ 10 rfl
theorem F__law_held (T : TL K mg) : ∃ fd, FunD K d__law_held.name d__law_held.qual d__law_held.params d__law_held.body d__law_held.scope (d__law_held.dvs K) (d__law_held.kws K) (He.fAd K d__law_held.at_) fd := T.def_ 11 rfl
theorem F__law_ranks (T : TL K mg) : ∃ fd, FunD K d__law_ranks.name d__law_ranks.qual d__law_ranks.params d__law_ranks.body d__law_ranks.scope (d__law_ranks.dvs K) (d__law_ranks.kws K) (He.fAd K d__law_ranks.at_) fd := T.def_ 12 rfl
theorem F__law_bases (T : TL K mg) : ∃ fd, FunD K d__law_bases.name d__law_bases.qual d__law_bases.params d__law_bases.body d__law_bases.scope (d__law_bases.dvs K) (d__law_bases.kws K) (He.fAd K d__law_bases.at_) fd := T.def_ 13 rfl
theorem F__law_bases_due (T : TL K mg) : ∃ fd, FunD K d__law_bases_due.name d__law_bases_due.qual d__law_bases_due.params d__law_bases_due.body d__law_bases_due.scope (d__law_bases_due.dvs K) (d__law_bases_due.kws K) (He.fAd K d__law_bases_due.at_) fd := T.def_ 14 rfl
theorem F__law_error_so (T : TL K mg) : ∃ fd, FunD K d__law_error_so.name d__law_error_so.qual d__law_error_so.params d__law_error_so.body d__law_error_so.scope (d__law_error_so.dvs K) (d__law_error_so.kws K) (He.fAd K d__law_error_so.at_) fd := T.def_ 15 rfl
theorem F__law_string (T : TL K mg) : ∃ fd, FunD K d__law_string.name d__law_string.qual d__law_string.params d__law_string.body d__law_string.scope (d__law_string.dvs K) (d__law_string.kws K) (He.fAd K d__law_string.at_) fd := T.def_ 16 rfl
theorem F__law_names_so (T : TL K mg) : ∃ fd, FunD K d__law_names_so.name d__law_names_so.qual d__law_names_so.params d__law_names_so.body d__law_names_so.scope (d__law_names_so.dvs K) (d__law_names_so.kws K) (He.fAd K d__law_names_so.at_) fd := T.def_ 17 rfl
theorem F__law_taken (T : TL K mg) : ∃ fd, FunD K d__law_taken.name d__law_taken.qual d__law_taken.params d__law_taken.body d__law_taken.scope (d__law_taken.dvs K) (d__law_taken.kws K) (He.fAd K d__law_taken.at_) fd := T.def_ 18 rfl
theorem F_law (T : TL K mg) : ∃ fd, FunD K d_law.name d_law.qual d_law.params d_law.body d_law.scope (d_law.dvs K) (d_law.kws K) (He.fAd K d_law.at_) fd := T.def_ 19 rfl
theorem F_is_name (T : TL K mg) : ∃ fd, FunD K d_is_name.name d_is_name.qual d_is_name.params d_is_name.body d_is_name.scope (d_is_name.dvs K) (d_is_name.kws K) (He.fAd K d_is_name.at_) fd := T.def_ 20 rfl
theorem F_are_names (T : TL K mg) : ∃ fd, FunD K d_are_names.name d_are_names.qual d_are_names.params d_are_names.body d_are_names.scope (d_are_names.dvs K) (d_are_names.kws K) (He.fAd K d_are_names.at_) fd := T.def_ 21 rfl
theorem F_Ground___init__ (T : TL K mg) : ∃ fd, FunD K d_Ground___init__.name d_Ground___init__.qual d_Ground___init__.params d_Ground___init__.body d_Ground___init__.scope (d_Ground___init__.dvs K) (d_Ground___init__.kws K) (He.fAd K d_Ground___init__.at_) fd := T.def_ 22 rfl
theorem F_Ground___contains__ (T : TL K mg) : ∃ fd, FunD K d_Ground___contains__.name d_Ground___contains__.qual d_Ground___contains__.params d_Ground___contains__.body d_Ground___contains__.scope (d_Ground___contains__.dvs K) (d_Ground___contains__.kws K) (He.fAd K d_Ground___contains__.at_) fd := T.def_ 23 rfl
theorem F_Ground_word_of (T : TL K mg) : ∃ fd, FunD K d_Ground_word_of.name d_Ground_word_of.qual d_Ground_word_of.params d_Ground_word_of.body d_Ground_word_of.scope (d_Ground_word_of.dvs K) (d_Ground_word_of.kws K) (He.fAd K d_Ground_word_of.at_) fd := T.def_ 24 rfl
theorem F_is_whole (T : TL K mg) : ∃ fd, FunD K d_is_whole.name d_is_whole.qual d_is_whole.params d_is_whole.body d_is_whole.scope (d_is_whole.dvs K) (d_is_whole.kws K) (He.fAd K d_is_whole.at_) fd := T.def_ 25 rfl
theorem F_Ratio___init__ (T : TL K mg) : ∃ fd, FunD K d_Ratio___init__.name d_Ratio___init__.qual d_Ratio___init__.params d_Ratio___init__.body d_Ratio___init__.scope (d_Ratio___init__.dvs K) (d_Ratio___init__.kws K) (He.fAd K d_Ratio___init__.at_) fd := T.def_ 26 rfl
theorem F_InvalidRatio___init__ (T : TL K mg) : ∃ fd, FunD K d_InvalidRatio___init__.name d_InvalidRatio___init__.qual d_InvalidRatio___init__.params d_InvalidRatio___init__.body d_InvalidRatio___init__.scope (d_InvalidRatio___init__.dvs K) (d_InvalidRatio___init__.kws K) (He.fAd K d_InvalidRatio___init__.at_) fd := T.def_ 27 rfl
theorem F_InvalidGround___init__ (T : TL K mg) : ∃ fd, FunD K d_InvalidGround___init__.name d_InvalidGround___init__.qual d_InvalidGround___init__.params d_InvalidGround___init__.body d_InvalidGround___init__.scope (d_InvalidGround___init__.dvs K) (d_InvalidGround___init__.kws K) (He.fAd K d_InvalidGround___init__.at_) fd := T.def_ 28 rfl
theorem F_BadWord___init__ (T : TL K mg) : ∃ fd, FunD K d_BadWord___init__.name d_BadWord___init__.qual d_BadWord___init__.params d_BadWord___init__.body d_BadWord___init__.scope (d_BadWord___init__.dvs K) (d_BadWord___init__.kws K) (He.fAd K d_BadWord___init__.at_) fd := T.def_ 29 rfl
theorem F_BadSum___init__ (T : TL K mg) : ∃ fd, FunD K d_BadSum___init__.name d_BadSum___init__.qual d_BadSum___init__.params d_BadSum___init__.body d_BadSum___init__.scope (d_BadSum___init__.dvs K) (d_BadSum___init__.kws K) (He.fAd K d_BadSum___init__.at_) fd := T.def_ 30 rfl
theorem F_BadStanding___init__ (T : TL K mg) : ∃ fd, FunD K d_BadStanding___init__.name d_BadStanding___init__.qual d_BadStanding___init__.params d_BadStanding___init__.body d_BadStanding___init__.scope (d_BadStanding___init__.dvs K) (d_BadStanding___init__.kws K) (He.fAd K d_BadStanding___init__.at_) fd := T.def_ 31 rfl
theorem F_BadFlat___init__ (T : TL K mg) : ∃ fd, FunD K d_BadFlat___init__.name d_BadFlat___init__.qual d_BadFlat___init__.params d_BadFlat___init__.body d_BadFlat___init__.scope (d_BadFlat___init__.dvs K) (d_BadFlat___init__.kws K) (He.fAd K d_BadFlat___init__.at_) fd := T.def_ 32 rfl
theorem F_BadClaim___init__ (T : TL K mg) : ∃ fd, FunD K d_BadClaim___init__.name d_BadClaim___init__.qual d_BadClaim___init__.params d_BadClaim___init__.body d_BadClaim___init__.scope (d_BadClaim___init__.dvs K) (d_BadClaim___init__.kws K) (He.fAd K d_BadClaim___init__.at_) fd := T.def_ 33 rfl
theorem F_Unknown___init__ (T : TL K mg) : ∃ fd, FunD K d_Unknown___init__.name d_Unknown___init__.qual d_Unknown___init__.params d_Unknown___init__.body d_Unknown___init__.scope (d_Unknown___init__.dvs K) (d_Unknown___init__.kws K) (He.fAd K d_Unknown___init__.at_) fd := T.def_ 34 rfl
theorem F_NotThere___init__ (T : TL K mg) : ∃ fd, FunD K d_NotThere___init__.name d_NotThere___init__.qual d_NotThere___init__.params d_NotThere___init__.body d_NotThere___init__.scope (d_NotThere___init__.dvs K) (d_NotThere___init__.kws K) (He.fAd K d_NotThere___init__.at_) fd := T.def_ 35 rfl
theorem F_BadDevice___init__ (T : TL K mg) : ∃ fd, FunD K d_BadDevice___init__.name d_BadDevice___init__.qual d_BadDevice___init__.params d_BadDevice___init__.body d_BadDevice___init__.scope (d_BadDevice___init__.dvs K) (d_BadDevice___init__.kws K) (He.fAd K d_BadDevice___init__.at_) fd := T.def_ 36 rfl
theorem F_BadForm___init__ (T : TL K mg) : ∃ fd, FunD K d_BadForm___init__.name d_BadForm___init__.qual d_BadForm___init__.params d_BadForm___init__.body d_BadForm___init__.scope (d_BadForm___init__.dvs K) (d_BadForm___init__.kws K) (He.fAd K d_BadForm___init__.at_) fd := T.def_ 37 rfl
theorem F_BadBook___init__ (T : TL K mg) : ∃ fd, FunD K d_BadBook___init__.name d_BadBook___init__.qual d_BadBook___init__.params d_BadBook___init__.body d_BadBook___init__.scope (d_BadBook___init__.dvs K) (d_BadBook___init__.kws K) (He.fAd K d_BadBook___init__.at_) fd := T.def_ 38 rfl
theorem F_BadScript___init__ (T : TL K mg) : ∃ fd, FunD K d_BadScript___init__.name d_BadScript___init__.qual d_BadScript___init__.params d_BadScript___init__.body d_BadScript___init__.scope (d_BadScript___init__.dvs K) (d_BadScript___init__.kws K) (He.fAd K d_BadScript___init__.at_) fd := T.def_ 39 rfl
theorem F_BadPaper___init__ (T : TL K mg) : ∃ fd, FunD K d_BadPaper___init__.name d_BadPaper___init__.qual d_BadPaper___init__.params d_BadPaper___init__.body d_BadPaper___init__.scope (d_BadPaper___init__.dvs K) (d_BadPaper___init__.kws K) (He.fAd K d_BadPaper___init__.at_) fd := T.def_ 40 rfl
theorem F_BadStep___init__ (T : TL K mg) : ∃ fd, FunD K d_BadStep___init__.name d_BadStep___init__.qual d_BadStep___init__.params d_BadStep___init__.body d_BadStep___init__.scope (d_BadStep___init__.dvs K) (d_BadStep___init__.kws K) (He.fAd K d_BadStep___init__.at_) fd := T.def_ 41 rfl
theorem F_NotKept___init__ (T : TL K mg) : ∃ fd, FunD K d_NotKept___init__.name d_NotKept___init__.qual d_NotKept___init__.params d_NotKept___init__.body d_NotKept___init__.scope (d_NotKept___init__.dvs K) (d_NotKept___init__.kws K) (He.fAd K d_NotKept___init__.at_) fd := T.def_ 42 rfl
theorem F_NotEnough___init__ (T : TL K mg) : ∃ fd, FunD K d_NotEnough___init__.name d_NotEnough___init__.qual d_NotEnough___init__.params d_NotEnough___init__.body d_NotEnough___init__.scope (d_NotEnough___init__.dvs K) (d_NotEnough___init__.kws K) (He.fAd K d_NotEnough___init__.at_) fd := T.def_ 43 rfl
theorem F_Unlike___init__ (T : TL K mg) : ∃ fd, FunD K d_Unlike___init__.name d_Unlike___init__.qual d_Unlike___init__.params d_Unlike___init__.body d_Unlike___init__.scope (d_Unlike___init__.dvs K) (d_Unlike___init__.kws K) (He.fAd K d_Unlike___init__.at_) fd := T.def_ 44 rfl
theorem F_BadRay___init__ (T : TL K mg) : ∃ fd, FunD K d_BadRay___init__.name d_BadRay___init__.qual d_BadRay___init__.params d_BadRay___init__.body d_BadRay___init__.scope (d_BadRay___init__.dvs K) (d_BadRay___init__.kws K) (He.fAd K d_BadRay___init__.at_) fd := T.def_ 45 rfl
theorem F_Ended___init__ (T : TL K mg) : ∃ fd, FunD K d_Ended___init__.name d_Ended___init__.qual d_Ended___init__.params d_Ended___init__.body d_Ended___init__.scope (d_Ended___init__.dvs K) (d_Ended___init__.kws K) (He.fAd K d_Ended___init__.at_) fd := T.def_ 46 rfl
theorem a_cls_Ratio (T : TL K mg) : He.Fa.ok K (.cls "Ratio") = true := T.fact 71 rfl
theorem a_cls_Ground (T : TL K mg) : He.Fa.ok K (.cls "Ground") = true := T.fact 72 rfl
theorem a_mkr_Ratio (T : TL K mg) : He.Fa.ok K (.mkr "Ratio") = true := T.fact 73 rfl
theorem a_mkr_Ground (T : TL K mg) : He.Fa.ok K (.mkr "Ground") = true := T.fact 74 rfl
theorem a_meth_Ground___contains__ (T : TL K mg) : He.Fa.ok K (.meth "Ground" "__contains__") = true := T.fact 75 rfl
theorem a_meth_Ground_word_of (T : TL K mg) : He.Fa.ok K (.meth "Ground" "word_of") = true := T.fact 76 rfl
theorem a_noat_Ratio_top (T : TL K mg) : He.Fa.ok K (.noat "Ratio" "top") = true := T.fact 77 rfl
theorem a_noat_Ratio_bottom (T : TL K mg) : He.Fa.ok K (.noat "Ratio" "bottom") = true := T.fact 78 rfl
theorem a_noat_Ground_letters (T : TL K mg) : He.Fa.ok K (.noat "Ground" "letters") = true := T.fact 79 rfl
theorem a_noat_Ground__ranks (T : TL K mg) : He.Fa.ok K (.noat "Ground" "_ranks") = true := T.fact 80 rfl
theorem a_exm_Unknown_MissingError_true (T : TL K mg) : He.Fa.ok K (.exm "Unknown" "MissingError" true) = true := T.fact 81 rfl
theorem a_exm_InvalidRatio_CellsError_true (T : TL K mg) : He.Fa.ok K (.exm "InvalidRatio" "CellsError" true) = true := T.fact 82 rfl
theorem a_meth_InvalidRatio___init__ (T : TL K mg) : He.Fa.ok K (.meth "InvalidRatio" "__init__") = true := T.fact 83 rfl
theorem a_noat_InvalidRatio_code (T : TL K mg) : He.Fa.ok K (.noat "InvalidRatio" "code") = true := T.fact 84 rfl
theorem a_noat_InvalidRatio_value (T : TL K mg) : He.Fa.ok K (.noat "InvalidRatio" "value") = true := T.fact 85 rfl
theorem a_meth_InvalidGround___init__ (T : TL K mg) : He.Fa.ok K (.meth "InvalidGround" "__init__") = true := T.fact 86 rfl
theorem a_noat_InvalidGround_code (T : TL K mg) : He.Fa.ok K (.noat "InvalidGround" "code") = true := T.fact 87 rfl
theorem a_noat_InvalidGround_value (T : TL K mg) : He.Fa.ok K (.noat "InvalidGround" "value") = true := T.fact 88 rfl
theorem a_meth_BadWord___init__ (T : TL K mg) : He.Fa.ok K (.meth "BadWord" "__init__") = true := T.fact 89 rfl
theorem a_noat_BadWord_code (T : TL K mg) : He.Fa.ok K (.noat "BadWord" "code") = true := T.fact 90 rfl
theorem a_noat_BadWord_value (T : TL K mg) : He.Fa.ok K (.noat "BadWord" "value") = true := T.fact 91 rfl
theorem a_meth_BadSum___init__ (T : TL K mg) : He.Fa.ok K (.meth "BadSum" "__init__") = true := T.fact 92 rfl
theorem a_noat_BadSum_code (T : TL K mg) : He.Fa.ok K (.noat "BadSum" "code") = true := T.fact 93 rfl
theorem a_noat_BadSum_value (T : TL K mg) : He.Fa.ok K (.noat "BadSum" "value") = true := T.fact 94 rfl
theorem a_meth_BadStanding___init__ (T : TL K mg) : He.Fa.ok K (.meth "BadStanding" "__init__") = true := T.fact 95 rfl
theorem a_noat_BadStanding_code (T : TL K mg) : He.Fa.ok K (.noat "BadStanding" "code") = true := T.fact 96 rfl
theorem a_noat_BadStanding_value (T : TL K mg) : He.Fa.ok K (.noat "BadStanding" "value") = true := T.fact 97 rfl
theorem a_meth_BadFlat___init__ (T : TL K mg) : He.Fa.ok K (.meth "BadFlat" "__init__") = true := T.fact 98 rfl
theorem a_noat_BadFlat_code (T : TL K mg) : He.Fa.ok K (.noat "BadFlat" "code") = true := T.fact 99 rfl
theorem a_noat_BadFlat_value (T : TL K mg) : He.Fa.ok K (.noat "BadFlat" "value") = true := T.fact 100 rfl
theorem a_meth_BadClaim___init__ (T : TL K mg) : He.Fa.ok K (.meth "BadClaim" "__init__") = true := T.fact 101 rfl
theorem a_noat_BadClaim_code (T : TL K mg) : He.Fa.ok K (.noat "BadClaim" "code") = true := T.fact 102 rfl
theorem a_noat_BadClaim_value (T : TL K mg) : He.Fa.ok K (.noat "BadClaim" "value") = true := T.fact 103 rfl
theorem a_meth_Unknown___init__ (T : TL K mg) : He.Fa.ok K (.meth "Unknown" "__init__") = true := T.fact 104 rfl
theorem a_noat_Unknown_code (T : TL K mg) : He.Fa.ok K (.noat "Unknown" "code") = true := T.fact 105 rfl
theorem a_noat_Unknown_value (T : TL K mg) : He.Fa.ok K (.noat "Unknown" "value") = true := T.fact 106 rfl
theorem a_meth_NotThere___init__ (T : TL K mg) : He.Fa.ok K (.meth "NotThere" "__init__") = true := T.fact 107 rfl
theorem a_noat_NotThere_code (T : TL K mg) : He.Fa.ok K (.noat "NotThere" "code") = true := T.fact 108 rfl
theorem a_noat_NotThere_value (T : TL K mg) : He.Fa.ok K (.noat "NotThere" "value") = true := T.fact 109 rfl
theorem a_meth_BadDevice___init__ (T : TL K mg) : He.Fa.ok K (.meth "BadDevice" "__init__") = true := T.fact 110 rfl
theorem a_noat_BadDevice_code (T : TL K mg) : He.Fa.ok K (.noat "BadDevice" "code") = true := T.fact 111 rfl
theorem a_noat_BadDevice_line (T : TL K mg) : He.Fa.ok K (.noat "BadDevice" "line") = true := T.fact 112 rfl
theorem a_meth_BadForm___init__ (T : TL K mg) : He.Fa.ok K (.meth "BadForm" "__init__") = true := T.fact 113 rfl
theorem a_noat_BadForm_code (T : TL K mg) : He.Fa.ok K (.noat "BadForm" "code") = true := T.fact 114 rfl
theorem a_noat_BadForm_line (T : TL K mg) : He.Fa.ok K (.noat "BadForm" "line") = true := T.fact 115 rfl
theorem a_meth_BadBook___init__ (T : TL K mg) : He.Fa.ok K (.meth "BadBook" "__init__") = true := T.fact 116 rfl
theorem a_noat_BadBook_code (T : TL K mg) : He.Fa.ok K (.noat "BadBook" "code") = true := T.fact 117 rfl
theorem a_noat_BadBook_line (T : TL K mg) : He.Fa.ok K (.noat "BadBook" "line") = true := T.fact 118 rfl
theorem a_meth_BadScript___init__ (T : TL K mg) : He.Fa.ok K (.meth "BadScript" "__init__") = true := T.fact 119 rfl
theorem a_noat_BadScript_code (T : TL K mg) : He.Fa.ok K (.noat "BadScript" "code") = true := T.fact 120 rfl
theorem a_noat_BadScript_line (T : TL K mg) : He.Fa.ok K (.noat "BadScript" "line") = true := T.fact 121 rfl
theorem a_meth_BadPaper___init__ (T : TL K mg) : He.Fa.ok K (.meth "BadPaper" "__init__") = true := T.fact 122 rfl
theorem a_noat_BadPaper_code (T : TL K mg) : He.Fa.ok K (.noat "BadPaper" "code") = true := T.fact 123 rfl
theorem a_noat_BadPaper_part (T : TL K mg) : He.Fa.ok K (.noat "BadPaper" "part") = true := T.fact 124 rfl
theorem a_meth_BadStep___init__ (T : TL K mg) : He.Fa.ok K (.meth "BadStep" "__init__") = true := T.fact 125 rfl
theorem a_noat_BadStep_code (T : TL K mg) : He.Fa.ok K (.noat "BadStep" "code") = true := T.fact 126 rfl
theorem a_noat_BadStep_at (T : TL K mg) : He.Fa.ok K (.noat "BadStep" "at") = true := T.fact 127 rfl
theorem a_meth_NotKept___init__ (T : TL K mg) : He.Fa.ok K (.meth "NotKept" "__init__") = true := T.fact 128 rfl
theorem a_noat_NotKept_code (T : TL K mg) : He.Fa.ok K (.noat "NotKept" "code") = true := T.fact 129 rfl
theorem a_noat_NotKept_condition (T : TL K mg) : He.Fa.ok K (.noat "NotKept" "condition") = true := T.fact 130 rfl
theorem a_noat_NotKept_where (T : TL K mg) : He.Fa.ok K (.noat "NotKept" "where") = true := T.fact 131 rfl
theorem a_meth_NotEnough___init__ (T : TL K mg) : He.Fa.ok K (.meth "NotEnough" "__init__") = true := T.fact 132 rfl
theorem a_noat_NotEnough_code (T : TL K mg) : He.Fa.ok K (.noat "NotEnough" "code") = true := T.fact 133 rfl
theorem a_noat_NotEnough_fewest (T : TL K mg) : He.Fa.ok K (.noat "NotEnough" "fewest") = true := T.fact 134 rfl
theorem a_meth_Unlike___init__ (T : TL K mg) : He.Fa.ok K (.meth "Unlike" "__init__") = true := T.fact 135 rfl
theorem a_noat_Unlike_code (T : TL K mg) : He.Fa.ok K (.noat "Unlike" "code") = true := T.fact 136 rfl
theorem a_noat_Unlike_what (T : TL K mg) : He.Fa.ok K (.noat "Unlike" "what") = true := T.fact 137 rfl
theorem a_meth_BadRay___init__ (T : TL K mg) : He.Fa.ok K (.meth "BadRay" "__init__") = true := T.fact 138 rfl
theorem a_noat_BadRay_code (T : TL K mg) : He.Fa.ok K (.noat "BadRay" "code") = true := T.fact 139 rfl
theorem a_meth_Ended___init__ (T : TL K mg) : He.Fa.ok K (.meth "Ended" "__init__") = true := T.fact 140 rfl
theorem a_noat_Ended_code (T : TL K mg) : He.Fa.ok K (.noat "Ended" "code") = true := T.fact 141 rfl
end
end K00
end -- a0
section -- h0
set_option Elab.async false
set_option linter.all false
set_option maxRecDepth 100000
set_option maxHeartbeats 0
namespace K00
open PySem PySem.Spec PyProof.Rows L2
abbrev RR : PySem.W.OpenRow := PySem.W.OpenLaw.row PySem.Challenge.rw_fewestcells_k00_errors_and_names_judged
abbrev QV : Program := PySem.W.view RR.prog [63]
def looseL0 : List PySem.Str := ["gcd", "_wall", "CellsError", "MissingError", "InvalidRatio", "InvalidGround", "BadWord", "BadSum", "BadStanding", "BadDevice", "BadFlat", "BadPaper", "BadRay", "BadStep", "BadClaim", "BadForm", "NotKept", "BadBook", "NotEnough", "Unlike", "BadScript", "Unknown", "NotThere", "Ended", "EMPTY", "NO_NAMES", "FIRST_SIGNS", "SIGNS", "MOST_SIGNS", "is_name"]
def looseL1 : List PySem.Str := ["are_names", "Ground", "DIGITS", "MOST_DIGITS", "is_whole", "is_number", "parts_of", "read_whole", "read_number", "Ratio", "_law_bag", "_law_draw", "_law_of", "_law_digits", "_law_int", "_law_like", "_law_exact", "_law_value", "_law_is_name", "_law_name", "_law_made", "_law_held", "_law_ranks", "_law_bases", "_law_bases_due", "_law_error_so", "_law_string", "_law_names_so", "_law_taken"]
def looseL : List PySem.Str := looseL0 ++ (looseL1)
def asL : List Addr := [3, 6, 4, 49, 59, 72, 92, 111, 130, 149, 168, 187, 206, 225, 244, 263, 282, 301, 320, 339, 358, 377, 396, 415, 434, 453, 457, 464, 471, 580, 591, 598, 605, 612, 619, 717, 728, 735, 742, 749, 756, 761, 766, 771, 776, 781, 788, 795, 802, 809, 816, 821, 828, 833, 840, 847, 0, 48, 58, 71, 91, 110, 129, 148, 167, 186, 205, 224, 243, 262, 281, 300, 319, 338, 357, 376, 395, 414, 433, 452, 463, 470, 579, 590, 597, 604, 611, 618, 716, 727, 734, 741, 748, 755, 760, 765, 770, 775, 780, 787, 794, 801, 808, 815, 820, 827, 832, 839, 846, 43, 44, 45, 46, 47, 57, 60, 70, 73, 89, 90, 108, 109, 127, 128, 146, 147, 165, 166, 184, 185, 203, 204, 222, 223, 241, 242, 260, 261, 279, 280, 298, 299, 317, 318, 336, 337, 355, 356, 374, 375, 393, 394, 412, 413, 431, 432, 450, 451, 454, 458, 459, 460, 461, 462, 465, 466, 467, 468, 469, 483, 490, 497, 504, 511, 518, 527, 535, 542, 549, 556, 563, 570, 577, 578, 581, 582, 585, 586, 587, 588, 589, 592, 593, 594, 595, 596, 599, 600, 601, 602, 603, 606, 607, 608, 609, 610, 613, 614, 615, 616, 617, 634, 641, 648, 655, 662, 669, 676, 683, 690, 697, 704, 713, 715, 718, 719, 722, 723, 724, 725, 726, 729, 730, 731, 732, 733, 736, 737, 738, 739, 740, 743, 744, 745, 746, 747, 750, 751, 752, 753, 754, 757, 758, 759, 762, 763, 764, 767, 768, 769, 772, 773, 774, 777, 778, 779, 782, 783, 784, 785, 786, 789, 790, 791, 792, 793, 796, 797, 798, 799, 800, 803, 804, 805, 806, 807, 810, 811, 812, 813, 814, 817, 818, 819, 822, 823, 824, 825, 826, 829, 830, 831, 834, 835, 836, 837, 838, 841, 842, 843, 844, 845, 88, 107, 126, 145, 164, 183, 202, 221, 240, 259, 278, 297, 316, 335, 354, 373, 392, 411, 430, 449, 482, 489, 496, 503, 510, 517, 525, 526, 534, 541, 548, 555, 562, 569, 576, 633, 627, 640, 647, 654, 661, 668, 675, 682, 689, 696, 703, 711, 712, 83, 84, 85, 86, 87, 102, 103, 104, 105, 106, 121, 122, 123, 124, 125, 140, 141, 142, 143, 144, 159, 160, 161, 162, 163, 178, 179, 180, 181, 182, 197, 198, 199, 200, 201, 216, 217, 218, 219, 220, 235, 236, 237, 238, 239, 254, 255, 256, 257, 258, 273, 274, 275, 276, 277, 292, 293, 294, 295, 296, 311, 312, 313, 314, 315, 330, 331, 332, 333, 334, 349, 350, 351, 352, 353, 368, 369, 370, 371, 372, 387, 388, 389, 390, 391, 406, 407, 408, 409, 410, 425, 426, 427, 428, 429, 444, 445, 446, 447, 448, 479, 480, 481, 484, 485, 486, 487, 488, 491, 492, 493, 494, 495, 498, 499, 500, 501, 502, 505, 506, 507, 508, 509, 512, 513, 514, 515, 516, 524, 528, 529, 530, 531, 532, 533, 536, 537, 538, 539, 540, 543, 544, 545, 546, 547, 550, 551, 552, 553, 554, 557, 558, 559, 560, 561, 564, 565, 566, 567, 568, 571, 572, 573, 574, 575, 628, 629, 630, 631, 632, 635, 636, 637, 638, 639, 642, 643, 644, 645, 646, 649, 650, 651, 652, 653, 656, 657, 658, 659, 660, 663, 664, 665, 666, 667, 670, 671, 672, 673, 674, 677, 678, 679, 680, 681, 684, 685, 686, 687, 688, 691, 692, 693, 694, 695, 698, 699, 700, 701, 702, 710, 714]
abbrev HK : PySem.W.Hook := hookN asL faL fnL exL
def obL (s : PySem.W.SharedT) : AlN := obsN asL faL fnL exL (HandSHeadRun.getT s)
theorem obL_eq (s : PySem.W.SharedT) : obL s = HK.obs s.abs := obsN_eq (HandSHeadRun.getT_eq s)
theorem runL (w : World) : HandSHeadRun.RunEqI RR QV HK obL 12000 looseL w := by
  unfold HandSHeadRun.RunEqI
  kernel_rfl
end K00
end -- h0
section -- FwMore
set_option Elab.async false
set_option linter.all false
set_option maxRecDepth 100000
set_option maxHeartbeats 4000000
/-! FwMore: comprehensions over zip, len of all that is tracked. -/
namespace L2
open PySem PySem.Spec PyProof.Rows RZ
/-- what one turn of a list comprehension over zip must do -/
def ZStep (g : TG) (tt : TT) (te : TE) (vs : List Nat) (σ : St) (D : Addr) (xs ys : List V) (Pv : Nat → Hp → Prop) : Prop :=
  ∀ (i : Nat) (x y : V) (T : Addr) (H H' : Hp), xs[i]? = some x → ys[i]? = some y → Pv i H → H T = none → H' T = some (.tup [x, y]) → Same H H' → g (.ref T) (wipe σ vs) H' fun σ2 H2 => wipe σ2 vs = wipe σ vs ∧ tt σ2 H2 fun b H3 =>
    if b = true then te σ2 H3 fun z H4 => ∃ acc, H4 D = some (.lst acc) ∧ acc.length < sizeLine ∧ Pv (i + 1) (upd H4 D (.lst (acc ++ [z]))) else Pv (i + 1) H3
theorem lc_zipL {K : PySem.W.Frag} {a b : Addr} {xs ys : List V} {g : TG} {tt : TT} {te : TE} {vs : List Nat} {σ : St} {H1 : Hp} {D : Addr} {Qd : Hp → Prop} (hl : xs.length = ys.length) (Pv : Nat → Hp → Prop) (h0 : Pv 0 (upd H1 D (.lst [])))
    (hq : ∀ i H, Pv i H → SqL K H a xs ∧ SqL K H b ys) (hs : ZStep g tt te vs σ D xs ys Pv) (hd : ∀ H, Pv xs.length H → Qd H) : ∃ W : Nat → Nat → Hp → Prop, (∃ m, W 0 m (upd H1 D (.lst []))) ∧ ∀ i m H, W i m H →
      ((Itz K a b).stop i H ∧ Qd H) ∨ ((Itz K a b).go i H ∧ ∃ Nx : Hp → Prop, (∀ H', Nx H' → ∃ m', m' < m ∧ W (i + 1) m' H') ∧ ∀ x H', (Itz K a b).yld i H x H' → g x (wipe σ vs) H' fun σ2 H2 => wipe σ2 vs = wipe σ vs ∧ tt σ2 H2 fun b H3 =>
        if b = true then te σ2 H3 fun y H4 => ∃ acc, H4 D = some (.lst acc) ∧ acc.length < sizeLine ∧ Nx (upd H4 D (.lst (acc ++ [y]))) else Nx H3) := by
  refine ⟨fun i m H => m = xs.length - i ∧ i ≤ xs.length ∧ Pv i H, ⟨xs.length, rfl, Nat.zero_le _, h0⟩, ?_⟩
  rintro i m H ⟨rfl, hi, p⟩
  obtain ⟨qx, qy⟩ := hq i H p
  by_cases hlt : i < xs.length
  · have hlt2 : i < ys.length := hl ▸ hlt
    refine .inr ⟨⟨xs, ys, xs[i], ys[i], qx, qy, List.getElem?_eq_getElem hlt, List.getElem?_eq_getElem hlt2⟩, Pv (i + 1), fun H' p' => ⟨xs.length - (i + 1), by omega, rfl, hlt, p'⟩, ?_⟩
    rintro v H' ⟨T, x', y', rfl, hT, rfl, f1, f2⟩
    exact hs i x' y' T H _ (f1 xs qx) (f2 ys qy) p hT upd_same (Same.new hT)
  · obtain rfl : i = xs.length := by omega
    exact .inl ⟨⟨xs, ys, qx, qy, Or.inl (Nat.le_refl _)⟩, hd H p⟩
theorem lc_zipT {K : PySem.W.Frag} {a b : Addr} {xs ys : List V} {g : TG} {tt : TT} {te : TE} {vs : List Nat} {σ : St} {H1 : Hp} {D : Addr} {Qd : Hp → Prop} (hl : xs.length = ys.length) (Pv : Nat → Hp → Prop) (h0 : Pv 0 (upd H1 D (.lst [])))
    (hq : ∀ i H, Pv i H → SqT K H a xs ∧ SqT K H b ys) (hs : ZStep g tt te vs σ D xs ys Pv) (hd : ∀ H, Pv xs.length H → Qd H) : ∃ W : Nat → Nat → Hp → Prop, (∃ m, W 0 m (upd H1 D (.lst []))) ∧ ∀ i m H, W i m H →
      ((ItzT K a b).stop i H ∧ Qd H) ∨ ((ItzT K a b).go i H ∧ ∃ Nx : Hp → Prop, (∀ H', Nx H' → ∃ m', m' < m ∧ W (i + 1) m' H') ∧ ∀ x H', (ItzT K a b).yld i H x H' → g x (wipe σ vs) H' fun σ2 H2 => wipe σ2 vs = wipe σ vs ∧ tt σ2 H2 fun b H3 =>
        if b = true then te σ2 H3 fun y H4 => ∃ acc, H4 D = some (.lst acc) ∧ acc.length < sizeLine ∧ Nx (upd H4 D (.lst (acc ++ [y]))) else Nx H3) := by
  refine ⟨fun i m H => m = xs.length - i ∧ i ≤ xs.length ∧ Pv i H, ⟨xs.length, rfl, Nat.zero_le _, h0⟩, ?_⟩
  rintro i m H ⟨rfl, hi, p⟩
  obtain ⟨qx, qy⟩ := hq i H p
  by_cases hlt : i < xs.length
  · have hlt2 : i < ys.length := hl ▸ hlt
    refine .inr ⟨⟨xs, ys, xs[i], ys[i], qx, qy, List.getElem?_eq_getElem hlt, List.getElem?_eq_getElem hlt2⟩, Pv (i + 1), fun H' p' => ⟨xs.length - (i + 1), by omega, rfl, hlt, p'⟩, ?_⟩
    rintro v H' ⟨T, x', y', rfl, hT, rfl, f1, f2⟩
    exact hs i x' y' T H _ (f1 xs qx) (f2 ys qy) p hT upd_same (Same.new hT)
  · obtain rfl : i = xs.length := by omega
    exact .inl ⟨⟨xs, ys, qx, qy, Or.inl (Nat.le_refl _)⟩, hd H p⟩
theorem call_listK {X : Cx} {K : PySem.W.Frag} (h : X.K = K) : CallR X (.type "list") (rListG K) := h ▸ call_listG
/-- len of a text, of a list, a tuple, a mixed dict -/
@[irreducible] def rLenGN (K : PySem.W.Frag) (w : World) : List V → Hp → VK → Prop := fun xs H Q => rLenG K xs H Q ∨ rLenN w xs H Q
theorem call_lenGN {X : Cx} : CallR X (.builtin "len") (rLenGN X.K X.w) := by
  intro pins s σ H xs us Q I r h
  unfold rLenGN at h
  rcases h with h | h
  · exact call_lenG pins s σ H xs us Q I r h
  · exact call_lenN pins s σ H xs us Q I r h
theorem st_lenGR {K : PySem.W.Frag} {w : World} {p : Addr} {n : Nat} {H : Hp} {Q : VK} (h : LenR K H p n) (q : Q (.int n) H) : rLenGN K w [.ref p] H Q := by unfold rLenGN; exact .inl (st_lenR h q)
theorem st_lenGN {K : PySem.W.Frag} {w : World} {p : Addr} {kvs : List NKV} {H : Hp} {Q : VK} (h : H p = some (dN w p kvs)) (l : kvs.length ≤ 1000) (q : Q (.int kvs.length) H) : rLenGN K w [.ref p] H Q := by unfold rLenGN; exact .inr ⟨kvs, h, l, q⟩
end L2
end -- FwMore
section -- FwStr
set_option Elab.async false
set_option linter.all false
set_option maxRecDepth 100000
set_option maxHeartbeats 4000000
/-! FwStr: loops and comprehensions over a text; a def called by one keyword. -/
namespace L2
open PySem PySem.Spec PyProof.Rows
theorem for_strL {z : Str} {g : TG} {tb : TS} {D : Ends} {σ : St} {H : Hp} (Pv : Nat → St → Hp → Prop) (h0 : Pv 0 σ H)
    (hs : ∀ i c σ H, z.cps[i]? = some c → Pv i σ H → g (.str ⟨#[c]⟩) σ H fun σ2 H2 => tb { D with nx := Pv (i + 1), ct := Pv (i + 1), bk := D.nx } σ2 H2) (hd : ∀ σ H, Pv z.cps.size σ H → D.nx σ H) :
    ∃ W : Nat → Nat → St → Hp → Prop, (∃ m, W 0 m σ H) ∧ ∀ i m σ H, W i m σ H →
      ((Its z).stop i H ∧ D.nx σ H) ∨ ((Its z).go i H ∧ ∃ N : St → Hp → Prop, (∀ σ' H', N σ' H' → ∃ m', m' < m ∧ W (i + 1) m' σ' H') ∧ ∀ x H', (Its z).yld i H x H' → g x σ H' fun σ2 H2 => tb { D with nx := N, ct := N, bk := D.nx } σ2 H2) := by
  refine ⟨fun i m σ H => m = z.cps.size - i ∧ i ≤ z.cps.size ∧ Pv i σ H, ⟨z.cps.size, rfl, Nat.zero_le _, h0⟩, ?_⟩
  rintro i m σ H ⟨rfl, hi, p⟩
  by_cases hlt : i < z.cps.size
  · refine .inr ⟨hlt, Pv (i + 1), fun σ' H' p' => ⟨z.cps.size - (i + 1), by omega, rfl, hlt, p'⟩, ?_⟩
    rintro x H' ⟨rfl, c, hc, rfl⟩
    exact hs i c σ H' hc p
  · obtain rfl : i = z.cps.size := by omega
    exact .inl ⟨Nat.le_refl _, hd σ H p⟩
theorem lc_strL {z : Str} {g : TG} {tt : TT} {te : TE} {vs : List Nat} {σ : St} {H1 : Hp} {D : Addr} {Qd : Hp → Prop} (Pv : Nat → Hp → Prop) (h0 : Pv 0 (upd H1 D (.lst [])))
    (hs : ∀ i c H, z.cps[i]? = some c → Pv i H → g (.str ⟨#[c]⟩) (wipe σ vs) H fun σ2 H2 => wipe σ2 vs = wipe σ vs ∧ tt σ2 H2 fun b H3 =>
      if b = true then te σ2 H3 fun y H4 => ∃ acc, H4 D = some (.lst acc) ∧ acc.length < sizeLine ∧ Pv (i + 1) (upd H4 D (.lst (acc ++ [y]))) else Pv (i + 1) H3) (hd : ∀ H, Pv z.cps.size H → Qd H) :
    ∃ W : Nat → Nat → Hp → Prop, (∃ m, W 0 m (upd H1 D (.lst []))) ∧ ∀ i m H, W i m H →
      ((Its z).stop i H ∧ Qd H) ∨ ((Its z).go i H ∧ ∃ Nx : Hp → Prop, (∀ H', Nx H' → ∃ m', m' < m ∧ W (i + 1) m' H') ∧ ∀ x H', (Its z).yld i H x H' → g x (wipe σ vs) H' fun σ2 H2 => wipe σ2 vs = wipe σ vs ∧ tt σ2 H2 fun b H3 =>
        if b = true then te σ2 H3 fun y H4 => ∃ acc, H4 D = some (.lst acc) ∧ acc.length < sizeLine ∧ Nx (upd H4 D (.lst (acc ++ [y]))) else Nx H3) := by
  refine ⟨fun i m H => m = z.cps.size - i ∧ i ≤ z.cps.size ∧ Pv i H, ⟨z.cps.size, rfl, Nat.zero_le _, h0⟩, ?_⟩
  rintro i m H ⟨rfl, hi, p⟩
  by_cases hlt : i < z.cps.size
  · refine .inr ⟨hlt, Pv (i + 1), fun H' p' => ⟨z.cps.size - (i + 1), by omega, rfl, hlt, p'⟩, ?_⟩
    rintro x H' ⟨rfl, c, hc, rfl⟩
    exact hs i c H' hc p
  · obtain rfl : i = z.cps.size := by omega
    exact .inl ⟨Nat.le_refl _, hd H p⟩
theorem op_notInK {X : Cx} {K : PySem.W.Frag} (h : X.K = K) : OpR X (compareOp .NotIn) (rIn K true) := h ▸ op_notIn_seq
/-- a def of one parameter that is called by its name -/
structure FX1 (P : Program) (w : World) (K : PySem.W.Frag) (mg : Str → Option Value) (base : Heap) (k : Nat) (x m : Str) (sp : Sp) : Prop where
  ex : ∃ (f : Addr) (fd : FuncData), FnOk P w K mg base (L2.CX P w) k f fd [m] sp ∧ mg x = some (.ref f) ∧ PySem.W.keepIn K (.ref f) = true ∧ ∀ (s : Shared) (u : Value), BindsTo s fd ⟨[], [(m, u)]⟩ [(m, u)]
theorem pe_fx1 {X : Cx} {k : Nat} {sp : Sp} {x m : Str} {p pos kp : Pos} {e : Expr} {te : TE} (F : FX1 X.prog X.w X.K X.mg X.base k x m sp) (hr : Room k X.A) (hx : Passes (L2.CX X.prog X.w) X E0) (he : PE X e te) (hg : Gl X x := by rfl) (hdb : (x == ("__debug__" : Str)) = false := by decide) :
    PE X (.Call (.Name x p) [] [⟨some m, e, kp⟩] pos) (fun σ H Q => te σ H fun v H1 => sp [v] H1 Q E0) := by
  obtain ⟨f, fd, F1, gf, kf, b1⟩ := F.ex
  refine ⟨fun pins s σ H Q I h => wpAny_Call_Name_kw (ld_glob I hg gf ?_ hdb)⟩
  refine PySem.W.callWith_KW0 (h₀ := X.base) I.ok.mod.kin kf rfl (thn ((pk_cons he pk_nil).run pos pins s σ H (fun vs H1 => match vs with | [v] => sp [v] H1 Q E0 | _ => False) I h) fun us s1 ⟨vs, H1, I1, r1, q1⟩ => ⟨I1.kIn, ?_⟩) rfl
  match vs, q1 with
  | [v], q1 =>
    obtain ⟨u, rfl, ru⟩ := vals1 r1
    show wpAny _ _ (call (.ref f) [] [(m, u)]) _ _ _
    refine wpAny_call (codeAny_mono (F1.run X.A X.stack s1 H1 ⟨[], [(m, u)]⟩ [u] [v] Q E0 hr I1.env0 (b1 s1 u) (.cons ru .nil) q1) fun r s' hq => ?_)
    cases r with
    | error e => exact hx pins σ H1 s1 e s' I1 hq
    | ok fl =>
      cases fl with
      | ret u => exact I1.after hq
      | next => exact False.elim hq
      | brk => exact False.elim hq
      | cont => exact False.elim hq
end L2
end -- FwStr
section -- FwX4
set_option Elab.async false
set_option linter.all false
set_option maxRecDepth 100000
set_option maxHeartbeats 4000000
/-! FwX4: such an exception is raised. -/
namespace L2
open PySem PySem.Spec PyProof.Rows
/-- what is raised: an exception of C with the dict d -/
def OxRaise (C : Addr) (sp : Sp) (vs : List V) (H : Hp) (Q : XK) : Prop := vs.length ≤ 1000 ∧ ∀ a, H a = none → sp (.ref a :: vs) (upd H a (exo a C none))
  (fun v H2 => v = .non ∧ ∃ (d : Addr) (fs : List (Str × V)), H2 a = some (exo a C (some d)) ∧ H2 d = some (exd d fs) ∧ H d = none ∧ Q (.ref C) (some d) (upd (del H2 a) d (.xd fs))) (fun _ _ _ => False)
section
variable {X : Cx} {k : Nat} {sp : Sp} {C : Addr} {ps : List Str} {x : Str} {p pos : Pos} {e : Expr} {es : List Expr} {ta : TA}
theorem pmk_ox (F : OxX X.prog X.w X.K X.mg X.base k x C ps sp) (hr : Room (k + 1) X.A) (hx : Passes (L2.CX X.prog X.w) X (fun _ _ _ => False)) (ha : PA X (e :: es) ta) (hg : Gl X x := by rfl) (hn : ps.length = (e :: es).length + 1 := by rfl)
    (hdb : (x == ("__debug__" : Str)) = false := by decide) (he : starEach (e :: es) X.env = (false, eval e X.env) :: starEach es X.env := by rfl) (hpl : (backTo pos (starEach es X.env)).any (·.1) = false := by rfl) :
    PMk X (.Call (.Name x p) (e :: es) [] pos) (fun σ H Q => ta σ H fun vs H1 => vs.length = (e :: es).length ∧ OxRaise C sp vs H1 Q) := by
  obtain ⟨B, newId, initId, bmB, fI, fd, T, gC, iC, tI, F1, b1, b2, b3⟩ := F.ex
  intro pins s σ H Q I h
  refine wpAny_Call_Name_kw (ld_glob I hg gC ?_ hdb)
  refine PySem.W.callWith_K (h₀ := X.base) I.ok.mod.kin T.kC (thn (ha.run pos pins s σ H _ I h) fun us s1 ⟨vs, H1, I1, r1, hz, q1⟩ => ⟨I1.kIn, ?_⟩) he hpl
  show wpAny _ _ (call (.ref C) us) _ _ _
  obtain ⟨nm, N, qn, bs, bm, hdct, sn, sub, ab, col, dd, k0, k1, k2, k3, k5, hC, hT⟩ := PySem.W.excInit_of I1.kIn T.q
  obtain ⟨hp, g, dr, tk, os⟩ := s1
  have hsz : hp.objs.size ≤ hp.objs.size + 1 := Nat.le_succ _
  have hn1 : H1 (hp.objs.size + 1) = none := I1.hok.fresh hsz
  have hq := q1.2 (hp.objs.size + 1) hn1
  have kk : ∀ b o, hp.get? b = some o → ((hp.push (PySem.W.kdv_tup us)).push (PySem.HandSPX.excO C hp.objs.size)).get? b = some o := fun b o e => Heap.get?_push_of_some _ (Heap.get?_push_of_some _ e)
  have hget : ((hp.push (PySem.W.kdv_tup us)).push (PySem.HandSPX.excO C hp.objs.size)).get? (hp.objs.size + 1) = some (PySem.HandSPX.excO C hp.objs.size) := by heap_get
  have I2 : Inv X pins σ (upd H1 (hp.objs.size + 1) (exo (hp.objs.size + 1) C none)) ⟨(hp.push (PySem.W.kdv_tup us)).push (PySem.HandSPX.excO C hp.objs.size), g, dr, tk, os⟩ :=
    I1.laid (t' := tk) (a := hp.objs.size + 1) (o := exo (hp.objs.size + 1) C none) (h' := (hp.push (PySem.W.kdv_tup us)).push (PySem.HandSPX.excO C hp.objs.size)) kk hsz (exo_ok hget)
  have r2 : Vals (V.ref (hp.objs.size + 1) :: vs) (Value.ref (hp.objs.size + 1) :: us) := .cons rfl r1
  have hl : (Value.ref (hp.objs.size + 1) :: us).length = ps.length := by rw [List.length_cons, ← Paired.length r1, hz, hn]
  have hus : us.length ≤ sizeLine := by
    rw [← Paired.length r1, sizeLine_eq]
    have := q1.1
    omega
  refine wpAny_call (PySem.FwX.fx_call T.fb hT hC (PySem.W.looks_findIn I1.kIn iC) (fun self => PySem.W.bind_fn I1.kIn self tI) hus
    (codeAny_mono (F1.run _ X.stack _ _ ⟨Value.ref (hp.objs.size + 1) :: us, []⟩ (Value.ref (hp.objs.size + 1) :: us) _ _ (fun _ _ _ => False) (hr.make C us []) (I2.env0.make C us []) (b1 _ _ hl) r2 hq) fun r s' hq' => ?_))
  cases r with
  | error er => exact hx pins σ _ _ er s' I2 hq'
  | ok fl =>
    cases fl with
    | ret u =>
      obtain ⟨v, H2, os2, bare2, un2, hok2, rv, ev, d, fs, ea, ed, hd1, q2⟩ := hq'
      subst ev
      obtain ⟨h2, g2, d2, t2, os'⟩ := s'
      exact ⟨rv, mk_end (raises_own T.xc.hs T.tyC) I1 hsz kk un2 hok2 os2 bare2 ea ed hd1 q2⟩
    | next => exact False.elim hq'
    | brk => exact False.elim hq'
    | cont => exact False.elim hq'
end
end L2
end -- FwX4
section -- FwPin
set_option Elab.async false
set_option linter.all false
set_option maxRecDepth 100000
set_option maxHeartbeats 4000000
/-! FwPin: a def that is called while an exception is handled: the exception's object is pinned, the def may ask it by isinstance. -/
namespace L2
open PySem PySem.Spec PyProof.Rows L2H
/-- isinstance(e, c), e the pinned exception -/
@[irreducible] def rIsP (K : PySem.W.Frag) (a C d : Addr) : List V → Hp → VK → Prop := fun xs H Q => ∃ (c : V) (u : Value) (b : Bool) (fs : List (Str × V)), xs = [.ref a, c] ∧ ClsV c u ∧ ExD H d fs ∧ PySem.W.kitOne K (.ref C) u = some b ∧ Q (.bl b) H
theorem st_isP {K : PySem.W.Frag} {a C d : Addr} {c : V} {u : Value} {b : Bool} {fs : List (Str × V)} {H : Hp} {Q : VK} (hd : ExD H d fs) (k : ClsV c u) (e : PySem.W.kitOne K (.ref C) u = some b) (q : Q (.bl b) H) : rIsP K a C d [.ref a, c] H Q := by
  unfold rIsP
  exact ⟨c, u, b, fs, rfl, k, hd, e, q⟩
theorem call_isP {X : Cx} {a C d : Addr} {oe : Obj} (hp : (a, oe) ∈ X.pn) (hc : oe.cls = .ref C) (hdd : oe.dict = some d) (hf : ∃ vs, oe.data = .fields vs) (xc : ExcC X.K C) : CallR X (.builtin "isinstance") (rIsP X.K a C d) := by
  intro pins s σ H xs us Q I r h
  unfold rIsP at h
  obtain ⟨c, t, b, fs, rfl, k, hd, e, q⟩ := h
  obtain ⟨u1, u2, rfl, r1, r2⟩ := vals2 r
  have e2 := k.eq r2
  subst e2
  obtain rfl : u1 = .ref a := r1
  obtain ⟨vs, hv⟩ := hf
  obtain ⟨mA, hns, rel⟩ := ex_dict I.hok hd
  obtain ⟨od, g1, g2⟩ := lookIn_ns hns
  have J : PySem.W.InstAt s.heap a oe C (some od) := ⟨(I.pin (a, oe) (List.mem_append_left _ hp)).1, hc, by unfold PySem.W.notCls; rw [hv] <;> rfl, by rw [hdd]; exact g1⟩
  obtain ⟨cd, hcd, _⟩ := PySem.W.any_some xc.hd
  exact PySem.W.kia_one (PySem.W.kitx_exc (by rw [hcd]; rfl) xc.hg xc.hk xc.hs xc.ha xc.hn xc.ht xc.hm) I.kIn J e (fun z => nomatch z) fun tk => ⟨.bl b, H, I.tok tk, rfl, q⟩
/-- what a def promises while p is pinned -/
structure FnPin (P : Program) (w : World) (K : PySem.W.Frag) (mg : Str → Option Value) (base : Heap) (k : Nat) (f : Addr) (fd : FuncData) (ps : List Str) (sp : Sp) (p : Addr × Obj) : Prop where
  len : ∀ vs H Q E, sp vs H Q E → vs.length = ps.length
  run : ∀ (A : Around) (outer : List Env) (s : Shared) (H : Hp) (args : Args) (us : List Value) (vs : List V) (Q : VK) (E : XK), RoomH k A → PinOk outer H s p → Env0 P w K mg base A outer s H → BindsTo s fd args (ps.zip us) → Vals vs us → sp vs H Q E →
    codeAny (model P w) A (.call (.ref f) args) (CR (L2.CX P w) outer P w H s Q E) s
theorem pin_of {P : Program} {w : World} {K : PySem.W.Frag} {mg : Str → Option Value} {base : Heap} {k : Nat} {f : Addr} {x qual : Str} {params : Arguments} {body : List Stmt} {scope : Scope} {dvs : List V} {kws : List (Str × V)} {fd : FuncData} {N ps : List Str} {sp : Sp} {p : Addr × Obj}
    (F : FunD K x qual params body scope dvs kws f fd) (S : FnScope N ps scope) (len : ∀ vs H Q E, sp vs H Q E → vs.length = ps.length)
    (hbody : ∀ (cdv : Value) (A : Around) (outer : List Env) (s : Shared) (H : Hp) (vs : List V) (Q : VK) (E : XK), RoomH k (A.deeper (envOfC qual scope s.heap.objs.size f cdv)) → sp vs H Q E →
      ∃ t, PSs (cxH (L2.CX P w) P w K mg base N qual scope f cdv A outer s H E p) body t ∧ t { nx := fun _ H' => Q .non H', rt := Q } (L2.start N vs) H) : FnPin P w K mg base (k + 1) f fd ps sp p := by
  obtain ⟨oc, od, dV, kV, doc, pm, an, cdv, ct, osl, rfl, lk, hcd, _, _⟩ := F.ex
  refine ⟨len, fun A outer s H args us vs Q E hr hpin e0 hb r hsp => ?_⟩
  have hl := len _ _ _ _ hsp
  have kp : ∀ b o, base.get? b = some o → s.heap.get? b = some o := fun b o e => (e0.bs b o e).1
  have KX : K.In s.heap := e0.mod.kin.keeps kp
  have lim : s.heap.NoLimit := e0.mod.nolimit.keeps kp
  have hk : ∀ y ∈ ps.zip us, scope.names.lookup y.1 = some .local ∨ (scope.names.lookup y.1 = some .cell ∧ ((cellsFrom (s.heap.objs.size + 1) scope.names []).lookup y.1).isSome = true) := by
    rintro ⟨n, v⟩ hy
    rcases S.par n (List.of_mem_zip hy).1 with q | q
    · exact .inl q
    · exact .inr ⟨q, PySem.W.cellsFrom_some _ _ _ (.inl q)⟩
  refine codeAny_call_function hr.depth (KX _ _ lk) rfl S.co S.gen rfl (PySem.W.codeRec_of KX hcd) (hb _ _ _ _ (wpAny_newFunctionEnv_cells S.kind hk fun env he s1 y => ?_))
  subst he
  obtain ⟨t, ht, hq⟩ := hbody cdv A outer s H vs Q E (hr.deeper _) hsp
  have I : Inv (cxH (L2.CX P w) P w K mg base N qual scope f cdv A outer s H E p) [] (L2.start N vs) H s1 := inv_startH S hpin e0 hl r y
  refine ⟨lim.keeps y.toInCall.keep, codeAny_func (wpAny_mono (ht.run [] s1 (L2.start N vs) H _ I hq) (fun fl s' hs => ?_) fun e s' hs => hs)⟩
  cases fl with
  | ret u =>
    obtain ⟨v, σ', H', J, rv, q⟩ := hs
    exact ⟨v, H', J.os, J.bare, J.base, J.hok, rv, q⟩
  | next =>
    obtain ⟨σ', H', J, q⟩ := hs
    exact ⟨.non, H', J.os, J.bare, J.base, J.hok, rfl, q⟩
  | brk =>
    obtain ⟨_, _, _, q⟩ := hs
    exact q.elim
  | cont =>
    obtain ⟨_, _, _, q⟩ := hs
    exact q.elim
/-- such a def is called -/
theorem pe_pin {X : Cx} {k : Nat} {f : Addr} {fd : FuncData} {ps : List Str} {sp : Sp} {p : Addr × Obj} {x : Str} {q pos : Pos} {e : Expr} {es : List Expr} {t : TA} (F : FnPin X.prog X.w X.K X.mg X.base k f fd ps sp p) (hr : RoomH k X.A) (hp : p ∈ X.pn) (hm : X.mg x = some (.ref f)) (hk : PySem.W.keepIn X.K (.ref f) = true)
    (hb : Binds X.K fd ps []) (hx : Passes (L2.CX X.prog X.w) X E0) (ha : PA X (e :: es) t) (hg : Gl X x := by rfl) (hdb : (x == ("__debug__" : Str)) = false := by decide) (he : starEach (e :: es) X.env = (false, eval e X.env) :: starEach es X.env := by rfl) (hpl : (backTo pos (starEach es X.env)).any (·.1) = false := by rfl) :
    PE X (.Call (.Name x q) (e :: es) [] pos) (fun σ H Q => t σ H fun vs H1 => sp vs H1 Q E0) := by
  refine ⟨fun pins s σ H Q I h => wpAny_Call_Name_kw (ld_glob I hg hm ?_ hdb)⟩
  refine PySem.W.callWith_K (h₀ := X.base) I.ok.mod.kin hk (thn (ha.run pos pins s σ H _ I h) fun us s1 ⟨vs, H1, I1, r, q1⟩ => ⟨I1.kIn, ?_⟩) he hpl
  show wpAny _ _ (call (.ref f) us) _ _ _
  have hl : us.length = ps.length := by rw [← r.length]; exact F.len _ _ _ _ q1
  have b := hb s1 us I1.kIn (by rw [List.append_nil]; exact hl)
  rw [List.append_nil] at b
  have P1 := I1.pin p (List.mem_append_left _ hp)
  have hpin : PinOk X.stack H1 s1 p := ⟨P1.1, P1.2.1, fun hm => (List.mem_cons.mp (I1.stkSub p.1 hm)).elim P1.2.2.1 P1.2.2.2.1, P1.2.2.2.2⟩
  refine wpAny_call (codeAny_mono (F.run X.A X.stack s1 H1 ⟨us, []⟩ us vs Q E0 hr hpin I1.env0 b r q1) fun r' s' hq => ?_)
  cases r' with
  | error e => exact hx pins σ H1 s1 e s' I1 hq
  | ok fl =>
    cases fl with
    | ret u => exact I1.after hq
    | next => exact False.elim hq
    | brk => exact False.elim hq
    | cont => exact False.elim hq
end L2
end -- FwPin
section -- FwTry
set_option Elab.async false
set_option linter.all false
set_option maxRecDepth 100000
set_option maxHeartbeats 4000000
/-! FwTry: a class is called, a method is called, and what they raise is taken by a try. -/
namespace L2
open PySem PySem.Spec PyProof.Rows
section
variable {X : Cx} {CX : CXT} {k : Nat} {f C : Addr} {fd : FuncData} {ps : List Str} {sp : Sp} {E : St → XK} {x m : Str} {p pos apos : Pos} {e o : Expr} {es : List Expr} {te ta : TE} {t : TA} {ds : List Value} {dvs : List V}
def tMakeS (C : Addr) (sp : Sp) (dvs : List V) (E : St → XK) (t : TA) : TE := fun σ H Q => t σ H fun vs H1 => ∀ x dx, H1 x = none → H1 dx = none → dx ≠ x → sp (.ref x :: (vs ++ dvs)) (upd (upd H1 dx (.own x)) x (.ins C dx [])) (fun v H2 => v = .non ∧ Q (.ref x) H2) (E σ)
theorem pe_makeS (M : Mk X.K C f) (F : FnOk X.prog X.w X.K X.mg X.base CX k f fd ps sp) (hr : Room (k + 1) X.A) (hm : X.mg x = some (.ref C)) (hb : Binds X.K fd ps ds) (hd : Vals dvs ds) (hx : ∀ σ, PassesAt CX X σ (E σ)) (ha : PA X (e :: es) t) (hg : Gl X x := by rfl)
    (hdb : (x == ("__debug__" : Str)) = false := by decide) (he : starEach (e :: es) X.env = (false, eval e X.env) :: starEach es X.env := by rfl) (hpl : (backTo pos (starEach es X.env)).any (·.1) = false := by rfl) :
    PE X (.Call (.Name x p) (e :: es) [] pos) (tMakeS C sp dvs E t) := by
  refine ⟨fun pins s σ H Q I h => wpAny_Call_Name_kw (ld_glob I hg hm ?_ hdb)⟩
  refine PySem.W.callWith_K (h₀ := X.base) I.ok.mod.kin M.kp (thn (ha.run pos pins s σ H _ I h) fun us s1 ⟨vs, H1, I1, r, q⟩ => ⟨I1.kIn, ?_⟩) he hpl
  show wpAny _ _ (call (.ref C) us) _ _ _
  have hq := q (s1.heap.objs.size + 1) s1.heap.objs.size (I1.hok.fresh (Nat.le_succ _)) (I1.hok.fresh (Nat.le_refl _)) (Nat.ne_of_lt (Nat.lt_succ_self _))
  have I2 := Inv.made (C := C) I1
  have r2 : Vals (V.ref (s1.heap.objs.size + 1) :: (vs ++ dvs)) (Value.ref (s1.heap.objs.size + 1) :: (us ++ ds)) := .cons rfl (r.append hd)
  have hl : (Value.ref (s1.heap.objs.size + 1) :: us ++ ds).length = ps.length := by
    have z := r2.length
    rw [F.len _ _ _ _ hq] at z
    exact z.symm
  refine wpAny_call (make_map (f := f) I1.kIn M.makes M.init (beq_iff_eq.mp M.fn) (codeAny_mono (F.run _ X.stack _ _ ⟨Value.ref (s1.heap.objs.size + 1) :: us, []⟩ (Value.ref (s1.heap.objs.size + 1) :: (us ++ ds)) _ _ (E σ) (hr.make C us [])
    (I2.env0.make C us []) (hb _ (Value.ref (s1.heap.objs.size + 1) :: us) I2.kIn hl) r2 hq) fun r' s' hq' => ?_))
  cases r' with
  | error er => exact hx σ pins _ _ er s' I2 hq'
  | ok fl =>
    cases fl with
    | ret u =>
      obtain ⟨v, H', I3, rv, ev, q3⟩ := I2.after hq'
      subst ev
      exact ⟨rv, V.ref (s1.heap.objs.size + 1), H', I3, rfl, q3⟩
    | next => exact False.elim hq'
    | brk => exact False.elim hq'
    | cont => exact False.elim hq'
def tMethX (C : Addr) (m : Str) (sp : Sp) (E : St → XK) (ta : TE) (t : TA) : TE := fun σ H Q => ta σ H fun x H1 => ∃ a dx fs, x = .ref a ∧ H1 a = some (.ins C dx fs) ∧ fs.lookup m = none ∧ t σ H1 fun vs H2 => sp (x :: vs) H2 Q (E σ)
theorem pe_methX {pl : Sem Bool} (he : PE X o te) (c : Cls X.K C) (hm : Meth X.K C m f) (F : FnOk X.prog X.w X.K X.mg X.base CX k f fd ps sp) (hr : Room k X.A) (hb : Binds X.K fd ps []) (hx : ∀ σ, PassesAt CX X σ (E σ)) (ha : PA X (e :: es) t)
    (hst : starEach (e :: es) X.env = (false, eval e X.env) :: starEach es X.env := by rfl) (hpl : (backTo pos (starEach es X.env)).any (·.1) = false := by rfl)
    (ht : eval (.Call (.Attribute o m apos) (e :: es) [] pos) X.env = (do
      let ov ← eval o X.env
      standAt apos.atName
      let (f, first) ← holding [ov] (getMethod ov m pl)
      callWith pos f first (backTo pos (starEach (e :: es) X.env)) (backToKw pos (keywordEach [] X.env))) := by rfl) :
    PE X (.Call (.Attribute o m apos) (e :: es) [] pos) (tMethX C m sp E te t) := by
  refine ⟨fun pins s σ H Q I h => PySem.W.methodCall_KW (pl := pl) (thn (he.run pins s σ H _ I h) fun u s1 ⟨x, H1, I1, rx, a, dx, fs, ex, ea, l, q⟩ => ?_) ht⟩
  subst ex
  obtain rfl : u = Value.ref a := rx
  refine getmeth_ok I1 ea c hm l ?_
  refine PySem.W.callWith_K (first := [.ref a]) (h₀ := X.base) I.ok.mod.kin hm.kp (thn (ha.run pos pins s1 σ H1 _ I1 q) fun us s2 ⟨vs, H2, I2, r, q2⟩ => ⟨I2.kIn, run_fnS (us := .ref a :: us) (vs := .ref a :: vs) F hr hb (hx σ) I2 (.cons rfl r) q2⟩) hst hpl
end
end L2
end -- FwTry
section -- FwIn
set_option Elab.async false
set_option linter.all false
set_option maxRecDepth 100000
set_option maxHeartbeats 4000000
/-! FwIn: x not in o, o an instance with a __contains__ of its own. -/
namespace L2
open PySem PySem.Spec PyProof.Rows
def rNotInOwn (C : Addr) (sp : Sp) : R2 := fun x y H Q => ∃ (g gx : Addr) (fg : List (Str × V)), y = .ref g ∧ H g = some (.ins C gx fg) ∧ sp [.ref g, x] H (fun v H' => ∃ b, v = .bl b ∧ Q (.bl (!b)) H') E0
theorem op_notInOwn {X : Cx} {C f : Addr} {k : Nat} {fd : FuncData} {ps : List Str} {sp : Sp} (hm : Meth X.K C "__contains__" f) (F : FnOk X.prog X.w X.K X.mg X.base (L2.CX X.prog X.w) k f fd ps sp) (hr : Room k X.A) (hb : Binds X.K fd ps []) : OpR X (compareOp .NotIn) (rNotInOwn C sp) := by
  intro pins s σ H x y v u Q I rx ry h
  obtain ⟨g, gx, fg, rfl, hg, h⟩ := h
  obtain rfl : u = .ref g := ry
  obtain ⟨mA, O, _⟩ := ins_get I.hok hg
  obtain ⟨od, J, _⟩ := O.look
  have LT := J.type (M := model X.prog X.w)
  have LF := PySem.W.looks_findIn (M := model X.prog X.w) I.kIn hm.at_
  have LB := PySem.W.bind_fn (M := model X.prog X.w) I.kIn (.ref g) (beq_iff_eq.mp hm.fn)
  have LS : PySem.W.Looks (model X.prog X.w) s.heap (specialOf (.ref g) "__contains__") (some (.ref f)) := LT.andThen LF
  show wpAny _ _ (do return Value.bool (!(← contains (.ref g) v))) _ _ s
  refine wpAny_bind ?_
  unfold contains
  refine wpAny_holding (wpAny_bind (LS.here ?_))
  rw [if_neg (show ¬ ((some (Value.ref f) == some Value.none) = true) from Bool.false_ne_true)]
  unfold callSpecialUnlessNone?
  refine wpAny_bind (wpAny_bind (LS.here (wpAny_holding (wpAny_bind (LB.here ?_)))))
  show wpAny _ _ (if (Value.ref f == Value.none) = true then _ else _) _ _ s
  rw [if_neg (show ¬ ((Value.ref f == Value.none) = true) from Bool.false_ne_true)]
  refine wpAny_bind (wpAny_mono (run_fn (us := [.ref g, v]) (vs := [.ref g, x]) F hr hb .nil passL I (.cons rfl (.cons rx .nil)) h) (fun r s' hq => ?_) fun _ _ z => z)
  obtain ⟨b0, H', J', rv, b, rfl, q⟩ := hq
  obtain rfl : r = .bool b := rv
  exact wpAny_pure (wpAny_truthy_bool (wpAny_pure ⟨.bl (!b), H', J', rfl, q⟩))
end L2
end -- FwIn
section -- FwSet
set_option Elab.async false
set_option linter.all false
set_option maxRecDepth 100000
set_option maxHeartbeats 4000000
/-! FwSet: len(set(xs)) of a list of different texts. -/
namespace L2
open PySem PySem.Spec PyProof.Rows
/-- what a set holds of the first i of xs -/
def hasS (xs : List Str) (i : Nat) : Str → Bool := fun y => (xs.take i).any fun z => z == y
theorem hasS_more {xs : List Str} {i : Nat} {x : Str} (hx : xs[i]? = some x) (y : Str) : (hasS xs i y || decide (y = x)) = hasS xs (i + 1) y := by
  unfold hasS
  have h : i < xs.length := (List.getElem?_eq_some_iff.mp hx).1
  rw [List.take_succ, hx, List.any_append]
  congr 1
  simp only [Option.toList, List.any_cons, List.any_nil, Bool.or_false]
  by_cases e : y = x
  · rw [e]; simp
  · have : (x == y) = false := beq_eq_false_iff_ne.mpr fun z => e z.symm
    rw [this]; simp [e]
theorem hasS_new {xs : List Str} (nd : xs.Nodup) {i : Nat} {x : Str} (hx : xs[i]? = some x) : hasS xs i x = false := by
  unfold hasS
  rw [List.any_eq_false]
  intro z hz e
  have e' : z = x := eq_of_beq e
  subst e'
  have h : i < xs.length := (List.getElem?_eq_some_iff.mp hx).1
  obtain ⟨j, hj, ej⟩ := List.mem_iff_getElem.mp hz
  rw [List.length_take] at hj
  rw [List.getElem_take] at ej
  have ex := (List.getElem?_eq_some_iff.mp hx).2
  exact List.pairwise_iff_getElem.mp nd j i (by omega) h (by omega) (ej.trans ex.symm)
section
variable {prog : Program} {w : World} {A : Around} {R : Result → Shared → Prop} {I : Addr} {fp wr : List Addr} {G : Array GenState → Array GenState → Prop} {n : Nat} {Pv : Nat → Value → Prop} {St : Nat → Shared → Prop}
/-- the walk of set.update over different texts: a set of m of them, d to come -/
theorem grow_set (W : WalksS prog w A.in1 I fp wr G n Pv St) {b : Addr} (hb : b ∉ fp) {xs : List Str} (nd : xs.Nodup) (hn : xs.length = n) (hroom : n + 1 < scanBound)
    (hv : ∀ i v, Pv i v → ∃ t, v = .str (xs.getD i Str.empty) t) :
    ∀ (d m : Nat) (s : Shared), m + d = n → St m s → s.heap.SetOf (PySem.strKind prog w) b (hasS xs m) m →
      (∀ s', Moved (b :: wr) G s s' → s'.heap.SetOf (PySem.strKind prog w) b (hasS xs n) n → R (.ok (.ret .none)) s') →
      codeAny (model prog w) A (.builtin "set.update.loop" ⟨[.ref b, .ref I], []⟩) R s
  | 0, m, s, hm, hst, hS, hR => by
    obtain rfl : m = n := hm
    refine codeAny_builtin PyProof.Rows.F.entry_set_update_loop ?_
    rw [Around.under_plainId PyProof.Rows.F.plain_set_update_loop _]
    show wpAny _ A.in1 (pyNext (.ref I) >>= _) _ _ s
    refine wpAny_bind (W.done s _ _ hst fun s2 mv => ?_)
    obtain ⟨o, es, ep, tb, ho, more⟩ := hS
    exact wpAny_pure (hR s2 (mv.mono fun _ z => List.mem_cons_of_mem _ z) ⟨o, es, ep, tb, mv.heap b _ (fun z => hb (W.sub _ z)) ho, more⟩)
  | d + 1, m, s, hm, hst, hS, hR => by
    have lt : m < n := by omega
    have up : ∀ c ∈ wr, c ∈ b :: wr := fun _ z => List.mem_cons_of_mem _ z
    refine codeAny_builtin PyProof.Rows.F.entry_set_update_loop ?_
    rw [Around.under_plainId PyProof.Rows.F.plain_set_update_loop _]
    show wpAny _ A.in1 (pyNext (.ref I) >>= _) _ _ s
    refine wpAny_bind (W.item m s _ _ lt hst fun v s2 pv hst2 mv => ?_)
    obtain ⟨t, rfl⟩ := hv m v pv
    have hx : xs[m]? = some (xs.getD m Str.empty) := by
      rw [List.getD_eq_getElem?_getD, List.getElem?_eq_getElem (hn ▸ lt)]; rfl
    obtain ⟨o, es, ep, tb, ho, more⟩ := hS
    have hS2 : s2.heap.SetOf (PySem.strKind prog w) b (hasS xs m) m := ⟨o, es, ep, tb, mv.heap b _ (fun z => hb (W.sub _ z)) ho, more⟩
    generalize xs.getD m Str.empty = x at hx
    show wpAny _ A.in1 (holding [Value.str x t] (setAdd b (.str x t)) >>= _) _ _ s2
    refine wpAny_bind (wpAny_holding ?_)
    unfold setAdd
    refine wpAny_holding (wpAny_bind ((PySem.strKind prog w).pyHash (k := x) (strKind_is _ _ _ _) ?_))
    refine wpAny_setAddHashed_of (knd := PySem.strKind prog w) (s := { s2 with toks := s2.toks + 1 }) (strKind_is _ _ _ _) rfl hS2 (by omega) fun h3 same hS3 => ?_
    have hS4 : h3.SetOf (PySem.strKind prog w) b (hasS xs (m + 1)) (m + 1) := SetOf_congr hS3 (hasS_more hx) (by rw [hasS_new nd hx]; rfl)
    refine wpAny_pure ⟨plainId_quiet PyProof.Rows.F.plain_set_update_loop _, grow_set W hb nd hn hroom hv d (m + 1) _ (by omega) (W.frame _ s2 _ _ hst2 (Nat.le_succ _) fun c hc o' e => ?_) hS4 fun s5 mv5 hS5 => ?_⟩
    · rw [same.2 c (fun z : c = b => hb (z ▸ hc))]
      exact e
    · refine hR s5 (Moved.trans W.gtrans ((mv.mono up).then_heap (Nat.le_succ _) fun c o' hc e => ?_) mv5) hS5
      rw [same.2 c (fun z : c = b => hc (z ▸ List.mem_cons_self))]
      exact e
end
end L2
namespace L2
open PySem PySem.Spec PyProof.Rows
theorem strs_get {us : List Value} {xs : List Str} (r : Vals (xs.map V.str) us) (i : Nat) (v : Value) (h : us[i]? = some v) : ∃ t, v = .str (xs.getD i Str.empty) t := by
  have lt : i < us.length := (List.getElem?_eq_some_iff.mp h).1
  have lx : i < xs.length := by rw [← r.length, List.length_map] at lt; exact lt
  obtain ⟨u, hu, t, ht⟩ := r.get (i := i) (x := .str xs[i]) (by simp [lx])
  rw [h] at hu
  cases hu
  exact ⟨t, by rw [ht, List.getD_eq_getElem?_getD, List.getElem?_eq_getElem lx]; rfl⟩
section
variable {P : Program} {w : World} {A : Around} {E : Value → Shared → Prop} {s : Shared}
/-- what making the set tells: its place, its members, all that was stays -/
def SetMade (P : Program) (w : World) (xs : List Str) (s : Shared) (h' : Heap) : Prop := h'.SetOf (PySem.strKind P w) s.heap.objs.size (hasS xs xs.length) xs.length ∧ ∀ c o, c < s.heap.objs.size → s.heap.get? c = some o → h'.get? c = some o
set_option maxHeartbeats 3200000 in
theorem call_setD {l : Addr} {us : Array Value} {xs : List Str} {Q : Value → Shared → Prop} (hh : A.handled = none) (hl : s.heap.IsList l us) (r : Vals (xs.map V.str) us.toList) (nd : xs.Nodup) (hroom : xs.length + 1 < scanBound)
    (h : ∀ (h' : Heap) (tk : Nat), SetMade P w xs s h' → Q (.ref s.heap.objs.size) { s with heap := h', toks := tk }) :
    wpAny (model P w) A (call (.type "set") [.ref l]) Q E s := by
  have lt : l < s.heap.objs.size := let ⟨_, z, _⟩ := hl; Heap.lt_size z
  have len : xs.length = us.size := by rw [← Array.length_toList, ← r.length, List.length_map]
  obtain ⟨c, tl, hmro⟩ := PySem.F.called_set.mro
  have f1 := PySem.F.called_set.made
  have f2 := PySem.F.called_set.sub
  have f3 := PySem.F.called_set.notType
  have f4 := PySem.F.called_set.canCreate
  have f5 := PySem.F.typeCall_set_1 (.ref l)
  refine wpAny_call (codeAny_of_tree ?_)
  show wpAny _ _ (callAny (.type "set") _) _ _ _
  refine wpAny_pure ⟨Code.quiet_builtin _ (by decide +kernel), codeAny_builtin PySem.F.entry_type_call ?_⟩
  rw [Around.under_plain (weight_type_call_type "set" [.ref l] []) rfl]
  repeat (any_goals (first | assumption | wp_step))
  refine codeAny_mono (code_set_new_1 (.ref l) (E := E) (Q₁ := fun v s1 => ∃ led : Bool, v = .ref s.heap.objs.size ∧ s1 = { s with heap := s.heap.push { cls := .type "set", dict := none, data := .set #[] 0 (.fresh 0 0 led) } }) fun led => ⟨led, rfl, rfl⟩) fun x s1 hx => ?_
  cases x with
  | error e => exact hx
  | ok fl =>
    cases fl with
    | next => exact hx.elim
    | brk => exact hx.elim
    | cont => exact hx.elim
    | ret v =>
      obtain ⟨led, rfl, rfl⟩ := hx
      generalize eo : ({ cls := .type "set", dict := none, data := .set #[] 0 (.fresh 0 0 led) } : Obj) = ob
      have hb : (s.heap.push ob).get? s.heap.objs.size = some ob := Heap.get?_push_size _ (by rw [← eo]; rfl)
      have hT : Shared.TypeIs { s with heap := s.heap.push ob } (.ref s.heap.objs.size) "set" := ⟨_, hb, by rw [← eo]⟩
      have g1 := PySem.F.called_set.init.lookup
      have g2 := PySem.F.called_set.init.bind (.ref s.heap.objs.size)
      repeat (any_goals (first | assumption | wp_step))
      refine codeAny_mono (codeAny_call_builtin (R := wants (fun v s2 => v = .none ∧ ∃ h' tk, s2 = { s with heap := h', toks := tk } ∧ SetMade P w xs s h') E) PySem.F.called_set.init.plain PySem.F.entry_set_init (check_set_init_1 hT ?_)) fun x2 s2 hx2 => ?_
      · obtain ⟨⟨c0, d0, dt0, sl0⟩, hol, hc, nl, hd⟩ := hl
        simp only at hc hd
        subst hc hd
        subst eo
        have hol' := Heap.get?_push_of_some { cls := .type "set", dict := none, data := .set #[] 0 (.fresh 0 0 led) } hol
        have k1 := PySem.F.sub_list_set
        have k2 := PySem.F.sub_list_frozenset
        have k3 : (Value.type "list" == Value.type "dict") = false := by decide
        have hl1 : (s.heap.push { cls := .type "set", dict := none, data := .set #[] 0 (.fresh 0 0 led) }).IsList l us := ⟨_, hol', rfl, nl, rfl⟩
        unfold Builtin.«set.__init__» noKeywords Builtin.Frozenset.updateFrom
        generalize hPI : pyIter = PI
        wp_walk
        subst hPI
        refine wpAny_pyIter_list hl1 ?_
        refine wpAny_bind (wpAny_runValue ?_)
        have ne : l ≠ (s.heap.push { cls := .type "set", dict := none, data := .set #[] 0 (.fresh 0 0 led) }).objs.size := by rw [Heap.size_push]; exact Nat.ne_of_lt (Nat.lt_succ_of_lt lt)
        have out : s.heap.objs.size ∉ [(s.heap.push { cls := .type "set", dict := none, data := .set #[] 0 (.fresh 0 0 led) }).objs.size, l] := by
          rw [Heap.size_push]
          intro z
          rcases List.mem_cons.mp z with z | z
          · exact Nat.ne_of_lt (Nat.lt_succ_self _) z
          · exact Nat.ne_of_gt lt (List.mem_singleton.mp z)
        refine grow_set ((Walks.list (by simp [hh]) _ l ne us).toS) (b := s.heap.objs.size) (xs := xs) out nd len (by omega)
          (fun i v hv => strs_get r i v (by rw [Array.getElem?_toList]; exact hv)) us.size 0 _ (by omega) ⟨⟨_, Heap.get?_push_size _ rfl, rfl, rfl⟩, hl1.push _⟩ ?start ?fin
        case start =>
          have hb2 := Heap.get?_push_of_some { cls := .type "list_iterator", data := .fields #[.ref l, .int 0 0] } hb
          exact SetOf_congr ((setObjOf_fresh (knd := PySem.strKind P w) led).setOf hb2 (by unfold scanBound; omega)) (fun _ => rfl) rfl
        case fin =>
          rintro ⟨h', gs, dr, tk, os⟩ mv hS
          obtain rfl : gs = s.gens := mv.gens
          obtain rfl : dr = s.drawn := mv.drawn
          obtain rfl : os = s.os := mv.os
          show wpAny _ _ _ _ _ _
          refine wpAny_pure ?_
          show wpAny _ _ (ret Value.none) _ _ _
          rw [← len] at hS
          refine wpAny_pure ⟨rfl, h', tk, rfl, hS, fun b o hlt e => ?_⟩
          refine mv.heap b o ?_ (Heap.get?_push_of_some _ (Heap.get?_push_of_some _ e))
          simp only [List.mem_cons, List.mem_singleton, List.not_mem_nil, or_false, not_or]
          rw [Heap.size_push]
          exact ⟨Nat.ne_of_lt hlt, Nat.ne_of_lt (Nat.lt_succ_of_lt hlt)⟩
      · cases x2 with
        | error e => exact hx2
        | ok fl2 =>
          cases fl2 with
          | next => exact hx2.elim
          | brk => exact hx2.elim
          | cont => exact hx2.elim
          | ret u =>
            obtain ⟨rfl, h', tk, rfl, made⟩ := hx2
            repeat (any_goals (first | assumption | wp_step))
            exact h _ _ made
end
section
variable {X : Cx}
/-- len(set(xs)), xs a list of different texts -/
def tLenSetD (K : PySem.W.Frag) (ta : TE) : TE := fun σ H Q => ta σ H fun x H1 => ∃ l, ∃ xs : List Str, x = .ref l ∧ SqL K H1 l (xs.map V.str) ∧ xs.Nodup ∧ xs.length < 4000 ∧ Q (.int xs.length) H1
theorem pe_lenSetD {a : Expr} {ta : TE} {p p2 q pos : Pos} (hc : X.calm = true) (hg : Gl X "len") (hm : X.mg "len" = none) (hg2 : Gl X "set") (hm2 : X.mg "set" = none) (ha : PE X a ta)
    (na : starEach [a] X.env = (false, eval a X.env) :: starEach [] X.env := by rfl) : PE X (.Call (.Name "len" p) [.Call (.Name "set" p2) [a] [] q] [] pos) (tLenSetD X.K ta) := by
  refine ⟨fun pins s σ H Q I h => Call_ (ld_blt I hg hm boot_len (callWith_builtin1 (args_cons (Call_ (ld_blt I hg2 hm2 boot_set (callWith_type1 (args_cons (thn (ha.run pins s σ H _ I h) ?_) na) na rfl))) rfl) rfl rfl))⟩
  rintro v s1 ⟨x, H1, I1, r1, l, xs, rfl, hq, nd, hl, q⟩
  cases r1
  refine args_nil ?_
  obtain ⟨us, r, pl, _⟩ := I1.list hq
  refine call_setD (I1.ok.hd hc) pl.isList (by simpa using r) nd (by unfold scanBound; omega) fun h' tk made => args_nil ?_
  obtain ⟨⟨o, es, ep, t, ho, hex, hd, _, _, _, hf, hn⟩, keep⟩ := made
  have I2 : Inv X pins σ H1 { s1 with heap := h', toks := tk } := I1.kept fun b o e => keep b o (Heap.lt_size e) e
  exact call_len_set ho hex hd hf (by rw [hn]; omega) ⟨.int xs.length, H1, I2.tok _, ⟨_, by rw [hn]⟩, q⟩
end
end L2
end -- FwSet
section -- FwEnum
set_option Elab.async false
set_option linter.all false
set_option maxRecDepth 100000
set_option maxHeartbeats 4000000
/-! FwEnum: enumerate over a tuple. -/
namespace L2
open PySem PySem.Spec PyProof.Rows
open AutoSeq1 (wpAny_loadPart')
/-- the heap after enumerate(t): the tuple's own walker, the pair maker -/
def enT (h : Heap) (t : Addr) : Heap := (h.push { cls := .type "tuple_iterator", data := .fields #[.ref t, .int 0 0] }).push { cls := .type "enumerate", data := .fields #[.none, .bool false, .ref h.objs.size, rawInt 0, .none, .none] }
theorem meets_enT (t : Addr) (us : Array Value) (n : Nat) (dct : Option Addr) (sl : Array (Option Value)) :
    Meets (Builtin.«enumerate.__new__» ⟨[.type "enumerate", .ref t], []⟩) (fun _ R s => s.heap.get? t = some { cls := .type "tuple", dict := dct, data := .seq us n, slots := sl } ∧
      R (.ok (.ret (.ref (s.heap.push { cls := .type "tuple_iterator", data := .fields #[.ref t, .int 0 0] }).objs.size))) { s with heap := enT s.heap t }) :=
  .of_wp fun prog w A R s h => by
    obtain ⟨hp, gs, dr, tk, os⟩ := s
    obtain ⟨ht, h⟩ := h
    have hsub := sub_enumerate
    have hT : Heap.IsTuple (Shared.heap ⟨hp, gs, dr, tk, os⟩) t us := ⟨_, ht, rfl, n, rfl⟩
    wp_walk using wpAny_loadPart' ht
    refine wpAny_stack_any fun _ => wpAny_pure ?_
    split
    · rename_i c _ _ _ _ _
      by_cases e : (c == Value.type "enumerate") = true <;> simp only [e] <;> wp_walk using wpAny_loadPart' ht, wpAny_pyIter_tuple hT <;> exact ⟨_, rfl, h⟩
    · wp_walk using wpAny_loadPart' ht, wpAny_pyIter_tuple hT
      exact ⟨_, rfl, h⟩
section
variable {P : Program} {w : World} {A : Around} {E : Value → Shared → Prop} {s : Shared}
theorem call_enT {t : Addr} {us : Array Value} {Q : Value → Shared → Prop} (hT : s.heap.IsTuple t us)
    (h : IsEnum (enT s.heap t) (s.heap.objs.size + 1) s.heap.objs.size 0 .none → (enT s.heap t).IsTupleIter s.heap.objs.size t 0 → (∀ b o, s.heap.get? b = some o → (enT s.heap t).get? b = some o) → Q (.ref (s.heap.objs.size + 1)) { s with heap := enT s.heap t }) :
    wpAny (model P w) A (call (.type "enumerate") [.ref t]) Q E s := by
  obtain ⟨⟨c, dct, dt, sl⟩, ht, hc, n, hd⟩ := hT
  simp only at hc hd
  subst hc hd
  refine callType_new F.called_enumerate (by decide) (F.typeCall_enumerate_1 _) (F.newCall_enumerate_1 _) (fun v => F.args_object_init_2 v _) F.entry_enumerate_new (meets_enT t us n dct sl) ⟨ht, ?_⟩
  have sz : ∀ o, (s.heap.push o).objs.size = s.heap.objs.size + 1 := fun _ => Heap.size_push ..
  show _ ∧ _
  rw [sz]
  have he : IsEnum (enT s.heap t) (s.heap.objs.size + 1) s.heap.objs.size 0 .none := by
    have z := Heap.get?_push_size (s.heap.push { cls := .type "tuple_iterator", data := .fields #[.ref t, .int 0 0] }) (o := { cls := .type "enumerate", data := .fields #[.none, .bool false, .ref s.heap.objs.size, rawInt 0, .none, .none] }) rfl
    rw [sz] at z
    exact z
  exact ⟨⟨_, he, rfl⟩, h he ⟨_, Heap.get?_push_of_some _ (Heap.get?_push_size _ rfl), rfl, rfl⟩ fun b o x => Heap.get?_push_of_some _ (Heap.get?_push_of_some _ x)⟩
end
/-- the tuple at a as it stands at each turn, each item in a new pair -/
def IteT (K : PySem.W.Frag) (a : Addr) : It :=
  ⟨fun i H => ∃ (xs : List V) (x : V), SqT K H a xs ∧ xs[i]? = some x, fun i H v H' => ∃ T x, v = .ref T ∧ H T = none ∧ H' = upd H T (.tup [.int (i : Nat), x]) ∧ ∀ xs, SqT K H a xs → xs[i]? = some x, fun i H => ∃ xs : List V, SqT K H a xs ∧ xs.length ≤ i⟩
/-- where the two makers stand -/
def EnAt (a e it : Addr) (i : Nat) (h : Heap) : Prop := (∃ old, IsEnum h e it ((i : Nat) : Int) old) ∧ h.IsTupleIter it a i ∧ e ≠ it ∧ e ≠ a ∧ a ≠ it
theorem turn_enT {P : Program} {w : World} {K : PySem.W.Frag} {elts : List Expr} {kk : Nat} {tpos : Pos} (a e it : Addr) : Turn P w K (.Tuple elts kk tpos) (IteT K a) [e, it] e (EnAt a e it) where
  mem := List.mem_cons_self
  obj := fun i h st b hb => by
    obtain ⟨⟨old, he⟩, ⟨o, ho, _, hd⟩, _⟩ := st
    rcases List.mem_cons.mp hb with rfl | z
    · exact ⟨_, he, fun v q => nomatch q⟩
    · obtain rfl := List.mem_singleton.mp z
      exact ⟨o, ho, fun v q => by rw [hd] at q; cases q⟩
  keep := fun i h h' st k => let ⟨⟨old, he⟩, hi, more⟩ := st; ⟨⟨old, k e (by simp) _ he⟩, hi.at fun o q => k it (by simp) o q, more⟩
  item := by
    intro X hP hw hK hc i pins s σ H E I hf st hg
    subst hP hw hK
    obtain ⟨⟨old, he⟩, hit, hne, hea, hai⟩ := st
    obtain ⟨xs, x, hq, hx⟩ := hg
    obtain ⟨us, rv, p, _⟩ := I.tuple hq
    obtain ⟨u, hu, ru⟩ := rv.get hx
    have lu : i < us.length := (List.getElem?_eq_some_iff.mp hu).1
    have hel : e < s.heap.objs.size := Heap.lt_size he
    have hil : it < s.heap.objs.size := let ⟨_, q, _⟩ := hit; Heap.lt_size q
    refine wpAny_pyNext_enum_itemD (Draws.tuple (A := X.A.in1) (by have := I.ok.hd hc; simp [this]) it a hai us.toArray) he ⟨hit, p⟩ (by simpa using lu) hne (by simp [hne, hea]) fun u' h' tk hx' ho st' hT _ hk => ?_
    obtain rfl : u' = u := by
      have z : us[i]? = some u' := by simpa using hx'
      rw [hu] at z
      exact (Option.some.inj z).symm
    refine ⟨_, rfl, wpAny_letOwnedTupleGo_enum (s := { s with heap := h', toks := tk + 1 }) ho fun h2 he2 sb => ?_⟩
    have hT2 : h2.get? s.heap.objs.size = some { cls := .type "tuple", data := .seq #[.int i tk, u'] } := (sb.2 _ (Nat.ne_of_gt hel)).trans hT
    have new : ObjOk X.prog X.w (upd H s.heap.objs.size (.tup [.int (i : Nat), x])) h2 s.heap.objs.size (.tup [.int (i : Nat), x]) :=
      ⟨show 2 ≤ sizeLine by decide, [.int i tk, u'], .cons ⟨_, rfl⟩ (.cons ru .nil), ⟨_, hT2, rfl, _, rfl⟩⟩
    have I1 : Inv X pins σ (upd H s.heap.objs.size (.tup [.int (i : Nat), x])) { s with heap := h2, toks := tk + 1 } :=
      I.turnedNew (ch := [e, it]) (fun b o hb q => (sb.2 b fun z => hb (by simp [z])).trans (hk b o (fun z => hb (by simp [z])) (fun z => hb (by simp [z])) q)) hf (Nat.le_refl _) new
    refine ⟨.ref s.heap.objs.size, _, I1, rfl, ⟨_, x, rfl, I.hok.fresh (Nat.le_refl _), rfl, fun ys hy => by rw [I.tuple_inj hy hq]; exact hx⟩, ⟨⟨u', ?_⟩, st'.1.at fun o q => (sb.2 it (Ne.symm hne)).trans q, hne, hea, hai⟩, fun b hb => ?_⟩
    · rw [show ((i + 1 : Nat) : Int) = (i : Int) + 1 by omega]
      exact he2
    · have lb : b < s.heap.objs.size := by
        rcases List.mem_cons.mp hb with rfl | z
        · exact hel
        · exact (List.mem_singleton.mp z) ▸ hil
      rw [upd_ne (Nat.ne_of_lt lb)]
      exact (hf b hb).1
  done := by
    intro X hP hw hK hc i pins s σ H E I hf st hg
    subst hP hw hK
    obtain ⟨⟨old, he⟩, hit, hne, hea, hai⟩ := st
    obtain ⟨xs, hq, hx⟩ := hg
    obtain ⟨us, rv, p, _⟩ := I.tuple hq
    obtain ⟨f0, f1, _, f3, f4, f5⟩ := hf it (by simp)
    have hl := rv.length
    have D : Draws X.prog X.w X.A.in1 it [it, a] i (fun _ _ => False) (fun j h => j = i ∧ h.IsTupleIter it a j ∧ h.IsTuple a us.toArray) :=
      { live := fun _ _ st => let ⟨o, ho, _⟩ := st.2.1; ⟨o, ho⟩
        frame := fun _ _ _ st hk => ⟨st.1, st.2.1.at fun o e => hk it (by simp) o e, st.2.2.at fun o e => hk a (by simp) o e⟩
        item := fun j s Q E hj st hQ => absurd st.1 (Nat.ne_of_lt hj)
        done := fun s Q E st hE => wpAny_nextOf_tuple_end (by have := I.ok.hd hc; simp [this]) st.2.1 st.2.2 (by simp; omega) hE }
    exact wpAny_pyNext_enum_endD D he ⟨rfl, hit, p⟩ fun h' eb => ⟨rfl, I.turned (t' := s.toks) (fun b o hb q => eb b o hb q) f0 f1 f3 f4 f5⟩
  self := fun A i s Q E st h => let ⟨⟨_, he⟩, _⟩ := st; wpAny_pyIter_enum he h
def iEnT (K : PySem.W.Frag) (ta : TA) : TI := fun σ H R => ta σ H fun vs H1 => ∃ a xs, vs = [.ref a] ∧ SqT K H1 a xs ∧ R (IteT K a) H1
theorem pi_enT {X : Cx} {e : Expr} {ta : TA} {p pos tpos : Pos} {elts : List Expr} {kk : Nat} (hg : Gl X "enumerate") (hm : X.mg "enumerate" = none) (ha : PA X [e] ta) (hs : starEach [e] X.env = [(false, eval e X.env)] := by rfl) :
    PI X (.Tuple elts kk tpos) (.Call (.Name "enumerate" p) [e] [] pos) (iEnT X.K ta) := by
  refine ⟨fun pins s σ H R I h => Call_ (ld_blt I hg hm boot_enumerate (PyProof.Rows.callWith_type1 (thn (ha.run pos pins s σ H _ I h) ?_) hs rfl))⟩
  rintro us s1 ⟨vs, H1, I1, r1, a, xs, rfl, hq, q⟩
  obtain ⟨u, rfl, ru⟩ := vals1 r1
  obtain rfl : u = .ref a := ru
  obtain ⟨its, rv, p', _⟩ := I1.tuple hq
  have la : a < s1.heap.objs.size := let ⟨_, z, _⟩ := p'; Heap.lt_size z
  refine call_enT p' fun he hit hk => wpAny_pyIter_enum he ?_
  have I2 : Inv X pins σ H1 { s1 with heap := enT s1.heap a } := I1.kept (t' := s1.toks) hk
  refine ⟨s1.heap.objs.size + 1, [s1.heap.objs.size + 1, s1.heap.objs.size], _, _, H1, rfl, I2, turn_enT a (s1.heap.objs.size + 1) s1.heap.objs.size, ⟨⟨.none, he⟩, hit, Nat.succ_ne_self _, Nat.ne_of_gt (Nat.lt_succ_of_lt la), Nat.ne_of_lt la⟩, fun b hb => ?_, q⟩
  have hle : s1.heap.objs.size ≤ b := by
    rcases List.mem_cons.mp hb with rfl | z
    · exact Nat.le_add_right _ _
    · exact Nat.le_of_eq (List.mem_singleton.mp z).symm
  exact I1.fpOk hle (I1.hok.fresh hle)
end L2
end -- FwEnum
section -- a1
set_option Elab.async false
set_option linter.all false
set_option maxRecDepth 100000
set_option maxHeartbeats 4000000
local macro_rules | `(tactic| walk_at "lvl") => `(tactic| first
  | decide
  | omega
  | (simp only [Nat.add_eq]; omega))
local macro_rules | `(tactic| walk_at "side") => `(tactic| first
  | decide
  | assumption
  | omega
  | exact ⟨by decide, by decide⟩
  | exact ⟨by decide, by decide, by decide⟩
  | exact Or.inl (Or.inr ⟨by decide, by decide⟩)
  | exact Or.inl (Or.inl ⟨by decide, by decide⟩))
local macro_rules | `(tactic| walk_at "s1") => `(tactic| first
  | refine ⟨_, rfl, ?_⟩
  | refine ⟨_, _, rfl, rfl, ?_⟩
  | refine And.intro rfl ?_
  | refine L2.st_ixl (by assumption) (by rfl) ?_
  | refine L2.st_ixt (by assumption) (by rfl) ?_
  | refine L2.st_lenR (L2.lenr_l (by assumption)) ?_
  | refine L2.st_lenR (L2.lenr_t (by assumption)) ?_
  | refine And.intro (by walk_at "side") ?_)
local macro_rules | `(tactic| walk_at "go") => `(tactic| repeat (walk_at "s1"))
namespace K00
open PySem PySem.Spec PyProof.Rows L2
section
variable {P : Program} {w : World} {K : PySem.W.Frag} {mg : Str → Option Value} {base : Heap}
theorem G__law_bag (T : TL K mg) : FX P w K mg base 1 "_law_bag" [] (spBag K) := by
  obtain ⟨fd, F⟩ := F__law_bag T
  refine FX.of F (g__law_bag T) (F.ok0 sc__law_bag (fun vs H Q E h => ?_) (fun cdv A outer s H vs Q E hr h => ?_)) (fun _ _ _ _ _ _ us hl => match us, hl with | [_], _ => rfl)
  · obtain ⟨a, ns, rfl, _⟩ := h
    rfl
  · obtain ⟨a, ns, rfl, hS, hlen, k⟩ := h
    refine ⟨_, (pss_cons (ps_set (i := 1) sc__law_bag.nd rfl (by first | exact Or.inl rfl | exact Or.inr rfl) pe_int)
      (pss_cons (ps_for PassesOwn.never rfl (pi_list (pe_slice sl_list (pv 0) po_none (po_some pe_int))) (pg_name (i := 2) sc__law_bag.nd rfl (by first | exact Or.inl rfl | exact Or.inr rfl))
        (pss_one (ps_set (i := 1) sc__law_bag.nd rfl (by first | exact Or.inl rfl | exact Or.inr rfl) (pe_op op_mod (pe_callTy (T := "int") call_intG (by rfl) (f_int T) (by decide +kernel) (pa_cons (pe_op op_addG (pe_op op_addG (pe_op op_mulI (pv 1) pe_int) (pe_op op_mod (pe_callTy (T := "int") call_intG (by rfl) (f_int T) (by decide +kernel) (pa_cons (pv 2) pa_nil)) pe_int)) pe_int) pa_nil)) pe_int))))
      (pss_one (ps_ret (pe_lst (pa_cons (pe_callTy (T := "list") call_listG (by rfl) (f_list T) (by decide +kernel) (pa_cons (pe_slice sl_list (pv 0) po_none (po_some pe_int)) pa_nil)) (pa_cons pe_int (pa_cons pe_int (pa_cons (pv 1) (pa_cons pe_int pa_nil)))))))))), ?_⟩
    walk_at "go"
    refine st_sll hS fun r H1 n1 a1 s1 => ?_
    obtain ⟨ms, e1⟩ := cutV_map V.int ns none (some 63)
    rw [e1] at a1
    refine ⟨r, rfl, ⟨_, SqL.of a1⟩, for_list (K := K) (a := r) (xs := ms.map V.int) (fun i σ H' => ∃ (m : Int) (iv : Option V), σ = [some (.ref a), some (.int m), iv] ∧ (0 ≤ m ∧ m < 2147483647) ∧ H' = H1)
      ⟨90210547, none, rfl, by decide, rfl⟩ (fun i σ H' _ ⟨_, _, _, _, e⟩ => by rw [e]; exact SqL.of a1) ?_ ?_⟩
    · rintro i x σ H' hi ⟨m, iv, rfl, hm, rfl⟩
      obtain ⟨z, hz, rfl⟩ : ∃ z, ms[i]? = some z ∧ x = V.int z := by
        rw [List.getElem?_map] at hi
        cases e : ms[i]? with
        | none => rw [e] at hi; cases hi
        | some z => rw [e] at hi; exact ⟨z, rfl, (Option.some.inj hi).symm⟩
      walk_at "go"
      refine ⟨_, _, rfl, ?_, rfl⟩
      have h1 := Int.emod_nonneg (m * 48619 + z % 2147483549 + 11) (show (2147483629 : Int) ≠ 0 by decide)
      have h2 := Int.emod_lt_of_pos (m * 48619 + z % 2147483549 + 11) (show (0 : Int) < 2147483629 by decide)
      omega
    · rintro σ H' ⟨m, iv, rfl, hm, rfl⟩
      walk_at "go"
      refine st_sll (s1.seq hS) fun r2 H2 n2 a2 s2 => ?_
      rw [e1] at a2
      walk_at "go"
      refine st_listL (SqL.of a2) fun r3 H3 n3 a3 s3 => ?_
      walk_at "go"
      refine st_lst (by show 5 ≤ _; decide) fun b H4 n4 a4 s4 => ?_
      have sA := ((s1.trans s2).trans s3)
      exact k b r3 H4 (sA.free n4) ⟨ms, 0, 0, m, 0, a4, s4 _ _ a3, ne_of_none a3 n4, Int.le_refl 0, hm, Int.le_refl 0⟩ (sA.trans s4)
theorem G__law_draw (T : TL K mg) : FX P w K mg base 1 "_law_draw" [] spDraw := by
  obtain ⟨fd, F⟩ := F__law_draw T
  refine FX.of F (g__law_draw T) (F.ok0 sc__law_draw (fun vs H Q E h => ?_) (fun cdv A outer s H vs Q E hr h => ?_)) (fun _ _ _ _ _ _ us hl => match us, hl with | [_, _], _ => rfl)
  · obtain ⟨b, l, size, rfl, _⟩ := h
    rfl
  · obtain ⟨b, l, size, rfl, hB, hz, k⟩ := h
    obtain ⟨ns, kk, r, m, n, h1, h2, h3, h4, h5, h6⟩ := id hB
    refine ⟨_, (pss_cons (ps_if (pt_cmpR op_lt (pv 1) pe_int (nomark _))
        (pss_one (ps_ret pe_int))
        pss_nil)
      (pss_cons (ps_asg (pe_op op_addG (pe_ix ix_seq (pv 0) pe_int (fun _ _ => rfl)) pe_int) (pg_sub (pv 0) pe_int set_list))
      (C8.pss_cut (ps_if (PW.pt (pw_and (pt_cmpR op_eq (pe_ix ix_seq (pv 0) pe_int (fun _ _ => rfl)) pe_int (nomark _)) (pw_and1 (pt_cmpR op_lt (pe_ix ix_seq (pv 0) pe_int (fun _ _ => rfl)) (pe_callB call_lenG (by rfl) (f_len T) (by decide +kernel) (pa_cons (pe_ix ix_seq (pv 0) pe_int (fun _ _ => rfl)) pa_nil)) (nomark _)))))
        (pss_cons (ps_set (i := 2) sc__law_draw.nd rfl (by first | exact Or.inl rfl | exact Or.inr rfl) (pe_callTy (T := "int") call_intG (by rfl) (f_int T) (by decide +kernel) (pa_cons (pe_ix ix_seq (pe_ix ix_seq (pv 0) pe_int (fun _ _ => rfl)) (pe_ix ix_seq (pv 0) pe_int (fun _ _ => rfl)) (fun _ _ => rfl)) pa_nil)))
        (pss_cons (ps_asg (pe_op op_addG (pe_ix ix_seq (pv 0) pe_int (fun _ _ => rfl)) pe_int) (pg_sub (pv 0) pe_int set_list))
        (pss_one (ps_if (pt_cmpR op_ge (pv 2) (pe_op op_pow pe_int pe_int) (nomark _))
          (pss_one (ps_asg (pv 2) (pg_sub (pv 0) pe_int set_list)))
          (pss_one (ps_asg (pe_op op_mod (pe_callTy (T := "int") call_intG (by rfl) (f_int T) (by decide +kernel) (pa_cons (pe_op op_addG (pe_op op_addG (pe_op op_mulI (pe_ix ix_seq (pv 0) pe_int (fun _ _ => rfl)) pe_int) (pe_op op_mulI (pe_op op_mod (pe_callTy (T := "int") call_intG (by rfl) (f_int T) (by decide +kernel) (pa_cons (pv 2) pa_nil)) pe_int) pe_int)) pe_int) pa_nil)) pe_int) (pg_sub (pv 0) pe_int set_list)))))))
        pss_nil)
      (pss_cons (ps_if (pt_cmpR op_gt (pe_ix ix_seq (pv 0) pe_int (fun _ _ => rfl)) pe_int (nomark _))
        (pss_cons (ps_set (i := 3) sc__law_draw.nd rfl (by first | exact Or.inl rfl | exact Or.inr rfl) (pe_op op_mod (pe_callTy (T := "int") call_intG (by rfl) (f_int T) (by decide +kernel) (pa_cons (pe_ix ix_seq (pv 0) pe_int (fun _ _ => rfl)) pa_nil)) (pv 1)))
        (pss_cons (ps_asg (pe_op op_fdivW (pe_callTy (T := "int") call_intG (by rfl) (f_int T) (by decide +kernel) (pa_cons (pe_ix ix_seq (pv 0) pe_int (fun _ _ => rfl)) pa_nil)) (pv 1)) (pg_sub (pv 0) pe_int set_list))
        (pss_one (ps_ret (pv 3)))))
        pss_nil)
      (pss_cons (ps_set (i := 4) sc__law_draw.nd rfl (by first | exact Or.inl rfl | exact Or.inr rfl) (pe_callTy (T := "int") call_intG (by rfl) (f_int T) (by decide +kernel) (pa_cons (pe_ix ix_seq (pv 0) pe_int (fun _ _ => rfl)) pa_nil)))
      (pss_cons (ps_asg (pe_op op_mod (pe_callTy (T := "int") call_intG (by rfl) (f_int T) (by decide +kernel) (pa_cons (pe_op op_addG (pe_op op_addG (pe_op op_addG (pe_op op_pow (pv 4) pe_int) (pe_op op_mulI (pv 4) pe_int)) (pe_op op_mulI (pe_ix ix_seq (pv 0) pe_int (fun _ _ => rfl)) pe_int)) pe_int) pa_nil)) pe_int) (pg_sub (pv 0) pe_int set_list))
      (pss_one (ps_ret (pe_op op_mod (pe_callTy (T := "int") call_intG (by rfl) (f_int T) (by decide +kernel) (pa_cons (pe_op op_addG (pe_op op_fdivW (pe_ix ix_seq (pv 0) pe_int (fun _ _ => rfl)) pe_int) (pe_op op_mulI (pe_op op_mod (pe_callTy (T := "int") call_intG (by rfl) (f_int T) (by decide +kernel) (pa_cons (pe_ix ix_seq (pv 0) pe_int (fun _ _ => rfl)) pa_nil)) pe_int) pe_int)) pa_nil)) (pv 1)))))))))), ?_⟩
    walk_at "go"
    refine st_if (fun c => ?_) (fun c => ?_)
    · exact k 0 H (Int.le_refl 0) (.inr rfl) hB (Ext.refl b H)
    · walk_at "go"
      refine st_setX h1 (by rfl) fun H1 a1 x1 => ?_
      have b1 := x1 l _ h3 h2
      have c0 : 0 < size := by omega
      refine ⟨fun σ H' => ∃ (k' : Nat) (r' m' : Int) (iv : Option V), σ = [some (.ref b), some (.int size), iv, none, none] ∧ H' b = some (.lst [.ref l, .int (k' : Int), .int r', .int m', .int (n + 1)]) ∧ 0 ≤ r' ∧ (0 ≤ m' ∧ m' < 2147483647) ∧ Ext b H H', ?_, ?_⟩
      · walk_at "go"
        refine st_if (fun c => ?_) (fun c => ?_)
        · walk_at "go"
          refine st_if (fun c2 => ?_) (fun c2 => ?_)
          · have lk : kk < ns.length := by
              rw [List.length_map] at c2
              omega
            obtain ⟨z, hz2⟩ : ∃ z, ns[kk]? = some z := ⟨ns[kk], List.getElem?_eq_getElem lk⟩
            have hat : atI (ns.map V.int) (kk : Int) = some (.int z) := atI_nat (by rw [List.getElem?_map, hz2]; rfl)
            walk_at "go"
            refine st_ixl b1 hat ?_
            walk_at "go"
            refine st_setX a1 (by rfl) fun H2 a2 x2 => ?_
            walk_at "go"
            refine st_if (fun c3 => ?_) (fun c3 => ?_)
            · walk_at "go"
              refine st_setX a2 (by rfl) fun H3 a3 x3 => ?_
              refine ⟨kk + 1, z, m, _, rfl, ?_, ?_, h5, (x1.trans x2).trans x3⟩
              · exact a3
              · have e18 : ((10 : Int) ^ (18 : Int).toNat) = 1000000000000000000 := by decide
                rw [e18] at c3
                omega
            · walk_at "go"
              have z0 : 0 ≤ z % 2147483549 := Int.emod_nonneg _ (by decide)
              have z1 : z % 2147483549 < 2147483549 := Int.emod_lt_of_pos _ (by decide)
              walk_at "go"
              refine st_setX a2 (by rfl) fun H3 a3 x3 => ?_
              exact ⟨kk + 1, r, _, _, rfl, a3, h4, ⟨Int.emod_nonneg _ (by decide), Int.emod_lt_of_pos _ (by decide)⟩, (x1.trans x2).trans x3⟩
          · exact ⟨kk, r, m, none, rfl, a1, h4, h5, x1⟩
        · refine iteF ?_
          exact ⟨kk, r, m, none, rfl, a1, h4, h5, x1⟩
      · rintro σ H2 ⟨k2, r2, m2, iv, rfl, a2, hr2, hm2, x2⟩
        have b2 := x2 l _ h3 h2
        walk_at "go"
        refine st_if (fun c => ?_) (fun c => ?_)
        · have d1 : CDivW r2 size := wide_div c0 (b := 30) (by omega) (by decide) (by decide)
          walk_at "go"
          refine st_setX a2 (by rfl) fun H3 a3 x3 => ?_
          walk_at "go"
          exact k _ H3 (Int.emod_nonneg _ (by omega)) (.inl (Int.emod_lt_of_pos _ c0)) ⟨ns, k2, r2 / size, m2, n + 1, a3, x3 l _ h3 b2, h3, Int.ediv_nonneg hr2 (by omega), hm2, by omega⟩ (x2.trans x3)
        · have e1 : CPow m2 3 := ⟨by decide, by decide, by omega⟩
          walk_at "go"
          refine st_setX a2 (by rfl) fun H3 a3 x3 => ?_
          walk_at "go"
          refine k _ H3 (Int.emod_nonneg _ (by omega)) (.inl (Int.emod_lt_of_pos _ c0)) ⟨ns, k2, r2, _, n + 1, a3, x3 l _ h3 b2, h3, hr2, ⟨Int.emod_nonneg _ (by decide), Int.emod_lt_of_pos _ (by decide)⟩, by omega⟩ (x2.trans x3)
def spOfL (K : PySem.W.Frag) : Sp := fun vs H Q _ => ∃ (b l a : Addr) (xs : List V), vs = [.ref b, .ref a] ∧ BagAt b l H ∧ (SqL K H a xs ∨ SqT K H a xs) ∧ a ≠ b ∧ xs ≠ [] ∧ xs.length < 1000 ∧
  ∀ (x : V) (H' : Hp), x ∈ xs → BagAt b l H' → Ext b H H' → Q x H'
def spOfS : Sp := fun vs H Q _ => ∃ (b l : Addr) (z : Str), vs = [.ref b, .str z] ∧ BagAt b l H ∧ 0 < z.length ∧ z.length < 1000 ∧ ∀ (c : Nat) (H' : Hp), c ∈ z.cps.toList → BagAt b l H' → Ext b H H' → Q (.str ⟨#[c]⟩) H'
def spOf (K : PySem.W.Frag) : Sp := fun vs H Q E => spOfL K vs H Q E ∨ spOfS vs H Q E
theorem G__law_of (T : TL K mg) : FX P w K mg base 2 "_law_of" [] (spOf K) := by
  obtain ⟨fd, F⟩ := F__law_of T
  refine FX.of F (g__law_of T) (F.ok0 sc__law_of (fun vs H Q E h => ?_) (fun cdv A outer s H vs Q E hr h => ?_)) (fun _ _ _ _ _ _ us hl => match us, hl with | [_, _], _ => rfl)
  · rcases h with ⟨b, l, a, xs, rfl, _⟩ | ⟨b, l, z, rfl, _⟩ <;> rfl
  · refine ⟨_, (pss_one (ps_ret (pe_ix ix_seq (pv 1) (pe_fx (G__law_draw T) (hr.mono (by walk_at "lvl")) passL (pa_cons (pv 0) (pa_cons (pe_callB call_lenG (by rfl) (f_len T) (by decide +kernel) (pa_cons (pv 1) pa_nil)) pa_nil))) (fun _ _ => rfl)))), ?_⟩
    rcases h with ⟨b, l, a, xs, rfl, hB, hS, nab, hne, hl, k⟩ | ⟨b, l, z, rfl, hB, h0, hl, k⟩
    · have l0 : 0 < xs.length := List.length_pos_iff.mpr hne
      have hr : LenR K H a xs.length := by
        rcases hS with h | h
        · exact .inl ⟨_, h, rfl⟩
        · exact .inr ⟨_, h, rfl⟩
      walk_at "go"
      refine st_lenR hr ⟨b, l, _, rfl, hB, by omega, fun d H1 d0 d1 hB1 x1 => ?_⟩
      obtain ⟨j, rfl⟩ : ∃ j : Nat, d = (j : Int) := ⟨d.toNat, by omega⟩
      have hj : j < xs.length := by omega
      have hat : atI xs (j : Int) = some xs[j] := atI_nat (List.getElem?_eq_getElem hj)
      have fin := k xs[j] H1 (List.getElem_mem hj) hB1 x1
      rcases hS with h | h
      · exact st_ixL (x1.seq nab h) hat fin
      · exact .inr (.inl ⟨_, _, _, _, rfl, rfl, x1.seqT nab h, hat, fin⟩)
    · walk_at "go"
      have hz : z.length ≤ sizeLine := Nat.le_trans (Nat.le_of_lt hl) (by decide)
      refine st_lenS hz ⟨b, l, _, rfl, hB, by omega, fun d H1 d0 d1 hB1 x1 => ?_⟩
      obtain ⟨j, rfl⟩ : ∃ j : Nat, d = (j : Int) := ⟨d.toNat, by omega⟩
      have hj : j < z.cps.toList.length := by
        have : z.cps.toList.length = z.length := by simp [PySem.Str.length]
        omega
      exact st_ixs hz (atI_nat (List.getElem?_eq_getElem hj)) (k _ H1 (List.getElem_mem hj) hB1 x1)
end
end K00
end -- a1
section -- a3
set_option Elab.async false
set_option linter.all false
set_option maxRecDepth 100000
set_option maxHeartbeats 4000000
namespace K00
open PySem PySem.Spec PyProof.Rows L2
/-- the Ratio class -/
abbrev RC (K : PySem.W.Frag) : Addr := He.ga K "Ratio"
def tys : List String := ["NoneType", "bool", "int", "str", "list", "tuple", "dict"]
section
variable {P : Program} {w : World} {K : PySem.W.Frag} {mg : Str → Option Value} {base : Heap}
theorem exA (T : TL K mg) : exOx K = true ∧ exRk K = true ∧ exBa K = true ∧ exR K = true ∧ exR2 K = true ∧ exR3 K = true ∧ exNm K = true ∧ exG K = true := by
  have h : exK K = true := T.more
  unfold exK at h
  simp only [Bool.and_eq_true] at h
  exact h
theorem gGcd (T : TL K mg) : mg "gcd" = some (.builtin "math.gcd") := by
  obtain ⟨hp, X, G⟩ := T.kin
  exact PySem.W.mg_of X G (He.eqO_ok (exA T).2.2.2.2.2.2.2)
theorem ps_never {X : Cx} {st : Stmt} : PS X st (fun _ _ _ => False) := ⟨fun _ _ _ _ _ _ h => h.elim⟩
theorem kR (T : TL K mg) {t : String} (ht : t ∈ tys) : PySem.W.kitOne K (.type t) (.ref (RC K)) = some false := eq_of_beq (List.all_eq_true.mp (exA T).2.2.2.1 t ht)
theorem kR2 (T : TL K mg) {t : String} (ht : t ∈ ["bool", "int", "str", "list", "tuple", "dict"]) : PySem.W.kitOne K (.ref (RC K)) (.type t) = some false := eq_of_beq (List.all_eq_true.mp (exA T).2.2.2.2.1 t ht)
theorem exB (T : TL K mg) : PySem.W.kitOne K (.ref (RC K)) (.ref (RC K)) = some true ∧ PySem.W.findIn K (.ref (RC K)) "__class__" = some (some (.builtin "object.__class__")) ∧ PySem.W.specialIn K (.builtin "object.__class__") "__get__" = some (some (.builtin "getset_descriptor.__get__")) ∧
    PySem.W.takesIn K (.builtin "object.__class__") = some true ∧ PySem.W.mroIn K (RC K) (.type "object") = some true := by
  have h := (exA T).2.2.2.2.2.1
  unfold exR3 at h
  simp only [Bool.and_eq_true, beq_iff_eq] at h
  obtain ⟨⟨⟨⟨h1, h2⟩, h3⟩, h4⟩, h5⟩ := h
  exact ⟨h1, h2, h3, h4, h5⟩
theorem kR3 (T : TL K mg) : PySem.W.kitOne K (.ref (RC K)) (.ref (RC K)) = some true := (exB T).1
theorem clsR (T : TL K mg) : Cls K (RC K) := He.cls_ok (a_cls_Ratio T)
theorem tyR (T : TL K mg) {H : Hp} {a dx : Addr} {fs : List (Str × V)} (h : H a = some (.ins (RC K) dx fs)) : TyG K w H (.ref a) (.ref (RC K)) :=
  .x (.base (.ins h (clsR T) (exB T).2.1 (exB T).2.2.1 (exB T).2.2.2.1 (exB T).2.2.2.2))
theorem kRk (T : TL K mg) {p q : (Str × Nat) × Nat} (hp : p ∈ exN.zipIdx) (hq : q ∈ exN.zipIdx) {b : Bool} (hb : b = decide (p.2 = q.2)) : PySem.W.kitOne K (.ref (He.ga K p.1.1)) (.ref (He.ga K q.1.1)) = some b := by
  rw [hb]
  exact eq_of_beq (List.all_eq_true.mp (List.all_eq_true.mp (exA T).2.1 p hp) q hq)
theorem kBa (T : TL K mg) {p : Str × Nat} (hp : p ∈ exN) {v : Value} {b : Bool} (hq : (v, b) ∈ (exBs K).zip (exBd p.2)) : PySem.W.kitOne K (.ref (He.ga K p.1)) v = some b := eq_of_beq (List.all_eq_true.mp (List.all_eq_true.mp (exA T).2.2.1 p hp) (v, b) hq)
theorem xcOf (T : TL K mg) {p : Str × Nat} (hp : p ∈ exN) : ExcC K (He.ga K p.1) := by
  have h := List.all_eq_true.mp (exA T).1 p hp
  unfold oxB at h
  simp only [Bool.and_eq_true, beq_iff_eq] at h
  obtain ⟨_, ⟨⟨⟨⟨⟨⟨h6, h7⟩, h8⟩, h9⟩, h10⟩, h11⟩, h12⟩, h13⟩ := h
  exact ⟨h6, h7, h8, h9, h10, h11, h12, h13⟩
end
end K00
end -- a3
section -- a2
set_option Elab.async false
set_option linter.all false
set_option maxRecDepth 100000
set_option maxHeartbeats 4000000
local macro_rules | `(tactic| walk_at "lvl") => `(tactic| first
  | decide
  | omega
  | (simp only [Nat.add_eq]; omega))
local macro_rules | `(tactic| walk_at "side") => `(tactic| first
  | decide
  | assumption
  | omega
  | exact ⟨by decide, by decide⟩
  | exact ⟨by decide, by decide, by decide⟩
  | exact Or.inl (Or.inr ⟨by decide, by decide⟩)
  | exact Or.inl (Or.inl ⟨by decide, by decide⟩))
local macro_rules | `(tactic| walk_at "s1") => `(tactic| first
  | refine ⟨_, rfl, ?_⟩
  | refine ⟨_, _, rfl, rfl, ?_⟩
  | refine And.intro rfl ?_
  | refine L2.st_ixl (by assumption) (by rfl) ?_
  | refine L2.st_ixt (by assumption) (by rfl) ?_
  | refine L2.st_lenR (L2.lenr_l (by assumption)) ?_
  | refine L2.st_lenR (L2.lenr_t (by assumption)) ?_
  | refine And.intro (by walk_at "side") ?_)
local macro_rules | `(tactic| walk_at "go") => `(tactic| repeat (walk_at "s1"))
namespace K00
open PySem PySem.Spec PyProof.Rows L2
theorem bindsAny {K : PySem.W.Frag} {x qual : Str} {params : Arguments} {body : List Stmt} {scope : Scope} {kws : List (Str × V)} {f : Addr} {fd : FuncData} (F : FunD K x qual params body scope [] kws f fd) {args : Args} {b : List (Str × Value)}
    (h : ∀ (kV doc pm : Value) (an : Option Addr) (cdv ct : Value), bindArgs (PySem.W.fnOf x qual params body scope .none kV doc pm an cdv ct) args = pure b) (s : Shared) : BindsTo s fd args b := by
  obtain ⟨oc, od, dV, kV, doc, pm, an, cdv, ct, osl, rfl, lk, hcd, hD, hK⟩ := F.ex
  rcases hD with ⟨_, rfl⟩ | ⟨e, _⟩
  · exact .of_eq (h kV doc pm an cdv ct)
  · exact absurd rfl e
/-- an __init__ that stores: the fields that stand behind it -/
def spIn (C : Addr) (n : Nat) (fsV : List V → List (Str × V)) : Sp := fun vs H Q _ => ∃ (a : Addr) (ws : List V), vs = .ref a :: ws ∧ ws.length = n ∧ H a = some (exo a C none) ∧
  ∀ (d : Addr) (H' : Hp), H d = none → H' a = some (exo a C (some d)) → H' d = some (exd d (fsV ws)) → (∀ b o, b ≠ a → H b = some o → H' b = some o) → Q .non H'
def fs1 (code f : Str) : List V → List (Str × V) := fun ws => [(f, ws.getD 0 .non), ("code", .str code)]
def fs2 (code f g : Str) : List V → List (Str × V) := fun ws => [(g, ws.getD 1 .non), (f, ws.getD 0 .non), ("code", .str code)]
def fs0 (code : Str) : List V → List (Str × V) := fun _ => [("code", .str code)]
theorem meth_ok {K : PySem.W.Frag} {x m : Str} (h : (He.Fa.meth x m).ok K = true) : PySem.W.findIn K (.ref (He.ga K x)) m = some (some (.ref (He.ma K (He.ga K x) m))) ∧ PySem.W.typeIn K (.ref (He.ma K (He.ga K x) m)) = some (.type "function") := by
  obtain ⟨h1, h2⟩ := He.ba h
  obtain ⟨h3, h4⟩ := He.ba h2
  exact ⟨He.eqO_ok h1, beq_iff_eq.mp h3⟩
theorem oxIn {K : PySem.W.Frag} (h : exOx K = true) (p : Str × Nat) (hp : p ∈ exN) : oxB K (He.ga K p.1) (exBm p.2).1 (exBm p.2).2 = true := List.all_eq_true.mp h p hp
section
variable {P : Program} {w : World} {K : PySem.W.Frag} {mg : Str → Option Value} {base : Heap}

theorem o_InvalidRatio {K : PySem.W.Frag} {mg : Str → Option Value} (T : TL K mg) : OxC K (He.ga K "InvalidRatio") "ValueError" "ValueError.__new__" "ValueError.__init__" (exBm 0).2 :=
  oxB_ok PySem.F.excBase_ValueError PySem.F.store_ValueError (oxIn (exA T).1 ("InvalidRatio", 0) (by decide))
theorem X_InvalidRatio (T : TL K mg) : OxX P w K mg base 1 "InvalidRatio" (He.ga K "InvalidRatio") ["self", "value"] (spIn (He.ga K "InvalidRatio") 1 (fs1 "InvalidRatio" "value")) := by
  obtain ⟨fd, F⟩ := F_InvalidRatio___init__ T
  have M := meth_ok (a_meth_InvalidRatio___init__ T)
  refine ⟨_, _, _, _, _, fd, o_InvalidRatio T, g_InvalidRatio T, M.1, M.2, F.ok0 sc_InvalidRatio___init__ (fun vs H Q E h => ?_) (fun cdv A outer s H vs Q E hr h => ?_), FunD.bindsA (ps := ["self", "value"]) F (fun _ _ _ _ _ _ us hl => match us, hl with | [_, _], _ => rfl), (fun s y u n m e => by cases e; exact bindsAny F (fun _ _ _ _ _ _ => rfl) s), (fun s y u v n m l e => by cases e)⟩
  · obtain ⟨a, ws, rfl, hl, _⟩ := h
    rw [List.length_cons, hl] <;> rfl
  · obtain ⟨a, ws, rfl, hl, ha, k⟩ := h
    obtain ⟨v, rfl⟩ : ∃ v : V, ws = [v] := by
      match ws, hl with
      | [v], _ => exact ⟨_, rfl⟩
    refine ⟨_, (pss_cons (ps_oxs (pv 0) pe_str rfl)
      (pss_one (ps_oxs (pv 0) (pv 1) rfl))), ?_⟩
    walk_at "go"
    refine ⟨a, _, _, _, _, _, rfl, o_InvalidRatio T, He.eqO_ok (a_noat_InvalidRatio_code T), .inl ⟨ha, fun d H1 nd ne d1 a1 e1 => ?_⟩⟩
    walk_at "go"
    refine ⟨a, _, _, _, _, _, rfl, o_InvalidRatio T, He.eqO_ok (a_noat_InvalidRatio_value T), .inr ⟨d, _, a1, d1, Nat.le_of_ble_eq_true (by rfl), fun H2 d2 a2 e2 => ?_⟩⟩
    exact k d H2 nd a2 d2 fun b u hb hbu => e2 b u (ne_of_none hbu nd) (e1 b u hb hbu)
theorem o_InvalidGround {K : PySem.W.Frag} {mg : Str → Option Value} (T : TL K mg) : OxC K (He.ga K "InvalidGround") "ValueError" "ValueError.__new__" "ValueError.__init__" (exBm 0).2 :=
  oxB_ok PySem.F.excBase_ValueError PySem.F.store_ValueError (oxIn (exA T).1 ("InvalidGround", 0) (by decide))
theorem X_InvalidGround (T : TL K mg) : OxX P w K mg base 1 "InvalidGround" (He.ga K "InvalidGround") ["self", "value"] (spIn (He.ga K "InvalidGround") 1 (fs1 "InvalidGround" "value")) := by
  obtain ⟨fd, F⟩ := F_InvalidGround___init__ T
  have M := meth_ok (a_meth_InvalidGround___init__ T)
  refine ⟨_, _, _, _, _, fd, o_InvalidGround T, g_InvalidGround T, M.1, M.2, F.ok0 sc_InvalidGround___init__ (fun vs H Q E h => ?_) (fun cdv A outer s H vs Q E hr h => ?_), FunD.bindsA (ps := ["self", "value"]) F (fun _ _ _ _ _ _ us hl => match us, hl with | [_, _], _ => rfl), (fun s y u n m e => by cases e; exact bindsAny F (fun _ _ _ _ _ _ => rfl) s), (fun s y u v n m l e => by cases e)⟩
  · obtain ⟨a, ws, rfl, hl, _⟩ := h
    rw [List.length_cons, hl] <;> rfl
  · obtain ⟨a, ws, rfl, hl, ha, k⟩ := h
    obtain ⟨v, rfl⟩ : ∃ v : V, ws = [v] := by
      match ws, hl with
      | [v], _ => exact ⟨_, rfl⟩
    refine ⟨_, (pss_cons (ps_oxs (pv 0) pe_str rfl)
      (pss_one (ps_oxs (pv 0) (pv 1) rfl))), ?_⟩
    walk_at "go"
    refine ⟨a, _, _, _, _, _, rfl, o_InvalidGround T, He.eqO_ok (a_noat_InvalidGround_code T), .inl ⟨ha, fun d H1 nd ne d1 a1 e1 => ?_⟩⟩
    walk_at "go"
    refine ⟨a, _, _, _, _, _, rfl, o_InvalidGround T, He.eqO_ok (a_noat_InvalidGround_value T), .inr ⟨d, _, a1, d1, Nat.le_of_ble_eq_true (by rfl), fun H2 d2 a2 e2 => ?_⟩⟩
    exact k d H2 nd a2 d2 fun b u hb hbu => e2 b u (ne_of_none hbu nd) (e1 b u hb hbu)
theorem o_BadWord {K : PySem.W.Frag} {mg : Str → Option Value} (T : TL K mg) : OxC K (He.ga K "BadWord") "ValueError" "ValueError.__new__" "ValueError.__init__" (exBm 0).2 :=
  oxB_ok PySem.F.excBase_ValueError PySem.F.store_ValueError (oxIn (exA T).1 ("BadWord", 0) (by decide))
theorem X_BadWord (T : TL K mg) : OxX P w K mg base 1 "BadWord" (He.ga K "BadWord") ["self", "value"] (spIn (He.ga K "BadWord") 1 (fs1 "BadWord" "value")) := by
  obtain ⟨fd, F⟩ := F_BadWord___init__ T
  have M := meth_ok (a_meth_BadWord___init__ T)
  refine ⟨_, _, _, _, _, fd, o_BadWord T, g_BadWord T, M.1, M.2, F.ok0 sc_BadWord___init__ (fun vs H Q E h => ?_) (fun cdv A outer s H vs Q E hr h => ?_), FunD.bindsA (ps := ["self", "value"]) F (fun _ _ _ _ _ _ us hl => match us, hl with | [_, _], _ => rfl), (fun s y u n m e => by cases e; exact bindsAny F (fun _ _ _ _ _ _ => rfl) s), (fun s y u v n m l e => by cases e)⟩
  · obtain ⟨a, ws, rfl, hl, _⟩ := h
    rw [List.length_cons, hl] <;> rfl
  · obtain ⟨a, ws, rfl, hl, ha, k⟩ := h
    obtain ⟨v, rfl⟩ : ∃ v : V, ws = [v] := by
      match ws, hl with
      | [v], _ => exact ⟨_, rfl⟩
    refine ⟨_, (pss_cons (ps_oxs (pv 0) pe_str rfl)
      (pss_one (ps_oxs (pv 0) (pv 1) rfl))), ?_⟩
    walk_at "go"
    refine ⟨a, _, _, _, _, _, rfl, o_BadWord T, He.eqO_ok (a_noat_BadWord_code T), .inl ⟨ha, fun d H1 nd ne d1 a1 e1 => ?_⟩⟩
    walk_at "go"
    refine ⟨a, _, _, _, _, _, rfl, o_BadWord T, He.eqO_ok (a_noat_BadWord_value T), .inr ⟨d, _, a1, d1, Nat.le_of_ble_eq_true (by rfl), fun H2 d2 a2 e2 => ?_⟩⟩
    exact k d H2 nd a2 d2 fun b u hb hbu => e2 b u (ne_of_none hbu nd) (e1 b u hb hbu)
theorem o_BadSum {K : PySem.W.Frag} {mg : Str → Option Value} (T : TL K mg) : OxC K (He.ga K "BadSum") "ValueError" "ValueError.__new__" "ValueError.__init__" (exBm 0).2 :=
  oxB_ok PySem.F.excBase_ValueError PySem.F.store_ValueError (oxIn (exA T).1 ("BadSum", 0) (by decide))
theorem X_BadSum (T : TL K mg) : OxX P w K mg base 1 "BadSum" (He.ga K "BadSum") ["self", "value"] (spIn (He.ga K "BadSum") 1 (fs1 "BadSum" "value")) := by
  obtain ⟨fd, F⟩ := F_BadSum___init__ T
  have M := meth_ok (a_meth_BadSum___init__ T)
  refine ⟨_, _, _, _, _, fd, o_BadSum T, g_BadSum T, M.1, M.2, F.ok0 sc_BadSum___init__ (fun vs H Q E h => ?_) (fun cdv A outer s H vs Q E hr h => ?_), FunD.bindsA (ps := ["self", "value"]) F (fun _ _ _ _ _ _ us hl => match us, hl with | [_, _], _ => rfl), (fun s y u n m e => by cases e; exact bindsAny F (fun _ _ _ _ _ _ => rfl) s), (fun s y u v n m l e => by cases e)⟩
  · obtain ⟨a, ws, rfl, hl, _⟩ := h
    rw [List.length_cons, hl] <;> rfl
  · obtain ⟨a, ws, rfl, hl, ha, k⟩ := h
    obtain ⟨v, rfl⟩ : ∃ v : V, ws = [v] := by
      match ws, hl with
      | [v], _ => exact ⟨_, rfl⟩
    refine ⟨_, (pss_cons (ps_oxs (pv 0) pe_str rfl)
      (pss_one (ps_oxs (pv 0) (pv 1) rfl))), ?_⟩
    walk_at "go"
    refine ⟨a, _, _, _, _, _, rfl, o_BadSum T, He.eqO_ok (a_noat_BadSum_code T), .inl ⟨ha, fun d H1 nd ne d1 a1 e1 => ?_⟩⟩
    walk_at "go"
    refine ⟨a, _, _, _, _, _, rfl, o_BadSum T, He.eqO_ok (a_noat_BadSum_value T), .inr ⟨d, _, a1, d1, Nat.le_of_ble_eq_true (by rfl), fun H2 d2 a2 e2 => ?_⟩⟩
    exact k d H2 nd a2 d2 fun b u hb hbu => e2 b u (ne_of_none hbu nd) (e1 b u hb hbu)
theorem o_BadStanding {K : PySem.W.Frag} {mg : Str → Option Value} (T : TL K mg) : OxC K (He.ga K "BadStanding") "ValueError" "ValueError.__new__" "ValueError.__init__" (exBm 0).2 :=
  oxB_ok PySem.F.excBase_ValueError PySem.F.store_ValueError (oxIn (exA T).1 ("BadStanding", 0) (by decide))
theorem X_BadStanding (T : TL K mg) : OxX P w K mg base 1 "BadStanding" (He.ga K "BadStanding") ["self", "value"] (spIn (He.ga K "BadStanding") 1 (fs1 "BadStanding" "value")) := by
  obtain ⟨fd, F⟩ := F_BadStanding___init__ T
  have M := meth_ok (a_meth_BadStanding___init__ T)
  refine ⟨_, _, _, _, _, fd, o_BadStanding T, g_BadStanding T, M.1, M.2, F.ok0 sc_BadStanding___init__ (fun vs H Q E h => ?_) (fun cdv A outer s H vs Q E hr h => ?_), FunD.bindsA (ps := ["self", "value"]) F (fun _ _ _ _ _ _ us hl => match us, hl with | [_, _], _ => rfl), (fun s y u n m e => by cases e; exact bindsAny F (fun _ _ _ _ _ _ => rfl) s), (fun s y u v n m l e => by cases e)⟩
  · obtain ⟨a, ws, rfl, hl, _⟩ := h
    rw [List.length_cons, hl] <;> rfl
  · obtain ⟨a, ws, rfl, hl, ha, k⟩ := h
    obtain ⟨v, rfl⟩ : ∃ v : V, ws = [v] := by
      match ws, hl with
      | [v], _ => exact ⟨_, rfl⟩
    refine ⟨_, (pss_cons (ps_oxs (pv 0) pe_str rfl)
      (pss_one (ps_oxs (pv 0) (pv 1) rfl))), ?_⟩
    walk_at "go"
    refine ⟨a, _, _, _, _, _, rfl, o_BadStanding T, He.eqO_ok (a_noat_BadStanding_code T), .inl ⟨ha, fun d H1 nd ne d1 a1 e1 => ?_⟩⟩
    walk_at "go"
    refine ⟨a, _, _, _, _, _, rfl, o_BadStanding T, He.eqO_ok (a_noat_BadStanding_value T), .inr ⟨d, _, a1, d1, Nat.le_of_ble_eq_true (by rfl), fun H2 d2 a2 e2 => ?_⟩⟩
    exact k d H2 nd a2 d2 fun b u hb hbu => e2 b u (ne_of_none hbu nd) (e1 b u hb hbu)
theorem o_BadFlat {K : PySem.W.Frag} {mg : Str → Option Value} (T : TL K mg) : OxC K (He.ga K "BadFlat") "ValueError" "ValueError.__new__" "ValueError.__init__" (exBm 0).2 :=
  oxB_ok PySem.F.excBase_ValueError PySem.F.store_ValueError (oxIn (exA T).1 ("BadFlat", 0) (by decide))
theorem X_BadFlat (T : TL K mg) : OxX P w K mg base 1 "BadFlat" (He.ga K "BadFlat") ["self", "value"] (spIn (He.ga K "BadFlat") 1 (fs1 "BadFlat" "value")) := by
  obtain ⟨fd, F⟩ := F_BadFlat___init__ T
  have M := meth_ok (a_meth_BadFlat___init__ T)
  refine ⟨_, _, _, _, _, fd, o_BadFlat T, g_BadFlat T, M.1, M.2, F.ok0 sc_BadFlat___init__ (fun vs H Q E h => ?_) (fun cdv A outer s H vs Q E hr h => ?_), FunD.bindsA (ps := ["self", "value"]) F (fun _ _ _ _ _ _ us hl => match us, hl with | [_, _], _ => rfl), (fun s y u n m e => by cases e; exact bindsAny F (fun _ _ _ _ _ _ => rfl) s), (fun s y u v n m l e => by cases e)⟩
  · obtain ⟨a, ws, rfl, hl, _⟩ := h
    rw [List.length_cons, hl] <;> rfl
  · obtain ⟨a, ws, rfl, hl, ha, k⟩ := h
    obtain ⟨v, rfl⟩ : ∃ v : V, ws = [v] := by
      match ws, hl with
      | [v], _ => exact ⟨_, rfl⟩
    refine ⟨_, (pss_cons (ps_oxs (pv 0) pe_str rfl)
      (pss_one (ps_oxs (pv 0) (pv 1) rfl))), ?_⟩
    walk_at "go"
    refine ⟨a, _, _, _, _, _, rfl, o_BadFlat T, He.eqO_ok (a_noat_BadFlat_code T), .inl ⟨ha, fun d H1 nd ne d1 a1 e1 => ?_⟩⟩
    walk_at "go"
    refine ⟨a, _, _, _, _, _, rfl, o_BadFlat T, He.eqO_ok (a_noat_BadFlat_value T), .inr ⟨d, _, a1, d1, Nat.le_of_ble_eq_true (by rfl), fun H2 d2 a2 e2 => ?_⟩⟩
    exact k d H2 nd a2 d2 fun b u hb hbu => e2 b u (ne_of_none hbu nd) (e1 b u hb hbu)
theorem o_BadClaim {K : PySem.W.Frag} {mg : Str → Option Value} (T : TL K mg) : OxC K (He.ga K "BadClaim") "ValueError" "ValueError.__new__" "ValueError.__init__" (exBm 0).2 :=
  oxB_ok PySem.F.excBase_ValueError PySem.F.store_ValueError (oxIn (exA T).1 ("BadClaim", 0) (by decide))
theorem X_BadClaim (T : TL K mg) : OxX P w K mg base 1 "BadClaim" (He.ga K "BadClaim") ["self", "value"] (spIn (He.ga K "BadClaim") 1 (fs1 "BadClaim" "value")) := by
  obtain ⟨fd, F⟩ := F_BadClaim___init__ T
  have M := meth_ok (a_meth_BadClaim___init__ T)
  refine ⟨_, _, _, _, _, fd, o_BadClaim T, g_BadClaim T, M.1, M.2, F.ok0 sc_BadClaim___init__ (fun vs H Q E h => ?_) (fun cdv A outer s H vs Q E hr h => ?_), FunD.bindsA (ps := ["self", "value"]) F (fun _ _ _ _ _ _ us hl => match us, hl with | [_, _], _ => rfl), (fun s y u n m e => by cases e; exact bindsAny F (fun _ _ _ _ _ _ => rfl) s), (fun s y u v n m l e => by cases e)⟩
  · obtain ⟨a, ws, rfl, hl, _⟩ := h
    rw [List.length_cons, hl] <;> rfl
  · obtain ⟨a, ws, rfl, hl, ha, k⟩ := h
    obtain ⟨v, rfl⟩ : ∃ v : V, ws = [v] := by
      match ws, hl with
      | [v], _ => exact ⟨_, rfl⟩
    refine ⟨_, (pss_cons (ps_oxs (pv 0) pe_str rfl)
      (pss_one (ps_oxs (pv 0) (pv 1) rfl))), ?_⟩
    walk_at "go"
    refine ⟨a, _, _, _, _, _, rfl, o_BadClaim T, He.eqO_ok (a_noat_BadClaim_code T), .inl ⟨ha, fun d H1 nd ne d1 a1 e1 => ?_⟩⟩
    walk_at "go"
    refine ⟨a, _, _, _, _, _, rfl, o_BadClaim T, He.eqO_ok (a_noat_BadClaim_value T), .inr ⟨d, _, a1, d1, Nat.le_of_ble_eq_true (by rfl), fun H2 d2 a2 e2 => ?_⟩⟩
    exact k d H2 nd a2 d2 fun b u hb hbu => e2 b u (ne_of_none hbu nd) (e1 b u hb hbu)
theorem o_Unknown {K : PySem.W.Frag} {mg : Str → Option Value} (T : TL K mg) : OxC K (He.ga K "Unknown") "LookupError" "LookupError.__new__" "LookupError.__init__" (exBm 1).2 :=
  oxB_ok PySem.F.excBase_LookupError PySem.F.store_LookupError (oxIn (exA T).1 ("Unknown", 1) (by decide))
theorem X_Unknown (T : TL K mg) : OxX P w K mg base 1 "Unknown" (He.ga K "Unknown") ["self", "value"] (spIn (He.ga K "Unknown") 1 (fs1 "Unknown" "value")) := by
  obtain ⟨fd, F⟩ := F_Unknown___init__ T
  have M := meth_ok (a_meth_Unknown___init__ T)
  refine ⟨_, _, _, _, _, fd, o_Unknown T, g_Unknown T, M.1, M.2, F.ok0 sc_Unknown___init__ (fun vs H Q E h => ?_) (fun cdv A outer s H vs Q E hr h => ?_), FunD.bindsA (ps := ["self", "value"]) F (fun _ _ _ _ _ _ us hl => match us, hl with | [_, _], _ => rfl), (fun s y u n m e => by cases e; exact bindsAny F (fun _ _ _ _ _ _ => rfl) s), (fun s y u v n m l e => by cases e)⟩
  · obtain ⟨a, ws, rfl, hl, _⟩ := h
    rw [List.length_cons, hl] <;> rfl
  · obtain ⟨a, ws, rfl, hl, ha, k⟩ := h
    obtain ⟨v, rfl⟩ : ∃ v : V, ws = [v] := by
      match ws, hl with
      | [v], _ => exact ⟨_, rfl⟩
    refine ⟨_, (pss_cons (ps_oxs (pv 0) pe_str rfl)
      (pss_one (ps_oxs (pv 0) (pv 1) rfl))), ?_⟩
    walk_at "go"
    refine ⟨a, _, _, _, _, _, rfl, o_Unknown T, He.eqO_ok (a_noat_Unknown_code T), .inl ⟨ha, fun d H1 nd ne d1 a1 e1 => ?_⟩⟩
    walk_at "go"
    refine ⟨a, _, _, _, _, _, rfl, o_Unknown T, He.eqO_ok (a_noat_Unknown_value T), .inr ⟨d, _, a1, d1, Nat.le_of_ble_eq_true (by rfl), fun H2 d2 a2 e2 => ?_⟩⟩
    exact k d H2 nd a2 d2 fun b u hb hbu => e2 b u (ne_of_none hbu nd) (e1 b u hb hbu)
theorem o_NotThere {K : PySem.W.Frag} {mg : Str → Option Value} (T : TL K mg) : OxC K (He.ga K "NotThere") "LookupError" "LookupError.__new__" "LookupError.__init__" (exBm 1).2 :=
  oxB_ok PySem.F.excBase_LookupError PySem.F.store_LookupError (oxIn (exA T).1 ("NotThere", 1) (by decide))
theorem X_NotThere (T : TL K mg) : OxX P w K mg base 1 "NotThere" (He.ga K "NotThere") ["self", "value"] (spIn (He.ga K "NotThere") 1 (fs1 "NotThere" "value")) := by
  obtain ⟨fd, F⟩ := F_NotThere___init__ T
  have M := meth_ok (a_meth_NotThere___init__ T)
  refine ⟨_, _, _, _, _, fd, o_NotThere T, g_NotThere T, M.1, M.2, F.ok0 sc_NotThere___init__ (fun vs H Q E h => ?_) (fun cdv A outer s H vs Q E hr h => ?_), FunD.bindsA (ps := ["self", "value"]) F (fun _ _ _ _ _ _ us hl => match us, hl with | [_, _], _ => rfl), (fun s y u n m e => by cases e; exact bindsAny F (fun _ _ _ _ _ _ => rfl) s), (fun s y u v n m l e => by cases e)⟩
  · obtain ⟨a, ws, rfl, hl, _⟩ := h
    rw [List.length_cons, hl] <;> rfl
  · obtain ⟨a, ws, rfl, hl, ha, k⟩ := h
    obtain ⟨v, rfl⟩ : ∃ v : V, ws = [v] := by
      match ws, hl with
      | [v], _ => exact ⟨_, rfl⟩
    refine ⟨_, (pss_cons (ps_oxs (pv 0) pe_str rfl)
      (pss_one (ps_oxs (pv 0) (pv 1) rfl))), ?_⟩
    walk_at "go"
    refine ⟨a, _, _, _, _, _, rfl, o_NotThere T, He.eqO_ok (a_noat_NotThere_code T), .inl ⟨ha, fun d H1 nd ne d1 a1 e1 => ?_⟩⟩
    walk_at "go"
    refine ⟨a, _, _, _, _, _, rfl, o_NotThere T, He.eqO_ok (a_noat_NotThere_value T), .inr ⟨d, _, a1, d1, Nat.le_of_ble_eq_true (by rfl), fun H2 d2 a2 e2 => ?_⟩⟩
    exact k d H2 nd a2 d2 fun b u hb hbu => e2 b u (ne_of_none hbu nd) (e1 b u hb hbu)
theorem o_BadDevice {K : PySem.W.Frag} {mg : Str → Option Value} (T : TL K mg) : OxC K (He.ga K "BadDevice") "ValueError" "ValueError.__new__" "ValueError.__init__" (exBm 0).2 :=
  oxB_ok PySem.F.excBase_ValueError PySem.F.store_ValueError (oxIn (exA T).1 ("BadDevice", 0) (by decide))
theorem X_BadDevice (T : TL K mg) : OxX P w K mg base 1 "BadDevice" (He.ga K "BadDevice") ["self", "line"] (spIn (He.ga K "BadDevice") 1 (fs1 "BadDevice" "line")) := by
  obtain ⟨fd, F⟩ := F_BadDevice___init__ T
  have M := meth_ok (a_meth_BadDevice___init__ T)
  refine ⟨_, _, _, _, _, fd, o_BadDevice T, g_BadDevice T, M.1, M.2, F.ok0 sc_BadDevice___init__ (fun vs H Q E h => ?_) (fun cdv A outer s H vs Q E hr h => ?_), FunD.bindsA (ps := ["self", "line"]) F (fun _ _ _ _ _ _ us hl => match us, hl with | [_, _], _ => rfl), (fun s y u n m e => by cases e; exact bindsAny F (fun _ _ _ _ _ _ => rfl) s), (fun s y u v n m l e => by cases e)⟩
  · obtain ⟨a, ws, rfl, hl, _⟩ := h
    rw [List.length_cons, hl] <;> rfl
  · obtain ⟨a, ws, rfl, hl, ha, k⟩ := h
    obtain ⟨v, rfl⟩ : ∃ v : V, ws = [v] := by
      match ws, hl with
      | [v], _ => exact ⟨_, rfl⟩
    refine ⟨_, (pss_cons (ps_oxs (pv 0) pe_str rfl)
      (pss_one (ps_oxs (pv 0) (pv 1) rfl))), ?_⟩
    walk_at "go"
    refine ⟨a, _, _, _, _, _, rfl, o_BadDevice T, He.eqO_ok (a_noat_BadDevice_code T), .inl ⟨ha, fun d H1 nd ne d1 a1 e1 => ?_⟩⟩
    walk_at "go"
    refine ⟨a, _, _, _, _, _, rfl, o_BadDevice T, He.eqO_ok (a_noat_BadDevice_line T), .inr ⟨d, _, a1, d1, Nat.le_of_ble_eq_true (by rfl), fun H2 d2 a2 e2 => ?_⟩⟩
    exact k d H2 nd a2 d2 fun b u hb hbu => e2 b u (ne_of_none hbu nd) (e1 b u hb hbu)
theorem o_BadForm {K : PySem.W.Frag} {mg : Str → Option Value} (T : TL K mg) : OxC K (He.ga K "BadForm") "ValueError" "ValueError.__new__" "ValueError.__init__" (exBm 0).2 :=
  oxB_ok PySem.F.excBase_ValueError PySem.F.store_ValueError (oxIn (exA T).1 ("BadForm", 0) (by decide))
theorem X_BadForm (T : TL K mg) : OxX P w K mg base 1 "BadForm" (He.ga K "BadForm") ["self", "line"] (spIn (He.ga K "BadForm") 1 (fs1 "BadForm" "line")) := by
  obtain ⟨fd, F⟩ := F_BadForm___init__ T
  have M := meth_ok (a_meth_BadForm___init__ T)
  refine ⟨_, _, _, _, _, fd, o_BadForm T, g_BadForm T, M.1, M.2, F.ok0 sc_BadForm___init__ (fun vs H Q E h => ?_) (fun cdv A outer s H vs Q E hr h => ?_), FunD.bindsA (ps := ["self", "line"]) F (fun _ _ _ _ _ _ us hl => match us, hl with | [_, _], _ => rfl), (fun s y u n m e => by cases e; exact bindsAny F (fun _ _ _ _ _ _ => rfl) s), (fun s y u v n m l e => by cases e)⟩
  · obtain ⟨a, ws, rfl, hl, _⟩ := h
    rw [List.length_cons, hl] <;> rfl
  · obtain ⟨a, ws, rfl, hl, ha, k⟩ := h
    obtain ⟨v, rfl⟩ : ∃ v : V, ws = [v] := by
      match ws, hl with
      | [v], _ => exact ⟨_, rfl⟩
    refine ⟨_, (pss_cons (ps_oxs (pv 0) pe_str rfl)
      (pss_one (ps_oxs (pv 0) (pv 1) rfl))), ?_⟩
    walk_at "go"
    refine ⟨a, _, _, _, _, _, rfl, o_BadForm T, He.eqO_ok (a_noat_BadForm_code T), .inl ⟨ha, fun d H1 nd ne d1 a1 e1 => ?_⟩⟩
    walk_at "go"
    refine ⟨a, _, _, _, _, _, rfl, o_BadForm T, He.eqO_ok (a_noat_BadForm_line T), .inr ⟨d, _, a1, d1, Nat.le_of_ble_eq_true (by rfl), fun H2 d2 a2 e2 => ?_⟩⟩
    exact k d H2 nd a2 d2 fun b u hb hbu => e2 b u (ne_of_none hbu nd) (e1 b u hb hbu)
theorem o_BadBook {K : PySem.W.Frag} {mg : Str → Option Value} (T : TL K mg) : OxC K (He.ga K "BadBook") "ValueError" "ValueError.__new__" "ValueError.__init__" (exBm 0).2 :=
  oxB_ok PySem.F.excBase_ValueError PySem.F.store_ValueError (oxIn (exA T).1 ("BadBook", 0) (by decide))
theorem X_BadBook (T : TL K mg) : OxX P w K mg base 1 "BadBook" (He.ga K "BadBook") ["self", "line"] (spIn (He.ga K "BadBook") 1 (fs1 "BadBook" "line")) := by
  obtain ⟨fd, F⟩ := F_BadBook___init__ T
  have M := meth_ok (a_meth_BadBook___init__ T)
  refine ⟨_, _, _, _, _, fd, o_BadBook T, g_BadBook T, M.1, M.2, F.ok0 sc_BadBook___init__ (fun vs H Q E h => ?_) (fun cdv A outer s H vs Q E hr h => ?_), FunD.bindsA (ps := ["self", "line"]) F (fun _ _ _ _ _ _ us hl => match us, hl with | [_, _], _ => rfl), (fun s y u n m e => by cases e; exact bindsAny F (fun _ _ _ _ _ _ => rfl) s), (fun s y u v n m l e => by cases e)⟩
  · obtain ⟨a, ws, rfl, hl, _⟩ := h
    rw [List.length_cons, hl] <;> rfl
  · obtain ⟨a, ws, rfl, hl, ha, k⟩ := h
    obtain ⟨v, rfl⟩ : ∃ v : V, ws = [v] := by
      match ws, hl with
      | [v], _ => exact ⟨_, rfl⟩
    refine ⟨_, (pss_cons (ps_oxs (pv 0) pe_str rfl)
      (pss_one (ps_oxs (pv 0) (pv 1) rfl))), ?_⟩
    walk_at "go"
    refine ⟨a, _, _, _, _, _, rfl, o_BadBook T, He.eqO_ok (a_noat_BadBook_code T), .inl ⟨ha, fun d H1 nd ne d1 a1 e1 => ?_⟩⟩
    walk_at "go"
    refine ⟨a, _, _, _, _, _, rfl, o_BadBook T, He.eqO_ok (a_noat_BadBook_line T), .inr ⟨d, _, a1, d1, Nat.le_of_ble_eq_true (by rfl), fun H2 d2 a2 e2 => ?_⟩⟩
    exact k d H2 nd a2 d2 fun b u hb hbu => e2 b u (ne_of_none hbu nd) (e1 b u hb hbu)
theorem o_BadScript {K : PySem.W.Frag} {mg : Str → Option Value} (T : TL K mg) : OxC K (He.ga K "BadScript") "ValueError" "ValueError.__new__" "ValueError.__init__" (exBm 0).2 :=
  oxB_ok PySem.F.excBase_ValueError PySem.F.store_ValueError (oxIn (exA T).1 ("BadScript", 0) (by decide))
theorem X_BadScript (T : TL K mg) : OxX P w K mg base 1 "BadScript" (He.ga K "BadScript") ["self", "line"] (spIn (He.ga K "BadScript") 1 (fs1 "BadScript" "line")) := by
  obtain ⟨fd, F⟩ := F_BadScript___init__ T
  have M := meth_ok (a_meth_BadScript___init__ T)
  refine ⟨_, _, _, _, _, fd, o_BadScript T, g_BadScript T, M.1, M.2, F.ok0 sc_BadScript___init__ (fun vs H Q E h => ?_) (fun cdv A outer s H vs Q E hr h => ?_), FunD.bindsA (ps := ["self", "line"]) F (fun _ _ _ _ _ _ us hl => match us, hl with | [_, _], _ => rfl), (fun s y u n m e => by cases e; exact bindsAny F (fun _ _ _ _ _ _ => rfl) s), (fun s y u v n m l e => by cases e)⟩
  · obtain ⟨a, ws, rfl, hl, _⟩ := h
    rw [List.length_cons, hl] <;> rfl
  · obtain ⟨a, ws, rfl, hl, ha, k⟩ := h
    obtain ⟨v, rfl⟩ : ∃ v : V, ws = [v] := by
      match ws, hl with
      | [v], _ => exact ⟨_, rfl⟩
    refine ⟨_, (pss_cons (ps_oxs (pv 0) pe_str rfl)
      (pss_one (ps_oxs (pv 0) (pv 1) rfl))), ?_⟩
    walk_at "go"
    refine ⟨a, _, _, _, _, _, rfl, o_BadScript T, He.eqO_ok (a_noat_BadScript_code T), .inl ⟨ha, fun d H1 nd ne d1 a1 e1 => ?_⟩⟩
    walk_at "go"
    refine ⟨a, _, _, _, _, _, rfl, o_BadScript T, He.eqO_ok (a_noat_BadScript_line T), .inr ⟨d, _, a1, d1, Nat.le_of_ble_eq_true (by rfl), fun H2 d2 a2 e2 => ?_⟩⟩
    exact k d H2 nd a2 d2 fun b u hb hbu => e2 b u (ne_of_none hbu nd) (e1 b u hb hbu)
theorem o_BadPaper {K : PySem.W.Frag} {mg : Str → Option Value} (T : TL K mg) : OxC K (He.ga K "BadPaper") "ValueError" "ValueError.__new__" "ValueError.__init__" (exBm 0).2 :=
  oxB_ok PySem.F.excBase_ValueError PySem.F.store_ValueError (oxIn (exA T).1 ("BadPaper", 0) (by decide))
theorem X_BadPaper (T : TL K mg) : OxX P w K mg base 1 "BadPaper" (He.ga K "BadPaper") ["self", "part"] (spIn (He.ga K "BadPaper") 1 (fs1 "BadPaper" "part")) := by
  obtain ⟨fd, F⟩ := F_BadPaper___init__ T
  have M := meth_ok (a_meth_BadPaper___init__ T)
  refine ⟨_, _, _, _, _, fd, o_BadPaper T, g_BadPaper T, M.1, M.2, F.ok0 sc_BadPaper___init__ (fun vs H Q E h => ?_) (fun cdv A outer s H vs Q E hr h => ?_), FunD.bindsA (ps := ["self", "part"]) F (fun _ _ _ _ _ _ us hl => match us, hl with | [_, _], _ => rfl), (fun s y u n m e => by cases e; exact bindsAny F (fun _ _ _ _ _ _ => rfl) s), (fun s y u v n m l e => by cases e)⟩
  · obtain ⟨a, ws, rfl, hl, _⟩ := h
    rw [List.length_cons, hl] <;> rfl
  · obtain ⟨a, ws, rfl, hl, ha, k⟩ := h
    obtain ⟨v, rfl⟩ : ∃ v : V, ws = [v] := by
      match ws, hl with
      | [v], _ => exact ⟨_, rfl⟩
    refine ⟨_, (pss_cons (ps_oxs (pv 0) pe_str rfl)
      (pss_one (ps_oxs (pv 0) (pv 1) rfl))), ?_⟩
    walk_at "go"
    refine ⟨a, _, _, _, _, _, rfl, o_BadPaper T, He.eqO_ok (a_noat_BadPaper_code T), .inl ⟨ha, fun d H1 nd ne d1 a1 e1 => ?_⟩⟩
    walk_at "go"
    refine ⟨a, _, _, _, _, _, rfl, o_BadPaper T, He.eqO_ok (a_noat_BadPaper_part T), .inr ⟨d, _, a1, d1, Nat.le_of_ble_eq_true (by rfl), fun H2 d2 a2 e2 => ?_⟩⟩
    exact k d H2 nd a2 d2 fun b u hb hbu => e2 b u (ne_of_none hbu nd) (e1 b u hb hbu)
theorem o_BadStep {K : PySem.W.Frag} {mg : Str → Option Value} (T : TL K mg) : OxC K (He.ga K "BadStep") "ValueError" "ValueError.__new__" "ValueError.__init__" (exBm 0).2 :=
  oxB_ok PySem.F.excBase_ValueError PySem.F.store_ValueError (oxIn (exA T).1 ("BadStep", 0) (by decide))
theorem X_BadStep (T : TL K mg) : OxX P w K mg base 1 "BadStep" (He.ga K "BadStep") ["self", "at"] (spIn (He.ga K "BadStep") 1 (fs1 "BadStep" "at")) := by
  obtain ⟨fd, F⟩ := F_BadStep___init__ T
  have M := meth_ok (a_meth_BadStep___init__ T)
  refine ⟨_, _, _, _, _, fd, o_BadStep T, g_BadStep T, M.1, M.2, F.ok0 sc_BadStep___init__ (fun vs H Q E h => ?_) (fun cdv A outer s H vs Q E hr h => ?_), FunD.bindsA (ps := ["self", "at"]) F (fun _ _ _ _ _ _ us hl => match us, hl with | [_, _], _ => rfl), (fun s y u n m e => by cases e; exact bindsAny F (fun _ _ _ _ _ _ => rfl) s), (fun s y u v n m l e => by cases e)⟩
  · obtain ⟨a, ws, rfl, hl, _⟩ := h
    rw [List.length_cons, hl] <;> rfl
  · obtain ⟨a, ws, rfl, hl, ha, k⟩ := h
    obtain ⟨v, rfl⟩ : ∃ v : V, ws = [v] := by
      match ws, hl with
      | [v], _ => exact ⟨_, rfl⟩
    refine ⟨_, (pss_cons (ps_oxs (pv 0) pe_str rfl)
      (pss_one (ps_oxs (pv 0) (pv 1) rfl))), ?_⟩
    walk_at "go"
    refine ⟨a, _, _, _, _, _, rfl, o_BadStep T, He.eqO_ok (a_noat_BadStep_code T), .inl ⟨ha, fun d H1 nd ne d1 a1 e1 => ?_⟩⟩
    walk_at "go"
    refine ⟨a, _, _, _, _, _, rfl, o_BadStep T, He.eqO_ok (a_noat_BadStep_at T), .inr ⟨d, _, a1, d1, Nat.le_of_ble_eq_true (by rfl), fun H2 d2 a2 e2 => ?_⟩⟩
    exact k d H2 nd a2 d2 fun b u hb hbu => e2 b u (ne_of_none hbu nd) (e1 b u hb hbu)
theorem o_NotKept {K : PySem.W.Frag} {mg : Str → Option Value} (T : TL K mg) : OxC K (He.ga K "NotKept") "ValueError" "ValueError.__new__" "ValueError.__init__" (exBm 0).2 :=
  oxB_ok PySem.F.excBase_ValueError PySem.F.store_ValueError (oxIn (exA T).1 ("NotKept", 0) (by decide))
theorem X_NotKept (T : TL K mg) : OxX P w K mg base 1 "NotKept" (He.ga K "NotKept") ["self", "condition", "where"] (spIn (He.ga K "NotKept") 2 (fs2 "NotKept" "condition" "where")) := by
  obtain ⟨fd, F⟩ := F_NotKept___init__ T
  have M := meth_ok (a_meth_NotKept___init__ T)
  refine ⟨_, _, _, _, _, fd, o_NotKept T, g_NotKept T, M.1, M.2, F.ok0 sc_NotKept___init__ (fun vs H Q E h => ?_) (fun cdv A outer s H vs Q E hr h => ?_), FunD.bindsA (ps := ["self", "condition", "where"]) F (fun _ _ _ _ _ _ us hl => match us, hl with | [_, _, _], _ => rfl), (fun s y u n m e => by cases e), (fun s y u v n m l e => by cases e; exact bindsAny F (fun _ _ _ _ _ _ => rfl) s)⟩
  · obtain ⟨a, ws, rfl, hl, _⟩ := h
    rw [List.length_cons, hl] <;> rfl
  · obtain ⟨a, ws, rfl, hl, ha, k⟩ := h
    obtain ⟨v, v2, rfl⟩ : ∃ v v2 : V, ws = [v, v2] := by
      match ws, hl with
      | [v, v2], _ => exact ⟨_, _, rfl⟩
    refine ⟨_, (pss_cons (ps_oxs (pv 0) pe_str rfl)
      (pss_cons (ps_oxs (pv 0) (pv 1) rfl)
      (pss_one (ps_oxs (pv 0) (pv 2) rfl)))), ?_⟩
    walk_at "go"
    refine ⟨a, _, _, _, _, _, rfl, o_NotKept T, He.eqO_ok (a_noat_NotKept_code T), .inl ⟨ha, fun d H1 nd ne d1 a1 e1 => ?_⟩⟩
    walk_at "go"
    refine ⟨a, _, _, _, _, _, rfl, o_NotKept T, He.eqO_ok (a_noat_NotKept_condition T), .inr ⟨d, _, a1, d1, Nat.le_of_ble_eq_true (by rfl), fun H2 d2 a2 e2 => ?_⟩⟩
    walk_at "go"
    refine ⟨a, _, _, _, _, _, rfl, o_NotKept T, He.eqO_ok (a_noat_NotKept_where T), .inr ⟨d, _, a2, d2, Nat.le_of_ble_eq_true (by rfl), fun H3 d3 a3 e3 => ?_⟩⟩
    exact k d H3 nd a3 d3 fun b u hb hbu => e3 b u (ne_of_none hbu nd) (e2 b u (ne_of_none hbu nd) (e1 b u hb hbu))
theorem o_NotEnough {K : PySem.W.Frag} {mg : Str → Option Value} (T : TL K mg) : OxC K (He.ga K "NotEnough") "ValueError" "ValueError.__new__" "ValueError.__init__" (exBm 0).2 :=
  oxB_ok PySem.F.excBase_ValueError PySem.F.store_ValueError (oxIn (exA T).1 ("NotEnough", 0) (by decide))
theorem X_NotEnough (T : TL K mg) : OxX P w K mg base 1 "NotEnough" (He.ga K "NotEnough") ["self", "fewest"] (spIn (He.ga K "NotEnough") 1 (fs1 "NotEnough" "fewest")) := by
  obtain ⟨fd, F⟩ := F_NotEnough___init__ T
  have M := meth_ok (a_meth_NotEnough___init__ T)
  refine ⟨_, _, _, _, _, fd, o_NotEnough T, g_NotEnough T, M.1, M.2, F.ok0 sc_NotEnough___init__ (fun vs H Q E h => ?_) (fun cdv A outer s H vs Q E hr h => ?_), FunD.bindsA (ps := ["self", "fewest"]) F (fun _ _ _ _ _ _ us hl => match us, hl with | [_, _], _ => rfl), (fun s y u n m e => by cases e; exact bindsAny F (fun _ _ _ _ _ _ => rfl) s), (fun s y u v n m l e => by cases e)⟩
  · obtain ⟨a, ws, rfl, hl, _⟩ := h
    rw [List.length_cons, hl] <;> rfl
  · obtain ⟨a, ws, rfl, hl, ha, k⟩ := h
    obtain ⟨v, rfl⟩ : ∃ v : V, ws = [v] := by
      match ws, hl with
      | [v], _ => exact ⟨_, rfl⟩
    refine ⟨_, (pss_cons (ps_oxs (pv 0) pe_str rfl)
      (pss_one (ps_oxs (pv 0) (pv 1) rfl))), ?_⟩
    walk_at "go"
    refine ⟨a, _, _, _, _, _, rfl, o_NotEnough T, He.eqO_ok (a_noat_NotEnough_code T), .inl ⟨ha, fun d H1 nd ne d1 a1 e1 => ?_⟩⟩
    walk_at "go"
    refine ⟨a, _, _, _, _, _, rfl, o_NotEnough T, He.eqO_ok (a_noat_NotEnough_fewest T), .inr ⟨d, _, a1, d1, Nat.le_of_ble_eq_true (by rfl), fun H2 d2 a2 e2 => ?_⟩⟩
    exact k d H2 nd a2 d2 fun b u hb hbu => e2 b u (ne_of_none hbu nd) (e1 b u hb hbu)
theorem o_Unlike {K : PySem.W.Frag} {mg : Str → Option Value} (T : TL K mg) : OxC K (He.ga K "Unlike") "ValueError" "ValueError.__new__" "ValueError.__init__" (exBm 0).2 :=
  oxB_ok PySem.F.excBase_ValueError PySem.F.store_ValueError (oxIn (exA T).1 ("Unlike", 0) (by decide))
theorem X_Unlike (T : TL K mg) : OxX P w K mg base 1 "Unlike" (He.ga K "Unlike") ["self", "what"] (spIn (He.ga K "Unlike") 1 (fs1 "Unlike" "what")) := by
  obtain ⟨fd, F⟩ := F_Unlike___init__ T
  have M := meth_ok (a_meth_Unlike___init__ T)
  refine ⟨_, _, _, _, _, fd, o_Unlike T, g_Unlike T, M.1, M.2, F.ok0 sc_Unlike___init__ (fun vs H Q E h => ?_) (fun cdv A outer s H vs Q E hr h => ?_), FunD.bindsA (ps := ["self", "what"]) F (fun _ _ _ _ _ _ us hl => match us, hl with | [_, _], _ => rfl), (fun s y u n m e => by cases e; exact bindsAny F (fun _ _ _ _ _ _ => rfl) s), (fun s y u v n m l e => by cases e)⟩
  · obtain ⟨a, ws, rfl, hl, _⟩ := h
    rw [List.length_cons, hl] <;> rfl
  · obtain ⟨a, ws, rfl, hl, ha, k⟩ := h
    obtain ⟨v, rfl⟩ : ∃ v : V, ws = [v] := by
      match ws, hl with
      | [v], _ => exact ⟨_, rfl⟩
    refine ⟨_, (pss_cons (ps_oxs (pv 0) pe_str rfl)
      (pss_one (ps_oxs (pv 0) (pv 1) rfl))), ?_⟩
    walk_at "go"
    refine ⟨a, _, _, _, _, _, rfl, o_Unlike T, He.eqO_ok (a_noat_Unlike_code T), .inl ⟨ha, fun d H1 nd ne d1 a1 e1 => ?_⟩⟩
    walk_at "go"
    refine ⟨a, _, _, _, _, _, rfl, o_Unlike T, He.eqO_ok (a_noat_Unlike_what T), .inr ⟨d, _, a1, d1, Nat.le_of_ble_eq_true (by rfl), fun H2 d2 a2 e2 => ?_⟩⟩
    exact k d H2 nd a2 d2 fun b u hb hbu => e2 b u (ne_of_none hbu nd) (e1 b u hb hbu)
theorem o_BadRay {K : PySem.W.Frag} {mg : Str → Option Value} (T : TL K mg) : OxC K (He.ga K "BadRay") "ValueError" "ValueError.__new__" "ValueError.__init__" (exBm 0).2 :=
  oxB_ok PySem.F.excBase_ValueError PySem.F.store_ValueError (oxIn (exA T).1 ("BadRay", 0) (by decide))
theorem X_BadRay (T : TL K mg) : OxX P w K mg base 1 "BadRay" (He.ga K "BadRay") ["self"] (spIn (He.ga K "BadRay") 0 (fs0 "BadRay")) := by
  obtain ⟨fd, F⟩ := F_BadRay___init__ T
  have M := meth_ok (a_meth_BadRay___init__ T)
  refine ⟨_, _, _, _, _, fd, o_BadRay T, g_BadRay T, M.1, M.2, F.ok0 sc_BadRay___init__ (fun vs H Q E h => ?_) (fun cdv A outer s H vs Q E hr h => ?_), FunD.bindsA (ps := ["self"]) F (fun _ _ _ _ _ _ us hl => match us, hl with | [_], _ => rfl), (fun s y u n m e => by cases e), (fun s y u v n m l e => by cases e)⟩
  · obtain ⟨a, ws, rfl, hl, _⟩ := h
    rw [List.length_cons, hl] <;> rfl
  · obtain ⟨a, ws, rfl, hl, ha, k⟩ := h
    obtain rfl : ws = [] := List.length_eq_zero_iff.mp hl
    refine ⟨_, (pss_one (ps_oxs (pv 0) pe_str rfl)), ?_⟩
    walk_at "go"
    refine ⟨a, _, _, _, _, _, rfl, o_BadRay T, He.eqO_ok (a_noat_BadRay_code T), .inl ⟨ha, fun d H1 nd ne d1 a1 e1 => ?_⟩⟩
    exact k d H1 nd a1 d1 e1
theorem o_Ended {K : PySem.W.Frag} {mg : Str → Option Value} (T : TL K mg) : OxC K (He.ga K "Ended") "RuntimeError" "RuntimeError.__new__" "RuntimeError.__init__" (exBm 2).2 :=
  oxB_ok PySem.F.excBase_RuntimeError PySem.F.store_RuntimeError (oxIn (exA T).1 ("Ended", 2) (by decide))
theorem X_Ended (T : TL K mg) : OxX P w K mg base 1 "Ended" (He.ga K "Ended") ["self"] (spIn (He.ga K "Ended") 0 (fs0 "Ended")) := by
  obtain ⟨fd, F⟩ := F_Ended___init__ T
  have M := meth_ok (a_meth_Ended___init__ T)
  refine ⟨_, _, _, _, _, fd, o_Ended T, g_Ended T, M.1, M.2, F.ok0 sc_Ended___init__ (fun vs H Q E h => ?_) (fun cdv A outer s H vs Q E hr h => ?_), FunD.bindsA (ps := ["self"]) F (fun _ _ _ _ _ _ us hl => match us, hl with | [_], _ => rfl), (fun s y u n m e => by cases e), (fun s y u v n m l e => by cases e)⟩
  · obtain ⟨a, ws, rfl, hl, _⟩ := h
    rw [List.length_cons, hl] <;> rfl
  · obtain ⟨a, ws, rfl, hl, ha, k⟩ := h
    obtain rfl : ws = [] := List.length_eq_zero_iff.mp hl
    refine ⟨_, (pss_one (ps_oxs (pv 0) pe_str rfl)), ?_⟩
    walk_at "go"
    refine ⟨a, _, _, _, _, _, rfl, o_Ended T, He.eqO_ok (a_noat_Ended_code T), .inl ⟨ha, fun d H1 nd ne d1 a1 e1 => ?_⟩⟩
    exact k d H1 nd a1 d1 e1
end
end K00
end -- a2
section -- a4
set_option Elab.async false
set_option linter.all false
set_option maxRecDepth 100000
set_option maxHeartbeats 4000000
local macro_rules | `(tactic| walk_at "lvl") => `(tactic| first
  | decide
  | omega
  | (simp only [Nat.add_eq]; omega))
local macro_rules | `(tactic| walk_at "side") => `(tactic| first
  | decide
  | assumption
  | omega
  | exact ⟨by decide, by decide⟩
  | exact ⟨by decide, by decide, by decide⟩
  | exact Or.inl (Or.inr ⟨by decide, by decide⟩)
  | exact Or.inl (Or.inl ⟨by decide, by decide⟩))
local macro_rules | `(tactic| walk_at "ty") => `(tactic| first
  | assumption
  | exact L2.TyG.x (.base (.int _))
  | exact L2.TyG.x (.base (.str _))
  | exact L2.TyG.x (.base (.bl _))
  | exact L2.TyG.x (.base .non)
  | exact L2.TyG.x (.base (.lst (by assumption)))
  | exact L2.TyG.x (.base (.tup (by assumption)))
  | exact K00.tyR (by assumption) (by assumption)
  | exact L2.TyG.dn (by assumption))
local macro_rules | `(tactic| walk_at "cv") => `(tactic| first
  | exact L2.ClsV.ty _
  | exact L2.ClsV.own _)
local macro_rules | `(tactic| walk_at "kit") => `(tactic| first
  | exact L2.kit_ty (by decide +kernel)
  | exact K00.kR (by assumption) (by decide)
  | exact K00.kR2 (by assumption) (by decide)
  | exact K00.kR3 (by assumption))
local macro_rules | `(tactic| walk_at "s1") => `(tactic| first
  | refine ⟨_, rfl, ?_⟩
  | refine ⟨_, _, rfl, rfl, ?_⟩
  | refine And.intro rfl ?_
  | refine L2.iteT ?_
  | refine L2.iteF ?_
  | refine L2.st_ixl (by assumption) (by rfl) ?_
  | refine L2.st_ixt (by assumption) (by rfl) ?_
  | refine L2.st_lenR (L2.lenr_l (by assumption)) ?_
  | refine L2.st_lenGR (L2.lenr_l (by assumption)) ?_
  | refine L2.st_lenGR (L2.lenr_t (by assumption)) ?_
  | refine L2.st_lenR (L2.lenr_t (by assumption)) ?_
  | refine L2.st_isG (b := false) (by walk_at "ty") (by walk_at "cv") (by walk_at "kit") ?_
  | refine L2.st_isG (b := true) (by walk_at "ty") (by walk_at "cv") (by walk_at "kit") ?_
  | refine And.intro (by walk_at "side") ?_)
local macro_rules | `(tactic| walk_at "go") => `(tactic| repeat (walk_at "s1"))
namespace K00
open PySem PySem.Spec PyProof.Rows L2
section
variable {P : Program} {w : World} {K : PySem.W.Frag} {mg : Str → Option Value} {base : Heap}
@[irreducible] def spInt (K : PySem.W.Frag) (w : World) : Sp := fun vs H Q _ => ∃ (v : V) (t : Value), vs = [v] ∧ TyG K w H v t ∧ ((∃ n ∈ tys, t = .type n ∧ Q (.bl (n == "int")) H) ∨ (t = .ref (RC K) ∧ Q (.bl false) H))
theorem G__law_int (T : TL K mg) : FX P w K mg base 1 "_law_int" [] (spInt K w) := by
  obtain ⟨fd, F⟩ := F__law_int T
  refine FX.of F (g__law_int T) (F.ok0 sc__law_int (fun vs H Q E h => ?_) (fun cdv A outer s H vs Q E hr h => ?_)) (fun _ _ _ _ _ _ us hl => match us, hl with | [_], _ => rfl)
  · unfold spInt at h
    obtain ⟨v, t, rfl, _⟩ := h
    rfl
  · unfold spInt at h
    obtain ⟨v, t, rfl, ty, h⟩ := h
    refine ⟨_, (pss_one (ps_ret (pe_and (pe_callB call_isG (by rfl) (f_isinstance T) (by decide +kernel) (pa_cons (pv 0) (pa_cons (pe_bty (n := "int") (f_int T) (by decide +kernel)) pa_nil))) (pe_one (pe_not (pe_callB call_isG (by rfl) (f_isinstance T) (by decide +kernel) (pa_cons (pv 0) (pa_cons (pe_bty (n := "bool") (f_bool T) (by decide +kernel)) pa_nil)))))))), ?_⟩
    rcases h with ⟨n, hn, rfl, q⟩ | ⟨rfl, q⟩
    · simp only [tys, List.mem_cons, List.not_mem_nil, or_false] at hn
      rcases hn with rfl | rfl | rfl | rfl | rfl | rfl | rfl
      all_goals (walk_at "go"; exact q)
    · walk_at "go"
      exact q
theorem G_is_whole (T : TL K mg) : FX P w K mg base 1 "is_whole" [] (spInt K w) := by
  obtain ⟨fd, F⟩ := F_is_whole T
  refine FX.of F (g_is_whole T) (F.ok0 sc_is_whole (fun vs H Q E h => ?_) (fun cdv A outer s H vs Q E hr h => ?_)) (fun _ _ _ _ _ _ us hl => match us, hl with | [_], _ => rfl)
  · unfold spInt at h
    obtain ⟨v, t, rfl, _⟩ := h
    rfl
  · unfold spInt at h
    obtain ⟨v, t, rfl, ty, h⟩ := h
    refine ⟨_, (pss_one (ps_ret (pe_and (pe_callB call_isG (by rfl) (f_isinstance T) (by decide +kernel) (pa_cons (pv 0) (pa_cons (pe_bty (n := "int") (f_int T) (by decide +kernel)) pa_nil))) (pe_one (pe_not (pe_callB call_isG (by rfl) (f_isinstance T) (by decide +kernel) (pa_cons (pv 0) (pa_cons (pe_bty (n := "bool") (f_bool T) (by decide +kernel)) pa_nil)))))))), ?_⟩
    rcases h with ⟨n, hn, rfl, q⟩ | ⟨rfl, q⟩
    · simp only [tys, List.mem_cons, List.not_mem_nil, or_false] at hn
      rcases hn with rfl | rfl | rfl | rfl | rfl | rfl | rfl
      all_goals (walk_at "go"; exact q)
    · walk_at "go"
      exact q
theorem spInt_i {i : Int} {H : Hp} {Q : VK} {E : XK} (q : Q (.bl true) H) : spInt K w [.int i] H Q E := by
  unfold spInt
  exact ⟨_, _, rfl, .x (.base (.int _)), .inl ⟨"int", by decide, rfl, q⟩⟩
def spDig : Sp := fun vs H Q _ => ∃ (b l : Addr) (cap : Int), vs = [.ref b, .int cap] ∧ BagAt b l H ∧ cap < 1000 ∧ ∀ (m : Int) (H' : Hp), 0 ≤ m → BagAt b l H' → Ext b H H' → Q (.int m) H'
theorem G__law_digits (T : TL K mg) : FX P w K mg base 2 "_law_digits" [] spDig := by
  obtain ⟨fd, F⟩ := F__law_digits T
  refine FX.of F (g__law_digits T) (F.ok0 sc__law_digits (fun vs H Q E h => ?_) (fun cdv A outer s H vs Q E hr h => ?_)) (fun _ _ _ _ _ _ us hl => match us, hl with | [_, _], _ => rfl)
  · obtain ⟨b, l, cap, rfl, _⟩ := h
    rfl
  · obtain ⟨b, l, cap, rfl, hB, hz, k⟩ := h
    refine ⟨_, (pss_cons (ps_set (i := 2) sc__law_digits.nd rfl (by first | exact Or.inl rfl | exact Or.inr rfl) pe_int)
      (pss_cons (ps_for PassesOwn.never rfl (pi_range1 rfl (f_range T) (pa_cons (pe_op op_addG pe_int (pe_fx (G__law_draw T) (hr.mono (by walk_at "lvl")) passL (pa_cons (pv 0) (pa_cons (pv 1) pa_nil)))) pa_nil)) (pg_name (i := 3) sc__law_digits.nd rfl (by first | exact Or.inl rfl | exact Or.inr rfl))
        (pss_one (ps_set (i := 2) sc__law_digits.nd rfl (by first | exact Or.inl rfl | exact Or.inr rfl) (pe_op op_addG (pe_op op_mulI (pv 2) pe_int) (pe_fx (G__law_draw T) (hr.mono (by walk_at "lvl")) passL (pa_cons (pv 0) (pa_cons pe_int pa_nil)))))))
      (pss_one (ps_ret (pv 2))))), ?_⟩
    walk_at "go"
    refine ⟨b, l, cap, rfl, hB, by omega, fun d H1 d0 d1 hB1 x1 => ?_⟩
    walk_at "go"
    refine for_range (lo := 0) (fun i σ H' => ∃ (m : Int) (kv : Option V), σ = [some (.ref b), some (.int cap), some (.int m), kv] ∧ 0 ≤ m ∧ BagAt b l H' ∧ Ext b H H') ⟨0, none, rfl, Int.le_refl 0, hB1, x1⟩ ?_ ?_
    · rintro i σ H' hi ⟨m, kv, rfl, hm, hB2, x2⟩
      walk_at "go"
      refine ⟨b, l, 10, rfl, hB2, by decide, fun d2 H2 e0 e1 hB3 x3 => ?_⟩
      walk_at "go"
      exact ⟨_, _, rfl, by omega, hB3, x2.trans x3⟩
    · rintro σ H' ⟨m, kv, rfl, hm, hB2, x2⟩
      walk_at "go"
      exact k m H' hm hB2 x2
/-- a Ratio made of an int and 2 -/
def spRat (K : PySem.W.Frag) : Sp := fun vs H Q _ => ∃ (x dx : Addr) (t : Int), vs = [.ref x, .int t, .int 2] ∧ H x = some (.ins (RC K) dx []) ∧ H dx = some (.own x) ∧ -10 ≤ t ∧ t ≤ 10 ∧
  ∀ (i j : Int) (H' : Hp), H' x = some (.ins (RC K) dx [("top", .int i), ("bottom", .int j)]) → Ext x H H' → Q .non H'
theorem G_Ratio_init (T : TL K mg) : ∃ fd, FunD K d_Ratio___init__.name d_Ratio___init__.qual d_Ratio___init__.params d_Ratio___init__.body d_Ratio___init__.scope (d_Ratio___init__.dvs K) (d_Ratio___init__.kws K) (He.fAd K d_Ratio___init__.at_) fd ∧ FnOk P w K mg base (L2.CX P w) 2 (He.fAd K d_Ratio___init__.at_) fd ["self", "top", "bottom"] (spRat K) := by
  obtain ⟨fd, F⟩ := F_Ratio___init__ T
  refine ⟨fd, F, F.ok0 sc_Ratio___init__ (fun vs H Q E h => ?_) (fun cdv A outer s H vs Q E hr h => ?_)⟩
  · obtain ⟨x, dx, t, rfl, _⟩ := h
    rfl
  · obtain ⟨x, dx, t, rfl, hx, hd, ht1, ht2, k⟩ := h
    refine ⟨_, (pss_cons (ps_if (pt_not (pt_val (pe_fx (G_is_whole T) (hr.mono (by walk_at "lvl")) passL (pa_cons (pv 1) pa_nil))))
        (pss_one ps_never)
        pss_nil)
      (pss_cons (ps_if (PW.pt (pw_or (pt_not (pt_val (pe_fx (G_is_whole T) (hr.mono (by walk_at "lvl")) passL (pa_cons (pv 2) pa_nil)))) (pw_or1 (pt_cmpR op_eq (pv 2) pe_int (nomark _)))))
        (pss_one ps_never)
        pss_nil)
      (pss_cons (ps_set (i := 3) sc_Ratio___init__.nd rfl (by first | exact Or.inl rfl | exact Or.inr rfl) (pe_callBfun cr_gcd rfl (gGcd T) (pa_cons (pv 1) (pa_cons (pv 2) pa_nil))))
      (pss_cons (ps_if (pt_cmpR op_lt (pv 2) pe_int (nomark _))
        (pss_one (ps_set (i := 3) sc_Ratio___init__.nd rfl (by first | exact Or.inl rfl | exact Or.inr rfl) (pe_un un_neg (pv 3))))
        pss_nil)
      (pss_cons (ps_fld (pv 0) (pe_op op_fdivW (pv 1) (pv 3)) rfl)
      (pss_one (ps_fld (pv 0) (pe_op op_fdivW (pv 2) (pv 3)) rfl))))))), ?_⟩
    walk_at "go"
    refine spInt_i ?_
    walk_at "go"
    refine spInt_i ?_
    walk_at "go"
    refine ⟨t, 2, rfl, ?_⟩
    walk_at "go"
    have hg1 : 0 < t.natAbs.gcd (Int.natAbs 2) := Nat.gcd_pos_of_pos_right _ (by decide)
    have hg2 : t.natAbs.gcd (Int.natAbs 2) ≤ 2 := Nat.gcd_le_right _ (by decide)
    generalize t.natAbs.gcd (Int.natAbs 2) = g at hg1 hg2 ⊢
    have hc : CDivW t (g : Int) := wide_div (b := 30) (by omega) (by omega) (by decide) (by decide)
    have hc2 : CDivW 2 (g : Int) := wide_div (b := 30) (by omega) (by omega) (by decide) (by decide)
    walk_at "go"
    refine ⟨x, _, dx, _, rfl, hx, clsR T, He.noat_ok (a_noat_Ratio_top T), by decide, ?_⟩
    generalize e1 : upd H x _ = H1
    have a1 : H1 x = some (.ins (RC K) dx [("top", .int (t / g))]) := by rw [← e1]; exact upd_same
    have x1 : Ext x H H1 := by rw [← e1]; exact Ext.put
    walk_at "go"
    refine ⟨x, _, dx, _, rfl, a1, clsR T, He.noat_ok (a_noat_Ratio_bottom T), Nat.le_of_ble_eq_true (by rfl), ?_⟩
    generalize e2 : upd H1 x _ = H2
    have a2 : H2 x = some (.ins (RC K) dx [("top", .int (t / g)), ("bottom", .int (2 / g))]) := by rw [← e2]; exact upd_same
    have x2 : Ext x H1 H2 := by rw [← e2]; exact Ext.put
    exact k _ _ H2 a2 (x1.trans x2)
end
end K00
end -- a4
section -- a5
set_option Elab.async false
set_option linter.all false
set_option maxRecDepth 100000
set_option maxHeartbeats 4000000
local macro_rules | `(tactic| walk_at "lvl") => `(tactic| first
  | decide
  | omega
  | (simp only [Nat.add_eq]; omega))
local macro_rules | `(tactic| walk_at "side") => `(tactic| first
  | decide
  | assumption
  | omega
  | exact ⟨by decide, by decide⟩
  | exact ⟨by decide, by decide, by decide⟩
  | exact Or.inl (Or.inr ⟨by decide, by decide⟩)
  | exact Or.inl (Or.inl ⟨by decide, by decide⟩))
local macro_rules | `(tactic| walk_at "ty") => `(tactic| first
  | assumption
  | exact L2.TyG.x (.base (.int _))
  | exact L2.TyG.x (.base (.str _))
  | exact L2.TyG.x (.base (.bl _))
  | exact L2.TyG.x (.base .non)
  | exact L2.TyG.x (.base (.lst (by assumption)))
  | exact L2.TyG.x (.base (.tup (by assumption)))
  | exact K00.tyR (by assumption) (by assumption)
  | exact L2.TyG.dn (by assumption))
local macro_rules | `(tactic| walk_at "cv") => `(tactic| first
  | exact L2.ClsV.ty _
  | exact L2.ClsV.own _)
local macro_rules | `(tactic| walk_at "kit") => `(tactic| first
  | exact L2.kit_ty (by decide +kernel)
  | exact K00.kR (by assumption) (by decide)
  | exact K00.kR2 (by assumption) (by decide)
  | exact K00.kR3 (by assumption))
local macro_rules | `(tactic| walk_at "s1") => `(tactic| first
  | refine ⟨_, rfl, ?_⟩
  | refine ⟨_, _, rfl, rfl, ?_⟩
  | refine And.intro rfl ?_
  | refine L2.iteT ?_
  | refine L2.iteF ?_
  | refine L2.st_ixl (by assumption) (by rfl) ?_
  | refine L2.st_ixt (by assumption) (by rfl) ?_
  | refine L2.st_lenR (L2.lenr_l (by assumption)) ?_
  | refine L2.st_lenGR (L2.lenr_l (by assumption)) ?_
  | refine L2.st_lenGR (L2.lenr_t (by assumption)) ?_
  | refine L2.st_lenR (L2.lenr_t (by assumption)) ?_
  | refine L2.st_isG (b := false) (by walk_at "ty") (by walk_at "cv") (by walk_at "kit") ?_
  | refine L2.st_isG (b := true) (by walk_at "ty") (by walk_at "cv") (by walk_at "kit") ?_
  | refine And.intro (by walk_at "side") ?_)
local macro_rules | `(tactic| walk_at "go") => `(tactic| repeat (walk_at "s1"))
namespace K00
open PySem PySem.Spec PyProof.Rows L2
/-! ### values -/
section
variable (K : PySem.W.Frag) (w : World)
/-- a value without parts -/
def At0 (H : Hp) (v : V) : Prop := v = .non ∨ (∃ x, v = .bl x) ∨ (∃ i, v = .int i) ∨ (∃ x, v = .str x ∧ x.length ≤ 20) ∨ ∃ (a dx : Addr) (i j : Int), v = .ref a ∧ H a = some (.ins (RC K) dx [("top", .int i), ("bottom", .int j)])
/-- a value, at most so deep -/
def Vl : Nat → Hp → V → Prop
  | 0, H, v => At0 K H v
  | n + 1, H, v => At0 K H v ∨ (∃ (a : Addr) (xs : List V), v = .ref a ∧ (H a = some (.lst xs) ∨ H a = some (.tup xs)) ∧ xs.length ≤ 2 ∧ ∀ x ∈ xs, Vl n H x) ∨
    ∃ (a : Addr) (kvs : List NKV), v = .ref a ∧ H a = some (dN w a kvs) ∧ kvs.length ≤ 2 ∧ ∀ p ∈ kvs, KeyH H p.1 p.2.1 ∧ Vl n H p.2.1 ∧ Vl n H p.2.2
end
section
variable {K : PySem.W.Frag} {w : World} {b l : Addr} {H H' : Hp}
theorem Vl.at0 {v : V} (h : At0 K H v) : ∀ n, Vl K w n H v
  | 0 => h
  | _ + 1 => .inl h
theorem Vl.up {v : V} : ∀ {n : Nat} {v : V}, Vl K w n H v → Vl K w (n + 1) H v
  | 0, _, h => .inl h
  | n + 1, _, h => by
    rcases h with h | ⟨a, xs, h1, h2, h3, h4⟩ | ⟨a, kvs, h1, h2, h3, h4⟩
    · exact .inl h
    · exact .inr (.inl ⟨a, xs, h1, h2, h3, fun x hx => Vl.up (v := .non) (h4 x hx)⟩)
    · exact .inr (.inr ⟨a, kvs, h1, h2, h3, fun p hp => ⟨(h4 p hp).1, Vl.up (v := .non) (h4 p hp).2.1, Vl.up (v := .non) (h4 p hp).2.2⟩⟩)
theorem Vl.le {n m : Nat} {v : V} (h : Vl K w n H v) (l : n ≤ m) : Vl K w m H v := by
  obtain ⟨d, rfl⟩ := Nat.le.dest l
  clear l
  induction d with
  | zero => exact h
  | succ d ih => exact Vl.up (v := .non) ih
/-- what is no list of five stays when the bag is drawn from -/
theorem extOff (hB : BagAt b l H) (e : Ext b H H') {a : Addr} {o : HO} (h : H a = some o) (ho : ∀ xs, o = .lst xs → xs.length ≤ 4) : H' a = some o := by
  refine e a o (fun z => ?_) h
  obtain ⟨ns, k, r, m, n, h1, _⟩ := hB
  rw [z, h1] at h
  have h5 := ho _ (Option.some.inj h).symm
  exact absurd h5 (by show ¬ 5 ≤ 4; decide)
theorem KeyH.off (hB : BagAt b l H) (e : Ext b H H') {k : NestedKey} {v : V} (h : KeyH H k v) : KeyH H' k v := h.ext fun a xs q => extOff hB e q (fun ys z => nomatch z)
theorem At0.off (hB : BagAt b l H) (e : Ext b H H') {v : V} (h : At0 K H v) : At0 K H' v := by
  rcases h with h | h | h | h | ⟨a, dx, i, j, h1, h2⟩
  · exact .inl h
  · exact .inr (.inl h)
  · exact .inr (.inr (.inl h))
  · exact .inr (.inr (.inr (.inl h)))
  · exact .inr (.inr (.inr (.inr ⟨a, dx, i, j, h1, extOff hB e h2 (fun ys z => nomatch z)⟩)))
theorem Vl.off (hB : BagAt b l H) (e : Ext b H H') : ∀ {n : Nat} {v : V}, Vl K w n H v → Vl K w n H' v
  | 0, _, h => At0.off hB e h
  | n + 1, _, h => by
    rcases h with h | ⟨a, xs, h1, h2, h3, h4⟩ | ⟨a, kvs, h1, h2, h3, h4⟩
    · exact .inl (At0.off hB e h)
    · refine .inr (.inl ⟨a, xs, h1, ?_, h3, fun x hx => Vl.off hB e (h4 x hx)⟩)
      rcases h2 with h2 | h2
      · exact .inl (extOff hB e h2 (fun ys z => by cases z; omega))
      · exact .inr (extOff hB e h2 (fun ys z => nomatch z))
    · exact .inr (.inr ⟨a, kvs, h1, extOff hB e h2 (fun ys z => by have z' : HO.ext _ = HO.lst ys := z; cases z'), h3, fun p hp => ⟨KeyH.off hB e (h4 p hp).1, Vl.off hB e (h4 p hp).2.1, Vl.off hB e (h4 p hp).2.2⟩⟩)
/-- what is new in H' -/
def Sub (H H' : Hp) : Hp := fun a => match H a with
  | none => H' a
  | some _ => none
theorem Sub.at {H H' : Hp} {a : Addr} {o : HO} (h : Sub H H' a = some o) : H a = none ∧ H' a = some o := by
  unfold Sub at h
  cases e : H a with
  | none => rw [e] at h; exact ⟨rfl, h⟩
  | some u => rw [e] at h; cases h
theorem Sub.of {H H' : Hp} {a : Addr} {o : HO} (h1 : H a = none) (h2 : H' a = some o) : Sub H H' a = some o := by
  unfold Sub
  rw [h1]
  exact h2
theorem At0.same {H H' : Hp} (e : Same H H') {v : V} (h : At0 K H v) : At0 K H' v := by
  rcases h with h | h | h | h | ⟨a, dx, i, j, h1, h2⟩
  · exact .inl h
  · exact .inr (.inl h)
  · exact .inr (.inr (.inl h))
  · exact .inr (.inr (.inr (.inl h)))
  · exact .inr (.inr (.inr (.inr ⟨a, dx, i, j, h1, e _ _ h2⟩)))
theorem Vl.same {H H' : Hp} (e : Same H H') : ∀ {n : Nat} {v : V}, Vl K w n H v → Vl K w n H' v
  | 0, _, h => At0.same e h
  | n + 1, _, h => by
    rcases h with h | ⟨a, xs, h1, h2, h3, h4⟩ | ⟨a, kvs, h1, h2, h3, h4⟩
    · exact .inl (At0.same e h)
    · refine .inr (.inl ⟨a, xs, h1, ?_, h3, fun x hx => Vl.same e (h4 x hx)⟩)
      rcases h2 with h2 | h2
      · exact .inl (e _ _ h2)
      · exact .inr (e _ _ h2)
    · exact .inr (.inr ⟨a, kvs, h1, e _ _ h2, h3, fun p hp => ⟨(h4 p hp).1.ext fun c xs q => e _ _ q, Vl.same e (h4 p hp).2.1, Vl.same e (h4 p hp).2.2⟩⟩)
theorem Vl.sub {H1 H2 H3 H4 : Hp} (f : ∀ a o, H1 a = none → H2 a = some o → H3 a = none ∧ H4 a = some o) {n : Nat} {v : V} (h : Vl K w n (Sub H1 H2) v) : Vl K w n (Sub H3 H4) v :=
  Vl.same (fun a o q => Sub.of (f a o (Sub.at q).1 (Sub.at q).2).1 (f a o (Sub.at q).1 (Sub.at q).2).2) h
theorem Vl.all {H1 H2 : Hp} {n : Nat} {v : V} (h : Vl K w n (Sub H1 H2) v) : Vl K w n H2 v := Vl.same (fun a o q => (Sub.at q).2) h
theorem extDom {H H' : Hp} (hB : BagAt b l H') (e : Ext b H H') {a : Addr} (h : H' a = none) : H a = none := by
  obtain ⟨xs, hb⟩ := hB.isL
  cases q : H a with
  | none => rfl
  | some o =>
    rw [e a o (fun z => by rw [z, hb] at h; cases h) q] at h
    cases h
theorem notB {H : Hp} (hB : BagAt b l H) {a : Addr} (h : H a = none) : a ≠ b := fun z => by
  obtain ⟨xs, hb⟩ := hB.isL
  rw [z, hb] at h
  cases h
end
section
variable {P : Program} {w : World} {K : PySem.W.Frag} {mg : Str → Option Value} {base : Heap}
def lev (d : Nat) : Nat := if d = 0 then 0 else d + 1
/-- a value is drawn, so deep; 0: nothing is promised -/
def spVal (K : PySem.W.Frag) (w : World) : Nat → Sp
  | 0 => fun _ _ _ _ => False
  | d + 1 => fun vs H Q _ => ∃ b l : Addr, vs = [.ref b, .int (d : Int)] ∧ BagAt b l H ∧ ∀ (v : V) (H' : Hp), Vl K w (lev d) (Sub H H') v → BagAt b l H' → Ext b H H' → Q v H'
theorem pickS {zs : List Str} (hz : (zs.all fun z => decide (z.length ≤ 20)) = true) {x : V} (hx : x ∈ zs.map V.str) : ∃ z, x = .str z ∧ z.length ≤ 20 := by
  obtain ⟨z, h, rfl⟩ := List.mem_map.mp hx
  exact ⟨z, rfl, of_decide_eq_true (List.all_eq_true.mp hz z h)⟩
/-- a key that is short -/
def KeyN (H : Hp) (k : NestedKey) (v : V) : Prop := (∃ i, k = .num i ∧ v = .int i) ∨ (∃ x, x.length ≤ 20 ∧ k = .text x ∧ v = .str x) ∨ ∃ (a : Addr) (i : Int) (x : Str), x.length ≤ 20 ∧ k = .tup [.num i, .text x] ∧ v = .ref a ∧ H a = some (.tup [.int i, .str x])
theorem KeyN.key {H : Hp} {k : NestedKey} {v : V} (h : KeyN H k v) : KeyH H k v := by
  rcases h with h | ⟨x, _, h1, h2⟩ | ⟨a, i, x, _, h1, h2, h3⟩
  · exact .inl h
  · exact .inr (.inl ⟨x, h1, h2⟩)
  · exact .inr (.inr ⟨a, i, x, h1, h2, h3⟩)
theorem KeyN.ext {H H' : Hp} {k : NestedKey} {v : V} (h : KeyN H k v) (e : ∀ a xs, H a = some (.tup xs) → H' a = some (.tup xs)) : KeyN H' k v := by
  rcases h with h | h | ⟨a, i, x, h0, h1, h2, h3⟩
  · exact .inl h
  · exact .inr (.inl h)
  · exact .inr (.inr ⟨a, i, x, h0, h1, h2, e _ _ h3⟩)
theorem KeyN.vl {H : Hp} {k : NestedKey} {v : V} (h : KeyN H k v) (n : Nat) : Vl K w (n + 1) H v := by
  rcases h with ⟨i, _, rfl⟩ | ⟨x, h0, _, rfl⟩ | ⟨a, i, x, h0, _, rfl, h3⟩
  · exact .inl (.inr (.inr (.inl ⟨i, rfl⟩)))
  · exact .inl (.inr (.inr (.inr (.inl ⟨x, rfl, h0⟩))))
  · refine .inr (.inl ⟨a, _, rfl, .inr h3, Nat.le_of_ble_eq_true (by rfl), fun y hy => Vl.at0 ?_ n⟩)
    rcases List.mem_cons.mp hy with rfl | hy
    · exact .inr (.inr (.inl ⟨i, rfl⟩))
    · rw [List.mem_singleton.mp hy]
      exact .inr (.inr (.inr (.inl ⟨x, rfl, h0⟩)))
def strs13 : List Str := ["", ".", "a", "b c", "or", "x1", "-1/2", "0", "letters a", "x + 1", "a a", "A", "p"]
theorem mkR (T : TL K mg) : Mk K (RC K) (He.ma K (RC K) "__init__") := He.mkr_ok (a_mkr_Ratio T)
theorem bRat {fd : FuncData} (F : FunD K d_Ratio___init__.name d_Ratio___init__.qual d_Ratio___init__.params d_Ratio___init__.body d_Ratio___init__.scope (d_Ratio___init__.dvs K) (d_Ratio___init__.kws K) (He.fAd K d_Ratio___init__.at_) fd) : Binds K fd ["self", "top", "bottom"] [] := by
  obtain ⟨ds, h1, h2⟩ := F.binds1 (ps := ["self", "top", "bottom"]) 3 1 (fun z => nomatch z) rfl (fun _ _ _ _ _ _ _ us its hu hi => match us, hu, its, hi with | [_, _, _], _, [_], _ => ⟨_, rfl, rfl⟩)
  cases h1
  exact h2
theorem G_value (T : TL K mg) : ∀ d : Nat, FX P w K mg base (d + 4) "_law_value" [] (spVal K w d)
  | 0 => by
    obtain ⟨fd, F⟩ := F__law_value T
    exact FX.of (ps := ["bag", "deep"]) F (g__law_value T) ⟨fun _ _ _ _ h => h.elim, fun _ _ _ _ _ _ _ _ _ _ _ _ _ h => h.elim⟩ (fun _ _ _ _ _ _ us hl => match us, hl with | [_, _], _ => rfl)
  | d + 1 => by
    have R := G_value T d
    obtain ⟨fd, F⟩ := F__law_value T
    obtain ⟨fdR, FR0, FR⟩ := G_Ratio_init (P := P) (w := w) (base := base) T
    have bR := bRat FR0
    refine FX.of F (g__law_value T) (F.ok0 sc__law_value (fun vs H Q E h => ?_) (fun cdv A outer s H vs Q E hr h => ?_)) (fun _ _ _ _ _ _ us hl => match us, hl with | [_, _], _ => rfl)
    · obtain ⟨b, l, rfl, _⟩ := h
      rfl
    · obtain ⟨b, l, rfl, hB, k⟩ := h
      refine ⟨_, (pss_cons (ps_set (i := 2) sc__law_value.nd rfl (by first | exact Or.inl rfl | exact Or.inr rfl) (pe_fx (G__law_draw T) (hr.mono (by walk_at "lvl")) passL (pa_cons (pv 0) (pa_cons (pe_ifExp (pt_cmpR op_gt (pv 1) pe_int (nomark _)) pe_int pe_int) pa_nil))))
      (pss_cons (ps_if (pt_cmpR op_lt (pv 2) pe_int (nomark _))
        (pss_one (ps_ret (pe_ifExp (pt_cmpR op_eq (pv 2) pe_int (nomark _)) pe_non (pe_cmpR op_eq (pe_fx (G__law_draw T) (hr.mono (by walk_at "lvl")) passL (pa_cons (pv 0) (pa_cons pe_int pa_nil))) pe_int (nomark _)))))
        pss_nil)
      (pss_cons (ps_if (pt_cmpR op_eq (pv 2) pe_int (nomark _))
        (pss_one (ps_ret (pe_op op_sub (pe_fx (G__law_draw T) (hr.mono (by walk_at "lvl")) passL (pa_cons (pv 0) (pa_cons pe_int pa_nil))) pe_int)))
        pss_nil)
      (pss_cons (ps_if (pt_cmpR op_eq (pv 2) pe_int (nomark _))
        (pss_one (ps_ret (pe_make (mkR T) FR (hr.mono (by walk_at "lvl")) rfl (g_Ratio T) bR .nil passL (pa_cons (pe_op op_sub (pe_fx (G__law_draw T) (hr.mono (by walk_at "lvl")) passL (pa_cons (pv 0) (pa_cons pe_int pa_nil))) pe_int) (pa_cons pe_int pa_nil)))))
        pss_nil)
      (pss_cons (ps_if (pt_cmpR op_lt (pv 2) pe_int (nomark _))
        (pss_one (ps_ret (pe_fx (G__law_of T) (hr.mono (by walk_at "lvl")) passL (pa_cons (pv 0) (pa_cons (pe_lst (pa_cons pe_str (pa_cons pe_str (pa_cons pe_str (pa_cons pe_str (pa_cons pe_str (pa_cons pe_str (pa_cons pe_str (pa_cons pe_str (pa_cons pe_str (pa_cons pe_str (pa_cons pe_str (pa_cons pe_str (pa_cons pe_str pa_nil)))))))))))))) pa_nil)))))
        pss_nil)
      (pss_cons (ps_setLc (i := 3) (own := [("k", 4)]) (g := gName 4) (tt := tYes) rfl sc__law_value.nd rfl rfl (sw_true rfl rfl rfl (by decide +kernel)) (pi_range1 rfl (f_range T) (pa_cons (pe_fx (G__law_draw T) (hr.mono (by walk_at "lvl")) passL (pa_cons (pv 0) (pa_cons pe_int pa_nil))) pa_nil)) (blkOk_by (N := N__law_value) (sc := defScope s__law_value) (by decide +kernel)) (fun _ _ _ _ _ => pg_name (i := 4) sc__law_value.nd rfl (Or.inl rfl)) (fun _ _ _ _ _ => pts_nil) (fun _ _ _ _ _ => (pe_fx R (hr.mono (by walk_at "lvl")) passL (pa_cons (pv 0) (pa_cons (pe_op op_sub (pv 1) pe_int) pa_nil)))))
      (pss_cons (ps_if (pt_cmpR op_lt (pv 2) pe_int (nomark _))
        (pss_one (ps_ret (pe_ifExp (pt_cmpR op_eq (pv 2) pe_int (nomark _)) (pv 3) (pe_callTy (T := "tuple") call_tupG (by rfl) (f_tuple T) (by decide +kernel) (pa_cons (pv 3) pa_nil)))))
        pss_nil)
      (pss_cons (ps_set (i := 5) sc__law_value.nd rfl (by first | exact Or.inl rfl | exact Or.inr rfl) pe_dnewN)
      (pss_cons (ps_for PassesOwn.never rfl (pi_list (pv 3)) (pg_name (i := 6) sc__law_value.nd rfl (by first | exact Or.inl rfl | exact Or.inr rfl))
        (pss_one (ps_asg (pv 6) (pg_sub (pv 5) (pe_fx (G__law_of T) (hr.mono (by walk_at "lvl")) passL (pa_cons (pv 0) (pa_cons (pe_lst (pa_cons pe_str (pa_cons pe_int (pa_cons (pe_tup (pa_cons pe_int (pa_cons pe_str pa_nil))) (pa_cons pe_str pa_nil))))) pa_nil))) (set_dictN (by have h1 := hr.units; exact Nat.lt_of_le_of_lt (Nat.add_le_add_left (by decide) _) h1))))))
      (pss_one (ps_ret (pv 5)))))))))))), ?_⟩
      walk_at "go"
      refine st_if (fun c => ?_) (fun c => ?_)
      · walk_at "go"
        refine ⟨b, l, _, rfl, hB, by decide, fun pick H1 p0 p1 hB1 x1 => ?_⟩
        have hp : pick < 7 ∨ 0 < d := by omega
        have hp2 : pick < 11 := by omega
        clear p1 c
        walk_at "go"
        refine st_if (fun c1 => ?_) (fun c1 => ?_)
        · walk_at "go"
          refine st_if (fun c2 => ?_) (fun c2 => ?_)
          · walk_at "go"
            exact k _ H1 (Vl.at0 (.inl rfl) _) hB1 x1
          · walk_at "go"
            refine ⟨b, l, 2, rfl, hB1, by decide, fun e H2 e0 e1 hB2 x2 => ?_⟩
            walk_at "go"
            exact k _ H2 (Vl.at0 (.inr (.inl ⟨_, rfl⟩)) _) hB2 (x1.trans x2)
        · walk_at "go"
          refine st_if (fun c2 => ?_) (fun c2 => ?_)
          · walk_at "go"
            refine ⟨b, l, 2001, rfl, hB1, by decide, fun e H2 e0 e1 hB2 x2 => ?_⟩
            walk_at "go"
            exact k _ H2 (Vl.at0 (.inr (.inr (.inl ⟨_, rfl⟩))) _) hB2 (x1.trans x2)
          · walk_at "go"
            refine st_if (fun c3 => ?_) (fun c3 => ?_)
            · walk_at "go"
              refine ⟨b, l, 7, rfl, hB1, by decide, fun e H2 e0 e1 hB2 x2 => ?_⟩
              walk_at "go"
              refine fun x dx nx nd ne => ⟨x, dx, _, rfl, upd_same, ?_, by omega, by omega, fun i j H4 a4 x4 => ⟨rfl, ?_⟩⟩
              · rw [upd_ne ne, upd_same]
              · have s4 : Same H2 H4 := fun a o h => x4 a o (ne_of_none h nx) (by rw [upd_ne (ne_of_none h nx), upd_ne (ne_of_none h nd)]; exact h)
                exact k _ H4 (Vl.at0 (.inr (.inr (.inr (.inr ⟨x, dx, i, j, rfl, Sub.of (extDom hB2 (x1.trans x2) nx) a4⟩)))) _) (hB2.same s4) ((x1.trans x2).trans (Ext.of s4))
            · walk_at "go"
              refine st_if (fun c4 => ?_) (fun c4 => ?_)
              · walk_at "go"
                refine fun t n2 => ?_
                generalize e2 : upd H1 t _ = H2
                have a2 : H2 t = some (.lst (strs13.map V.str)) := by rw [← e2]; exact upd_same
                have s2 : Same H1 H2 := by rw [← e2]; exact Same.new n2
                refine .inl ⟨b, l, t, _, rfl, hB1.same s2, .inl (SqL.of a2), notB hB1 n2, by decide, by decide, fun x H3 hx hB3 x3 => ?_⟩
                exact k x H3 (Vl.at0 (.inr (.inr (.inr (.inl (pickS (zs := strs13) (by decide) hx))))) _) hB3 ((x1.trans (Ext.of s2)).trans x3)
              · walk_at "go"
                have hd : 0 < d := by omega
                obtain ⟨d', rfl⟩ : ∃ d', d = d' + 1 := ⟨d - 1, by omega⟩
                refine ⟨b, l, 3, rfl, hB1, by decide, fun n H2 n0 n1 hB2 x2 => ?_⟩
                walk_at "go"
                have hn : n.toNat ≤ 2 := by omega
                intro D nD
                have nb : D ≠ b := notB hB2 nD
                obtain ⟨H0, e0⟩ : ∃ H0 : Hp, H0 = upd H2 D (.lst []) := ⟨_, rfl⟩
                have a0 : H0 D = some (.lst []) := by rw [e0]; exact upd_same
                have s0 : Same H2 H0 := by rw [e0]; exact Same.new nD
                have nH : H D = none := extDom hB2 (x1.trans x2) nD
                refine lc_range (lo := 0) (fun i H3 => ∃ acc : List V, H3 D = some (.lst acc) ∧ acc.length = i ∧ (∀ x ∈ acc, Vl K w (lev d') (Sub H0 H3) x) ∧ BagAt b l H3 ∧ (∀ a o, a ≠ b → a ≠ D → H0 a = some o → H3 a = some o)) ?_ ?_ ?_
                · rw [← e0]
                  exact ⟨[], a0, rfl, fun x hx => (nomatch hx), hB2.same s0, fun a o _ _ q => q⟩
                · rintro i H3 hi ⟨acc, f1, f2, f3, hB3, f4⟩
                  have dom3 : ∀ a, H3 a = none → H0 a = none := fun a q => by
                    cases q0 : H0 a with
                    | none => rfl
                    | some o =>
                      rw [f4 a o (notB hB3 q) (fun z => by rw [z, f1] at q; cases q) q0] at q
                      cases q
                  have e9 : ((d' + 1 : Nat) : Int) - 1 = (d' : Int) := by omega
                  walk_at "go"
                  refine ⟨b, l, by show [V.ref b, V.int (((d' + 1 : Nat) : Int) - 1)] = _; rw [e9], hB3, fun v H4 hv hB4 x4 => ?_⟩
                  have g1 := x4 D _ nb f1
                  refine ⟨acc, g1, by have : acc.length ≤ 2 := by omega
                                      exact Nat.lt_of_le_of_lt this (by decide), ?_⟩
                  generalize e5 : upd H4 D _ = H5
                  have a5 : H5 D = some (.lst (acc ++ [v])) := by rw [← e5]; exact upd_same
                  have k5 : ∀ a, a ≠ D → H5 a = H4 a := fun a q => by rw [← e5]; exact upd_ne q
                  have nD0 : ∀ {a : Addr}, H0 a = none → a ≠ D := fun {a} q z => by rw [z, a0] at q; cases q
                  refine ⟨acc ++ [v], a5, by rw [List.length_append, f2]; rfl, fun x hx => ?_, ?_, fun a o q1 q2 q3 => ?_⟩
                  · rcases List.mem_append.mp hx with hx | hx
                    · refine (f3 x hx).sub fun a o q1 q2 => ⟨q1, ?_⟩
                      rw [k5 a (nD0 q1)]
                      exact x4 a o (notB (hB2.same s0) q1) q2
                    · rw [List.mem_singleton.mp hx]
                      refine hv.sub fun a o q1 q2 => ⟨dom3 a q1, ?_⟩
                      rw [k5 a (nD0 (dom3 a q1))]
                      exact q2
                  · obtain ⟨ys, hl⟩ := hB2.isL2
                    exact hB4.two (k5 b (Ne.symm nb)) (k5 l (ne_of_none hl nD))
                  · rw [k5 a q2]
                    exact x4 a o q1 (f4 a o q1 q2 q3)
                · rintro H3 ⟨acc, f1, f2, f3, hB3, f4⟩
                  have l2 : acc.length ≤ 2 := by omega
                  have ll : lev d' ≤ d' + 1 := by unfold lev; split <;> omega
                  have e3 : Ext b H H3 := fun a o q1 q2 => by
                    have q3 := (x1.trans x2) a o q1 q2
                    exact f4 a o q1 (ne_of_none q3 nD) (s0 a o q3)
                  have toH : ∀ a, H0 a = none → H a = none := fun a q => extDom hB2 (x1.trans x2) (s0.free q)
                  have ev : ∀ x ∈ acc, Vl K w (d' + 1) (Sub H H3) x := fun x hx => ((f3 x hx).sub fun a o q1 q2 => ⟨toH a q1, q2⟩).le ll
                  walk_at "go"
                  refine st_if (fun c5 => ?_) (fun c5 => ?_)
                  · walk_at "go"
                    refine st_if (fun c6 => ?_) (fun c6 => ?_)
                    · walk_at "go"
                      exact k _ H3 (.inr (.inl ⟨D, acc, rfl, .inl (Sub.of nH f1), l2, ev⟩)) hB3 e3
                    · walk_at "go"
                      refine st_tupL (SqL.of f1) fun r H4 n4 a4 s4 => ?_
                      exact k _ H4 (.inr (.inl ⟨r, acc, rfl, .inr (Sub.of (extDom hB3 e3 n4) a4), l2, fun x hx => (ev x hx).sub fun a o q1 q2 => ⟨q1, s4 a o q2⟩⟩)) (hB3.same s4) (e3.trans (Ext.of s4))
                  · walk_at "go"
                    refine fun p H4 n4 a4 s4 => ?_
                    walk_at "go"
                    have np : H p = none := extDom hB3 e3 n4
                    have pb : p ≠ b := notB hB3 n4
                    have pD : p ≠ D := fun z => by rw [z, f1] at n4; cases n4
                    refine ⟨⟨_, SqL.of (s4 _ _ f1)⟩, for_list (K := K) (a := D) (xs := acc) (fun i σ H5 => ∃ (kvs : List NKV) (tv : Option V), σ = [some (.ref b), some (.int ((d' + 1 : Nat) : Int)), some (.int pick), some (.ref D), none, some (.ref p), tv] ∧ H5 p = some (dN w p kvs) ∧ kvs.length ≤ i ∧
                      (∀ q ∈ kvs, KeyN (Sub H H5) q.1 q.2.1 ∧ Vl K w (d' + 1) (Sub H H3) q.2.2) ∧ BagAt b l H5 ∧ (∀ a o, a ≠ b → a ≠ p → H4 a = some o → H5 a = some o)) ?_ ?_ ?_ ?_⟩
                    · exact ⟨[], none, rfl, a4, Nat.le_refl _, fun q hq => (nomatch hq), hB3.same s4, fun a o _ _ q => q⟩
                    · rintro i σ H5 hi ⟨kvs, tv, rfl, g1, g2, g3, hB5, g4⟩
                      exact SqL.of (g4 D _ nb (Ne.symm pD) (s4 _ _ f1))
                    · rintro i x σ H5 hi ⟨kvs, tv, rfl, g1, g2, g3, hB5, g4⟩
                      have il : i < acc.length := (List.getElem?_eq_some_iff.mp hi).1
                      have hx : x ∈ acc := List.mem_of_getElem? hi
                      walk_at "go"
                      intro t nt
                      generalize e6 : upd H5 t _ = H6
                      have a6 : H6 t = some (.tup [.int 0, .str "a"]) := by rw [← e6]; exact upd_same
                      have s6 : Same H5 H6 := by rw [← e6]; exact Same.new nt
                      walk_at "go"
                      refine And.intro (by exact Nat.le_of_ble_eq_true (by rfl)) ?_
                      intro ql n7
                      generalize e7 : upd H6 ql _ = H7
                      have a7 : H7 ql = some (.lst [.str "a", .int 1, .ref t, .str "x"]) := by rw [← e7]; exact upd_same
                      have s7 : Same H6 H7 := by rw [← e7]; exact Same.new n7
                      have s57 := s6.trans s7
                      have hB7 := hB5.same s57
                      have tb : t ≠ b := notB hB5 nt
                      have dom5 : ∀ a, H5 a = none → H a = none := fun a q => by
                        cases q0 : H a with
                        | none => rfl
                        | some o =>
                          have q3 := s4 _ _ (e3 a o (notB hB5 q) q0)
                          rw [g4 a o (notB hB5 q) (fun z => by rw [z, g1] at q; cases q) q3] at q
                          cases q
                      refine .inl ⟨b, l, ql, _, rfl, hB7, .inl (SqL.of a7), notB (hB5.same s6) n7, by simp, Nat.lt_of_le_of_lt (Nat.le_of_ble_eq_true (by rfl : Nat.ble _ 4 = true)) (by decide), fun key H8 hk hB8 x8 => ?_⟩
                      have hp8 : H8 p = some (dN w p kvs) := x8 p _ pb (s57 _ _ g1)
                      have kk : ∃ nk, KeyN (Sub H H8) nk key := by
                        simp only [List.mem_cons, List.not_mem_nil, or_false] at hk
                        rcases hk with rfl | rfl | rfl | rfl
                        · exact ⟨_, .inr (.inl ⟨_, by decide, rfl, rfl⟩)⟩
                        · exact ⟨_, .inl ⟨_, rfl, rfl⟩⟩
                        · exact ⟨_, .inr (.inr ⟨t, 0, "a", by decide, rfl, rfl, Sub.of (dom5 t nt) (x8 t _ tb (s7 _ _ a6))⟩)⟩
                        · exact ⟨_, .inr (.inl ⟨_, by decide, rfl, rfl⟩)⟩
                      obtain ⟨nk, kn⟩ := kk
                      have k8 : ∀ q ∈ kvs, KeyN (Sub H H8) q.1 q.2.1 := fun q hq => (g3 q hq).1.ext fun a xs z => Sub.of (Sub.at z).1 (x8 a _ (notB hB (Sub.at z).1) (s57 _ _ (Sub.at z).2))
                      have fin : ∀ H9 : Hp, Ext p H8 H9 → (∀ {k : NestedKey} {v : V}, KeyN (Sub H H8) k v → KeyN (Sub H H9) k v) ∧ BagAt b l H9 ∧ (∀ a o, a ≠ b → a ≠ p → H4 a = some o → H9 a = some o) := fun H9 x9 => by
                        refine ⟨fun {k v} z => z.ext fun a xs z => Sub.of (Sub.at z).1 (x9 a _ (fun zz => ?_) (Sub.at z).2), ?_, fun a o q1 q2 q3 => x9 a o q2 (x8 a o q1 (s57 _ _ (g4 a o q1 q2 q3)))⟩
                        · have z2 := (Sub.at z).2
                          rw [zz, hp8] at z2
                          have z3 : HO.ext _ = HO.tup xs := Option.some.inj z2
                          cases z3
                        · obtain ⟨ys, hb8⟩ := hB8.isL
                          obtain ⟨zs, hl8⟩ := hB8.isL2
                          have lp : l ≠ p := fun z => by
                            rw [z, hp8] at hl8
                            have z3 : HO.ext _ = HO.lst zs := Option.some.inj hl8
                            cases z3
                          exact hB8.two ((x9 b _ (Ne.symm pb) hb8).trans hb8.symm) ((x9 l _ lp hl8).trans hl8.symm)
                      walk_at "go"
                      refine ⟨p, nk, rfl, kn.key.ext fun a xs z => (Sub.at z).2, ?_⟩
                      match kvs, g2, g3, hp8, k8 with
                      | [], _, _, hp8, _ =>
                        refine .inl ⟨hp8, fun H9 h9 x9 => ?_⟩
                        obtain ⟨m1, m2, m3⟩ := fin H9 x9
                        exact ⟨_, _, rfl, h9, by show 1 ≤ i + 1; omega, fun q hq => by rw [List.mem_singleton.mp hq]; exact ⟨m1 kn, ev x hx⟩, m2, m3⟩
                      | [(k1, i1, v1)], g2, g3, hp8, k8 =>
                        have l1 : 1 ≤ i := g2
                        refine .inr ⟨k1, i1, v1, hp8, (k8 _ (List.mem_singleton.mpr rfl)).key.ext fun a xs z => (Sub.at z).2, fun H9 kvs' hk' h9 x9 => ?_⟩
                        obtain ⟨m1, m2, m3⟩ := fin H9 x9
                        refine ⟨kvs', _, rfl, h9, ?_, fun q hq => ?_, m2, m3⟩
                        · rcases hk' with rfl | rfl
                          · show 1 ≤ i + 1; omega
                          · show 2 ≤ i + 1; omega
                        · have h1 := m1 (k8 _ (List.mem_singleton.mpr rfl))
                          rcases hk' with rfl | rfl
                          · rw [List.mem_singleton.mp hq]
                            exact ⟨h1, ev x hx⟩
                          · rcases List.mem_cons.mp hq with rfl | hq
                            · exact ⟨h1, (g3 _ (List.mem_singleton.mpr rfl)).2⟩
                            · rw [List.mem_singleton.mp hq]
                              exact ⟨m1 kn, ev x hx⟩
                      | _ :: _ :: _, g2, _, _, _ =>
                        have g2' : 2 ≤ i := Nat.le_trans (Nat.le_add_left 2 _) g2
                        omega
                    · rintro σ H5 ⟨kvs, tv, rfl, g1, g2, g3, hB5, g4⟩
                      walk_at "go"
                      refine k _ H5 (.inr (.inr ⟨p, kvs, rfl, Sub.of np g1, Nat.le_trans g2 l2, fun q hq => ⟨(g3 q hq).1.key, (g3 q hq).1.vl d', (g3 q hq).2.sub fun a o q1 q2 => ⟨q1, ?_⟩⟩⟩)) hB5 fun a o q1 q2 => ?_
                      · exact g4 a o (notB hB q1) (ne_of_none q2 n4) (s4 _ _ q2)
                      · have q3 := e3 a o q1 q2
                        exact g4 a o q1 (ne_of_none q3 n4) (s4 _ _ q3)
      · walk_at "go"
        refine ⟨b, l, _, rfl, hB, by decide, fun pick H1 p0 p1 hB1 x1 => ?_⟩
        have hp : pick < 7 := by omega
        have hp2 : pick < 11 := by omega
        clear p1 c
        walk_at "go"
        refine st_if (fun c1 => ?_) (fun c1 => ?_)
        · walk_at "go"
          refine st_if (fun c2 => ?_) (fun c2 => ?_)
          · walk_at "go"
            exact k _ H1 (Vl.at0 (.inl rfl) _) hB1 x1
          · walk_at "go"
            refine ⟨b, l, 2, rfl, hB1, by decide, fun e H2 e0 e1 hB2 x2 => ?_⟩
            walk_at "go"
            exact k _ H2 (Vl.at0 (.inr (.inl ⟨_, rfl⟩)) _) hB2 (x1.trans x2)
        · walk_at "go"
          refine st_if (fun c2 => ?_) (fun c2 => ?_)
          · walk_at "go"
            refine ⟨b, l, 2001, rfl, hB1, by decide, fun e H2 e0 e1 hB2 x2 => ?_⟩
            walk_at "go"
            exact k _ H2 (Vl.at0 (.inr (.inr (.inl ⟨_, rfl⟩))) _) hB2 (x1.trans x2)
          · walk_at "go"
            refine st_if (fun c3 => ?_) (fun c3 => ?_)
            · walk_at "go"
              refine ⟨b, l, 7, rfl, hB1, by decide, fun e H2 e0 e1 hB2 x2 => ?_⟩
              walk_at "go"
              refine fun x dx nx nd ne => ⟨x, dx, _, rfl, upd_same, ?_, by omega, by omega, fun i j H4 a4 x4 => ⟨rfl, ?_⟩⟩
              · rw [upd_ne ne, upd_same]
              · have s4 : Same H2 H4 := fun a o h => x4 a o (ne_of_none h nx) (by rw [upd_ne (ne_of_none h nx), upd_ne (ne_of_none h nd)]; exact h)
                exact k _ H4 (Vl.at0 (.inr (.inr (.inr (.inr ⟨x, dx, i, j, rfl, Sub.of (extDom hB2 (x1.trans x2) nx) a4⟩)))) _) (hB2.same s4) ((x1.trans x2).trans (Ext.of s4))
            · walk_at "go"
              refine st_if (fun c4 => ?_) (fun c4 => ?_)
              · walk_at "go"
                refine fun t n2 => ?_
                generalize e2 : upd H1 t _ = H2
                have a2 : H2 t = some (.lst (strs13.map V.str)) := by rw [← e2]; exact upd_same
                have s2 : Same H1 H2 := by rw [← e2]; exact Same.new n2
                refine .inl ⟨b, l, t, _, rfl, hB1.same s2, .inl (SqL.of a2), notB hB1 n2, by decide, by decide, fun x H3 hx hB3 x3 => ?_⟩
                exact k x H3 (Vl.at0 (.inr (.inr (.inr (.inl (pickS (zs := strs13) (by decide) hx))))) _) hB3 ((x1.trans (Ext.of s2)).trans x3)
              · omega
end
end K00
end -- a5
section -- a6
set_option Elab.async false
set_option linter.all false
set_option maxRecDepth 100000
set_option maxHeartbeats 4000000
local macro_rules | `(tactic| walk_at "lvl") => `(tactic| first
  | decide
  | omega
  | (simp only [Nat.add_eq]; omega))
local macro_rules | `(tactic| walk_at "side") => `(tactic| first
  | decide
  | assumption
  | omega
  | exact ⟨by decide, by decide⟩
  | exact ⟨by decide, by decide, by decide⟩
  | exact Or.inl (Or.inr ⟨by decide, by decide⟩)
  | exact Or.inl (Or.inl ⟨by decide, by decide⟩))
local macro_rules | `(tactic| walk_at "ty") => `(tactic| first
  | assumption
  | exact L2.TyG.x (.base (.int _))
  | exact L2.TyG.x (.base (.str _))
  | exact L2.TyG.x (.base (.bl _))
  | exact L2.TyG.x (.base .non)
  | exact L2.TyG.x (.base (.lst (by assumption)))
  | exact L2.TyG.x (.base (.tup (by assumption)))
  | exact K00.tyR (by assumption) (by assumption)
  | exact L2.TyG.dn (by assumption))
local macro_rules | `(tactic| walk_at "cv") => `(tactic| first
  | exact L2.ClsV.ty _
  | exact L2.ClsV.own _)
local macro_rules | `(tactic| walk_at "kit") => `(tactic| first
  | exact L2.kit_ty (by decide +kernel)
  | exact K00.kR (by assumption) (by decide)
  | exact K00.kR2 (by assumption) (by decide)
  | exact K00.kR3 (by assumption))
local macro_rules | `(tactic| walk_at "s1") => `(tactic| first
  | refine ⟨_, rfl, ?_⟩
  | refine ⟨_, _, rfl, rfl, ?_⟩
  | refine ⟨_, _, rfl, ?_⟩
  | refine And.intro rfl ?_
  | refine L2.iteT ?_
  | refine L2.iteF ?_
  | refine L2.st_ixl (by assumption) (by rfl) ?_
  | refine L2.st_ixt (by assumption) (by rfl) ?_
  | refine L2.st_lenR (L2.lenr_l (by assumption)) ?_
  | refine L2.st_lenGR (L2.lenr_l (by assumption)) ?_
  | refine L2.st_lenGR (L2.lenr_t (by assumption)) ?_
  | refine L2.st_lenR (L2.lenr_t (by assumption)) ?_
  | refine L2.st_isG (b := false) (by walk_at "ty") (by walk_at "cv") (by walk_at "kit") ?_
  | refine L2.st_isG (b := true) (by walk_at "ty") (by walk_at "cv") (by walk_at "kit") ?_
  | refine And.intro (by walk_at "side") ?_)
local macro_rules | `(tactic| walk_at "go") => `(tactic| repeat (walk_at "s1"))
namespace K00
open PySem PySem.Spec PyProof.Rows L2
section
variable {P : Program} {w : World} {K : PySem.W.Frag} {mg : Str → Option Value} {base : Heap}
theorem all_rep : ∀ n : Nat, (List.replicate n true).all id = true
  | 0 => rfl
  | n + 1 => all_rep n
theorem st_all {K : PySem.W.Frag} {D : Addr} {n : Nat} {H : Hp} {Q : VK} (h : H D = some (.lst (List.replicate n (.bl true)))) (q : Q (.bl true) H) : rAll K [.ref D] H Q := by
  refine ⟨D, List.replicate n true, rfl, ?_, by rw [all_rep]; exact q⟩
  rw [List.map_replicate]
  exact SqL.of h
theorem rep_step {H H1 H2 H3 : Hp} {D : Addr} {i : Nat} (nD : H D = none) (h : H1 D = some (.lst (List.replicate i (.bl true))) ∧ Same H H1) (s2 : Same H1 H2) (s3 : Same H2 H3) (hi : i < 2 ∨ i < 100) : ∃ acc : List V, H3 D = some (.lst acc) ∧ acc.length < sizeLine ∧
    (upd H3 D (.lst (acc ++ [.bl true])) D = some (.lst (List.replicate (i + 1) (.bl true))) ∧ Same H (upd H3 D (.lst (acc ++ [.bl true])))) := by
  refine ⟨_, (s2.trans s3) _ _ h.1, ?_, ?_, fun a o q => ?_⟩
  · rw [List.length_replicate]
    exact Nat.lt_of_lt_of_le (show i < 100 by omega) (by decide)
  · rw [upd_same, List.replicate_succ']
  · rw [upd_ne (ne_of_none q nD)]
    exact (s2.trans s3) _ _ (h.2 _ _ q)
theorem qd {p : Prop} {i : Decidable p} {Q : VK} {H : Hp} (h : p) (q : Q (.bl true) H) : Q (.bl (decide p)) H := by
  rw [decide_eq_true h]
  exact q
/-- two values of which one is a copy of the other: exact says yes -/
def spEx (K : PySem.W.Frag) (w : World) (r : Nat) : Sp := fun vs H Q _ => ((∃ (x : V) (n : Nat), 2 * n + 1 ≤ r ∧ vs = [x, x] ∧ Vl K w n H x) ∨
    ∃ (a c : Addr) (xs : List V) (n : Nat), 2 * n + 2 ≤ r ∧ vs = [.ref a, .ref c] ∧ H a = some (.lst xs) ∧ H c = some (.lst xs) ∧ xs.length ≤ 2 ∧ ∀ x ∈ xs, Vl K w n H x) ∧ ∀ H', Same H H' → Q (.bl true) H'
theorem G_exact (T : TL K mg) : ∀ r : Nat, FX P w K mg base (r + 2) "_law_exact" [] (spEx K w r)
  | 0 => by
    obtain ⟨fd, F⟩ := F__law_exact T
    refine FX.of (ps := ["told", "due"]) F (g__law_exact T) ⟨fun vs H Q E h => ?_, fun A outer s H args us vs Q E hr e0 hb hv h => ?_⟩ (fun _ _ _ _ _ _ us hl => match us, hl with | [_, _], _ => rfl)
    · obtain ⟨⟨x, n, h, _⟩ | ⟨a, c, xs, n, h, _⟩, _⟩ := h <;> omega
    · obtain ⟨⟨x, n, h, _⟩ | ⟨a, c, xs, n, h, _⟩, _⟩ := h <;> omega
  | r + 1 => by
    have R := G_exact T r
    obtain ⟨fd, F⟩ := F__law_exact T
    refine FX.of F (g__law_exact T) (F.ok0 sc__law_exact (fun vs H Q E h => ?_) (fun cdv A outer s H vs Q E hr h => ?_)) (fun _ _ _ _ _ _ us hl => match us, hl with | [_, _], _ => rfl)
    · obtain ⟨⟨x, n, h, rfl, _⟩ | ⟨a, c, xs, n, h, rfl, _⟩, _⟩ := h <;> rfl
    · refine ⟨_, (pss_cons (ps_if (pt_cmpR op_isN (pv 1) pe_non (nomark _))
        (pss_one (ps_ret (pe_cmpR op_isN (pv 0) pe_non (nomark _))))
        pss_nil)
      (pss_cons (ps_if (pt_val (pe_callB call_isG (by rfl) (f_isinstance T) (by decide +kernel) (pa_cons (pv 1) (pa_cons (pe_bty (n := "bool") (f_bool T) (by decide +kernel)) pa_nil))))
        (pss_one (ps_ret (pe_and (pe_callB call_isG (by rfl) (f_isinstance T) (by decide +kernel) (pa_cons (pv 0) (pa_cons (pe_bty (n := "bool") (f_bool T) (by decide +kernel)) pa_nil))) (pe_one (pe_cmpR op_eq (pv 0) (pv 1) (nomark _))))))
        pss_nil)
      (pss_cons (ps_if (pt_val (pe_callB call_isG (by rfl) (f_isinstance T) (by decide +kernel) (pa_cons (pv 1) (pa_cons (pe_bty (n := "int") (f_int T) (by decide +kernel)) pa_nil))))
        (pss_one (ps_ret (pe_and (pe_fx (G__law_int T) (hr.mono (by walk_at "lvl")) passL (pa_cons (pv 0) pa_nil)) (pe_one (pe_cmpR op_eq (pv 0) (pv 1) (nomark _))))))
        pss_nil)
      (pss_cons (ps_if (pt_val (pe_callB call_isG (by rfl) (f_isinstance T) (by decide +kernel) (pa_cons (pv 1) (pa_cons (pe_bty (n := "str") (f_str T) (by decide +kernel)) pa_nil))))
        (pss_one (ps_ret (pe_and (pe_callB call_isG (by rfl) (f_isinstance T) (by decide +kernel) (pa_cons (pv 0) (pa_cons (pe_bty (n := "str") (f_str T) (by decide +kernel)) pa_nil))) (pe_one (pe_cmpR op_eq (pv 0) (pv 1) (nomark _))))))
        pss_nil)
      (pss_cons (ps_if (pt_val (pe_callB call_isG (by rfl) (f_isinstance T) (by decide +kernel) (pa_cons (pv 1) (pa_cons (pe_gr (g_Ratio T)) pa_nil))))
        (pss_one (ps_ret (pe_and (pe_callB call_isG (by rfl) (f_isinstance T) (by decide +kernel) (pa_cons (pv 0) (pa_cons (pe_gr (g_Ratio T)) pa_nil))) (pe_and (pe_cmpR op_eq (pe_fld (pv 0) rfl) (pe_fld (pv 1) rfl) (nomark _)) (pe_one (pe_cmpR op_eq (pe_fld (pv 0) rfl) (pe_fld (pv 1) rfl) (nomark _)))))))
        pss_nil)
      (pss_cons (ps_if (pt_val (pe_callB call_isG (by rfl) (f_isinstance T) (by decide +kernel) (pa_cons (pv 1) (pa_cons (pe_bty (n := "dict") (f_dict T) (by decide +kernel)) pa_nil))))
        (pss_cons (ps_if (PW.pt (pw_or (pt_not (pt_val (pe_callB call_isG (by rfl) (f_isinstance T) (by decide +kernel) (pa_cons (pv 0) (pa_cons (pe_bty (n := "dict") (f_dict T) (by decide +kernel)) pa_nil))))) (pw_or1 (pt_cmpR op_ne (pe_callB call_lenGN (by rfl) (f_len T) (by decide +kernel) (pa_cons (pv 0) pa_nil)) (pe_callB call_lenGN (by rfl) (f_len T) (by decide +kernel) (pa_cons (pv 1) pa_nil)) (nomark _)))))
          (pss_one (ps_ret pe_bl))
          pss_nil)
        (pss_one (ps_ret (pe_callB (cr_all rfl) (by rfl) (f_all T) (by decide +kernel) (pa_cons (pe_lc (own := [("pair", 2), ("wanted", 3)]) (g := gTup K 2 (gCons (gName 2) (gCons (gName 3) gNil))) (tt := tYes) rfl sc__law_exact.nd (RZ.pi_zipA (by rfl) (f_zip T) (pa_cons (pe_listItemsN rfl (pv 0) rfl (f_list T) (by decide +kernel)) (pa_cons (pe_listItemsN rfl (pv 1) rfl (f_list T) (by decide +kernel)) pa_nil))) (blkOk_by (N := N__law_exact) (sc := defScope s__law_exact) (by decide +kernel)) (fun _ _ _ _ _ => pg_tup rfl (pgs_cons (pg_name (i := 2) sc__law_exact.nd rfl (Or.inl rfl)) (pgs_cons (pg_name (i := 3) sc__law_exact.nd rfl (Or.inl rfl)) pgs_nil))) (fun _ _ _ _ _ => pts_nil) (fun _ _ _ _ _ => (pe_fx R (hr.mono (by walk_at "lvl")) passL (pa_cons (pe_callTy (T := "list") (call_listK (K := K) rfl) (by rfl) (f_list T) (by decide +kernel) (pa_cons (pv 2) pa_nil)) (pa_cons (pe_callTy (T := "list") (call_listK (K := K) rfl) (by rfl) (f_list T) (by decide +kernel) (pa_cons (pv 3) pa_nil)) pa_nil))))) pa_nil)))))
        pss_nil)
      (pss_cons (ps_if (PW.pt (pw_or (PW.pt (pw_and (pt_val (pe_callB call_isG (by rfl) (f_isinstance T) (by decide +kernel) (pa_cons (pv 1) (pa_cons (pe_bty (n := "list") (f_list T) (by decide +kernel)) pa_nil)))) (pw_and1 (pt_not (pt_val (pe_callB call_isG (by rfl) (f_isinstance T) (by decide +kernel) (pa_cons (pv 0) (pa_cons (pe_bty (n := "list") (f_list T) (by decide +kernel)) pa_nil)))))))) (pw_or1 (PW.pt (pw_and (pt_val (pe_callB call_isG (by rfl) (f_isinstance T) (by decide +kernel) (pa_cons (pv 1) (pa_cons (pe_bty (n := "tuple") (f_tuple T) (by decide +kernel)) pa_nil)))) (pw_and1 (pt_not (pt_val (pe_callB call_isG (by rfl) (f_isinstance T) (by decide +kernel) (pa_cons (pv 0) (pa_cons (pe_bty (n := "tuple") (f_tuple T) (by decide +kernel)) pa_nil)))))))))))
        (pss_one (ps_ret pe_bl))
        pss_nil)
      (pss_one (ps_ret (pe_and (pe_cmpR op_eq (pe_callB call_lenGN (by rfl) (f_len T) (by decide +kernel) (pa_cons (pv 0) pa_nil)) (pe_callB call_lenGN (by rfl) (f_len T) (by decide +kernel) (pa_cons (pv 1) pa_nil)) (nomark _)) (pe_one (pe_callB (cr_all rfl) (by rfl) (f_all T) (by decide +kernel) (pa_cons (pe_lc (own := [("a", 4), ("b", 5)]) (g := gTup K 2 (gCons (gName 4) (gCons (gName 5) gNil))) (tt := tYes) rfl sc__law_exact.nd (RZ.pi_zipA (by rfl) (f_zip T) (pa_cons (pv 0) (pa_cons (pv 1) pa_nil))) (blkOk_by (N := N__law_exact) (sc := defScope s__law_exact) (by decide +kernel)) (fun _ _ _ _ _ => pg_tup rfl (pgs_cons (pg_name (i := 4) sc__law_exact.nd rfl (Or.inl rfl)) (pgs_cons (pg_name (i := 5) sc__law_exact.nd rfl (Or.inl rfl)) pgs_nil))) (fun _ _ _ _ _ => pts_nil) (fun _ _ _ _ _ => (pe_fx R (hr.mono (by walk_at "lvl")) passL (pa_cons (pv 4) (pa_cons (pv 5) pa_nil))))) pa_nil))))))))))))), ?_⟩
      obtain ⟨h, k⟩ := h
      have k0 : Q (.bl true) H := k H (Same.refl H)
      rcases h with ⟨x, n, hn, rfl, hv⟩ | ⟨a, c, xs, n, hn, rfl, ha, hc, hl, hx⟩
      · have cases3 : At0 K H x ∨ (∃ (m : Nat) (a : Addr) (xs : List V), 2 * m + 1 ≤ r ∧ x = .ref a ∧ (H a = some (.lst xs) ∨ H a = some (.tup xs)) ∧ xs.length ≤ 2 ∧ ∀ y ∈ xs, Vl K w m H y) ∨
            ∃ (m : Nat) (a : Addr) (kvs : List NKV), 2 * m + 2 ≤ r ∧ x = .ref a ∧ H a = some (dN w a kvs) ∧ kvs.length ≤ 2 ∧ ∀ p ∈ kvs, KeyH H p.1 p.2.1 ∧ Vl K w m H p.2.1 ∧ Vl K w m H p.2.2 := by
          cases n with
          | zero => exact .inl hv
          | succ m =>
            rcases hv with h | ⟨a, xs, h⟩ | ⟨a, kvs, h⟩
            · exact .inl h
            · exact .inr (.inl ⟨m, a, xs, by omega, h⟩)
            · exact .inr (.inr ⟨m, a, kvs, by omega, h⟩)
        rcases cases3 with (rfl | ⟨y, rfl⟩ | ⟨i, rfl⟩ | ⟨z, rfl, hz⟩ | ⟨a, dx, i, j, rfl, ha⟩) | ⟨m, a, xs, hm, rfl, ha | ha, hl, hx⟩ | ⟨m, a, kvs, hm, rfl, ha, hl, hx⟩
        · walk_at "go"
          exact qd rfl k0
        · walk_at "go"
          exact qd rfl k0
        · walk_at "go"
          refine spInt_i ?_
          walk_at "go"
          exact qd rfl k0
        · walk_at "go"
          exact qd rfl k0
        · walk_at "go"
          refine ⟨a, _, dx, _, _, rfl, ha, clsR T, He.noat_ok (a_noat_Ratio_top T), by rfl, ?_⟩
          walk_at "go"
          refine ⟨a, _, dx, _, _, rfl, ha, clsR T, He.noat_ok (a_noat_Ratio_top T), by rfl, ?_⟩
          walk_at "go"
          refine st_if (fun c => ?_) (fun c => absurd rfl c)
          walk_at "go"
          refine ⟨a, _, dx, _, _, rfl, ha, clsR T, He.noat_ok (a_noat_Ratio_bottom T), by rfl, ?_⟩
          walk_at "go"
          refine ⟨a, _, dx, _, _, rfl, ha, clsR T, He.noat_ok (a_noat_Ratio_bottom T), by rfl, ?_⟩
          walk_at "go"
          exact qd rfl k0
        · walk_at "go"
          refine st_if (fun c => ?_) (fun c => absurd rfl c)
          walk_at "go"
          refine ⟨a, a, xs, xs, rfl, .inl ⟨SqL.of ha, SqL.of ha, ?_⟩⟩
          intro D nD
          refine lc_zipL rfl (fun i H1 => H1 D = some (.lst (List.replicate i (.bl true))) ∧ Same H H1) ⟨upd_same, Same.new nD⟩ (fun i H1 h => ⟨SqL.of (h.2 _ _ ha), SqL.of (h.2 _ _ ha)⟩) ?_ ?_
          · intro i y y' t H1 H2 h1 h2 h3 nT hT s2
            obtain rfl : y = y' := Option.some.inj (h1.symm.trans h2)
            refine ⟨t, [y, y], rfl, .inl (.inl hT), rfl, ?_⟩
            walk_at "go"
            refine ⟨.inl ⟨y, m, hm, rfl, (hx y (List.mem_of_getElem? h1)).same (h3.2.trans s2)⟩, fun H3 s3 => ?_⟩
            exact rep_step nD h3 s2 s3 (.inl <| Nat.lt_of_lt_of_le (List.getElem?_eq_some_iff.mp h1).1 hl)
          · rintro H1 ⟨h1, h2⟩
            walk_at "go"
            exact st_all h1 (k H1 h2)
        · walk_at "go"
          refine st_if (fun c => ?_) (fun c => absurd rfl c)
          walk_at "go"
          refine ⟨a, a, xs, xs, rfl, .inr ⟨.inl (.inl ha), .inl (.inl ha), ?_⟩⟩
          intro D nD
          refine lc_zipT rfl (fun i H1 => H1 D = some (.lst (List.replicate i (.bl true))) ∧ Same H H1) ⟨upd_same, Same.new nD⟩ (fun i H1 h => ⟨.inl (.inl (h.2 _ _ ha)), .inl (.inl (h.2 _ _ ha))⟩) ?_ ?_
          · intro i y y' t H1 H2 h1 h2 h3 nT hT s2
            obtain rfl : y = y' := Option.some.inj (h1.symm.trans h2)
            refine ⟨t, [y, y], rfl, .inl (.inl hT), rfl, ?_⟩
            walk_at "go"
            refine ⟨.inl ⟨y, m, hm, rfl, (hx y (List.mem_of_getElem? h1)).same (h3.2.trans s2)⟩, fun H3 s3 => ?_⟩
            exact rep_step nD h3 s2 s3 (.inl <| Nat.lt_of_lt_of_le (List.getElem?_eq_some_iff.mp h1).1 hl)
          · rintro H1 ⟨h1, h2⟩
            walk_at "go"
            exact st_all h1 (k H1 h2)
        · walk_at "go"
          refine st_lenGN ha (by omega) ?_
          walk_at "go"
          refine st_lenGN ha (by omega) ?_
          walk_at "go"
          refine st_ifn (fun z => absurd rfl z) (fun _ => ?_)
          walk_at "go"
          refine ⟨a, kvs, rfl, ha, by omega, fun H1 p1 t1 s1 n1 nt1 a1 e1 => ?_⟩
          walk_at "go"
          refine ⟨a, kvs, rfl, s1 _ _ ha, by omega, fun H2 p2 t2 s2 n2 nt2 a2 e2 => ?_⟩
          walk_at "go"
          have lt1 : t1.length = kvs.length := Paired.length e1
          have lt2 : t2.length = kvs.length := Paired.length e2
          refine ⟨p1, p2, t1.map V.ref, t2.map V.ref, rfl, .inl ⟨SqL.of (s2 _ _ a1), SqL.of a2, ?_⟩⟩
          intro D nD
          have lh : (t1.map V.ref).length ≤ 2 := by rw [List.length_map, lt1]; exact hl
          refine lc_zipL (by rw [List.length_map, List.length_map, lt1, lt2]) (fun i H3 => H3 D = some (.lst (List.replicate i (.bl true))) ∧ Same H2 H3) ⟨upd_same, Same.new nD⟩ (fun i H3 h => ⟨SqL.of (h.2 _ _ (s2 _ _ a1)), SqL.of (h.2 _ _ a2)⟩) ?_ ?_
          · intro i y y' t H3 H4 h1 h2 h3 nT hT s4
            have hi : i < 2 := Nat.lt_of_lt_of_le (List.getElem?_eq_some_iff.mp h1).1 lh
            rw [List.getElem?_map] at h1 h2
            obtain ⟨u1, hu1, rfl⟩ := Option.map_eq_some_iff.mp h1
            obtain ⟨u2, hu2, rfl⟩ := Option.map_eq_some_iff.mp h2
            obtain ⟨q, hq, f1⟩ := LiI.paired_get e1 hu1
            obtain ⟨q', hq', f2⟩ := LiI.paired_get e2 hu2
            obtain rfl : q = q' := Option.some.inj (hq.symm.trans hq')
            have g1 : H4 u1 = some (.tup [q.2.1, q.2.2]) := (h3.2.trans s4) _ _ (s2 _ _ f1)
            have g2 : H4 u2 = some (.tup [q.2.1, q.2.2]) := (h3.2.trans s4) _ _ f2
            refine ⟨t, [.ref u1, .ref u2], rfl, .inl (.inl hT), rfl, ?_⟩
            walk_at "go"
            refine st_listT (.inl (.inl g1)) fun r1 H5 n5 a5 s5 => ?_
            walk_at "go"
            refine st_listT (.inl (.inl (s5 _ _ g2))) fun r2 H6 n6 a6 s6 => ?_
            walk_at "go"
            have sA : Same H H6 := ((((s1.trans s2).trans h3.2).trans s4).trans s5).trans s6
            obtain ⟨v1, v2, v3⟩ := hx q (List.mem_of_getElem? hq)
            refine ⟨.inr ⟨r1, r2, [q.2.1, q.2.2], m, hm, rfl, s6 _ _ a5, a6, Nat.le_refl 2, fun e he => ?_⟩, fun H7 s7 => ?_⟩
            · rcases List.mem_cons.mp he with rfl | he
              · exact v2.same sA
              · rw [List.mem_singleton.mp he]
                exact v3.same sA
            · exact rep_step nD h3 (s4.trans (s5.trans s6)) s7 (.inl hi)
          · rintro H3 ⟨h1, h2⟩
            walk_at "go"
            exact st_all h1 (k H3 ((s1.trans s2).trans h2))
      · walk_at "go"
        refine st_if (fun _ => ?_) (fun z => absurd rfl z)
        walk_at "go"
        refine ⟨a, c, xs, xs, rfl, .inl ⟨SqL.of ha, SqL.of hc, ?_⟩⟩
        intro D nD
        refine lc_zipL rfl (fun i H1 => H1 D = some (.lst (List.replicate i (.bl true))) ∧ Same H H1) ⟨upd_same, Same.new nD⟩ (fun i H1 h => ⟨SqL.of (h.2 _ _ ha), SqL.of (h.2 _ _ hc)⟩) ?_ ?_
        · intro i y y' t H1 H2 h1 h2 h3 nT hT s2
          obtain rfl : y = y' := Option.some.inj (h1.symm.trans h2)
          refine ⟨t, [y, y], rfl, .inl (.inl hT), rfl, ?_⟩
          walk_at "go"
          refine ⟨.inl ⟨y, n, by omega, rfl, (hx y (List.mem_of_getElem? h1)).same (h3.2.trans s2)⟩, fun H3 s3 => ?_⟩
          exact rep_step nD h3 s2 s3 (.inl <| Nat.lt_of_lt_of_le (List.getElem?_eq_some_iff.mp h1).1 hl)
        · rintro H1 ⟨h1, h2⟩
          walk_at "go"
          exact st_all h1 (k H1 h2)
end
end K00
end -- a6
section -- a7
set_option Elab.async false
set_option linter.all false
set_option maxRecDepth 100000
set_option maxHeartbeats 4000000
local macro_rules | `(tactic| walk_at "lvl") => `(tactic| first
  | decide
  | omega
  | (simp only [Nat.add_eq]; omega))
local macro_rules | `(tactic| walk_at "side") => `(tactic| first
  | decide
  | assumption
  | omega
  | exact ⟨by decide, by decide⟩
  | exact ⟨by decide, by decide, by decide⟩
  | exact Or.inl (Or.inr ⟨by decide, by decide⟩)
  | exact Or.inl (Or.inl ⟨by decide, by decide⟩))
local macro_rules | `(tactic| walk_at "ty") => `(tactic| first
  | assumption
  | exact L2.TyG.x (.base (.int _))
  | exact L2.TyG.x (.base (.str _))
  | exact L2.TyG.x (.base (.bl _))
  | exact L2.TyG.x (.base .non)
  | exact L2.TyG.x (.base (.lst (by assumption)))
  | exact L2.TyG.x (.base (.tup (by assumption)))
  | exact K00.tyR (by assumption) (by assumption)
  | exact L2.TyG.dn (by assumption))
local macro_rules | `(tactic| walk_at "cv") => `(tactic| first
  | exact L2.ClsV.ty _
  | exact L2.ClsV.own _)
local macro_rules | `(tactic| walk_at "kit") => `(tactic| first
  | exact L2.kit_ty (by decide +kernel)
  | exact K00.kR (by assumption) (by decide)
  | exact K00.kR2 (by assumption) (by decide)
  | exact K00.kR3 (by assumption))
local macro_rules | `(tactic| walk_at "s1") => `(tactic| first
  | refine ⟨_, rfl, ?_⟩
  | refine ⟨_, _, rfl, rfl, ?_⟩
  | refine ⟨_, _, rfl, ?_⟩
  | refine And.intro rfl ?_
  | refine L2.iteT ?_
  | refine L2.iteF ?_
  | refine L2.st_ixl (by assumption) (by rfl) ?_
  | refine L2.st_ixt (by assumption) (by rfl) ?_
  | refine L2.st_lenR (L2.lenr_l (by assumption)) ?_
  | refine L2.st_lenGR (L2.lenr_l (by assumption)) ?_
  | refine L2.st_lenGR (L2.lenr_t (by assumption)) ?_
  | refine L2.st_lenR (L2.lenr_t (by assumption)) ?_
  | refine L2.st_isG (b := false) (by walk_at "ty") (by walk_at "cv") (by walk_at "kit") ?_
  | refine L2.st_isG (b := true) (by walk_at "ty") (by walk_at "cv") (by walk_at "kit") ?_
  | refine And.intro (by walk_at "side") ?_)
local macro_rules | `(tactic| walk_at "go") => `(tactic| repeat (walk_at "s1"))
namespace K00
open PySem PySem.Spec PyProof.Rows L2
section
variable {P : Program} {w : World} {K : PySem.W.Frag} {mg : Str → Option Value} {base : Heap}
theorem spInt_s {z : Str} {H : Hp} {Q : VK} {E : XK} (q : Q (.bl false) H) : spInt K w [.str z] H Q E := by
  unfold spInt
  exact ⟨_, _, rfl, .x (.base (.str _)), .inl ⟨"str", by decide, rfl, q⟩⟩
theorem spInt_l {a : Addr} {xs : List V} {H : Hp} {Q : VK} {E : XK} (h : H a = some (.lst xs)) (q : Q (.bl false) H) : spInt K w [.ref a] H Q E := by
  unfold spInt
  exact ⟨_, _, rfl, .x (.base (.lst h)), .inl ⟨"list", by decide, rfl, q⟩⟩
/-- two equal texts, two equal bools, two lists of the same bools: like says yes -/
def spLk (r : Nat) : Sp := fun vs H Q _ => ((1 ≤ r ∧ ∃ z : Str, vs = [.str z, .str z]) ∨ (1 ≤ r ∧ ∃ x : Bool, vs = [.bl x, .bl x]) ∨ (2 ≤ r ∧ ∃ (a c : Addr) (bs : List Bool), vs = [.ref a, .ref c] ∧ H a = some (.lst (bs.map V.bl)) ∧ H c = some (.lst (bs.map V.bl)) ∧ bs.length ≤ 20)) ∧ ∀ H', Same H H' → Q (.bl true) H'
theorem G_like (T : TL K mg) : ∀ r : Nat, FX P w K mg base (r + 2) "_law_like" [] (spLk r)
  | 0 => by
    obtain ⟨fd, F⟩ := F__law_like T
    refine FX.of (ps := ["told", "due"]) F (g__law_like T) ⟨fun vs H Q E h => ?_, fun A outer s H args us vs Q E hr e0 hb hv h => ?_⟩ (fun _ _ _ _ _ _ us hl => match us, hl with | [_, _], _ => rfl)
    · obtain ⟨⟨h, _⟩ | ⟨h, _⟩ | ⟨h, _⟩, _⟩ := h <;> omega
    · obtain ⟨⟨h, _⟩ | ⟨h, _⟩ | ⟨h, _⟩, _⟩ := h <;> omega
  | r + 1 => by
    have R := G_like T r
    obtain ⟨fd, F⟩ := F__law_like T
    refine FX.of F (g__law_like T) (F.ok0 sc__law_like (fun vs H Q E h => ?_) (fun cdv A outer s H vs Q E hr h => ?_)) (fun _ _ _ _ _ _ us hl => match us, hl with | [_, _], _ => rfl)
    · obtain ⟨⟨_, z, rfl⟩ | ⟨_, z, rfl⟩ | ⟨_, a, c, bs, rfl, _⟩, _⟩ := h <;> rfl
    · refine ⟨_, (pss_cons (ps_if (pt_cmpR op_isN (pv 1) pe_non (nomark _))
        (pss_one (ps_ret (pe_cmpR op_isN (pv 0) pe_non (nomark _))))
        pss_nil)
      (pss_cons (ps_if (pt_val (pe_callB call_isG (by rfl) (f_isinstance T) (by decide +kernel) (pa_cons (pv 1) (pa_cons (pe_bty (n := "bool") (f_bool T) (by decide +kernel)) pa_nil))))
        (pss_one (ps_ret (pe_and (pe_callB call_isG (by rfl) (f_isinstance T) (by decide +kernel) (pa_cons (pv 0) (pa_cons (pe_bty (n := "bool") (f_bool T) (by decide +kernel)) pa_nil))) (pe_one (pe_cmpR op_eq (pv 0) (pv 1) (nomark _))))))
        pss_nil)
      (pss_cons (ps_if (pt_val (pe_fx (G__law_int T) (hr.mono (by walk_at "lvl")) passL (pa_cons (pv 1) pa_nil)))
        (pss_one (ps_ret (pe_and (pe_fx (G__law_int T) (hr.mono (by walk_at "lvl")) passL (pa_cons (pv 0) pa_nil)) (pe_one (pe_cmpR op_eq (pv 0) (pv 1) (nomark _))))))
        pss_nil)
      (pss_cons (ps_if (pt_val (pe_callB call_isG (by rfl) (f_isinstance T) (by decide +kernel) (pa_cons (pv 1) (pa_cons (pe_bty (n := "str") (f_str T) (by decide +kernel)) pa_nil))))
        (pss_one (ps_ret (pe_and (pe_callB call_isG (by rfl) (f_isinstance T) (by decide +kernel) (pa_cons (pv 0) (pa_cons (pe_bty (n := "str") (f_str T) (by decide +kernel)) pa_nil))) (pe_one (pe_cmpR op_eq (pv 0) (pv 1) (nomark _))))))
        pss_nil)
      (pss_cons (ps_if (PW.pt (pw_and (pt_val (pe_callB call_isG (by rfl) (f_isinstance T) (by decide +kernel) (pa_cons (pv 1) (pa_cons (pe_bty (n := "tuple") (f_tuple T) (by decide +kernel)) pa_nil)))) (pw_and (pt_cmpR op_eq (pe_callB call_lenGN (by rfl) (f_len T) (by decide +kernel) (pa_cons (pv 1) pa_nil)) pe_int (nomark _)) (pw_and (pt_val (pe_fx (G__law_int T) (hr.mono (by walk_at "lvl")) passL (pa_cons (pe_ix ix_seq (pv 1) pe_int (fun _ _ => rfl)) pa_nil))) (pw_and1 (pt_val (pe_fx (G__law_int T) (hr.mono (by walk_at "lvl")) passL (pa_cons (pe_ix ix_seq (pv 1) pe_int (fun _ _ => rfl)) pa_nil))))))))
        (pss_one (ps_ret (pe_and (pe_callB call_isG (by rfl) (f_isinstance T) (by decide +kernel) (pa_cons (pv 0) (pa_cons (pe_gr (g_Ratio T)) pa_nil))) (pe_and (pe_fx R (hr.mono (by walk_at "lvl")) passL (pa_cons (pe_fld (pv 0) rfl) (pa_cons (pe_ix ix_seq (pv 1) pe_int (fun _ _ => rfl)) pa_nil))) (pe_one (pe_fx R (hr.mono (by walk_at "lvl")) passL (pa_cons (pe_fld (pv 0) rfl) (pa_cons (pe_ix ix_seq (pv 1) pe_int (fun _ _ => rfl)) pa_nil))))))))
        pss_nil)
      (pss_cons (ps_if (PW.pt (pw_or (PW.pt (pw_and (pt_val (pe_callB call_isG (by rfl) (f_isinstance T) (by decide +kernel) (pa_cons (pv 1) (pa_cons (pe_bty (n := "list") (f_list T) (by decide +kernel)) pa_nil)))) (pw_and1 (pt_not (pt_val (pe_callB call_isG (by rfl) (f_isinstance T) (by decide +kernel) (pa_cons (pv 0) (pa_cons (pe_bty (n := "list") (f_list T) (by decide +kernel)) pa_nil)))))))) (pw_or1 (PW.pt (pw_and (pt_val (pe_callB call_isG (by rfl) (f_isinstance T) (by decide +kernel) (pa_cons (pv 1) (pa_cons (pe_bty (n := "tuple") (f_tuple T) (by decide +kernel)) pa_nil)))) (pw_and1 (pt_not (pt_val (pe_callB call_isG (by rfl) (f_isinstance T) (by decide +kernel) (pa_cons (pv 0) (pa_cons (pe_bty (n := "tuple") (f_tuple T) (by decide +kernel)) pa_nil)))))))))))
        (pss_one (ps_ret pe_bl))
        pss_nil)
      (pss_one (ps_ret (pe_and (pe_cmpR op_eq (pe_callB call_lenGN (by rfl) (f_len T) (by decide +kernel) (pa_cons (pv 0) pa_nil)) (pe_callB call_lenGN (by rfl) (f_len T) (by decide +kernel) (pa_cons (pv 1) pa_nil)) (nomark _)) (pe_one (pe_callB (cr_all rfl) (by rfl) (f_all T) (by decide +kernel) (pa_cons (pe_lc (own := [("a", 2), ("b", 3)]) (g := gTup K 2 (gCons (gName 2) (gCons (gName 3) gNil))) (tt := tYes) rfl sc__law_like.nd (RZ.pi_zipA (by rfl) (f_zip T) (pa_cons (pv 0) (pa_cons (pv 1) pa_nil))) (blkOk_by (N := N__law_like) (sc := defScope s__law_like) (by decide +kernel)) (fun _ _ _ _ _ => pg_tup rfl (pgs_cons (pg_name (i := 2) sc__law_like.nd rfl (Or.inl rfl)) (pgs_cons (pg_name (i := 3) sc__law_like.nd rfl (Or.inl rfl)) pgs_nil))) (fun _ _ _ _ _ => pts_nil) (fun _ _ _ _ _ => (pe_fx R (hr.mono (by walk_at "lvl")) passL (pa_cons (pv 2) (pa_cons (pv 3) pa_nil))))) pa_nil)))))))))))), ?_⟩
      obtain ⟨h, k⟩ := h
      have k0 : Q (.bl true) H := k H (Same.refl H)
      rcases h with ⟨_, z, rfl⟩ | ⟨_, z, rfl⟩ | ⟨hr2, a, c, bs, rfl, ha, hc, hl⟩
      · walk_at "go"
        refine spInt_s ?_
        walk_at "go"
        exact qd rfl k0
      · walk_at "go"
        exact qd rfl k0
      · walk_at "go"
        refine spInt_l hc ?_
        walk_at "go"
        refine st_if (fun z => ?_) (fun z => absurd rfl z)
        walk_at "go"
        refine ⟨a, c, bs.map V.bl, bs.map V.bl, rfl, .inl ⟨SqL.of ha, SqL.of hc, ?_⟩⟩
        intro D nD
        refine lc_zipL rfl (fun i H1 => H1 D = some (.lst (List.replicate i (.bl true))) ∧ Same H H1) ⟨upd_same, Same.new nD⟩ (fun i H1 h => ⟨SqL.of (h.2 _ _ ha), SqL.of (h.2 _ _ hc)⟩) ?_ ?_
        · intro i y y' t H1 H2 h1 h2 h3 nT hT s2
          obtain rfl : y = y' := Option.some.inj (h1.symm.trans h2)
          have hi : i < 20 := by
            have := (List.getElem?_eq_some_iff.mp h1).1
            rw [List.length_map] at this
            omega
          rw [List.getElem?_map] at h1
          obtain ⟨x, hx, rfl⟩ := Option.map_eq_some_iff.mp h1
          refine ⟨t, [.bl x, .bl x], rfl, .inl (.inl hT), rfl, ?_⟩
          walk_at "go"
          refine ⟨.inr (.inl ⟨by omega, x, rfl⟩), fun H3 s3 => ?_⟩
          exact rep_step nD h3 s2 s3 (.inr (by omega))
        · rintro H1 ⟨h1, h2⟩
          walk_at "go"
          exact st_all h1 (k H1 h2)
end
end K00
end -- a7
section -- a8
set_option Elab.async false
set_option linter.all false
set_option maxRecDepth 100000
set_option maxHeartbeats 4000000
local macro_rules | `(tactic| walk_at "lvl") => `(tactic| first
  | decide
  | omega
  | (simp only [Nat.add_eq]; omega))
local macro_rules | `(tactic| walk_at "side") => `(tactic| first
  | decide
  | assumption
  | omega
  | exact ⟨by decide, by decide⟩
  | exact ⟨by decide, by decide, by decide⟩
  | exact Or.inl (Or.inr ⟨by decide, by decide⟩)
  | exact Or.inl (Or.inl ⟨by decide, by decide⟩))
local macro_rules | `(tactic| walk_at "ty") => `(tactic| first
  | assumption
  | exact L2.TyG.x (.base (.int _))
  | exact L2.TyG.x (.base (.str _))
  | exact L2.TyG.x (.base (.bl _))
  | exact L2.TyG.x (.base .non)
  | exact L2.TyG.x (.base (.lst (by assumption)))
  | exact L2.TyG.x (.base (.tup (by assumption)))
  | exact K00.tyR (by assumption) (by assumption)
  | exact L2.TyG.dn (by assumption))
local macro_rules | `(tactic| walk_at "cv") => `(tactic| first
  | exact L2.ClsV.ty _
  | exact L2.ClsV.own _)
local macro_rules | `(tactic| walk_at "kit") => `(tactic| first
  | exact L2.kit_ty (by decide +kernel)
  | exact K00.kR (by assumption) (by decide)
  | exact K00.kR2 (by assumption) (by decide)
  | exact K00.kR3 (by assumption))
local macro_rules | `(tactic| walk_at "s1") => `(tactic| first
  | refine ⟨_, rfl, ?_⟩
  | refine ⟨_, _, rfl, rfl, ?_⟩
  | refine ⟨_, _, rfl, ?_⟩
  | refine And.intro rfl ?_
  | refine L2.iteT ?_
  | refine L2.iteF ?_
  | refine L2.st_ixl (by assumption) (by rfl) ?_
  | refine L2.st_ixt (by assumption) (by rfl) ?_
  | refine L2.st_lenR (L2.lenr_l (by assumption)) ?_
  | refine L2.st_lenGR (L2.lenr_l (by assumption)) ?_
  | refine L2.st_lenGR (L2.lenr_t (by assumption)) ?_
  | refine L2.st_lenR (L2.lenr_t (by assumption)) ?_
  | refine L2.st_isG (b := false) (by walk_at "ty") (by walk_at "cv") (by walk_at "kit") ?_
  | refine L2.st_isG (b := true) (by walk_at "ty") (by walk_at "cv") (by walk_at "kit") ?_
  | refine And.intro (by walk_at "side") ?_)
local macro_rules | `(tactic| walk_at "go") => `(tactic| repeat (walk_at "s1"))
namespace K00
open PySem PySem.Spec PyProof.Rows L2
/-- the error class of each number -/
def cN (K : PySem.W.Frag) (p : Nat) : Addr := He.ga K (exN.getD p ("", 0)).1
/-- its fields -/
def fN (p : Nat) (a b : V) : List (Str × V) := match p with
  | 0 => fs1 "InvalidRatio" "value" [a]
  | 1 => fs1 "InvalidGround" "value" [a]
  | 2 => fs1 "BadWord" "value" [a]
  | 3 => fs1 "BadSum" "value" [a]
  | 4 => fs1 "BadStanding" "value" [a]
  | 5 => fs1 "BadFlat" "value" [a]
  | 6 => fs1 "BadClaim" "value" [a]
  | 7 => fs1 "Unknown" "value" [a]
  | 8 => fs1 "NotThere" "value" [a]
  | 9 => fs1 "BadDevice" "line" [a]
  | 10 => fs1 "BadForm" "line" [a]
  | 11 => fs1 "BadBook" "line" [a]
  | 12 => fs1 "BadScript" "line" [a]
  | 13 => fs1 "BadPaper" "part" [a]
  | 14 => fs1 "BadStep" "at" [a]
  | 15 => fs2 "NotKept" "condition" "where" [a, b]
  | 16 => fs1 "NotEnough" "fewest" [a]
  | 17 => fs1 "Unlike" "what" [a]
  | 18 => fs0 "BadRay" []
  | _ => fs0 "Ended" []
section
variable {P : Program} {w : World} {K : PySem.W.Frag} {mg : Str → Option Value} {base : Heap}
theorem made_of {C : Addr} {n : Nat} {fsV : List V → List (Str × V)} {vs : List V} {H : Hp} {Q : VK} (hl : vs.length = n) (hn : n ≤ 1000) (q : ∀ (e d : Addr) (H' : Hp), H e = none → H' e = some (exo e C (some d)) → H' d = some (exd d (fsV vs)) → Same H H' → Q (.ref e) H') : OxMade C (spIn C n fsV) vs H Q := by
  unfold OxMade
  refine ⟨hl ▸ hn, fun a H1 na a1 s1 => ⟨a, vs, rfl, hl, a1, fun d H2 nd a2 d2 e2 => ⟨rfl, q a d H2 na a2 d2 fun b o hb => e2 b o (ne_of_none hb na) (s1 b o hb)⟩⟩⟩
def spMade (K : PySem.W.Frag) : Sp := fun vs H Q _ => ∃ (p : Nat) (y : Bool) (a b : V), p < 20 ∧ vs = [.int (p : Int), .bl y, a, b] ∧ ∀ (e d : Addr) (H' : Hp), H e = none → H' e = some (exo e (cN K p) (some d)) → H' d = some (exd d (fN p a b)) → Same H H' → Q (.ref e) H'
theorem G__law_made (T : TL K mg) : FX P w K mg base 4 "_law_made" [] (spMade K) := by
  obtain ⟨fd, F⟩ := F__law_made T
  refine FX.of F (g__law_made T) (F.ok0 sc__law_made (fun vs H Q E h => ?_) (fun cdv A outer s H vs Q E hr h => ?_)) (fun _ _ _ _ _ _ us hl => match us, hl with | [_, _, _, _], _ => rfl)
  · obtain ⟨p, y, a, b, hp, rfl, _⟩ := h
    rfl
  · obtain ⟨p, y, a, b, hp, rfl, k⟩ := h
    refine ⟨_, (pss_cons (ps_if (pt_cmpR op_eq (pv 0) pe_int (nomark _))
        (pss_one (ps_ret (pe_ifExp (pt_val (pv 1)) (pe_oxK (X_InvalidRatio T) (hr.mono (by walk_at "lvl")) passL (pv 2)) (pe_ox (X_InvalidRatio T) (hr.mono (by walk_at "lvl")) passL (pa_cons (pv 2) pa_nil)))))
        pss_nil)
      (pss_cons (ps_if (pt_cmpR op_eq (pv 0) pe_int (nomark _))
        (pss_one (ps_ret (pe_ifExp (pt_val (pv 1)) (pe_oxK (X_InvalidGround T) (hr.mono (by walk_at "lvl")) passL (pv 2)) (pe_ox (X_InvalidGround T) (hr.mono (by walk_at "lvl")) passL (pa_cons (pv 2) pa_nil)))))
        pss_nil)
      (pss_cons (ps_if (pt_cmpR op_eq (pv 0) pe_int (nomark _))
        (pss_one (ps_ret (pe_ifExp (pt_val (pv 1)) (pe_oxK (X_BadWord T) (hr.mono (by walk_at "lvl")) passL (pv 2)) (pe_ox (X_BadWord T) (hr.mono (by walk_at "lvl")) passL (pa_cons (pv 2) pa_nil)))))
        pss_nil)
      (pss_cons (ps_if (pt_cmpR op_eq (pv 0) pe_int (nomark _))
        (pss_one (ps_ret (pe_ifExp (pt_val (pv 1)) (pe_oxK (X_BadSum T) (hr.mono (by walk_at "lvl")) passL (pv 2)) (pe_ox (X_BadSum T) (hr.mono (by walk_at "lvl")) passL (pa_cons (pv 2) pa_nil)))))
        pss_nil)
      (pss_cons (ps_if (pt_cmpR op_eq (pv 0) pe_int (nomark _))
        (pss_one (ps_ret (pe_ifExp (pt_val (pv 1)) (pe_oxK (X_BadStanding T) (hr.mono (by walk_at "lvl")) passL (pv 2)) (pe_ox (X_BadStanding T) (hr.mono (by walk_at "lvl")) passL (pa_cons (pv 2) pa_nil)))))
        pss_nil)
      (pss_cons (ps_if (pt_cmpR op_eq (pv 0) pe_int (nomark _))
        (pss_one (ps_ret (pe_ifExp (pt_val (pv 1)) (pe_oxK (X_BadFlat T) (hr.mono (by walk_at "lvl")) passL (pv 2)) (pe_ox (X_BadFlat T) (hr.mono (by walk_at "lvl")) passL (pa_cons (pv 2) pa_nil)))))
        pss_nil)
      (pss_cons (ps_if (pt_cmpR op_eq (pv 0) pe_int (nomark _))
        (pss_one (ps_ret (pe_ifExp (pt_val (pv 1)) (pe_oxK (X_BadClaim T) (hr.mono (by walk_at "lvl")) passL (pv 2)) (pe_ox (X_BadClaim T) (hr.mono (by walk_at "lvl")) passL (pa_cons (pv 2) pa_nil)))))
        pss_nil)
      (pss_cons (ps_if (pt_cmpR op_eq (pv 0) pe_int (nomark _))
        (pss_one (ps_ret (pe_ifExp (pt_val (pv 1)) (pe_oxK (X_Unknown T) (hr.mono (by walk_at "lvl")) passL (pv 2)) (pe_ox (X_Unknown T) (hr.mono (by walk_at "lvl")) passL (pa_cons (pv 2) pa_nil)))))
        pss_nil)
      (pss_cons (ps_if (pt_cmpR op_eq (pv 0) pe_int (nomark _))
        (pss_one (ps_ret (pe_ifExp (pt_val (pv 1)) (pe_oxK (X_NotThere T) (hr.mono (by walk_at "lvl")) passL (pv 2)) (pe_ox (X_NotThere T) (hr.mono (by walk_at "lvl")) passL (pa_cons (pv 2) pa_nil)))))
        pss_nil)
      (pss_cons (ps_if (pt_cmpR op_eq (pv 0) pe_int (nomark _))
        (pss_one (ps_ret (pe_ifExp (pt_val (pv 1)) (pe_oxK (X_BadDevice T) (hr.mono (by walk_at "lvl")) passL (pv 2)) (pe_ox (X_BadDevice T) (hr.mono (by walk_at "lvl")) passL (pa_cons (pv 2) pa_nil)))))
        pss_nil)
      (pss_cons (ps_if (pt_cmpR op_eq (pv 0) pe_int (nomark _))
        (pss_one (ps_ret (pe_ifExp (pt_val (pv 1)) (pe_oxK (X_BadForm T) (hr.mono (by walk_at "lvl")) passL (pv 2)) (pe_ox (X_BadForm T) (hr.mono (by walk_at "lvl")) passL (pa_cons (pv 2) pa_nil)))))
        pss_nil)
      (pss_cons (ps_if (pt_cmpR op_eq (pv 0) pe_int (nomark _))
        (pss_one (ps_ret (pe_ifExp (pt_val (pv 1)) (pe_oxK (X_BadBook T) (hr.mono (by walk_at "lvl")) passL (pv 2)) (pe_ox (X_BadBook T) (hr.mono (by walk_at "lvl")) passL (pa_cons (pv 2) pa_nil)))))
        pss_nil)
      (pss_cons (ps_if (pt_cmpR op_eq (pv 0) pe_int (nomark _))
        (pss_one (ps_ret (pe_ifExp (pt_val (pv 1)) (pe_oxK (X_BadScript T) (hr.mono (by walk_at "lvl")) passL (pv 2)) (pe_ox (X_BadScript T) (hr.mono (by walk_at "lvl")) passL (pa_cons (pv 2) pa_nil)))))
        pss_nil)
      (pss_cons (ps_if (pt_cmpR op_eq (pv 0) pe_int (nomark _))
        (pss_one (ps_ret (pe_ifExp (pt_val (pv 1)) (pe_oxK (X_BadPaper T) (hr.mono (by walk_at "lvl")) passL (pv 2)) (pe_ox (X_BadPaper T) (hr.mono (by walk_at "lvl")) passL (pa_cons (pv 2) pa_nil)))))
        pss_nil)
      (pss_cons (ps_if (pt_cmpR op_eq (pv 0) pe_int (nomark _))
        (pss_one (ps_ret (pe_ifExp (pt_val (pv 1)) (pe_oxK (X_BadStep T) (hr.mono (by walk_at "lvl")) passL (pv 2)) (pe_ox (X_BadStep T) (hr.mono (by walk_at "lvl")) passL (pa_cons (pv 2) pa_nil)))))
        pss_nil)
      (pss_cons (ps_if (pt_cmpR op_eq (pv 0) pe_int (nomark _))
        (pss_one (ps_ret (pe_ifExp (pt_val (pv 1)) (pe_oxK2 (X_NotKept T) (hr.mono (by walk_at "lvl")) passL (pv 3) (pv 2)) (pe_ox (X_NotKept T) (hr.mono (by walk_at "lvl")) passL (pa_cons (pv 2) (pa_cons (pv 3) pa_nil))))))
        pss_nil)
      (pss_cons (ps_if (pt_cmpR op_eq (pv 0) pe_int (nomark _))
        (pss_one (ps_ret (pe_ifExp (pt_val (pv 1)) (pe_oxK (X_NotEnough T) (hr.mono (by walk_at "lvl")) passL (pv 2)) (pe_ox (X_NotEnough T) (hr.mono (by walk_at "lvl")) passL (pa_cons (pv 2) pa_nil)))))
        pss_nil)
      (pss_cons (ps_if (pt_cmpR op_eq (pv 0) pe_int (nomark _))
        (pss_one (ps_ret (pe_ifExp (pt_val (pv 1)) (pe_oxK (X_Unlike T) (hr.mono (by walk_at "lvl")) passL (pv 2)) (pe_ox (X_Unlike T) (hr.mono (by walk_at "lvl")) passL (pa_cons (pv 2) pa_nil)))))
        pss_nil)
      (pss_one (ps_ret (pe_ifExp (pt_cmpR op_eq (pv 0) pe_int (nomark _)) (pe_ox0 (X_BadRay T) (hr.mono (by walk_at "lvl")) passL) (pe_ox0 (X_Ended T) (hr.mono (by walk_at "lvl")) passL)))))))))))))))))))))), ?_⟩
    match p, hp with
    | 0, _ =>
      walk_at "go"
      refine st_ifb (fun c => ?_) (fun c => ?_)
      · walk_at "go"
        exact made_of rfl (by decide) k
      · walk_at "go"
        exact made_of rfl (by decide) k
    | 1, _ =>
      walk_at "go"
      refine st_ifb (fun c => ?_) (fun c => ?_)
      · walk_at "go"
        exact made_of rfl (by decide) k
      · walk_at "go"
        exact made_of rfl (by decide) k
    | 2, _ =>
      walk_at "go"
      refine st_ifb (fun c => ?_) (fun c => ?_)
      · walk_at "go"
        exact made_of rfl (by decide) k
      · walk_at "go"
        exact made_of rfl (by decide) k
    | 3, _ =>
      walk_at "go"
      refine st_ifb (fun c => ?_) (fun c => ?_)
      · walk_at "go"
        exact made_of rfl (by decide) k
      · walk_at "go"
        exact made_of rfl (by decide) k
    | 4, _ =>
      walk_at "go"
      refine st_ifb (fun c => ?_) (fun c => ?_)
      · walk_at "go"
        exact made_of rfl (by decide) k
      · walk_at "go"
        exact made_of rfl (by decide) k
    | 5, _ =>
      walk_at "go"
      refine st_ifb (fun c => ?_) (fun c => ?_)
      · walk_at "go"
        exact made_of rfl (by decide) k
      · walk_at "go"
        exact made_of rfl (by decide) k
    | 6, _ =>
      walk_at "go"
      refine st_ifb (fun c => ?_) (fun c => ?_)
      · walk_at "go"
        exact made_of rfl (by decide) k
      · walk_at "go"
        exact made_of rfl (by decide) k
    | 7, _ =>
      walk_at "go"
      refine st_ifb (fun c => ?_) (fun c => ?_)
      · walk_at "go"
        exact made_of rfl (by decide) k
      · walk_at "go"
        exact made_of rfl (by decide) k
    | 8, _ =>
      walk_at "go"
      refine st_ifb (fun c => ?_) (fun c => ?_)
      · walk_at "go"
        exact made_of rfl (by decide) k
      · walk_at "go"
        exact made_of rfl (by decide) k
    | 9, _ =>
      walk_at "go"
      refine st_ifb (fun c => ?_) (fun c => ?_)
      · walk_at "go"
        exact made_of rfl (by decide) k
      · walk_at "go"
        exact made_of rfl (by decide) k
    | 10, _ =>
      walk_at "go"
      refine st_ifb (fun c => ?_) (fun c => ?_)
      · walk_at "go"
        exact made_of rfl (by decide) k
      · walk_at "go"
        exact made_of rfl (by decide) k
    | 11, _ =>
      walk_at "go"
      refine st_ifb (fun c => ?_) (fun c => ?_)
      · walk_at "go"
        exact made_of rfl (by decide) k
      · walk_at "go"
        exact made_of rfl (by decide) k
    | 12, _ =>
      walk_at "go"
      refine st_ifb (fun c => ?_) (fun c => ?_)
      · walk_at "go"
        exact made_of rfl (by decide) k
      · walk_at "go"
        exact made_of rfl (by decide) k
    | 13, _ =>
      walk_at "go"
      refine st_ifb (fun c => ?_) (fun c => ?_)
      · walk_at "go"
        exact made_of rfl (by decide) k
      · walk_at "go"
        exact made_of rfl (by decide) k
    | 14, _ =>
      walk_at "go"
      refine st_ifb (fun c => ?_) (fun c => ?_)
      · walk_at "go"
        exact made_of rfl (by decide) k
      · walk_at "go"
        exact made_of rfl (by decide) k
    | 15, _ =>
      walk_at "go"
      refine st_ifb (fun c => ?_) (fun c => ?_)
      · walk_at "go"
        exact made_of rfl (by decide) k
      · walk_at "go"
        exact made_of rfl (by decide) k
    | 16, _ =>
      walk_at "go"
      refine st_ifb (fun c => ?_) (fun c => ?_)
      · walk_at "go"
        exact made_of rfl (by decide) k
      · walk_at "go"
        exact made_of rfl (by decide) k
    | 17, _ =>
      walk_at "go"
      refine st_ifb (fun c => ?_) (fun c => ?_)
      · walk_at "go"
        exact made_of rfl (by decide) k
      · walk_at "go"
        exact made_of rfl (by decide) k
    | 18, _ =>
      walk_at "go"
      exact made_of rfl (by decide) k
    | 19, _ =>
      walk_at "go"
      exact made_of rfl (by decide) k
    | p + 20, hp => exact absurd hp (by omega)
end
end K00
end -- a8
section -- a9
set_option Elab.async false
set_option linter.all false
set_option maxRecDepth 100000
set_option maxHeartbeats 4000000
local macro_rules | `(tactic| walk_at "lvl") => `(tactic| first
  | decide
  | omega
  | (simp only [Nat.add_eq]; omega))
local macro_rules | `(tactic| walk_at "side") => `(tactic| first
  | decide
  | assumption
  | omega
  | exact Nat.le_of_ble_eq_true (by rfl)
  | exact ⟨by decide, by decide⟩
  | exact ⟨by decide, by decide, by decide⟩
  | exact Or.inl (Or.inr ⟨by decide, by decide⟩)
  | exact Or.inl (Or.inl ⟨by decide, by decide⟩))
local macro_rules | `(tactic| walk_at "ty") => `(tactic| first
  | assumption
  | exact L2.TyG.x (.base (.int _))
  | exact L2.TyG.x (.base (.str _))
  | exact L2.TyG.x (.base (.bl _))
  | exact L2.TyG.x (.base .non)
  | exact L2.TyG.x (.base (.lst (by assumption)))
  | exact L2.TyG.x (.base (.tup (by assumption)))
  | exact K00.tyR (by assumption) (by assumption)
  | exact L2.TyG.dn (by assumption))
local macro_rules | `(tactic| walk_at "cv") => `(tactic| first
  | exact L2.ClsV.ty _
  | exact L2.ClsV.own _)
local macro_rules | `(tactic| walk_at "kit") => `(tactic| first
  | exact L2.kit_ty (by decide +kernel)
  | exact K00.kR (by assumption) (by decide)
  | exact K00.kR2 (by assumption) (by decide)
  | exact K00.kR3 (by assumption))
local macro_rules | `(tactic| walk_at "s1") => `(tactic| first
  | refine ⟨_, rfl, ?_⟩
  | refine ⟨_, _, rfl, rfl, ?_⟩
  | refine ⟨_, _, rfl, ?_⟩
  | refine And.intro rfl ?_
  | refine L2.iteT ?_
  | refine L2.iteF ?_
  | refine L2.st_ixl (by assumption) (by rfl) ?_
  | refine L2.st_ixt (by assumption) (by rfl) ?_
  | refine L2.st_lenR (L2.lenr_l (by assumption)) ?_
  | refine L2.st_lenGR (L2.lenr_l (by assumption)) ?_
  | refine L2.st_lenGR (L2.lenr_t (by assumption)) ?_
  | refine L2.st_lenR (L2.lenr_t (by assumption)) ?_
  | refine L2.st_isG (b := false) (by walk_at "ty") (by walk_at "cv") (by walk_at "kit") ?_
  | refine L2.st_isG (b := true) (by walk_at "ty") (by walk_at "cv") (by walk_at "kit") ?_
  | refine And.intro (by walk_at "side") ?_)
local macro_rules | `(tactic| walk_at "go") => `(tactic| repeat (walk_at "s1"))
namespace K00
open PySem PySem.Spec PyProof.Rows L2
/-- what an error of each number holds -/
def hN (p : Nat) (a b : V) : List V := if p < 15 then [a] else if p = 15 then [a, b] else if p < 18 then [a] else []
/-- the answers of _law_bases for each number -/
def bN (p : Nat) : List Bool := exBd (exN.getD p ("", 0)).2
section
variable {P : Program} {w : World} {K : PySem.W.Frag} {mg : Str → Option Value} {base : Heap}
theorem exMem {p : Nat} (hp : p < 20) : (exN.getD p ("", 0), p) ∈ exN.zipIdx ∧ exN.getD p ("", 0) ∈ exN := by
  have key : ∀ q : Fin 20, (exN.getD q.val ("", 0), q.val) ∈ exN.zipIdx ∧ exN.getD q.val ("", 0) ∈ exN := by decide
  exact key ⟨p, hp⟩
theorem xcN (T : TL K mg) {p : Nat} (hp : p < 20) : ExcC K (cN K p) := xcOf T (exMem hp).2
theorem kE (T : TL K mg) {p : Nat} (hp : p < 20) {q : (Str × Nat) × Nat} (hq : q ∈ exN.zipIdx) : PySem.W.kitOne K (.ref (cN K p)) (.ref (He.ga K q.1.1)) = some (decide (p = q.2)) := kRk T (exMem hp).1 hq rfl
theorem kB (T : TL K mg) {p : Nat} (hp : p < 20) {j : Nat} {v : Value} (hj : (exBs K)[j]? = some v) : PySem.W.kitOne K (.ref (cN K p)) v = some ((bN p).getD j false) := by
  refine kBa T (exMem hp).2 ?_
  have l1 : (exBd (exN.getD p ("", 0)).2).length = 8 := by
    have key : ∀ q : Fin 20, (exBd (exN.getD q.val ("", 0)).2).length = 8 := by decide
    exact key ⟨p, hp⟩
  have hj8 : j < 8 := (List.getElem?_eq_some_iff.mp hj).1
  refine List.mem_iff_getElem?.mpr ⟨j, ?_⟩
  rw [List.getElem?_zip_eq_some]
  refine ⟨hj, ?_⟩
  show (bN p)[j]? = some ((bN p).getD j false)
  have hl : j < (bN p).length := by show j < (exBd _).length; rw [l1]; exact hj8
  rw [List.getD_eq_getElem?_getD, List.getElem?_eq_getElem hl] <;> rfl
def spHeld (K : PySem.W.Frag) : Sp := fun vs H Q _ => ∃ (p : Nat) (e d : Addr) (a b : V), p < 20 ∧ vs = [.int (p : Int), .ref e] ∧ ExAt H e (cN K p) d ∧ ExD H d (fN p a b) ∧ ∀ (r : Addr) (H' : Hp), H r = none → H' r = some (.lst (hN p a b)) → Same H H' → Q (.ref r) H'
theorem held_new {xs ys : List V} {H : Hp} {Q : VK} (e : xs = ys) (k : ∀ (r : Addr) (H' : Hp), H r = none → H' r = some (.lst ys) → Same H H' → Q (.ref r) H') : ∀ r, H r = none → Q (.ref r) (upd H r (.lst xs)) := fun r n => by
  subst e
  exact k r _ n upd_same (Same.new n)
theorem G__law_held (T : TL K mg) : FX P w K mg base 1 "_law_held" [] (spHeld K) := by
  obtain ⟨fd, F⟩ := F__law_held T
  refine FX.of F (g__law_held T) (F.ok0 sc__law_held (fun vs H Q E h => ?_) (fun cdv A outer s H vs Q E hr h => ?_)) (fun _ _ _ _ _ _ us hl => match us, hl with | [_, _], _ => rfl)
  · obtain ⟨p, e, d, a, b, hp, rfl, _⟩ := h
    rfl
  · obtain ⟨p, e, d, a, b, hp, rfl, he, hd, k⟩ := h
    have xc := xcN T hp
    refine ⟨_, (pss_cons (ps_if (pt_cmpR op_lt (pv 0) pe_int (nomark _))
        (pss_one (ps_ret (pe_lst (pa_cons (pe_xat (pv 1)) pa_nil))))
        pss_nil)
      (pss_cons (ps_if (pt_cmpR op_lt (pv 0) pe_int (nomark _))
        (pss_one (ps_ret (pe_lst (pa_cons (pe_xat (pv 1)) pa_nil))))
        pss_nil)
      (pss_cons (ps_if (pt_cmpR op_eq (pv 0) pe_int (nomark _))
        (pss_one (ps_ret (pe_lst (pa_cons (pe_xat (pv 1)) pa_nil))))
        pss_nil)
      (pss_cons (ps_if (pt_cmpR op_eq (pv 0) pe_int (nomark _))
        (pss_one (ps_ret (pe_lst (pa_cons (pe_xat (pv 1)) pa_nil))))
        pss_nil)
      (pss_cons (ps_if (pt_cmpR op_eq (pv 0) pe_int (nomark _))
        (pss_one (ps_ret (pe_lst (pa_cons (pe_xat (pv 1)) (pa_cons (pe_xat (pv 1)) pa_nil)))))
        pss_nil)
      (pss_cons (ps_if (pt_cmpR op_eq (pv 0) pe_int (nomark _))
        (pss_one (ps_ret (pe_lst (pa_cons (pe_xat (pv 1)) pa_nil))))
        pss_nil)
      (pss_one (ps_ret (pe_ifExp (pt_cmpR op_eq (pv 0) pe_int (nomark _)) (pe_lst (pa_cons (pe_xat (pv 1)) pa_nil)) (pe_lst pa_nil)))))))))), ?_⟩
    match p, hp with

    | 0, _ =>
      walk_at "go"
      refine ⟨e, _, d, _, _, rfl, he, hd, xc, He.eqO_ok (a_noat_InvalidRatio_value T), rfl, ?_⟩
      walk_at "go"
      exact held_new rfl k
    | 1, _ =>
      walk_at "go"
      refine ⟨e, _, d, _, _, rfl, he, hd, xc, He.eqO_ok (a_noat_InvalidGround_value T), rfl, ?_⟩
      walk_at "go"
      exact held_new rfl k
    | 2, _ =>
      walk_at "go"
      refine ⟨e, _, d, _, _, rfl, he, hd, xc, He.eqO_ok (a_noat_BadWord_value T), rfl, ?_⟩
      walk_at "go"
      exact held_new rfl k
    | 3, _ =>
      walk_at "go"
      refine ⟨e, _, d, _, _, rfl, he, hd, xc, He.eqO_ok (a_noat_BadSum_value T), rfl, ?_⟩
      walk_at "go"
      exact held_new rfl k
    | 4, _ =>
      walk_at "go"
      refine ⟨e, _, d, _, _, rfl, he, hd, xc, He.eqO_ok (a_noat_BadStanding_value T), rfl, ?_⟩
      walk_at "go"
      exact held_new rfl k
    | 5, _ =>
      walk_at "go"
      refine ⟨e, _, d, _, _, rfl, he, hd, xc, He.eqO_ok (a_noat_BadFlat_value T), rfl, ?_⟩
      walk_at "go"
      exact held_new rfl k
    | 6, _ =>
      walk_at "go"
      refine ⟨e, _, d, _, _, rfl, he, hd, xc, He.eqO_ok (a_noat_BadClaim_value T), rfl, ?_⟩
      walk_at "go"
      exact held_new rfl k
    | 7, _ =>
      walk_at "go"
      refine ⟨e, _, d, _, _, rfl, he, hd, xc, He.eqO_ok (a_noat_Unknown_value T), rfl, ?_⟩
      walk_at "go"
      exact held_new rfl k
    | 8, _ =>
      walk_at "go"
      refine ⟨e, _, d, _, _, rfl, he, hd, xc, He.eqO_ok (a_noat_NotThere_value T), rfl, ?_⟩
      walk_at "go"
      exact held_new rfl k
    | 9, _ =>
      walk_at "go"
      refine ⟨e, _, d, _, _, rfl, he, hd, xc, He.eqO_ok (a_noat_BadDevice_line T), rfl, ?_⟩
      walk_at "go"
      exact held_new rfl k
    | 10, _ =>
      walk_at "go"
      refine ⟨e, _, d, _, _, rfl, he, hd, xc, He.eqO_ok (a_noat_BadForm_line T), rfl, ?_⟩
      walk_at "go"
      exact held_new rfl k
    | 11, _ =>
      walk_at "go"
      refine ⟨e, _, d, _, _, rfl, he, hd, xc, He.eqO_ok (a_noat_BadBook_line T), rfl, ?_⟩
      walk_at "go"
      exact held_new rfl k
    | 12, _ =>
      walk_at "go"
      refine ⟨e, _, d, _, _, rfl, he, hd, xc, He.eqO_ok (a_noat_BadScript_line T), rfl, ?_⟩
      walk_at "go"
      exact held_new rfl k
    | 13, _ =>
      walk_at "go"
      refine ⟨e, _, d, _, _, rfl, he, hd, xc, He.eqO_ok (a_noat_BadPaper_part T), rfl, ?_⟩
      walk_at "go"
      exact held_new rfl k
    | 14, _ =>
      walk_at "go"
      refine ⟨e, _, d, _, _, rfl, he, hd, xc, He.eqO_ok (a_noat_BadStep_at T), rfl, ?_⟩
      walk_at "go"
      exact held_new rfl k
    | 15, _ =>
      walk_at "go"
      refine ⟨e, _, d, _, _, rfl, he, hd, xc, He.eqO_ok (a_noat_NotKept_condition T), rfl, ?_⟩
      walk_at "go"
      refine ⟨e, _, d, _, _, rfl, he, hd, xc, He.eqO_ok (a_noat_NotKept_where T), rfl, ?_⟩
      walk_at "go"
      exact held_new rfl k
    | 16, _ =>
      walk_at "go"
      refine ⟨e, _, d, _, _, rfl, he, hd, xc, He.eqO_ok (a_noat_NotEnough_fewest T), rfl, ?_⟩
      walk_at "go"
      exact held_new rfl k
    | 17, _ =>
      walk_at "go"
      refine ⟨e, _, d, _, _, rfl, he, hd, xc, He.eqO_ok (a_noat_Unlike_what T), rfl, ?_⟩
      walk_at "go"
      exact held_new rfl k
    | 18, _ =>
      walk_at "go"
      exact held_new rfl k
    | 19, _ =>
      walk_at "go"
      exact held_new rfl k
    | p + 20, hp => exact absurd hp (by omega)
theorem st_addL {a b : Addr} {xs ys : List V} {H : Hp} {Q : VK} (h1 : H a = some (.lst xs)) (h2 : H b = some (.lst ys)) (hl : xs.length + ys.length ≤ sizeLine) (q : ∀ p H', H p = none → H' p = some (.lst (xs ++ ys)) → Same H H' → Q (.ref p) H') : rAddG (.ref a) (.ref b) H Q := ⟨xs, ys, h1, h2, hl, st_new q⟩
theorem tySame {H H' : Hp} {e C d : Addr} {fs : List (Str × V)} (h : ExAt H e C d ∧ ExD H d fs ∧ ExcC K C) (s : Same H H') : TyG K w H' (.ref e) (.ref C) := .ex (h.1.same s) (h.2.1.same s) h.2.2
/-- new lists of bools -/
def spRanks (K : PySem.W.Frag) : Sp := fun vs H Q _ => ∃ (p : Nat) (e d : Addr) (fs : List (Str × V)), p < 20 ∧ vs = [.ref e] ∧ ExAt H e (cN K p) d ∧ ExD H d fs ∧ ∀ (r : Addr) (H' : Hp), H' r = some (.lst (((List.range 20).map fun k => decide (p = k)).map V.bl)) → Same H H' → Q (.ref r) H'
theorem G__law_ranks (T : TL K mg) : FX P w K mg base 1 "_law_ranks" [] (spRanks K) := by
  obtain ⟨fd, F⟩ := F__law_ranks T
  refine FX.of F (g__law_ranks T) (F.ok0 sc__law_ranks (fun vs H Q E h => ?_) (fun cdv A outer s H vs Q E hr h => ?_)) (fun _ _ _ _ _ _ us hl => match us, hl with | [_], _ => rfl)
  · obtain ⟨p, e, d, fs, hp, rfl, _⟩ := h
    rfl
  · obtain ⟨p, e, d, fs, hp, rfl, he, hd, k⟩ := h
    have ty : ExAt H e (cN K p) d ∧ ExD H d fs ∧ ExcC K (cN K p) := ⟨he, hd, xcN T hp⟩
    refine ⟨_, (pss_cons (ps_set (i := 1) sc__law_ranks.nd rfl (by first | exact Or.inl rfl | exact Or.inr rfl) (pe_lst (pa_cons (pe_callB call_isG (by rfl) (f_isinstance T) (by decide +kernel) (pa_cons (pv 0) (pa_cons (pe_gr (g_InvalidRatio T)) pa_nil))) (pa_cons (pe_callB call_isG (by rfl) (f_isinstance T) (by decide +kernel) (pa_cons (pv 0) (pa_cons (pe_gr (g_InvalidGround T)) pa_nil))) (pa_cons (pe_callB call_isG (by rfl) (f_isinstance T) (by decide +kernel) (pa_cons (pv 0) (pa_cons (pe_gr (g_BadWord T)) pa_nil))) pa_nil)))))
      (pss_cons (ps_set (i := 1) sc__law_ranks.nd rfl (by first | exact Or.inl rfl | exact Or.inr rfl) (pe_op op_addG (pv 1) (pe_lst (pa_cons (pe_callB call_isG (by rfl) (f_isinstance T) (by decide +kernel) (pa_cons (pv 0) (pa_cons (pe_gr (g_BadSum T)) pa_nil))) (pa_cons (pe_callB call_isG (by rfl) (f_isinstance T) (by decide +kernel) (pa_cons (pv 0) (pa_cons (pe_gr (g_BadStanding T)) pa_nil))) (pa_cons (pe_callB call_isG (by rfl) (f_isinstance T) (by decide +kernel) (pa_cons (pv 0) (pa_cons (pe_gr (g_BadFlat T)) pa_nil))) pa_nil))))))
      (pss_cons (ps_set (i := 1) sc__law_ranks.nd rfl (by first | exact Or.inl rfl | exact Or.inr rfl) (pe_op op_addG (pv 1) (pe_lst (pa_cons (pe_callB call_isG (by rfl) (f_isinstance T) (by decide +kernel) (pa_cons (pv 0) (pa_cons (pe_gr (g_BadClaim T)) pa_nil))) (pa_cons (pe_callB call_isG (by rfl) (f_isinstance T) (by decide +kernel) (pa_cons (pv 0) (pa_cons (pe_gr (g_Unknown T)) pa_nil))) (pa_cons (pe_callB call_isG (by rfl) (f_isinstance T) (by decide +kernel) (pa_cons (pv 0) (pa_cons (pe_gr (g_NotThere T)) pa_nil))) pa_nil))))))
      (pss_cons (ps_set (i := 1) sc__law_ranks.nd rfl (by first | exact Or.inl rfl | exact Or.inr rfl) (pe_op op_addG (pv 1) (pe_lst (pa_cons (pe_callB call_isG (by rfl) (f_isinstance T) (by decide +kernel) (pa_cons (pv 0) (pa_cons (pe_gr (g_BadDevice T)) pa_nil))) (pa_cons (pe_callB call_isG (by rfl) (f_isinstance T) (by decide +kernel) (pa_cons (pv 0) (pa_cons (pe_gr (g_BadForm T)) pa_nil))) (pa_cons (pe_callB call_isG (by rfl) (f_isinstance T) (by decide +kernel) (pa_cons (pv 0) (pa_cons (pe_gr (g_BadBook T)) pa_nil))) pa_nil))))))
      (pss_cons (ps_set (i := 1) sc__law_ranks.nd rfl (by first | exact Or.inl rfl | exact Or.inr rfl) (pe_op op_addG (pv 1) (pe_lst (pa_cons (pe_callB call_isG (by rfl) (f_isinstance T) (by decide +kernel) (pa_cons (pv 0) (pa_cons (pe_gr (g_BadScript T)) pa_nil))) (pa_cons (pe_callB call_isG (by rfl) (f_isinstance T) (by decide +kernel) (pa_cons (pv 0) (pa_cons (pe_gr (g_BadPaper T)) pa_nil))) (pa_cons (pe_callB call_isG (by rfl) (f_isinstance T) (by decide +kernel) (pa_cons (pv 0) (pa_cons (pe_gr (g_BadStep T)) pa_nil))) pa_nil))))))
      (pss_cons (ps_set (i := 1) sc__law_ranks.nd rfl (by first | exact Or.inl rfl | exact Or.inr rfl) (pe_op op_addG (pv 1) (pe_lst (pa_cons (pe_callB call_isG (by rfl) (f_isinstance T) (by decide +kernel) (pa_cons (pv 0) (pa_cons (pe_gr (g_NotKept T)) pa_nil))) (pa_cons (pe_callB call_isG (by rfl) (f_isinstance T) (by decide +kernel) (pa_cons (pv 0) (pa_cons (pe_gr (g_NotEnough T)) pa_nil))) (pa_cons (pe_callB call_isG (by rfl) (f_isinstance T) (by decide +kernel) (pa_cons (pv 0) (pa_cons (pe_gr (g_Unlike T)) pa_nil))) pa_nil))))))
      (pss_one (ps_ret (pe_op op_addG (pv 1) (pe_lst (pa_cons (pe_callB call_isG (by rfl) (f_isinstance T) (by decide +kernel) (pa_cons (pv 0) (pa_cons (pe_gr (g_BadRay T)) pa_nil))) (pa_cons (pe_callB call_isG (by rfl) (f_isinstance T) (by decide +kernel) (pa_cons (pv 0) (pa_cons (pe_gr (g_Ended T)) pa_nil))) pa_nil)))))))))))), ?_⟩
    walk_at "go"

    refine st_isG (tySame ty (Same.refl H)) (ClsV.own _) (kE T hp (q := (("InvalidRatio", 0), 0)) (by decide)) ?_
    walk_at "go"
    refine st_isG (tySame ty (Same.refl H)) (ClsV.own _) (kE T hp (q := (("InvalidGround", 0), 1)) (by decide)) ?_
    walk_at "go"
    refine st_isG (tySame ty (Same.refl H)) (ClsV.own _) (kE T hp (q := (("BadWord", 0), 2)) (by decide)) ?_
    walk_at "go"
    intro r1 n1
    generalize e1 : upd H r1 _ = H1
    have a1 : H1 r1 = some (.lst [.bl (decide (p = 0)), .bl (decide (p = 1)), .bl (decide (p = 2))]) := by rw [← e1]; exact upd_same
    have s1 : Same H H1 := by rw [← e1]; exact Same.new n1
    have S1 := Same.trans (Same.refl H) s1
    walk_at "go"
    refine st_isG (tySame ty S1) (ClsV.own _) (kE T hp (q := (("BadSum", 0), 3)) (by decide)) ?_
    walk_at "go"
    refine st_isG (tySame ty S1) (ClsV.own _) (kE T hp (q := (("BadStanding", 0), 4)) (by decide)) ?_
    walk_at "go"
    refine st_isG (tySame ty S1) (ClsV.own _) (kE T hp (q := (("BadFlat", 0), 5)) (by decide)) ?_
    walk_at "go"
    intro r2 n2
    generalize e2 : upd H1 r2 _ = H2
    have a2 : H2 r2 = some (.lst [.bl (decide (p = 3)), .bl (decide (p = 4)), .bl (decide (p = 5))]) := by rw [← e2]; exact upd_same
    have s2 : Same H1 H2 := by rw [← e2]; exact Same.new n2
    have S2 := Same.trans S1 s2
    walk_at "go"
    refine st_addL (s2 _ _ a1) a2 (Nat.le_of_ble_eq_true (by rfl)) fun r3 H3 n3 b3 s3 => ?_
    have a3 : H3 r3 = some (.lst [.bl (decide (p = 0)), .bl (decide (p = 1)), .bl (decide (p = 2)), .bl (decide (p = 3)), .bl (decide (p = 4)), .bl (decide (p = 5))]) := b3
    have S3 := Same.trans S2 s3
    walk_at "go"
    refine st_isG (tySame ty S3) (ClsV.own _) (kE T hp (q := (("BadClaim", 0), 6)) (by decide)) ?_
    walk_at "go"
    refine st_isG (tySame ty S3) (ClsV.own _) (kE T hp (q := (("Unknown", 1), 7)) (by decide)) ?_
    walk_at "go"
    refine st_isG (tySame ty S3) (ClsV.own _) (kE T hp (q := (("NotThere", 1), 8)) (by decide)) ?_
    walk_at "go"
    intro r4 n4
    generalize e4 : upd H3 r4 _ = H4
    have a4 : H4 r4 = some (.lst [.bl (decide (p = 6)), .bl (decide (p = 7)), .bl (decide (p = 8))]) := by rw [← e4]; exact upd_same
    have s4 : Same H3 H4 := by rw [← e4]; exact Same.new n4
    have S4 := Same.trans S3 s4
    walk_at "go"
    refine st_addL (s4 _ _ a3) a4 (Nat.le_of_ble_eq_true (by rfl)) fun r5 H5 n5 b5 s5 => ?_
    have a5 : H5 r5 = some (.lst [.bl (decide (p = 0)), .bl (decide (p = 1)), .bl (decide (p = 2)), .bl (decide (p = 3)), .bl (decide (p = 4)), .bl (decide (p = 5)), .bl (decide (p = 6)), .bl (decide (p = 7)), .bl (decide (p = 8))]) := b5
    have S5 := Same.trans S4 s5
    walk_at "go"
    refine st_isG (tySame ty S5) (ClsV.own _) (kE T hp (q := (("BadDevice", 0), 9)) (by decide)) ?_
    walk_at "go"
    refine st_isG (tySame ty S5) (ClsV.own _) (kE T hp (q := (("BadForm", 0), 10)) (by decide)) ?_
    walk_at "go"
    refine st_isG (tySame ty S5) (ClsV.own _) (kE T hp (q := (("BadBook", 0), 11)) (by decide)) ?_
    walk_at "go"
    intro r6 n6
    generalize e6 : upd H5 r6 _ = H6
    have a6 : H6 r6 = some (.lst [.bl (decide (p = 9)), .bl (decide (p = 10)), .bl (decide (p = 11))]) := by rw [← e6]; exact upd_same
    have s6 : Same H5 H6 := by rw [← e6]; exact Same.new n6
    have S6 := Same.trans S5 s6
    walk_at "go"
    refine st_addL (s6 _ _ a5) a6 (Nat.le_of_ble_eq_true (by rfl)) fun r7 H7 n7 b7 s7 => ?_
    have a7 : H7 r7 = some (.lst [.bl (decide (p = 0)), .bl (decide (p = 1)), .bl (decide (p = 2)), .bl (decide (p = 3)), .bl (decide (p = 4)), .bl (decide (p = 5)), .bl (decide (p = 6)), .bl (decide (p = 7)), .bl (decide (p = 8)), .bl (decide (p = 9)), .bl (decide (p = 10)), .bl (decide (p = 11))]) := b7
    have S7 := Same.trans S6 s7
    walk_at "go"
    refine st_isG (tySame ty S7) (ClsV.own _) (kE T hp (q := (("BadScript", 0), 12)) (by decide)) ?_
    walk_at "go"
    refine st_isG (tySame ty S7) (ClsV.own _) (kE T hp (q := (("BadPaper", 0), 13)) (by decide)) ?_
    walk_at "go"
    refine st_isG (tySame ty S7) (ClsV.own _) (kE T hp (q := (("BadStep", 0), 14)) (by decide)) ?_
    walk_at "go"
    intro r8 n8
    generalize e8 : upd H7 r8 _ = H8
    have a8 : H8 r8 = some (.lst [.bl (decide (p = 12)), .bl (decide (p = 13)), .bl (decide (p = 14))]) := by rw [← e8]; exact upd_same
    have s8 : Same H7 H8 := by rw [← e8]; exact Same.new n8
    have S8 := Same.trans S7 s8
    walk_at "go"
    refine st_addL (s8 _ _ a7) a8 (Nat.le_of_ble_eq_true (by rfl)) fun r9 H9 n9 b9 s9 => ?_
    have a9 : H9 r9 = some (.lst [.bl (decide (p = 0)), .bl (decide (p = 1)), .bl (decide (p = 2)), .bl (decide (p = 3)), .bl (decide (p = 4)), .bl (decide (p = 5)), .bl (decide (p = 6)), .bl (decide (p = 7)), .bl (decide (p = 8)), .bl (decide (p = 9)), .bl (decide (p = 10)), .bl (decide (p = 11)), .bl (decide (p = 12)), .bl (decide (p = 13)), .bl (decide (p = 14))]) := b9
    have S9 := Same.trans S8 s9
    walk_at "go"
    refine st_isG (tySame ty S9) (ClsV.own _) (kE T hp (q := (("NotKept", 0), 15)) (by decide)) ?_
    walk_at "go"
    refine st_isG (tySame ty S9) (ClsV.own _) (kE T hp (q := (("NotEnough", 0), 16)) (by decide)) ?_
    walk_at "go"
    refine st_isG (tySame ty S9) (ClsV.own _) (kE T hp (q := (("Unlike", 0), 17)) (by decide)) ?_
    walk_at "go"
    intro r10 n10
    generalize e10 : upd H9 r10 _ = H10
    have a10 : H10 r10 = some (.lst [.bl (decide (p = 15)), .bl (decide (p = 16)), .bl (decide (p = 17))]) := by rw [← e10]; exact upd_same
    have s10 : Same H9 H10 := by rw [← e10]; exact Same.new n10
    have S10 := Same.trans S9 s10
    walk_at "go"
    refine st_addL (s10 _ _ a9) a10 (Nat.le_of_ble_eq_true (by rfl)) fun r11 H11 n11 b11 s11 => ?_
    have a11 : H11 r11 = some (.lst [.bl (decide (p = 0)), .bl (decide (p = 1)), .bl (decide (p = 2)), .bl (decide (p = 3)), .bl (decide (p = 4)), .bl (decide (p = 5)), .bl (decide (p = 6)), .bl (decide (p = 7)), .bl (decide (p = 8)), .bl (decide (p = 9)), .bl (decide (p = 10)), .bl (decide (p = 11)), .bl (decide (p = 12)), .bl (decide (p = 13)), .bl (decide (p = 14)), .bl (decide (p = 15)), .bl (decide (p = 16)), .bl (decide (p = 17))]) := b11
    have S11 := Same.trans S10 s11
    walk_at "go"
    refine st_isG (tySame ty S11) (ClsV.own _) (kE T hp (q := (("BadRay", 0), 18)) (by decide)) ?_
    walk_at "go"
    refine st_isG (tySame ty S11) (ClsV.own _) (kE T hp (q := (("Ended", 2), 19)) (by decide)) ?_
    walk_at "go"
    intro r12 n12
    generalize e12 : upd H11 r12 _ = H12
    have a12 : H12 r12 = some (.lst [.bl (decide (p = 18)), .bl (decide (p = 19))]) := by rw [← e12]; exact upd_same
    have s12 : Same H11 H12 := by rw [← e12]; exact Same.new n12
    have S12 := Same.trans S11 s12
    walk_at "go"
    refine st_addL (s12 _ _ a11) a12 (Nat.le_of_ble_eq_true (by rfl)) fun r13 H13 n13 b13 s13 => ?_
    have a13 : H13 r13 = some (.lst [.bl (decide (p = 0)), .bl (decide (p = 1)), .bl (decide (p = 2)), .bl (decide (p = 3)), .bl (decide (p = 4)), .bl (decide (p = 5)), .bl (decide (p = 6)), .bl (decide (p = 7)), .bl (decide (p = 8)), .bl (decide (p = 9)), .bl (decide (p = 10)), .bl (decide (p = 11)), .bl (decide (p = 12)), .bl (decide (p = 13)), .bl (decide (p = 14)), .bl (decide (p = 15)), .bl (decide (p = 16)), .bl (decide (p = 17)), .bl (decide (p = 18)), .bl (decide (p = 19))]) := b13
    have S13 := Same.trans S12 s13
    walk_at "go"
    exact k r13 H13 a13 S13
end
end K00
end -- a9
section -- a10
set_option Elab.async false
set_option linter.all false
set_option maxRecDepth 100000
set_option maxHeartbeats 4000000
local macro_rules | `(tactic| walk_at "lvl") => `(tactic| first
  | decide
  | omega
  | (simp only [Nat.add_eq]; omega))
local macro_rules | `(tactic| walk_at "side") => `(tactic| first
  | decide
  | assumption
  | omega
  | exact Nat.le_of_ble_eq_true (by rfl)
  | exact ⟨by decide, by decide⟩
  | exact ⟨by decide, by decide, by decide⟩
  | exact Or.inl (Or.inr ⟨by decide, by decide⟩)
  | exact Or.inl (Or.inl ⟨by decide, by decide⟩))
local macro_rules | `(tactic| walk_at "ty") => `(tactic| first
  | assumption
  | exact L2.TyG.x (.base (.int _))
  | exact L2.TyG.x (.base (.str _))
  | exact L2.TyG.x (.base (.bl _))
  | exact L2.TyG.x (.base .non)
  | exact L2.TyG.x (.base (.lst (by assumption)))
  | exact L2.TyG.x (.base (.tup (by assumption)))
  | exact K00.tyR (by assumption) (by assumption)
  | exact L2.TyG.dn (by assumption))
local macro_rules | `(tactic| walk_at "cv") => `(tactic| first
  | exact L2.ClsV.ty _
  | exact L2.ClsV.own _)
local macro_rules | `(tactic| walk_at "kit") => `(tactic| first
  | exact L2.kit_ty (by decide +kernel)
  | exact K00.kR (by assumption) (by decide)
  | exact K00.kR2 (by assumption) (by decide)
  | exact K00.kR3 (by assumption))
local macro_rules | `(tactic| walk_at "s1") => `(tactic| first
  | refine ⟨_, rfl, ?_⟩
  | refine ⟨_, _, rfl, rfl, ?_⟩
  | refine ⟨_, _, rfl, ?_⟩
  | refine And.intro rfl ?_
  | refine L2.iteT ?_
  | refine L2.iteF ?_
  | refine L2.st_ixl (by assumption) (by rfl) ?_
  | refine L2.st_ixt (by assumption) (by rfl) ?_
  | refine L2.st_lenR (L2.lenr_l (by assumption)) ?_
  | refine L2.st_lenGR (L2.lenr_l (by assumption)) ?_
  | refine L2.st_lenGR (L2.lenr_t (by assumption)) ?_
  | refine L2.st_lenR (L2.lenr_t (by assumption)) ?_
  | refine L2.st_isG (b := false) (by walk_at "ty") (by walk_at "cv") (by walk_at "kit") ?_
  | refine L2.st_isG (b := true) (by walk_at "ty") (by walk_at "cv") (by walk_at "kit") ?_
  | refine And.intro (by walk_at "side") ?_)
local macro_rules | `(tactic| walk_at "go") => `(tactic| repeat (walk_at "s1"))
namespace K00
open PySem PySem.Spec PyProof.Rows L2
section
variable {P : Program} {w : World} {K : PySem.W.Frag} {mg : Str → Option Value} {base : Heap}
/-- the answers of _law_bases as a list -/
def bL (p : Nat) : List V := [.bl ((bN p).getD 0 false), .bl ((bN p).getD 1 false), .bl ((bN p).getD 2 false), .bl ((bN p).getD 3 false), .bl ((bN p).getD 4 false), .bl ((bN p).getD 5 false), .bl ((bN p).getD 6 false), .bl ((bN p).getD 7 false)]
def spBases (K : PySem.W.Frag) : Sp := fun vs H Q _ => ∃ (p : Nat) (e d : Addr) (fs : List (Str × V)), p < 20 ∧ vs = [.ref e] ∧ ExAt H e (cN K p) d ∧ ExD H d fs ∧ ∀ (r : Addr) (H' : Hp), H' r = some (.lst (bL p)) → Same H H' → Q (.ref r) H'
theorem G__law_bases (T : TL K mg) : FX P w K mg base 1 "_law_bases" [] (spBases K) := by
  obtain ⟨fd, F⟩ := F__law_bases T
  refine FX.of F (g__law_bases T) (F.ok0 sc__law_bases (fun vs H Q E h => ?_) (fun cdv A outer s H vs Q E hr h => ?_)) (fun _ _ _ _ _ _ us hl => match us, hl with | [_], _ => rfl)
  · obtain ⟨p, e, d, fs, hp, rfl, _⟩ := h
    rfl
  · obtain ⟨p, e, d, fs, hp, rfl, he, hd, k⟩ := h
    have ty : ExAt H e (cN K p) d ∧ ExD H d fs ∧ ExcC K (cN K p) := ⟨he, hd, xcN T hp⟩
    refine ⟨_, (pss_cons (ps_set (i := 1) sc__law_bases.nd rfl (by first | exact Or.inl rfl | exact Or.inr rfl) (pe_lst (pa_cons (pe_callB call_isG (by rfl) (f_isinstance T) (by decide +kernel) (pa_cons (pv 0) (pa_cons (pe_gr (g_CellsError T)) pa_nil))) (pa_cons (pe_callB call_isG (by rfl) (f_isinstance T) (by decide +kernel) (pa_cons (pv 0) (pa_cons (pe_bty (n := "ValueError") (f_ValueError T) (by decide +kernel)) pa_nil))) (pa_cons (pe_callB call_isG (by rfl) (f_isinstance T) (by decide +kernel) (pa_cons (pv 0) (pa_cons (pe_gr (g_MissingError T)) pa_nil))) pa_nil)))))
      (pss_cons (ps_set (i := 1) sc__law_bases.nd rfl (by first | exact Or.inl rfl | exact Or.inr rfl) (pe_op op_addG (pv 1) (pe_lst (pa_cons (pe_callB call_isG (by rfl) (f_isinstance T) (by decide +kernel) (pa_cons (pv 0) (pa_cons (pe_bty (n := "LookupError") (f_LookupError T) (by decide +kernel)) pa_nil))) (pa_cons (pe_callB call_isG (by rfl) (f_isinstance T) (by decide +kernel) (pa_cons (pv 0) (pa_cons (pe_bty (n := "RuntimeError") (f_RuntimeError T) (by decide +kernel)) pa_nil))) pa_nil)))))
      (pss_one (ps_ret (pe_op op_addG (pv 1) (pe_lst (pa_cons (pe_callB call_isG (by rfl) (f_isinstance T) (by decide +kernel) (pa_cons (pv 0) (pa_cons (pe_bty (n := "KeyError") (f_KeyError T) (by decide +kernel)) pa_nil))) (pa_cons (pe_callB call_isG (by rfl) (f_isinstance T) (by decide +kernel) (pa_cons (pv 0) (pa_cons (pe_bty (n := "IndexError") (f_IndexError T) (by decide +kernel)) pa_nil))) (pa_cons (pe_callB call_isG (by rfl) (f_isinstance T) (by decide +kernel) (pa_cons (pv 0) (pa_cons (pe_bty (n := "ArithmeticError") (f_ArithmeticError T) (by decide +kernel)) pa_nil))) pa_nil))))))))), ?_⟩
    walk_at "go"
    refine st_isG (tySame ty (Same.refl H)) (ClsV.own _) (kB T hp (j := 0) rfl) ?_
    walk_at "go"
    refine st_isG (tySame ty (Same.refl H)) (ClsV.ty _) (kB T hp (j := 1) rfl) ?_
    walk_at "go"
    refine st_isG (tySame ty (Same.refl H)) (ClsV.own _) (kB T hp (j := 2) rfl) ?_
    walk_at "go"
    intro r1 n1
    generalize e1 : upd H r1 _ = H1
    have a1 : H1 r1 = some (.lst [.bl ((bN p).getD 0 false), .bl ((bN p).getD 1 false), .bl ((bN p).getD 2 false)]) := by rw [← e1]; exact upd_same
    have s1 : Same H H1 := by rw [← e1]; exact Same.new n1
    have S1 := Same.trans (Same.refl H) s1
    walk_at "go"
    refine st_isG (tySame ty S1) (ClsV.ty _) (kB T hp (j := 3) rfl) ?_
    walk_at "go"
    refine st_isG (tySame ty S1) (ClsV.ty _) (kB T hp (j := 4) rfl) ?_
    walk_at "go"
    intro r2 n2
    generalize e2 : upd H1 r2 _ = H2
    have a2 : H2 r2 = some (.lst [.bl ((bN p).getD 3 false), .bl ((bN p).getD 4 false)]) := by rw [← e2]; exact upd_same
    have s2 : Same H1 H2 := by rw [← e2]; exact Same.new n2
    have S2 := Same.trans S1 s2
    walk_at "go"
    refine st_addL (s2 _ _ a1) a2 (Nat.le_of_ble_eq_true (by rfl)) fun r3 H3 n3 b3 s3 => ?_
    have a3 : H3 r3 = some (.lst [.bl ((bN p).getD 0 false), .bl ((bN p).getD 1 false), .bl ((bN p).getD 2 false), .bl ((bN p).getD 3 false), .bl ((bN p).getD 4 false)]) := b3
    have S3 := Same.trans S2 s3
    walk_at "go"
    refine st_isG (tySame ty S3) (ClsV.ty _) (kB T hp (j := 5) rfl) ?_
    walk_at "go"
    refine st_isG (tySame ty S3) (ClsV.ty _) (kB T hp (j := 6) rfl) ?_
    walk_at "go"
    refine st_isG (tySame ty S3) (ClsV.ty _) (kB T hp (j := 7) rfl) ?_
    walk_at "go"
    intro r4 n4
    generalize e4 : upd H3 r4 _ = H4
    have a4 : H4 r4 = some (.lst [.bl ((bN p).getD 5 false), .bl ((bN p).getD 6 false), .bl ((bN p).getD 7 false)]) := by rw [← e4]; exact upd_same
    have s4 : Same H3 H4 := by rw [← e4]; exact Same.new n4
    have S4 := Same.trans S3 s4
    walk_at "go"
    refine st_addL (s4 _ _ a3) a4 (Nat.le_of_ble_eq_true (by rfl)) fun r5 H5 n5 b5 s5 => ?_
    have a5 : H5 r5 = some (.lst [.bl ((bN p).getD 0 false), .bl ((bN p).getD 1 false), .bl ((bN p).getD 2 false), .bl ((bN p).getD 3 false), .bl ((bN p).getD 4 false), .bl ((bN p).getD 5 false), .bl ((bN p).getD 6 false), .bl ((bN p).getD 7 false)]) := b5
    have S5 := Same.trans S4 s5
    walk_at "go"
    exact k r5 H5 a5 S5
theorem due_new {xs ys : List V} {H H1 : Hp} {Q : VK} (e : xs = ys) (s1 : Same H H1) (k : ∀ (r : Addr) (H' : Hp), H' r = some (.lst ys) → Same H H' → Q (.ref r) H') : ∀ r, H1 r = none → Q (.ref r) (upd H1 r (.lst xs)) := fun r n => by
  subst e
  exact k r _ upd_same (s1.trans (Same.new n))
def spDue : Sp := fun vs H Q _ => ∃ p : Nat, p < 20 ∧ vs = [.int (p : Int)] ∧ ∀ (r : Addr) (H' : Hp), H' r = some (.lst (bL p)) → Same H H' → Q (.ref r) H'
theorem G__law_bases_due (T : TL K mg) : FX P w K mg base 1 "_law_bases_due" [] spDue := by
  obtain ⟨fd, F⟩ := F__law_bases_due T
  refine FX.of F (g__law_bases_due T) (F.ok0 sc__law_bases_due (fun vs H Q E h => ?_) (fun cdv A outer s H vs Q E hr h => ?_)) (fun _ _ _ _ _ _ us hl => match us, hl with | [_], _ => rfl)
  · obtain ⟨p, hp, rfl, _⟩ := h
    rfl
  · obtain ⟨p, hp, rfl, k⟩ := h
    refine ⟨_, (pss_cons (ps_par (i := 1) (j := 2) (by rfl) sc__law_bases_due.nd rfl rfl (by decide) rfl rfl (pa_cons (pe_cmpR op_in_seq (pv 0) (pe_lst (pa_cons pe_int (pa_cons pe_int pa_nil))) rfl) (pa_cons (pe_cmpR op_eq (pv 0) pe_int (nomark _)) pa_nil)) (by rfl))
      (pss_cons (ps_set (i := 3) sc__law_bases_due.nd rfl (by first | exact Or.inl rfl | exact Or.inr rfl) (pe_and (pe_not (pv 1)) (pe_one (pe_not (pv 2)))))
      (pss_one (ps_ret (pe_lst (pa_cons (pv 3) (pa_cons (pv 3) (pa_cons (pv 1) (pa_cons (pv 1) (pa_cons (pv 2) (pa_cons pe_bl (pa_cons pe_bl (pa_cons pe_bl pa_nil))))))))))))), ?_⟩
    walk_at "go"
    intro r1 n1
    generalize e1 : upd H r1 _ = H1
    have a1 : H1 r1 = some (.lst [.int 7, .int 8]) := by rw [← e1]; exact upd_same
    have s1 : Same H H1 := by rw [← e1]; exact Same.new n1
    refine ⟨r1, _, rfl, .inl (SqL.of a1), rfl, rfl, ?_⟩
    match p, hp with
    | 0, _ =>
      walk_at "go"
      exact due_new (by rfl) s1 k
    | 1, _ =>
      walk_at "go"
      exact due_new (by rfl) s1 k
    | 2, _ =>
      walk_at "go"
      exact due_new (by rfl) s1 k
    | 3, _ =>
      walk_at "go"
      exact due_new (by rfl) s1 k
    | 4, _ =>
      walk_at "go"
      exact due_new (by rfl) s1 k
    | 5, _ =>
      walk_at "go"
      exact due_new (by rfl) s1 k
    | 6, _ =>
      walk_at "go"
      exact due_new (by rfl) s1 k
    | 7, _ =>
      walk_at "go"
      exact due_new (by rfl) s1 k
    | 8, _ =>
      walk_at "go"
      exact due_new (by rfl) s1 k
    | 9, _ =>
      walk_at "go"
      exact due_new (by rfl) s1 k
    | 10, _ =>
      walk_at "go"
      exact due_new (by rfl) s1 k
    | 11, _ =>
      walk_at "go"
      exact due_new (by rfl) s1 k
    | 12, _ =>
      walk_at "go"
      exact due_new (by rfl) s1 k
    | 13, _ =>
      walk_at "go"
      exact due_new (by rfl) s1 k
    | 14, _ =>
      walk_at "go"
      exact due_new (by rfl) s1 k
    | 15, _ =>
      walk_at "go"
      exact due_new (by rfl) s1 k
    | 16, _ =>
      walk_at "go"
      exact due_new (by rfl) s1 k
    | 17, _ =>
      walk_at "go"
      exact due_new (by rfl) s1 k
    | 18, _ =>
      walk_at "go"
      exact due_new (by rfl) s1 k
    | 19, _ =>
      walk_at "go"
      exact due_new (by rfl) s1 k
    | p + 20, hp => exact absurd hp (by omega)
end
end K00
end -- a10
section -- a11
set_option Elab.async false
set_option linter.all false
set_option maxRecDepth 100000
set_option maxHeartbeats 4000000
local macro_rules | `(tactic| walk_at "lvl") => `(tactic| first
  | decide
  | omega
  | (simp only [Nat.add_eq]; omega))
local macro_rules | `(tactic| walk_at "side") => `(tactic| first
  | decide
  | assumption
  | omega
  | exact Nat.le_of_ble_eq_true (by rfl)
  | exact ⟨by decide, by decide⟩
  | exact ⟨by decide, by decide, by decide⟩
  | exact Or.inl (Or.inr ⟨by decide, by decide⟩)
  | exact Or.inl (Or.inl ⟨by decide, by decide⟩))
local macro_rules | `(tactic| walk_at "ty") => `(tactic| first
  | assumption
  | exact L2.TyG.x (.base (.int _))
  | exact L2.TyG.x (.base (.str _))
  | exact L2.TyG.x (.base (.bl _))
  | exact L2.TyG.x (.base .non)
  | exact L2.TyG.x (.base (.lst (by assumption)))
  | exact L2.TyG.x (.base (.tup (by assumption)))
  | exact K00.tyR (by assumption) (by assumption)
  | exact L2.TyG.dn (by assumption))
local macro_rules | `(tactic| walk_at "cv") => `(tactic| first
  | exact L2.ClsV.ty _
  | exact L2.ClsV.own _)
local macro_rules | `(tactic| walk_at "kit") => `(tactic| first
  | exact L2.kit_ty (by decide +kernel)
  | exact K00.kR (by assumption) (by decide)
  | exact K00.kR2 (by assumption) (by decide)
  | exact K00.kR3 (by assumption))
local macro_rules | `(tactic| walk_at "s1") => `(tactic| first
  | refine ⟨_, rfl, ?_⟩
  | refine ⟨_, _, rfl, rfl, ?_⟩
  | refine ⟨_, _, rfl, ?_⟩
  | refine And.intro rfl ?_
  | refine L2.iteT ?_
  | refine L2.iteF ?_
  | refine L2.st_ixl (by assumption) (by rfl) ?_
  | refine L2.st_ixt (by assumption) (by rfl) ?_
  | refine L2.st_lenR (L2.lenr_l (by assumption)) ?_
  | refine L2.st_lenGR (L2.lenr_l (by assumption)) ?_
  | refine L2.st_lenGR (L2.lenr_t (by assumption)) ?_
  | refine L2.st_lenR (L2.lenr_t (by assumption)) ?_
  | refine L2.st_isG (b := false) (by walk_at "ty") (by walk_at "cv") (by walk_at "kit") ?_
  | refine L2.st_isG (b := true) (by walk_at "ty") (by walk_at "cv") (by walk_at "kit") ?_
  | refine And.intro (by walk_at "side") ?_)
local macro_rules | `(tactic| walk_at "go") => `(tactic| repeat (walk_at "s1"))
namespace K00
open PySem PySem.Spec PyProof.Rows L2
section
variable {P : Program} {w : World} {K : PySem.W.Frag} {mg : Str → Option Value} {base : Heap}
def codesL : List Str := ["InvalidRatio", "InvalidGround", "BadWord", "BadSum", "BadStanding", "BadFlat", "BadClaim", "Unknown", "NotThere", "BadDevice", "BadForm", "BadBook", "BadScript", "BadPaper", "BadStep", "NotKept", "NotEnough", "Unlike", "BadRay", "Ended"]
theorem fN_code {p : Nat} (hp : p < 20) (a b : V) : (fN p a b).lookup ("code" : Str) = some (V.str (codesL.getD p "")) := by
  match p, hp with
  | 0, _ => rfl
  | 1, _ => rfl
  | 2, _ => rfl
  | 3, _ => rfl
  | 4, _ => rfl
  | 5, _ => rfl
  | 6, _ => rfl
  | 7, _ => rfl
  | 8, _ => rfl
  | 9, _ => rfl
  | 10, _ => rfl
  | 11, _ => rfl
  | 12, _ => rfl
  | 13, _ => rfl
  | 14, _ => rfl
  | 15, _ => rfl
  | 16, _ => rfl
  | 17, _ => rfl
  | 18, _ => rfl
  | 19, _ => rfl
  | p + 20, hp => exact absurd hp (by omega)
theorem noCode (T : TL K mg) {p : Nat} (hp : p < 20) : PySem.W.findIn K (.ref (cN K p)) "code" = some none := by
  match p, hp with
  | 0, _ => exact He.eqO_ok (a_noat_InvalidRatio_code T)
  | 1, _ => exact He.eqO_ok (a_noat_InvalidGround_code T)
  | 2, _ => exact He.eqO_ok (a_noat_BadWord_code T)
  | 3, _ => exact He.eqO_ok (a_noat_BadSum_code T)
  | 4, _ => exact He.eqO_ok (a_noat_BadStanding_code T)
  | 5, _ => exact He.eqO_ok (a_noat_BadFlat_code T)
  | 6, _ => exact He.eqO_ok (a_noat_BadClaim_code T)
  | 7, _ => exact He.eqO_ok (a_noat_Unknown_code T)
  | 8, _ => exact He.eqO_ok (a_noat_NotThere_code T)
  | 9, _ => exact He.eqO_ok (a_noat_BadDevice_code T)
  | 10, _ => exact He.eqO_ok (a_noat_BadForm_code T)
  | 11, _ => exact He.eqO_ok (a_noat_BadBook_code T)
  | 12, _ => exact He.eqO_ok (a_noat_BadScript_code T)
  | 13, _ => exact He.eqO_ok (a_noat_BadPaper_code T)
  | 14, _ => exact He.eqO_ok (a_noat_BadStep_code T)
  | 15, _ => exact He.eqO_ok (a_noat_NotKept_code T)
  | 16, _ => exact He.eqO_ok (a_noat_NotEnough_code T)
  | 17, _ => exact He.eqO_ok (a_noat_Unlike_code T)
  | 18, _ => exact He.eqO_ok (a_noat_BadRay_code T)
  | 19, _ => exact He.eqO_ok (a_noat_Ended_code T)
  | p + 20, hp => exact absurd hp (by omega)
theorem dpBls {H : Hp} : ∀ bs : List Bool, DpAll K H (bs.map V.bl) (bs.map PyData.bool)
  | [] => .nil
  | b :: bs => .cons (.bl b) (dpBls bs)
def bB (p : Nat) : List Bool := [(bN p).getD 0 false, (bN p).getD 1 false, (bN p).getD 2 false, (bN p).getD 3 false, (bN p).getD 4 false, (bN p).getD 5 false, (bN p).getD 6 false, (bN p).getD 7 false]
def rkL (p : Nat) : List Bool := (List.range 20).map fun k => decide (p = k)
theorem dec_ix (i p : Nat) : decide (V.int (0 + (i : Int)) = V.int (p : Int)) = decide (p = i) := by
  by_cases h : p = i
  · rw [decide_eq_true h, decide_eq_true (by rw [h]; congr 1; omega)]
  · rw [decide_eq_false h, decide_eq_false (fun z => h (by have := V.int.inj z; omega))]
def spErr (K : PySem.W.Frag) (w : World) : Sp := fun vs H Q _ => ∃ (p : Nat) (y : Bool) (a b : V), p < 20 ∧ vs = [.int (p : Int), .bl y, a, b] ∧ Vl K w 3 H a ∧ Vl K w 3 H b ∧ ∀ H', Same H H' → Q (.bl true) H'
theorem hN15 {p : Nat} {a b : V} (h : p = 15) : hN p a b = [a, b] := by subst h; rfl
theorem hNlt {p : Nat} {a b : V} (h : p ≠ 15) (h2 : p < 18) : hN p a b = [a] := by
  unfold hN
  by_cases h15 : p < 15
  · rw [if_pos h15]
  · rw [if_neg h15, if_neg h, if_pos h2]
theorem hNge {p : Nat} {a b : V} (h2 : ¬ p < 18) : hN p a b = [] := by
  unfold hN
  rw [if_neg (by omega), if_neg (by omega), if_neg h2]
theorem hN_vl {H : Hp} {p : Nat} {a b : V} (ha : Vl K w 3 H a) (hb : Vl K w 3 H b) : (hN p a b).length ≤ 2 ∧ ∀ x ∈ hN p a b, Vl K w 3 H x := by
  unfold hN
  split
  · exact ⟨Nat.le_of_ble_eq_true (by rfl), fun x hx => by rw [List.mem_singleton.mp hx]; exact ha⟩
  · split
    · refine ⟨Nat.le_refl 2, fun x hx => ?_⟩
      rcases List.mem_cons.mp hx with rfl | hx
      · exact ha
      · rw [List.mem_singleton.mp hx]
        exact hb
    · split
      · exact ⟨Nat.le_of_ble_eq_true (by rfl), fun x hx => by rw [List.mem_singleton.mp hx]; exact ha⟩
      · exact ⟨by decide, fun x hx => (nomatch hx)⟩
theorem G__law_error_so (T : TL K mg) : FX P w K mg base 12 "_law_error_so" [] (spErr K w) := by
  have GE := G_exact (P := P) (w := w) (base := base) T 8
  have GL := G_like (P := P) (w := w) (base := base) T 1
  obtain ⟨fd, F⟩ := F__law_error_so T
  refine FX.of F (g__law_error_so T) (F.ok0 sc__law_error_so (fun vs H Q E h => ?_) (fun cdv A outer s H vs Q E hr h => ?_)) (fun _ _ _ _ _ _ us hl => match us, hl with | [_, _, _, _], _ => rfl)
  · obtain ⟨p, y, a, b, hp, rfl, _⟩ := h
    rfl
  · obtain ⟨p, y, a, b, hp, rfl, ha, hb, k⟩ := h
    refine ⟨_, (pss_cons (ps_set (i := 4) sc__law_error_so.nd rfl (by first | exact Or.inl rfl | exact Or.inr rfl) (pe_lst (pa_cons pe_str (pa_cons pe_str (pa_cons pe_str (pa_cons pe_str (pa_cons pe_str (pa_cons pe_str (pa_cons pe_str (pa_cons pe_str pa_nil))))))))))
      (pss_cons (ps_set (i := 4) sc__law_error_so.nd rfl (by first | exact Or.inl rfl | exact Or.inr rfl) (pe_op op_addG (pv 4) (pe_lst (pa_cons pe_str (pa_cons pe_str (pa_cons pe_str (pa_cons pe_str (pa_cons pe_str (pa_cons pe_str (pa_cons pe_str (pa_cons pe_str pa_nil)))))))))))
      (pss_cons (ps_set (i := 4) sc__law_error_so.nd rfl (by first | exact Or.inl rfl | exact Or.inr rfl) (pe_op op_addG (pv 4) (pe_lst (pa_cons pe_str (pa_cons pe_str (pa_cons pe_str (pa_cons pe_str pa_nil)))))))
      (pss_cons (ps_set (i := 5) sc__law_error_so.nd rfl (by first | exact Or.inl rfl | exact Or.inr rfl) (pe_fx (G__law_made T) (hr.mono (by walk_at "lvl")) passL (pa_cons (pv 0) (pa_cons (pv 1) (pa_cons (pv 2) (pa_cons (pv 3) pa_nil))))))
      (pss_cons (ps_set (i := 6) sc__law_error_so.nd rfl (by first | exact Or.inl rfl | exact Or.inr rfl) (pe_ifExp (pt_cmpR op_eq (pv 0) pe_int (nomark _)) (pe_lst (pa_cons (pv 2) (pa_cons (pv 3) pa_nil))) (pe_ifExp (pt_cmpR op_lt (pv 0) pe_int (nomark _)) (pe_lst (pa_cons (pv 2) pa_nil)) (pe_lst pa_nil))))
      (pss_cons (ps_if (PW.pt (pw_or (pt_not (pt_val (pe_fx GE (hr.mono (by walk_at "lvl")) passL (pa_cons (pe_fx (G__law_held T) (hr.mono (by walk_at "lvl")) passL (pa_cons (pv 0) (pa_cons (pv 5) pa_nil))) (pa_cons (pv 6) pa_nil))))) (pw_or1 (pt_not (pt_val (pe_fx GL (hr.mono (by walk_at "lvl")) passL (pa_cons (pe_xat (pv 5)) (pa_cons (pe_ix ix_seq (pv 4) (pv 0) (fun _ _ => rfl)) pa_nil))))))))
        (pss_one (ps_ret pe_bl))
        pss_nil)
      (pss_cons (ps_if (pt_cmpR (op_neD hr.units) (pe_fx (G__law_ranks T) (hr.mono (by walk_at "lvl")) passL (pa_cons (pv 5) pa_nil)) (pe_lc (own := [("k", 7)]) (g := gName 7) (tt := tYes) rfl sc__law_error_so.nd (pi_range1 rfl (f_range T) (pa_cons pe_int pa_nil)) (blkOk_by (N := N__law_error_so) (sc := defScope s__law_error_so) (by decide +kernel)) (fun _ _ _ _ _ => pg_name (i := 7) sc__law_error_so.nd rfl (Or.inl rfl)) (fun _ _ _ _ _ => pts_nil) (fun _ _ _ _ _ => (pe_cmpR op_eq (pv 7) (pv 0) (nomark _)))) (nomark _))
        (pss_one (ps_ret pe_bl))
        pss_nil)
      (pss_one (ps_ret (pe_cmpR (op_eqD hr.units) (pe_fx (G__law_bases T) (hr.mono (by walk_at "lvl")) passL (pa_cons (pv 5) pa_nil)) (pe_fx (G__law_bases_due T) (hr.mono (by walk_at "lvl")) passL (pa_cons (pv 0) pa_nil)) (nomark _))))))))))), ?_⟩
    walk_at "go"
    intro r1 n1
    generalize e1 : upd H r1 _ = H1
    have a1 : H1 r1 = some (.lst [.str "InvalidRatio", .str "InvalidGround", .str "BadWord", .str "BadSum", .str "BadStanding", .str "BadFlat", .str "BadClaim", .str "Unknown"]) := by rw [← e1]; exact upd_same
    have s1 : Same H H1 := by rw [← e1]; exact Same.new n1
    have S1 := Same.trans (Same.refl H) s1
    walk_at "go"
    intro r2 n2
    generalize e2 : upd H1 r2 _ = H2
    have a2 : H2 r2 = some (.lst [.str "NotThere", .str "BadDevice", .str "BadForm", .str "BadBook", .str "BadScript", .str "BadPaper", .str "BadStep", .str "NotKept"]) := by rw [← e2]; exact upd_same
    have s2 : Same H1 H2 := by rw [← e2]; exact Same.new n2
    have S2 := Same.trans S1 s2
    walk_at "go"
    refine st_addL (s2 _ _ a1) a2 (Nat.le_of_ble_eq_true (by rfl)) fun r3 H3 n3 b3 s3 => ?_
    have a3 : H3 r3 = some (.lst [.str "InvalidRatio", .str "InvalidGround", .str "BadWord", .str "BadSum", .str "BadStanding", .str "BadFlat", .str "BadClaim", .str "Unknown", .str "NotThere", .str "BadDevice", .str "BadForm", .str "BadBook", .str "BadScript", .str "BadPaper", .str "BadStep", .str "NotKept"]) := b3
    have S3 := S2.trans s3
    walk_at "go"
    intro r4 n4
    generalize e4 : upd H3 r4 _ = H4
    have a4 : H4 r4 = some (.lst [.str "NotEnough", .str "Unlike", .str "BadRay", .str "Ended"]) := by rw [← e4]; exact upd_same
    have s4 : Same H3 H4 := by rw [← e4]; exact Same.new n4
    have S4 := Same.trans S3 s4
    walk_at "go"
    refine st_addL (s4 _ _ a3) a4 (Nat.le_of_ble_eq_true (by rfl)) fun r5 H5 n5 b5 s5 => ?_
    have a5 : H5 r5 = some (.lst (codesL.map V.str)) := b5
    have S5 := S4.trans s5
    walk_at "go"
    refine ⟨p, y, a, b, hp, rfl, fun e d H6 ne ae ad s6 => ?_⟩
    have S6 := S5.trans s6
    walk_at "go"

    refine st_if (fun c => ?_) (fun c => ?_)
    · have hp15 : p = 15 := by have := V.int.inj c; omega
      walk_at "go"
      intro r7 n7
      generalize e7 : upd H6 r7 _ = H7
      have a7' : H7 r7 = some (.lst [a, b]) := by rw [← e7]; exact upd_same
      have s7 : Same H6 H7 := by rw [← e7]; exact Same.new n7
      have a7 : H7 r7 = some (.lst (hN p a b)) := by rw [a7', hN15 hp15]
      have S7 := S6.trans s7
      have he7 : ExAt H7 e (cN K p) d := .inl (s7 _ _ ae)
      have hd7 : ExD H7 d (fN p a b) := .inl (s7 _ _ ad)
      walk_at "go"
      refine ⟨p, e, d, a, b, hp, rfl, he7, hd7, fun r8 H8 n8 a8 s8 => ?_⟩
      walk_at "go"
      have hv := hN_vl (p := p) (ha.same (S7.trans s8)) (hb.same (S7.trans s8))
      refine ⟨.inr ⟨r8, r7, hN p a b, 3, by decide, rfl, a8, s8 _ _ a7, hv.1, hv.2⟩, fun H9 s9 => ?_⟩
      have s79 := s8.trans s9
      walk_at "go"
      refine ⟨e, _, d, _, _, rfl, he7.same s79, hd7.same s79, xcN T hp, noCode T hp, fN_code hp a b, ?_⟩
      walk_at "go"
      have hat : atI (codesL.map V.str) (p : Int) = some (.str (codesL.getD p "")) := atI_nat (by
        have hl : p < codesL.length := hp
        rw [List.getElem?_map, List.getElem?_eq_getElem hl, List.getD_eq_getElem?_getD, List.getElem?_eq_getElem hl] <;> rfl)
      refine st_ixl ((s6.trans (s7.trans s79)) _ _ a5) hat ?_
      walk_at "go"
      refine ⟨.inl ⟨Nat.le_refl 1, _, rfl⟩, fun H10 s10 => ?_⟩
      have s710 := s79.trans s10
      walk_at "go"
      refine ⟨p, e, d, _, hp, rfl, he7.same s710, hd7.same s710, fun r11 H11 a11 s11 => ?_⟩
      walk_at "go"
      intro D nD
      refine lc_range (lo := 0) (fun i H12 => H12 D = some (.lst (((List.range i).map fun k => decide (p = k)).map V.bl)) ∧ Same H11 H12) ⟨upd_same, Same.new nD⟩ ?_ ?_
      · rintro i H12 hi ⟨f1, f2⟩
        walk_at "go"
        refine ⟨_, f1, ?_, ?_, fun x o q => ?_⟩
        · rw [List.length_map, List.length_map, List.length_range]
          exact Nat.lt_of_lt_of_le hi (Nat.le_of_ble_eq_true (by rfl))
        · rw [upd_same, List.range_succ, List.map_append, List.map_append]
          show some (HO.lst (_ ++ [V.bl (decide (V.int (0 + (i : Int)) = V.int (p : Int)))])) = _
          rw [dec_ix] <;> rfl
        · rw [upd_ne (ne_of_none q nD)]
          exact f2 _ _ q
      · rintro H12 ⟨f1, f2⟩
        walk_at "go"
        have d12 : Dp K H12 (.ref D) (.list ((rkL p).map PyData.bool)) := .lst (SqL.of f1) (dpBls (rkL p))
        have d11 : Dp K H12 (.ref r11) (.list ((rkL p).map PyData.bool)) := .lst (SqL.of (f2 _ _ a11)) (dpBls (rkL p))
        have sh : SeqAt.shaped (.list ((rkL p).map PyData.bool)) = true := by rfl
        refine ⟨_, _, d11, d12, sh, sh, ?_⟩
        rw [SeqAt.eqv_refl _ (SeqAt.canLay_of_shaped sh)]
        walk_at "go"
        have s712 : Same H7 H12 := (s710.trans s11).trans f2
        refine ⟨p, e, d, _, hp, rfl, he7.same s712, hd7.same s712, fun r13 H13 a13 s13 => ?_⟩
        walk_at "go"
        refine ⟨p, hp, rfl, fun r14 H14 a14 s14 => ?_⟩
        walk_at "go"
        have e13 : Dp K H14 (.ref r13) (.list ((bB p).map PyData.bool)) := .lst (SqL.of (s14 _ _ a13)) (dpBls (bB p))
        have e14 : Dp K H14 (.ref r14) (.list ((bB p).map PyData.bool)) := .lst (SqL.of a14) (dpBls (bB p))
        have sh2 : SeqAt.shaped (.list ((bB p).map PyData.bool)) = true := by rfl
        refine ⟨_, _, e13, e14, sh2, sh2, ?_⟩
        rw [SeqAt.eqv_refl _ (SeqAt.canLay_of_shaped sh2)]
        exact k H14 (S7.trans (s712.trans (s13.trans s14)))
    · have hp15 : p ≠ 15 := fun z => c (by rw [z]; rfl)
      walk_at "go"
      refine st_if (fun c2 => ?_) (fun c2 => ?_)
      · walk_at "go"
        intro r7 n7
        generalize e7 : upd H6 r7 _ = H7
        have a7' : H7 r7 = some (.lst [a]) := by rw [← e7]; exact upd_same
        have s7 : Same H6 H7 := by rw [← e7]; exact Same.new n7
        have a7 : H7 r7 = some (.lst (hN p a b)) := by rw [a7', hNlt hp15 (by omega)]
        have S7 := S6.trans s7
        have he7 : ExAt H7 e (cN K p) d := .inl (s7 _ _ ae)
        have hd7 : ExD H7 d (fN p a b) := .inl (s7 _ _ ad)
        walk_at "go"
        refine ⟨p, e, d, a, b, hp, rfl, he7, hd7, fun r8 H8 n8 a8 s8 => ?_⟩
        walk_at "go"
        have hv := hN_vl (p := p) (ha.same (S7.trans s8)) (hb.same (S7.trans s8))
        refine ⟨.inr ⟨r8, r7, hN p a b, 3, by decide, rfl, a8, s8 _ _ a7, hv.1, hv.2⟩, fun H9 s9 => ?_⟩
        have s79 := s8.trans s9
        walk_at "go"
        refine ⟨e, _, d, _, _, rfl, he7.same s79, hd7.same s79, xcN T hp, noCode T hp, fN_code hp a b, ?_⟩
        walk_at "go"
        have hat : atI (codesL.map V.str) (p : Int) = some (.str (codesL.getD p "")) := atI_nat (by
          have hl : p < codesL.length := hp
          rw [List.getElem?_map, List.getElem?_eq_getElem hl, List.getD_eq_getElem?_getD, List.getElem?_eq_getElem hl] <;> rfl)
        refine st_ixl ((s6.trans (s7.trans s79)) _ _ a5) hat ?_
        walk_at "go"
        refine ⟨.inl ⟨Nat.le_refl 1, _, rfl⟩, fun H10 s10 => ?_⟩
        have s710 := s79.trans s10
        walk_at "go"
        refine ⟨p, e, d, _, hp, rfl, he7.same s710, hd7.same s710, fun r11 H11 a11 s11 => ?_⟩
        walk_at "go"
        intro D nD
        refine lc_range (lo := 0) (fun i H12 => H12 D = some (.lst (((List.range i).map fun k => decide (p = k)).map V.bl)) ∧ Same H11 H12) ⟨upd_same, Same.new nD⟩ ?_ ?_
        · rintro i H12 hi ⟨f1, f2⟩
          walk_at "go"
          refine ⟨_, f1, ?_, ?_, fun x o q => ?_⟩
          · rw [List.length_map, List.length_map, List.length_range]
            exact Nat.lt_of_lt_of_le hi (Nat.le_of_ble_eq_true (by rfl))
          · rw [upd_same, List.range_succ, List.map_append, List.map_append]
            show some (HO.lst (_ ++ [V.bl (decide (V.int (0 + (i : Int)) = V.int (p : Int)))])) = _
            rw [dec_ix] <;> rfl
          · rw [upd_ne (ne_of_none q nD)]
            exact f2 _ _ q
        · rintro H12 ⟨f1, f2⟩
          walk_at "go"
          have d12 : Dp K H12 (.ref D) (.list ((rkL p).map PyData.bool)) := .lst (SqL.of f1) (dpBls (rkL p))
          have d11 : Dp K H12 (.ref r11) (.list ((rkL p).map PyData.bool)) := .lst (SqL.of (f2 _ _ a11)) (dpBls (rkL p))
          have sh : SeqAt.shaped (.list ((rkL p).map PyData.bool)) = true := by rfl
          refine ⟨_, _, d11, d12, sh, sh, ?_⟩
          rw [SeqAt.eqv_refl _ (SeqAt.canLay_of_shaped sh)]
          walk_at "go"
          have s712 : Same H7 H12 := (s710.trans s11).trans f2
          refine ⟨p, e, d, _, hp, rfl, he7.same s712, hd7.same s712, fun r13 H13 a13 s13 => ?_⟩
          walk_at "go"
          refine ⟨p, hp, rfl, fun r14 H14 a14 s14 => ?_⟩
          walk_at "go"
          have e13 : Dp K H14 (.ref r13) (.list ((bB p).map PyData.bool)) := .lst (SqL.of (s14 _ _ a13)) (dpBls (bB p))
          have e14 : Dp K H14 (.ref r14) (.list ((bB p).map PyData.bool)) := .lst (SqL.of a14) (dpBls (bB p))
          have sh2 : SeqAt.shaped (.list ((bB p).map PyData.bool)) = true := by rfl
          refine ⟨_, _, e13, e14, sh2, sh2, ?_⟩
          rw [SeqAt.eqv_refl _ (SeqAt.canLay_of_shaped sh2)]
          exact k H14 (S7.trans (s712.trans (s13.trans s14)))
      · walk_at "go"
        intro r7 n7
        generalize e7 : upd H6 r7 _ = H7
        have a7' : H7 r7 = some (.lst []) := by rw [← e7]; exact upd_same
        have s7 : Same H6 H7 := by rw [← e7]; exact Same.new n7
        have a7 : H7 r7 = some (.lst (hN p a b)) := by rw [a7', hNge (by omega)]
        have S7 := S6.trans s7
        have he7 : ExAt H7 e (cN K p) d := .inl (s7 _ _ ae)
        have hd7 : ExD H7 d (fN p a b) := .inl (s7 _ _ ad)
        walk_at "go"
        refine ⟨p, e, d, a, b, hp, rfl, he7, hd7, fun r8 H8 n8 a8 s8 => ?_⟩
        walk_at "go"
        have hv := hN_vl (p := p) (ha.same (S7.trans s8)) (hb.same (S7.trans s8))
        refine ⟨.inr ⟨r8, r7, hN p a b, 3, by decide, rfl, a8, s8 _ _ a7, hv.1, hv.2⟩, fun H9 s9 => ?_⟩
        have s79 := s8.trans s9
        walk_at "go"
        refine ⟨e, _, d, _, _, rfl, he7.same s79, hd7.same s79, xcN T hp, noCode T hp, fN_code hp a b, ?_⟩
        walk_at "go"
        have hat : atI (codesL.map V.str) (p : Int) = some (.str (codesL.getD p "")) := atI_nat (by
          have hl : p < codesL.length := hp
          rw [List.getElem?_map, List.getElem?_eq_getElem hl, List.getD_eq_getElem?_getD, List.getElem?_eq_getElem hl] <;> rfl)
        refine st_ixl ((s6.trans (s7.trans s79)) _ _ a5) hat ?_
        walk_at "go"
        refine ⟨.inl ⟨Nat.le_refl 1, _, rfl⟩, fun H10 s10 => ?_⟩
        have s710 := s79.trans s10
        walk_at "go"
        refine ⟨p, e, d, _, hp, rfl, he7.same s710, hd7.same s710, fun r11 H11 a11 s11 => ?_⟩
        walk_at "go"
        intro D nD
        refine lc_range (lo := 0) (fun i H12 => H12 D = some (.lst (((List.range i).map fun k => decide (p = k)).map V.bl)) ∧ Same H11 H12) ⟨upd_same, Same.new nD⟩ ?_ ?_
        · rintro i H12 hi ⟨f1, f2⟩
          walk_at "go"
          refine ⟨_, f1, ?_, ?_, fun x o q => ?_⟩
          · rw [List.length_map, List.length_map, List.length_range]
            exact Nat.lt_of_lt_of_le hi (Nat.le_of_ble_eq_true (by rfl))
          · rw [upd_same, List.range_succ, List.map_append, List.map_append]
            show some (HO.lst (_ ++ [V.bl (decide (V.int (0 + (i : Int)) = V.int (p : Int)))])) = _
            rw [dec_ix] <;> rfl
          · rw [upd_ne (ne_of_none q nD)]
            exact f2 _ _ q
        · rintro H12 ⟨f1, f2⟩
          walk_at "go"
          have d12 : Dp K H12 (.ref D) (.list ((rkL p).map PyData.bool)) := .lst (SqL.of f1) (dpBls (rkL p))
          have d11 : Dp K H12 (.ref r11) (.list ((rkL p).map PyData.bool)) := .lst (SqL.of (f2 _ _ a11)) (dpBls (rkL p))
          have sh : SeqAt.shaped (.list ((rkL p).map PyData.bool)) = true := by rfl
          refine ⟨_, _, d11, d12, sh, sh, ?_⟩
          rw [SeqAt.eqv_refl _ (SeqAt.canLay_of_shaped sh)]
          walk_at "go"
          have s712 : Same H7 H12 := (s710.trans s11).trans f2
          refine ⟨p, e, d, _, hp, rfl, he7.same s712, hd7.same s712, fun r13 H13 a13 s13 => ?_⟩
          walk_at "go"
          refine ⟨p, hp, rfl, fun r14 H14 a14 s14 => ?_⟩
          walk_at "go"
          have e13 : Dp K H14 (.ref r13) (.list ((bB p).map PyData.bool)) := .lst (SqL.of (s14 _ _ a13)) (dpBls (bB p))
          have e14 : Dp K H14 (.ref r14) (.list ((bB p).map PyData.bool)) := .lst (SqL.of a14) (dpBls (bB p))
          have sh2 : SeqAt.shaped (.list ((bB p).map PyData.bool)) = true := by rfl
          refine ⟨_, _, e13, e14, sh2, sh2, ?_⟩
          rw [SeqAt.eqv_refl _ (SeqAt.canLay_of_shaped sh2)]
          exact k H14 (S7.trans (s712.trans (s13.trans s14)))
end
end K00
end -- a11
section -- a12
set_option Elab.async false
set_option linter.all false
set_option maxRecDepth 100000
set_option maxHeartbeats 4000000
local macro_rules | `(tactic| walk_at "lvl") => `(tactic| first
  | decide
  | omega
  | (simp only [Nat.add_eq]; omega))
local macro_rules | `(tactic| walk_at "side") => `(tactic| first
  | decide
  | assumption
  | omega
  | exact Nat.le_of_ble_eq_true (by rfl)
  | exact ⟨by decide, by decide⟩
  | exact ⟨by decide, by decide, by decide⟩
  | exact Or.inl (Or.inr ⟨by decide, by decide⟩)
  | exact Or.inl (Or.inl ⟨by decide, by decide⟩))
local macro_rules | `(tactic| walk_at "ty") => `(tactic| first
  | assumption
  | exact L2.TyG.x (.base (.int _))
  | exact L2.TyG.x (.base (.str _))
  | exact L2.TyG.x (.base (.bl _))
  | exact L2.TyG.x (.base .non)
  | exact L2.TyG.x (.base (.lst (by assumption)))
  | exact L2.TyG.x (.base (.tup (by assumption)))
  | exact K00.tyR (by assumption) (by assumption)
  | exact L2.TyG.dn (by assumption))
local macro_rules | `(tactic| walk_at "cv") => `(tactic| first
  | exact L2.ClsV.ty _
  | exact L2.ClsV.own _)
local macro_rules | `(tactic| walk_at "kit") => `(tactic| first
  | exact L2.kit_ty (by decide +kernel)
  | exact K00.kR (by assumption) (by decide)
  | exact K00.kR2 (by assumption) (by decide)
  | exact K00.kR3 (by assumption))
local macro_rules | `(tactic| walk_at "s1") => `(tactic| first
  | refine ⟨_, rfl, ?_⟩
  | refine ⟨_, _, rfl, rfl, ?_⟩
  | refine ⟨_, _, rfl, ?_⟩
  | refine And.intro rfl ?_
  | refine L2.iteT ?_
  | refine L2.iteF ?_
  | refine L2.st_ixl (by assumption) (by rfl) ?_
  | refine L2.st_ixt (by assumption) (by rfl) ?_
  | refine L2.st_lenR (L2.lenr_l (by assumption)) ?_
  | refine L2.st_lenGR (L2.lenr_l (by assumption)) ?_
  | refine L2.st_lenGR (L2.lenr_t (by assumption)) ?_
  | refine L2.st_lenR (L2.lenr_t (by assumption)) ?_
  | refine L2.st_isG (b := false) (by walk_at "ty") (by walk_at "cv") (by walk_at "kit") ?_
  | refine L2.st_isG (b := true) (by walk_at "ty") (by walk_at "cv") (by walk_at "kit") ?_
  | refine And.intro (by walk_at "side") ?_)
local macro_rules | `(tactic| walk_at "go") => `(tactic| repeat (walk_at "s1"))
namespace K00
open PySem PySem.Spec PyProof.Rows L2
def aToZ : Str := "abcdefghijklmnopqrstuvwxyz"
def aTo9 : Str := "abcdefghijklmnopqrstuvwxyz0123456789"
def sixW : List Str := ["and", "or", "all", "none", "again", "any"]
/-- a name: 1 to 8 signs, the first a letter, none of the six words -/
def isN (z : Str) : Bool := decide (z ∉ sixW) && (decide (1 ≤ z.length) && (decide (z.length ≤ 8) && ((match z.cps.toList with | [] => false | c :: _ => decide (c ∈ aToZ.cps.toList)) && z.cps.toList.all fun c => decide (c ∈ aTo9.cps.toList))))
section
variable {P : Program} {w : World} {K : PySem.W.Frag} {mg : Str → Option Value} {base : Heap}
theorem tupN (T : TL K mg) (H : Hp) : SqT K H (He.ga K "NO_NAMES") [.str "and", .str "or", .str "all", .str "none", .str "again", .str "any"] := He.tupB_ok (exA T).2.2.2.2.2.2.1 H
theorem inV_strs (z : Str) : ∀ ws : List Str, inV (.str z) (ws.map V.str) = decide (z ∈ ws)
  | [] => rfl
  | a :: ws => by
    show (a == z || inV (.str z) (ws.map V.str)) = _
    rw [inV_strs z ws, Bool.eq_iff_iff]
    simp only [Bool.or_eq_true, beq_iff_eq, decide_eq_true_eq, List.mem_cons]
    exact or_congr_left eq_comm
theorem inV_six (z : Str) : inV (.str z) [.str "and", .str "or", .str "all", .str "none", .str "again", .str "any"] = decide (z ∈ sixW) := inV_strs z sixW
theorem isN_word {z : Str} (h : z ∈ sixW) : isN z = false := by
  unfold isN
  rw [decide_eq_false (fun z => z h)] <;> rfl
theorem isN_short {z : Str} (h : ¬ 1 ≤ z.length) : isN z = false := by
  unfold isN
  rw [decide_eq_false h, Bool.false_and, Bool.and_false]
theorem isN_long {z : Str} (h : ¬ z.length ≤ 8) : isN z = false := by
  unfold isN
  rw [decide_eq_false h, Bool.false_and, Bool.and_false, Bool.and_false]
theorem isN_first {z : Str} {c : Nat} {cs : List Nat} (e : z.cps.toList = c :: cs) (h : c ∉ aToZ.cps.toList) : isN z = false := by
  unfold isN
  rw [e]
  dsimp only
  rw [decide_eq_false h, Bool.false_and, Bool.and_false, Bool.and_false, Bool.and_false]
theorem isN_sign {z : Str} {c : Nat} (hc : c ∈ z.cps.toList) (h : c ∉ aTo9.cps.toList) : isN z = false := by
  unfold isN
  have e : (z.cps.toList.all fun c => decide (c ∈ aTo9.cps.toList)) = false := by
    rw [List.all_eq_false]
    exact ⟨c, hc, by simpa using h⟩
  rw [e, Bool.and_false, Bool.and_false, Bool.and_false, Bool.and_false]
theorem isN_yes {z : Str} {c : Nat} {cs : List Nat} (h1 : z ∉ sixW) (h2 : z.length ≤ 8) (e : z.cps.toList = c :: cs) (h : c ∈ aToZ.cps.toList) (ha : ∀ x ∈ z.cps.toList, x ∈ aTo9.cps.toList) : isN z = true := by
  unfold isN
  have hl : 1 ≤ z.length := by
    have : z.cps.toList.length = z.length := by simp [PySem.Str.length]
    rw [e] at this
    simp only [List.length_cons] at this
    omega
  have hall : (z.cps.toList.all fun c => decide (c ∈ aTo9.cps.toList)) = true := by
    rw [List.all_eq_true]
    exact fun x hx => decide_eq_true (ha x hx)
  rw [hall, decide_eq_true h1, decide_eq_true hl, decide_eq_true h2, e]
  dsimp only
  rw [decide_eq_true h] <;> rfl
@[irreducible] def spNm (K : PySem.W.Frag) (w : World) : Sp := fun vs H Q _ => (∃ (v : V) (t : Value), vs = [v] ∧ TyG K w H v t ∧ ((∃ n ∈ ["NoneType", "bool", "int", "list", "tuple", "dict"], t = .type n) ∨ t = .ref (RC K)) ∧ ∀ H', Same H H' → Q (.bl false) H') ∨
  (∃ z : Str, vs = [.str z] ∧ z.length ≤ 1000 ∧ ∀ H', Same H H' → Q (.bl (isN z)) H')
theorem st_nmS {z : Str} {H : Hp} {Q : VK} {E : XK} (hz : z.length ≤ 1000) (k : ∀ H', Same H H' → Q (.bl (isN z)) H') : spNm K w [.str z] H Q E := by
  unfold spNm
  exact .inr ⟨z, rfl, hz, k⟩
theorem st_nmV {v : V} {t : Value} {H : Hp} {Q : VK} {E : XK} (ty : TyG K w H v t) (ht : (∃ n ∈ ["NoneType", "bool", "int", "list", "tuple", "dict"], t = .type n) ∨ t = .ref (RC K)) (k : ∀ H', Same H H' → Q (.bl false) H') : spNm K w [v] H Q E := by
  unfold spNm
  exact .inl ⟨v, t, rfl, ty, ht, k⟩
theorem ok_is_name (T : TL K mg) : ∃ fd, FunD K d_is_name.name d_is_name.qual d_is_name.params d_is_name.body d_is_name.scope (d_is_name.dvs K) (d_is_name.kws K) (He.fAd K d_is_name.at_) fd ∧ FnOk P w K mg base (L2.CX P w) 1 (He.fAd K d_is_name.at_) fd ["value"] (spNm K w) := by
  obtain ⟨fd, F⟩ := F_is_name T
  refine ⟨fd, F, F.ok0 sc_is_name (fun vs H Q E h => ?_) (fun cdv A outer s H vs Q E hr h => ?_)⟩
  · unfold spNm at h
    rcases h with ⟨v, t, rfl, _⟩ | ⟨z, rfl, _⟩ <;> rfl
  · refine ⟨_, (pss_cons (ps_if (PW.pt (pw_or (pt_not (pt_val (pe_callB call_isG (by rfl) (f_isinstance T) (by decide +kernel) (pa_cons (pv 0) (pa_cons (pe_bty (n := "str") (f_str T) (by decide +kernel)) pa_nil))))) (pw_or (pt_cmpR op_eq (pv 0) pe_str (nomark _)) (pw_or1 (pt_cmpR op_gt (pe_callB call_lenG (by rfl) (f_len T) (by decide +kernel) (pa_cons (pv 0) pa_nil)) (pe_gi (c_MOST_SIGNS T)) (nomark _))))))
        (pss_one (ps_ret pe_bl))
        pss_nil)
      (pss_cons (ps_if (PW.pt (pw_or (pt_cmpR op_notIn_sign (pe_ix ix_seq (pv 0) pe_int (fun _ _ => rfl)) (pe_gs (c_FIRST_SIGNS T)) rfl) (pw_or1 (pt_cmpR op_in_seq (pv 0) (pe_gr (g_NO_NAMES T)) rfl))))
        (pss_one (ps_ret pe_bl))
        pss_nil)
      (pss_cons (ps_for PassesOwn.never rfl (pi_str (pv 0)) (pg_name (i := 1) sc_is_name.nd rfl (by first | exact Or.inl rfl | exact Or.inr rfl))
        (pss_one (ps_if (pt_cmpR op_notIn_sign (pv 1) (pe_gs (c_SIGNS T)) rfl)
          (pss_one (ps_ret pe_bl))
          pss_nil)))
      (pss_one (ps_ret pe_bl))))), ?_⟩
    unfold spNm at h
    rcases h with ⟨v, t, rfl, ty, ht, k⟩ | ⟨z, rfl, hz, k⟩
    · have k0 := k H (Same.refl H)
      rcases ht with ⟨n, hn, rfl⟩ | rfl
      · simp only [List.mem_cons, List.not_mem_nil, or_false] at hn
        rcases hn with rfl | rfl | rfl | rfl | rfl | rfl
        all_goals (walk_at "go"; exact k0)
      · walk_at "go"
        exact k0
    · have k0 := k H (Same.refl H)
      walk_at "go"
      have lz : z.cps.toList.length = z.length := by simp [PySem.Str.length]
      have hz2 : z.length ≤ sizeLine := Nat.le_trans hz (by decide)
      refine st_if (fun c1 => ?_) (fun c1 => ?_)
      · have e := V.str.inj c1
        subst e
        walk_at "go"
        exact k0
      · walk_at "go"
        refine st_lenS hz2 ?_
        walk_at "go"
        refine st_if (fun c2 => ?_) (fun c2 => ?_)
        · rw [isN_long (by omega)] at k0
          walk_at "go"
          exact k0
        · have hne : z.cps.toList ≠ [] := fun q => c1 (by
            obtain ⟨⟨l⟩⟩ := z
            have q' : l = [] := q
            rw [q'] <;> rfl)
          obtain ⟨c, cs, hc⟩ := List.exists_cons_of_ne_nil hne
          walk_at "go"
          refine st_ixs hz2 (by show atI z.cps.toList ((0 : Nat) : Int) = some c; exact atI_nat (by rw [hc]; rfl)) ?_
          walk_at "go"
          refine st_ifn (fun c3 => ?_) (fun c3 => ?_)
          · rw [isN_first hc c3] at k0
            walk_at "go"
            exact k0
          · walk_at "go"
            refine ⟨_, _, rfl, .inr (tupN T H), rfl, rfl, ?_⟩
            rw [inV_six]
            walk_at "go"
            refine st_if (fun c4 => ?_) (fun c4 => ?_)
            · rw [isN_word c4] at k0
              walk_at "go"
              exact k0
            · walk_at "go"
              refine for_strL (fun i σ H' => ∃ sv : Option V, σ = [some (.str z), sv] ∧ H' = H ∧ ∀ j x, j < i → z.cps[j]? = some x → x ∈ aTo9.cps.toList) ⟨none, rfl, rfl, fun j x hj => absurd hj (Nat.not_lt_zero _)⟩ ?_ ?_
              · rintro i x σ H' hx ⟨sv, rfl, rfl, q⟩
                walk_at "go"
                refine st_ifn (fun c5 => ?_) (fun c5 => ?_)
                · rw [isN_sign (List.mem_of_getElem? (by rw [Array.getElem?_toList]; exact hx)) c5] at k0
                  walk_at "go"
                  exact k0
                · walk_at "go"
                  refine fun j y hj hy => ?_
                  by_cases e : j = i
                  · subst e
                    rw [hx] at hy
                    rw [← Option.some.inj hy]
                    exact c5
                  · exact q j y (by omega) hy
              · rintro σ H' ⟨sv, rfl, rfl, q⟩
                have e : isN z = true := isN_yes c4 (by omega) hc c3 (fun x hx => by
                  obtain ⟨j, hj⟩ := List.mem_iff_getElem?.mp hx
                  rw [Array.getElem?_toList] at hj
                  exact q j x (Array.getElem?_eq_some_iff.mp hj).1 hj)
                rw [e] at k0
                walk_at "go"
                exact k0
theorem G_is_name (T : TL K mg) : FX P w K mg base 1 "is_name" [] (spNm K w) := by
  obtain ⟨fd, F, h⟩ := ok_is_name (P := P) (w := w) (base := base) T
  exact FX.of F (g_is_name T) h (fun _ _ _ _ _ _ us hl => match us, hl with | [_], _ => rfl)
theorem G_is_name1 (T : TL K mg) : FX1 P w K mg base 1 "is_name" "value" (spNm K w) := by
  obtain ⟨fd, F, h⟩ := ok_is_name (P := P) (w := w) (base := base) T
  refine ⟨_, fd, h, g_is_name T, F.kp, fun s u => ?_⟩
  obtain ⟨oc, od, dV, kV, doc, pm, an, cdv, ct, osl, rfl, lk, hcd, hD, hK⟩ := F.ex
  rcases hD with ⟨_, rfl⟩ | ⟨e, _⟩
  · exact .of_eq rfl
  · exact absurd rfl e
theorem G__law_is_name (T : TL K mg) : FX P w K mg base 1 "_law_is_name" [] (spNm K w) := by
  obtain ⟨fd, F⟩ := F__law_is_name T
  refine FX.of F (g__law_is_name T) (F.ok0 sc__law_is_name (fun vs H Q E h => ?_) (fun cdv A outer s H vs Q E hr h => ?_)) (fun _ _ _ _ _ _ us hl => match us, hl with | [_], _ => rfl)
  · unfold spNm at h
    rcases h with ⟨v, t, rfl, _⟩ | ⟨z, rfl, _⟩ <;> rfl
  · refine ⟨_, (pss_cons (ps_if (PW.pt (pw_or (pt_not (pt_val (pe_callB call_isG (by rfl) (f_isinstance T) (by decide +kernel) (pa_cons (pv 0) (pa_cons (pe_bty (n := "str") (f_str T) (by decide +kernel)) pa_nil))))) (pw_or1 (pt_cmpR op_in_seq (pv 0) (pe_lst (pa_cons pe_str (pa_cons pe_str (pa_cons pe_str (pa_cons pe_str (pa_cons pe_str (pa_cons pe_str pa_nil))))))) rfl))))
        (pss_one (ps_ret pe_bl))
        pss_nil)
      (pss_cons (ps_if (PW.pt (pw_or (pt_cmpR op_lt (pe_callB call_lenG (by rfl) (f_len T) (by decide +kernel) (pa_cons (pv 0) pa_nil)) pe_int (nomark _)) (pw_or (pt_cmpR op_gt (pe_callB call_lenG (by rfl) (f_len T) (by decide +kernel) (pa_cons (pv 0) pa_nil)) pe_int (nomark _)) (pw_or1 (pt_cmpR op_notIn_sign (pe_ix ix_seq (pv 0) pe_int (fun _ _ => rfl)) pe_str rfl)))))
        (pss_one (ps_ret pe_bl))
        pss_nil)
      (pss_one (ps_ret (pe_cmpR op_eq (pe_callB call_lenG (by rfl) (f_len T) (by decide +kernel) (pa_cons (pe_lc (own := [("c", 1)]) (g := gName 1) (tt := _) rfl sc__law_is_name.nd (pi_str (pv 0)) (blkOk_by (N := N__law_is_name) (sc := defScope s__law_is_name) (by decide +kernel)) (fun _ _ _ _ _ => pg_name (i := 1) sc__law_is_name.nd rfl (Or.inl rfl)) (fun _ _ _ _ _ => pts_one (pt_cmpR op_notIn_sign (pv 1) pe_str rfl)) (fun _ _ _ _ _ => (pv 1))) pa_nil)) pe_int (nomark _)))))), ?_⟩
    unfold spNm at h
    rcases h with ⟨v, t, rfl, ty, ht, k⟩ | ⟨z, rfl, hz, k⟩
    · have k0 := k H (Same.refl H)
      rcases ht with ⟨n, hn, rfl⟩ | rfl
      · simp only [List.mem_cons, List.not_mem_nil, or_false] at hn
        rcases hn with rfl | rfl | rfl | rfl | rfl | rfl
        all_goals (walk_at "go"; exact k0)
      · walk_at "go"
        exact k0
    · have k0 := k H (Same.refl H)
      have lz : z.cps.toList.length = z.length := by simp [PySem.Str.length]
      have hz2 : z.length ≤ sizeLine := Nat.le_trans hz (by decide)
      walk_at "go"
      intro r1 n1
      generalize e1 : upd H r1 _ = H1
      have a1 : H1 r1 = some (.lst [.str "and", .str "or", .str "all", .str "none", .str "again", .str "any"]) := by rw [← e1]; exact upd_same
      have s1 : Same H H1 := by rw [← e1]; exact Same.new n1
      have k1 := k H1 s1
      refine ⟨r1, _, rfl, .inl (SqL.of a1), rfl, rfl, ?_⟩
      rw [inV_six]
      walk_at "go"
      refine st_if (fun c1 => ?_) (fun c1 => ?_)
      · rw [isN_word c1] at k1
        walk_at "go"
        exact k1
      · walk_at "go"
        refine st_lenS hz2 ?_
        walk_at "go"
        refine st_if (fun c2 => ?_) (fun c2 => ?_)
        · rw [isN_short (by omega)] at k1
          walk_at "go"
          exact k1
        · walk_at "go"
          refine st_lenS hz2 ?_
          walk_at "go"
          refine st_if (fun c3 => ?_) (fun c3 => ?_)
          · rw [isN_long (by omega)] at k1
            walk_at "go"
            exact k1
          · have hne : z.cps.toList ≠ [] := fun q => by rw [q] at lz; simp only [List.length_nil] at lz; omega
            obtain ⟨c, cs, hc⟩ := List.exists_cons_of_ne_nil hne
            walk_at "go"
            refine st_ixs hz2 (by show atI z.cps.toList ((0 : Nat) : Int) = some c; exact atI_nat (by rw [hc]; rfl)) ?_
            walk_at "go"
            refine st_ifn (fun c4 => ?_) (fun c4 => ?_)
            · rw [isN_first hc c4] at k1
              walk_at "go"
              exact k1
            · walk_at "go"
              intro D nD
              refine lc_strL (fun i H2 => ∃ acc : List V, H2 D = some (.lst acc) ∧ (acc = [] ↔ ∀ j x, j < i → z.cps[j]? = some x → x ∈ aTo9.cps.toList) ∧ acc.length ≤ i ∧ Same H1 H2) ⟨[], upd_same, ⟨fun _ j x hj => absurd hj (Nat.not_lt_zero _), fun _ => rfl⟩, Nat.le_refl _, Same.new nD⟩ ?_ ?_
              · rintro i x H2 hx ⟨acc, f1, f2, f3, f4⟩
                have ix : i < z.cps.size := (Array.getElem?_eq_some_iff.mp hx).1
                have sz : z.cps.size = z.length := rfl
                walk_at "go"
                refine st_ifn (fun c5 => ?_) (fun c5 => ?_)
                · walk_at "go"
                  refine ⟨acc, f1, Nat.lt_of_le_of_lt (show acc.length ≤ 1000 by omega) (by decide), _, upd_same, ?_, ?_, fun a o q => ?_⟩
                  · refine ⟨fun q => absurd q (by simp), fun q => absurd (q i x (Nat.lt_succ_self i) hx) c5⟩
                  · rw [List.length_append]
                    exact Nat.succ_le_succ f3
                  · rw [upd_ne (ne_of_none q nD)]
                    exact f4 _ _ q
                · refine ⟨acc, f1, ?_, Nat.le_succ_of_le f3, f4⟩
                  rw [f2]
                  refine ⟨fun q j y hj hy => ?_, fun q j y hj hy => q j y (by omega) hy⟩
                  by_cases e : j = i
                  · subst e
                    rw [hx] at hy
                    rw [← Option.some.inj hy]
                    exact c5
                  · exact q j y (by omega) hy
              · rintro H2 ⟨acc, f1, f2, f3, f4⟩
                have k2 := k H2 (s1.trans f4)
                walk_at "go"
                have e : isN z = decide (V.int (acc.length : Int) = V.int 0) := by
                  by_cases ha : acc = []
                  · rw [isN_yes c1 (by omega) hc c4 (fun x hx => by
                      obtain ⟨j, hj⟩ := List.mem_iff_getElem?.mp hx
                      rw [Array.getElem?_toList] at hj
                      exact (f2.mp ha) j x (Array.getElem?_eq_some_iff.mp hj).1 hj), ha] <;> rfl
                  · have nall : ¬ ∀ j x, j < z.cps.size → z.cps[j]? = some x → x ∈ aTo9.cps.toList := fun q => ha (f2.mpr q)
                    obtain ⟨j, hj⟩ := Classical.not_forall.mp nall
                    obtain ⟨x, hj⟩ := Classical.not_forall.mp hj
                    obtain ⟨hlt, hj⟩ := Classical.not_forall.mp hj
                    obtain ⟨hx, hj⟩ := Classical.not_forall.mp hj
                    rw [isN_sign (List.mem_of_getElem? (by rw [Array.getElem?_toList]; exact hx)) hj, decide_eq_false]
                    intro q
                    have q2 := V.int.inj q
                    exact ha (List.length_eq_zero_iff.mp (by omega))
                rw [e] at k2
                exact k2
end
end K00
end -- a12
section -- a13
set_option Elab.async false
set_option linter.all false
set_option maxRecDepth 100000
set_option maxHeartbeats 4000000
local macro_rules | `(tactic| walk_at "lvl") => `(tactic| first
  | decide
  | omega
  | (simp only [Nat.add_eq]; omega))
local macro_rules | `(tactic| walk_at "side") => `(tactic| first
  | decide
  | assumption
  | omega
  | exact Nat.le_of_ble_eq_true (by rfl)
  | exact ⟨by decide, by decide⟩
  | exact ⟨by decide, by decide, by decide⟩
  | exact Or.inl (Or.inr ⟨by decide, by decide⟩)
  | exact Or.inl (Or.inl ⟨by decide, by decide⟩))
local macro_rules | `(tactic| walk_at "ty") => `(tactic| first
  | assumption
  | exact L2.TyG.x (.base (.int _))
  | exact L2.TyG.x (.base (.str _))
  | exact L2.TyG.x (.base (.bl _))
  | exact L2.TyG.x (.base .non)
  | exact L2.TyG.x (.base (.lst (by assumption)))
  | exact L2.TyG.x (.base (.tup (by assumption)))
  | exact K00.tyR (by assumption) (by assumption)
  | exact L2.TyG.dn (by assumption))
local macro_rules | `(tactic| walk_at "cv") => `(tactic| first
  | exact L2.ClsV.ty _
  | exact L2.ClsV.own _)
local macro_rules | `(tactic| walk_at "kit") => `(tactic| first
  | exact L2.kit_ty (by decide +kernel)
  | exact K00.kR (by assumption) (by decide)
  | exact K00.kR2 (by assumption) (by decide)
  | exact K00.kR3 (by assumption))
local macro_rules | `(tactic| walk_at "s1") => `(tactic| first
  | refine ⟨_, rfl, ?_⟩
  | refine ⟨_, _, rfl, rfl, ?_⟩
  | refine ⟨_, _, rfl, ?_⟩
  | refine And.intro rfl ?_
  | refine L2.iteT ?_
  | refine L2.iteF ?_
  | refine L2.st_ixl (by assumption) (by rfl) ?_
  | refine L2.st_ixt (by assumption) (by rfl) ?_
  | refine L2.st_lenR (L2.lenr_l (by assumption)) ?_
  | refine L2.st_lenGR (L2.lenr_l (by assumption)) ?_
  | refine L2.st_lenGR (L2.lenr_t (by assumption)) ?_
  | refine L2.st_lenR (L2.lenr_t (by assumption)) ?_
  | refine L2.st_isG (b := false) (by walk_at "ty") (by walk_at "cv") (by walk_at "kit") ?_
  | refine L2.st_isG (b := true) (by walk_at "ty") (by walk_at "cv") (by walk_at "kit") ?_
  | refine And.intro (by walk_at "side") ?_)
local macro_rules | `(tactic| walk_at "go") => `(tactic| repeat (walk_at "s1"))
namespace K00
open PySem PySem.Spec PyProof.Rows L2
def w21 : List Str := ["and", "or", "all", "none", "again", "any", "an", "ands", "nor", "ore", "ball", "alls", "a", "anyy", "nonE", "Any", "a.", "or ", " or", "noneall", "again1"]
def w6 : List Str := ["abcdefghijklmnopqrstuvwxyz0123456789", "az09", "az09", "az09 _-A./\n", "0a", "AZ az"]
def w23 : List Str := ["it", "p", "l0", "l1", "r0", "done", "letters", "dials", "place", "start", "move", "show", "tell", "book", "begin", "arrow", "end", "count", "x", "d", "plus", "device", "form"]
def w16 : List Str := ["u", "v2", "w", "q", "t0", "e", "d7", "a", "aa", "b", "m3", "z9", "yes", "k1", "s", "n0"]
def c11 : List Int := [1, 8, 9, 0, 2, 8, 3, 7, 1, 10, 4]
def c8 : List Int := [0, 0, 1, 0, 2, 7, 0, 4]
theorem pickM {zs : List Str} {x : V} (hx : x ∈ zs.map V.str) : ∃ z, x = .str z ∧ z ∈ zs := by
  obtain ⟨z, h, rfl⟩ := List.mem_map.mp hx
  exact ⟨z, rfl, h⟩
theorem pickI {zs : List Int} {x : V} (hx : x ∈ zs.map V.int) : ∃ i, x = .int i ∧ i ∈ zs := by
  obtain ⟨z, h, rfl⟩ := List.mem_map.mp hx
  exact ⟨z, rfl, h⟩
theorem len_one (z : Str) (c : Nat) : (z ++ (⟨#[c]⟩ : Str)).length = z.length + 1 := by
  show (z.cps ++ #[c]).size = z.cps.size + 1
  simp
section
variable {P : Program} {w : World} {K : PySem.W.Frag} {mg : Str → Option Value} {base : Heap}
/-- a text is drawn -/
def spStr : Sp := fun vs H Q _ => ∃ (b l : Addr), vs = [.ref b] ∧ BagAt b l H ∧ ∀ (z : Str) (H' : Hp), z.length ≤ 20 → BagAt b l H' → Ext b H H' → Q (.str z) H'
theorem G__law_string (T : TL K mg) : FX P w K mg base 3 "_law_string" [] spStr := by
  obtain ⟨fd, F⟩ := F__law_string T
  refine FX.of F (g__law_string T) (F.ok0 sc__law_string (fun vs H Q E h => ?_) (fun cdv A outer s H vs Q E hr h => ?_)) (fun _ _ _ _ _ _ us hl => match us, hl with | [_], _ => rfl)
  · obtain ⟨b, l, rfl, _⟩ := h
    rfl
  · obtain ⟨b, l, rfl, hB, k⟩ := h
    refine ⟨_, (pss_cons (ps_if (pt_cmpR op_eq (pe_fx (G__law_draw T) (hr.mono (by walk_at "lvl")) passL (pa_cons (pv 0) (pa_cons pe_int pa_nil))) pe_int (nomark _))
        (pss_one (ps_ret (pe_fx (G__law_of T) (hr.mono (by walk_at "lvl")) passL (pa_cons (pv 0) (pa_cons (pe_lst (pa_cons pe_str (pa_cons pe_str (pa_cons pe_str (pa_cons pe_str (pa_cons pe_str (pa_cons pe_str (pa_cons pe_str (pa_cons pe_str (pa_cons pe_str (pa_cons pe_str (pa_cons pe_str (pa_cons pe_str (pa_cons pe_str (pa_cons pe_str (pa_cons pe_str (pa_cons pe_str (pa_cons pe_str (pa_cons pe_str (pa_cons pe_str (pa_cons pe_str (pa_cons pe_str pa_nil)))))))))))))))))))))) pa_nil)))))
        pss_nil)
      (pss_cons (ps_set (i := 1) sc__law_string.nd rfl (by first | exact Or.inl rfl | exact Or.inr rfl) (pe_fx (G__law_of T) (hr.mono (by walk_at "lvl")) passL (pa_cons (pv 0) (pa_cons (pe_lst (pa_cons pe_str (pa_cons pe_str (pa_cons pe_str (pa_cons pe_str (pa_cons pe_str (pa_cons pe_str pa_nil))))))) pa_nil))))
      (pss_cons (ps_set (i := 2) sc__law_string.nd rfl (by first | exact Or.inl rfl | exact Or.inr rfl) pe_str)
      (pss_cons (ps_for PassesOwn.never rfl (pi_range1 rfl (f_range T) (pa_cons (pe_fx (G__law_of T) (hr.mono (by walk_at "lvl")) passL (pa_cons (pv 0) (pa_cons (pe_lst (pa_cons pe_int (pa_cons pe_int (pa_cons pe_int (pa_cons pe_int (pa_cons pe_int (pa_cons pe_int (pa_cons pe_int (pa_cons pe_int (pa_cons pe_int (pa_cons pe_int (pa_cons pe_int pa_nil)))))))))))) pa_nil))) pa_nil)) (pg_name (i := 3) sc__law_string.nd rfl (by first | exact Or.inl rfl | exact Or.inr rfl))
        (pss_one (ps_set (i := 2) sc__law_string.nd rfl (by first | exact Or.inl rfl | exact Or.inr rfl) (pe_op op_addG (pv 2) (pe_fx (G__law_of T) (hr.mono (by walk_at "lvl")) passL (pa_cons (pv 0) (pa_cons (pv 1) pa_nil)))))))
      (pss_one (ps_ret (pv 2))))))), ?_⟩
    walk_at "go"
    refine ⟨b, l, 3, rfl, hB, by decide, fun d H1 d0 d1 hB1 x1 => ?_⟩
    walk_at "go"
    refine st_if (fun c1 => ?_) (fun c1 => ?_)
    · walk_at "go"
      intro t1 n1
      generalize e1 : upd H1 t1 _ = G1
      have a1 : G1 t1 = some (.lst (w21.map V.str)) := by rw [← e1]; exact upd_same
      have s1 : Same H1 G1 := by rw [← e1]; exact Same.new n1
      refine .inl ⟨b, l, t1, _, rfl, hB1.same s1, .inl (SqL.of a1), notB hB1 n1, by decide, by decide, fun x H2 hx hBH2 xH2 => ?_⟩
      obtain ⟨z, rfl, hz⟩ := pickS (zs := w21) (by decide) hx
      exact k z H2 hz hBH2 ((x1.trans (Ext.of s1)).trans xH2)
    · walk_at "go"
      intro t2 n2
      generalize e2 : upd H1 t2 _ = G2
      have a2 : G2 t2 = some (.lst (w6.map V.str)) := by rw [← e2]; exact upd_same
      have s2 : Same H1 G2 := by rw [← e2]; exact Same.new n2
      refine .inl ⟨b, l, t2, _, rfl, hB1.same s2, .inl (SqL.of a2), notB hB1 n2, by decide, by decide, fun x H2 hx hBH2 xH2 => ?_⟩
      obtain ⟨menu, rfl, hm⟩ := pickM hx
      have hm0 : 0 < menu.length ∧ menu.length < 1000 := by
        have key : ∀ z ∈ w6, 0 < z.length ∧ z.length < 1000 := by decide
        exact key menu hm
      have x2 := (x1.trans (Ext.of s2)).trans xH2
      walk_at "go"
      intro t3 n3
      generalize e3 : upd H2 t3 _ = G3
      have a3 : G3 t3 = some (.lst (c11.map V.int)) := by rw [← e3]; exact upd_same
      have s3 : Same H2 G3 := by rw [← e3]; exact Same.new n3
      refine .inl ⟨b, l, t3, _, rfl, hBH2.same s3, .inl (SqL.of a3), notB hBH2 n3, by decide, by decide, fun y H3 hy hBH3 xH3 => ?_⟩
      obtain ⟨j, rfl, hj⟩ := pickI hy
      have hj2 : 0 ≤ j ∧ j ≤ 10 := by
        have key : ∀ z ∈ c11, 0 ≤ z ∧ z ≤ 10 := by decide
        exact key j hj
      have x3 := (x2.trans (Ext.of s3)).trans xH3
      walk_at "go"
      refine for_range (lo := 0) (fun i σ H' => ∃ (z : Str) (kv : Option V), σ = [some (.ref b), some (.str menu), some (.str z), kv] ∧ z.length ≤ i ∧ BagAt b l H' ∧ Ext b H H') ⟨"", none, rfl, Nat.le_refl 0, hBH3, x3⟩ ?_ ?_
      · rintro i σ H' hi ⟨z, kv, rfl, hz, hB', x'⟩
        walk_at "go"
        refine .inr ⟨b, l, menu, rfl, hB', hm0.1, hm0.2, fun c H4 hc hB4 x4 => ?_⟩
        refine ⟨?_, ?_⟩
        · show z.length + 1 ≤ sizeLine
          exact Nat.le_trans (show z.length + 1 ≤ 100 by omega) (by decide)
        · walk_at "go"
          refine ⟨by rw [len_one]; omega, hB4, x'.trans x4⟩
      · rintro σ H' ⟨z, kv, rfl, hz, hB', x'⟩
        walk_at "go"
        exact k z H' (by omega) hB' x'
/-- a name is drawn, none is taken -/
def spName : Sp := fun vs H Q _ => ∃ (b l t : Addr), vs = [.ref b, .ref t] ∧ BagAt b l H ∧ t ≠ b ∧ H t = some (.lst []) ∧ ∀ (z : Str) (H' : Hp), isN z = true → BagAt b l H' → Ext b H H' → Q (.str z) H'
theorem G__law_name (T : TL K mg) : FX P w K mg base 3 "_law_name" [] spName := by
  have GN := G__law_is_name (P := P) (w := w) (base := base) T
  obtain ⟨fd, F⟩ := F__law_name T
  refine FX.of F (g__law_name T) (F.ok0 sc__law_name (fun vs H Q E h => ?_) (fun cdv A outer s H vs Q E hr h => ?_)) (fun _ _ _ _ _ _ us hl => match us, hl with | [_, _], _ => rfl)
  · obtain ⟨b, l, t, rfl, _⟩ := h
    rfl
  · obtain ⟨b, l, t, rfl, hB, tb, ht, k⟩ := h
    refine ⟨_, (C8.pss_cut (ps_if (pt_cmpR op_eq (pe_fx (G__law_draw T) (hr.mono (by walk_at "lvl")) passL (pa_cons (pv 0) (pa_cons pe_int pa_nil))) pe_int (nomark _))
        (pss_one (ps_set (i := 2) sc__law_name.nd rfl (by first | exact Or.inl rfl | exact Or.inr rfl) (pe_fx (G__law_of T) (hr.mono (by walk_at "lvl")) passL (pa_cons (pv 0) (pa_cons (pe_lst (pa_cons pe_str (pa_cons pe_str (pa_cons pe_str (pa_cons pe_str (pa_cons pe_str (pa_cons pe_str (pa_cons pe_str (pa_cons pe_str (pa_cons pe_str (pa_cons pe_str (pa_cons pe_str (pa_cons pe_str (pa_cons pe_str (pa_cons pe_str (pa_cons pe_str (pa_cons pe_str (pa_cons pe_str (pa_cons pe_str (pa_cons pe_str (pa_cons pe_str (pa_cons pe_str (pa_cons pe_str (pa_cons pe_str pa_nil)))))))))))))))))))))))) pa_nil)))))
        (pss_cons (ps_set (i := 2) sc__law_name.nd rfl (by first | exact Or.inl rfl | exact Or.inr rfl) (pe_fx (G__law_of T) (hr.mono (by walk_at "lvl")) passL (pa_cons (pv 0) (pa_cons pe_str pa_nil))))
        (pss_one (ps_for PassesOwn.never rfl (pi_range1 rfl (f_range T) (pa_cons (pe_fx (G__law_of T) (hr.mono (by walk_at "lvl")) passL (pa_cons (pv 0) (pa_cons (pe_lst (pa_cons pe_int (pa_cons pe_int (pa_cons pe_int (pa_cons pe_int (pa_cons pe_int (pa_cons pe_int (pa_cons pe_int (pa_cons pe_int pa_nil))))))))) pa_nil))) pa_nil)) (pg_name (i := 3) sc__law_name.nd rfl (by first | exact Or.inl rfl | exact Or.inr rfl))
          (pss_one (ps_set (i := 2) sc__law_name.nd rfl (by first | exact Or.inl rfl | exact Or.inr rfl) (pe_op op_addG (pv 2) (pe_fx (G__law_of T) (hr.mono (by walk_at "lvl")) passL (pa_cons (pv 0) (pa_cons pe_str pa_nil))))))))))
      (pss_cons (ps_if (PW.pt (pw_or (pt_cmpR op_in_seq (pv 2) (pv 1) rfl) (pw_or1 (pt_not (pt_val (pe_fx (G__law_is_name T) (hr.mono (by walk_at "lvl")) passL (pa_cons (pv 2) pa_nil)))))))
        (pss_cons (ps_set (i := 4) sc__law_name.nd rfl (by first | exact Or.inl rfl | exact Or.inr rfl) (pe_lst (pa_cons pe_str (pa_cons pe_str (pa_cons pe_str (pa_cons pe_str (pa_cons pe_str (pa_cons pe_str (pa_cons pe_str (pa_cons pe_str (pa_cons pe_str (pa_cons pe_str (pa_cons pe_str (pa_cons pe_str (pa_cons pe_str (pa_cons pe_str (pa_cons pe_str (pa_cons pe_str pa_nil))))))))))))))))))
        (pss_one (ps_ret (pe_ix ix_seq (pe_lc (own := [("fresh", 5)]) (g := gName 5) (tt := _) rfl sc__law_name.nd (pi_list (pv 4)) (blkOk_by (N := N__law_name) (sc := defScope s__law_name) (by decide +kernel)) (fun _ _ _ _ _ => pg_name (i := 5) sc__law_name.nd rfl (Or.inl rfl)) (fun _ _ _ _ _ => pts_one (pt_cmpR (op_notInK (K := K) rfl) (pv 5) (pv 1) rfl)) (fun _ _ _ _ _ => (pv 5))) pe_int (fun _ _ => rfl)))))
        pss_nil)
      (pss_one (ps_ret (pv 2))))), ?_⟩
    walk_at "go"
    refine ⟨fun σ H' => ∃ (z : Str) (kv : Option V), σ = [some (.ref b), some (.ref t), some (.str z), kv, none, none] ∧ z.length ≤ 100 ∧ BagAt b l H' ∧ Ext b H H', ?_, ?_⟩
    · walk_at "go"
      refine ⟨b, l, 5, rfl, hB, by decide, fun d H1 d0 d1 hB1 x1 => ?_⟩
      walk_at "go"
      refine st_if (fun c1 => ?_) (fun c1 => ?_)
      · walk_at "go"
        intro t1 n1
        generalize e1 : upd H1 t1 _ = G1
        have a1 : G1 t1 = some (.lst (w23.map V.str)) := by rw [← e1]; exact upd_same
        have s1 : Same H1 G1 := by rw [← e1]; exact Same.new n1
        refine .inl ⟨b, l, t1, _, rfl, hB1.same s1, .inl (SqL.of a1), notB hB1 n1, by decide, by decide, fun x H2 hx hBH2 xH2 => ?_⟩
        obtain ⟨z, rfl, hz⟩ := pickM hx
        have hz2 : z.length ≤ 100 := by
          have key : ∀ z ∈ w23, z.length ≤ 100 := by decide
          exact key z hz
        exact ⟨z, none, rfl, hz2, hBH2, (x1.trans (Ext.of s1)).trans xH2⟩
      · walk_at "go"
        refine .inr ⟨b, l, aToZ, rfl, hB1, by decide, by decide, fun c H2 hc hB2 x2 => ?_⟩
        walk_at "go"
        intro t3 n3
        generalize e3 : upd H2 t3 _ = G3
        have a3 : G3 t3 = some (.lst (c8.map V.int)) := by rw [← e3]; exact upd_same
        have s3 : Same H2 G3 := by rw [← e3]; exact Same.new n3
        refine .inl ⟨b, l, t3, _, rfl, hB2.same s3, .inl (SqL.of a3), notB hB2 n3, by decide, by decide, fun y H3 hy hBH3 xH3 => ?_⟩
        obtain ⟨j, rfl, hj⟩ := pickI hy
        have hj2 : 0 ≤ j ∧ j ≤ 10 := by
          have key : ∀ z ∈ c8, 0 ≤ z ∧ z ≤ 10 := by decide
          exact key j hj
        have x3 := ((x1.trans x2).trans (Ext.of s3)).trans xH3
        walk_at "go"
        refine for_range (lo := 0) (fun i σ H' => ∃ (z : Str) (kv : Option V), σ = [some (.ref b), some (.ref t), some (.str z), kv, none, none] ∧ z.length ≤ i + 1 ∧ BagAt b l H' ∧ Ext b H H') ⟨_, none, rfl, Nat.le_refl 1, hBH3, x3⟩ ?_ ?_
        · rintro i σ H' hi ⟨z, kv, rfl, hz, hB', x'⟩
          walk_at "go"
          refine .inr ⟨b, l, aTo9, rfl, hB', by decide, by decide, fun c H4 hc hB4 x4 => ?_⟩
          refine ⟨?_, ?_⟩
          · show z.length + 1 ≤ sizeLine
            exact Nat.le_trans (show z.length + 1 ≤ 100 by omega) (by decide)
          · walk_at "go"
            exact ⟨by rw [len_one]; omega, hB4, x'.trans x4⟩
        · rintro σ H' ⟨z, kv, rfl, hz, hB', x'⟩
          exact ⟨z, kv, rfl, by omega, hB', x'⟩
    · rintro σ H1 ⟨z, kv, rfl, hz, hB1, x1⟩
      have ht1 : H1 t = some (.lst []) := x1 t _ tb ht
      walk_at "go"
      refine ⟨t, [], rfl, .inl (SqL.of ht1), rfl, rfl, ?_⟩
      walk_at "go"
      refine st_nmS (by omega) fun H2 s2 => ?_
      walk_at "go"
      have x2 := x1.trans (Ext.of s2)
      cases e : isN z with
      | true =>
        walk_at "go"
        exact k z H2 e (hB1.same s2) x2
      | false =>
        walk_at "go"
        intro t4 n4
        generalize e4 : upd H2 t4 _ = G4
        have a4 : G4 t4 = some (.lst (w16.map V.str)) := by rw [← e4]; exact upd_same
        have s4 : Same H2 G4 := by rw [← e4]; exact Same.new n4
        have ht4 : G4 t = some (.lst []) := s4 _ _ (s2 _ _ ht1)
        walk_at "go"
        refine ⟨⟨_, SqL.of a4⟩, fun D nD => ?_⟩
        refine lc_list (a := t4) (xs := w16.map V.str) (fun i H5 => H5 D = some (.lst ((w16.take i).map V.str)) ∧ Same G4 H5) ⟨upd_same, Same.new nD⟩ (fun i H5 _ h => SqL.of (h.2 _ _ a4)) ?_ ?_
        · rintro i x H5 hx ⟨f1, f2⟩
          have hi : i < w16.length := by
            have := (List.getElem?_eq_some_iff.mp hx).1
            rwa [List.length_map] at this
          have hxe : x = .str w16[i] := by
            rw [List.getElem?_map, List.getElem?_eq_getElem hi] at hx
            exact (Option.some.inj hx).symm
          subst hxe
          walk_at "go"
          refine ⟨t, [], rfl, .inl (SqL.of (f2 _ _ ht4)), rfl, rfl, ?_⟩
          walk_at "go"
          refine ⟨_, f1, ?_, ?_, fun a o q => ?_⟩
          · rw [List.length_map]
            exact Nat.lt_of_le_of_lt (List.length_take_le i w16) (Nat.lt_of_lt_of_le hi (by decide))
          · rw [upd_same, List.take_succ, List.map_append, List.getElem?_eq_getElem hi] <;> rfl
          · rw [upd_ne (ne_of_none q nD)]
            exact f2 _ _ q
        · rintro H5 ⟨f1, f2⟩
          walk_at "go"
          exact k _ H5 (by decide) ((hB1.same s2).same (s4.trans f2)) (x2.trans (Ext.of (s4.trans f2)))
end
end K00
end -- a13
section -- a14
set_option Elab.async false
set_option linter.all false
set_option maxRecDepth 100000
set_option maxHeartbeats 4000000
local macro_rules | `(tactic| walk_at "lvl") => `(tactic| first
  | decide
  | omega
  | (simp only [Nat.add_eq]; omega))
local macro_rules | `(tactic| walk_at "side") => `(tactic| first
  | decide
  | assumption
  | omega
  | exact Nat.le_of_ble_eq_true (by rfl)
  | exact ⟨by decide, by decide⟩
  | exact ⟨by decide, by decide, by decide⟩
  | exact Or.inl (Or.inr ⟨by decide, by decide⟩)
  | exact Or.inl (Or.inl ⟨by decide, by decide⟩))
local macro_rules | `(tactic| walk_at "ty") => `(tactic| first
  | assumption
  | exact L2.TyG.x (.base (.int _))
  | exact L2.TyG.x (.base (.str _))
  | exact L2.TyG.x (.base (.bl _))
  | exact L2.TyG.x (.base .non)
  | exact L2.TyG.x (.base (.lst (by assumption)))
  | exact L2.TyG.x (.base (.tup (by assumption)))
  | exact K00.tyR (by assumption) (by assumption)
  | exact L2.TyG.dn (by assumption))
local macro_rules | `(tactic| walk_at "cv") => `(tactic| first
  | exact L2.ClsV.ty _
  | exact L2.ClsV.own _)
local macro_rules | `(tactic| walk_at "kit") => `(tactic| first
  | exact L2.kit_ty (by decide +kernel)
  | exact K00.kR (by assumption) (by decide)
  | exact K00.kR2 (by assumption) (by decide)
  | exact K00.kR3 (by assumption))
local macro_rules | `(tactic| walk_at "s1") => `(tactic| first
  | refine ⟨_, rfl, ?_⟩
  | refine ⟨_, _, rfl, rfl, ?_⟩
  | refine ⟨_, _, rfl, ?_⟩
  | refine And.intro rfl ?_
  | refine L2.iteT ?_
  | refine L2.iteF ?_
  | refine L2.st_ixl (by assumption) (by rfl) ?_
  | refine L2.st_ixt (by assumption) (by rfl) ?_
  | refine L2.st_lenR (L2.lenr_l (by assumption)) ?_
  | refine L2.st_lenGR (L2.lenr_l (by assumption)) ?_
  | refine L2.st_lenGR (L2.lenr_t (by assumption)) ?_
  | refine L2.st_lenR (L2.lenr_t (by assumption)) ?_
  | refine L2.st_isG (b := false) (by walk_at "ty") (by walk_at "cv") (by walk_at "kit") ?_
  | refine L2.st_isG (b := true) (by walk_at "ty") (by walk_at "cv") (by walk_at "kit") ?_
  | refine And.intro (by walk_at "side") ?_)
local macro_rules | `(tactic| walk_at "go") => `(tactic| repeat (walk_at "s1"))
namespace K00
open PySem PySem.Spec PyProof.Rows L2
section
variable {P : Program} {w : World} {K : PySem.W.Frag} {mg : Str → Option Value} {base : Heap}
/-- both readings of a name answer alike -/
theorem nmOk (T : TL K mg) {v : V} {H : Hp} (hv : Vl K w 3 H v) : ∃ r : Bool, ∀ {H' : Hp} {Q : VK} {E : XK}, Same H H' → (∀ H'', Same H' H'' → Q (.bl r) H'') → spNm K w [v] H' Q E := by
  rcases hv with (rfl | ⟨y, rfl⟩ | ⟨i, rfl⟩ | ⟨z, rfl, hz⟩ | ⟨a, dx, i, j, rfl, ha⟩) | ⟨a, xs, rfl, ha | ha, hl, hx⟩ | ⟨a, kvs, rfl, ha, hl, hx⟩
  · exact ⟨false, fun s k => st_nmV (.x (.base .non)) (.inl ⟨_, by decide, rfl⟩) k⟩
  · exact ⟨false, fun s k => st_nmV (.x (.base (.bl _))) (.inl ⟨_, by decide, rfl⟩) k⟩
  · exact ⟨false, fun s k => st_nmV (.x (.base (.int _))) (.inl ⟨_, by decide, rfl⟩) k⟩
  · exact ⟨isN z, fun s k => st_nmS (by omega) k⟩
  · exact ⟨false, fun s k => st_nmV (tyR T (s _ _ ha)) (.inr rfl) k⟩
  · exact ⟨false, fun s k => st_nmV (.x (.base (.lst (s _ _ ha)))) (.inl ⟨_, by decide, rfl⟩) k⟩
  · exact ⟨false, fun s k => st_nmV (.x (.base (.tup (s _ _ ha)))) (.inl ⟨_, by decide, rfl⟩) k⟩
  · exact ⟨false, fun s k => st_nmV (.dn (s _ _ ha)) (.inl ⟨_, by decide, rfl⟩) k⟩
theorem isN_facts {z : Str} (h : isN z = true) : z.length ≤ 8 ∧ ∃ c cs, z.cps.toList = c :: cs ∧ c ∈ aToZ.cps.toList ∧ ∀ x ∈ z.cps.toList, x ∈ aTo9.cps.toList := by
  unfold isN at h
  simp only [Bool.and_eq_true, decide_eq_true_eq] at h
  obtain ⟨_, h1, h2, h3, h4⟩ := h
  rw [List.all_eq_true] at h4
  refine ⟨h2, ?_⟩
  cases e : z.cps.toList with
  | nil => rw [e] at h3; cases h3
  | cons c cs =>
    rw [e] at h3
    refine ⟨c, cs, rfl, of_decide_eq_true h3, fun x hx => of_decide_eq_true (h4 x (by rw [e]; exact hx))⟩
theorem cut_le (z : Str) : (cutS z none (some 7)).length ≤ z.length := cutS_length z none (some 7)
def bs8 : List Bool := [true, false, false, false, false, false, false, false]
theorem isN_under {z : Str} : isN (z ++ "_") = false := by
  refine isN_sign (c := 95) ?_ (by decide)
  show 95 ∈ (z.cps ++ #[95]).toList
  simp
theorem isN_one {z : Str} : isN ("1" ++ z) = false := by
  refine isN_first (c := 49) (cs := z.cps.toList) ?_ (by decide)
  show (#[49] ++ z.cps).toList = _
  simp
theorem isN_blank {z : Str} : isN (" " ++ z) = false := by
  refine isN_first (c := 32) (cs := z.cps.toList) ?_ (by decide)
  show (#[32] ++ z.cps).toList = _
  simp
theorem isN_zeros {z : Str} (h : 1 ≤ z.length) : isN (z ++ "00000000") = false := by
  refine isN_long fun q => ?_
  have e : (z ++ "00000000" : Str).length = z.length + 8 := by
    show (z.cps ++ (#[48, 48, 48, 48, 48, 48, 48, 48] : Array Nat)).size = z.cps.size + 8
    simp
  omega
theorem isN_upper {z : Str} {c : Nat} {cs : List Nat} (hc : z.cps.toList = c :: cs) (hca : c ∈ aToZ.cps.toList) (hall : ∀ x ∈ z.cps.toList, x ∈ aTo9.cps.toList) : (Txt.upper z).length = z.length ∧ isN (Txt.upper z) = false := by
  have ha : (c :: cs).all (· < 128) = true := by
    rw [List.all_eq_true]
    intro x hx
    have key : ∀ y ∈ aTo9.cps.toList, decide (y < 128) = true := by decide
    exact key x (hall x (by rw [hc]; exact hx))
  have e : Txt.upper z = SX.S ((c :: cs).map PyProof.Rows.up1) := by
    rw [← SX.upper_S ha, ← hc, SX.S_tl]
  have key : ∀ y ∈ aToZ.cps.toList, PyProof.Rows.up1 y ∉ aToZ.cps.toList := by decide
  constructor
  · rw [e, SX.S_len, List.length_map, ← hc]
    simp [PySem.Str.length]
  · rw [e]
    exact isN_first (c := PyProof.Rows.up1 c) (cs := cs.map PyProof.Rows.up1) (by simp) (key c hca)
theorem lenAdd {y z : Str} (h1 : y.length ≤ 100) (h2 : z.length ≤ 100) : y.length + z.length ≤ sizeLine := Nat.le_trans (show y.length + z.length ≤ 200 by omega) (by decide)
def spNs : Sp := fun vs H Q _ => ∃ (b l : Addr), vs = [.ref b] ∧ BagAt b l H ∧ ∀ (H' : Hp), BagAt b l H' → Ext b H H' → Q (.bl true) H'
theorem G__law_names_so (T : TL K mg) : FX P w K mg base 8 "_law_names_so" [] spNs := by
  have GV := G_value (P := P) (w := w) (base := base) T 3
  have GNm := G_is_name (P := P) (w := w) (base := base) T
  have R := G_like (P := P) (w := w) (base := base) T 2
  obtain ⟨fd, F⟩ := F__law_names_so T
  refine FX.of F (g__law_names_so T) (F.ok0 sc__law_names_so (fun vs H Q E h => ?_) (fun cdv A outer s H vs Q E hr h => ?_)) (fun _ _ _ _ _ _ us hl => match us, hl with | [_], _ => rfl)
  · obtain ⟨b, l, rfl, _⟩ := h
    rfl
  · obtain ⟨b, l, rfl, hB, k⟩ := h
    refine ⟨_, (pss_cons (ps_for PassesOwn.never rfl (pi_range1 rfl (f_range T) (pa_cons pe_int pa_nil)) (pg_name (i := 1) sc__law_names_so.nd rfl (by first | exact Or.inl rfl | exact Or.inr rfl))
        (pss_cons (ps_set (i := 2) sc__law_names_so.nd rfl (by first | exact Or.inl rfl | exact Or.inr rfl) (pe_ifExp (pt_cmpR op_gt (pv 1) pe_int (nomark _)) (pe_fx (G__law_string T) (hr.mono (by walk_at "lvl")) passL (pa_cons (pv 0) pa_nil)) (pe_fx GV (hr.mono (by walk_at "lvl")) passL (pa_cons (pv 0) (pa_cons pe_int pa_nil)))))
        (pss_cons (ps_set (i := 3) sc__law_names_so.nd rfl (by first | exact Or.inl rfl | exact Or.inr rfl) (pe_ifExp (pt_cmpR op_in_seq (pv 1) (pe_lst (pa_cons pe_int (pa_cons pe_int pa_nil))) rfl) (pe_fx1 (G_is_name1 T) (hr.mono (by walk_at "lvl")) passL (pv 2)) (pe_fx GNm (hr.mono (by walk_at "lvl")) passL (pa_cons (pv 2) pa_nil))))
        (pss_one (ps_if (pt_not (pt_val (pe_fx R (hr.mono (by walk_at "lvl")) passL (pa_cons (pv 3) (pa_cons (pe_fx (G__law_is_name T) (hr.mono (by walk_at "lvl")) passL (pa_cons (pv 2) pa_nil)) pa_nil)))))
          (pss_one (ps_ret pe_bl))
          pss_nil)))))
      (pss_cons (ps_set (i := 4) sc__law_names_so.nd rfl (by first | exact Or.inl rfl | exact Or.inr rfl) (pe_fx (G__law_name T) (hr.mono (by walk_at "lvl")) passL (pa_cons (pv 0) (pa_cons (pe_lst pa_nil) pa_nil))))
      (pss_cons (ps_set (i := 5) sc__law_names_so.nd rfl (by first | exact Or.inl rfl | exact Or.inr rfl) (pe_lst (pa_cons (pe_lst (pa_cons (pv 4) pa_nil)) (pa_cons (pe_tup (pa_cons (pv 4) pa_nil)) (pa_cons (pe_op op_addG (pv 4) pe_str) (pa_cons (pe_upper (pv 4)) (pa_cons (pe_op op_addG pe_str (pe_slice sl_str (pv 4) po_none (po_some pe_int))) (pa_cons (pe_op op_addG (pv 4) pe_str) (pa_cons (pe_op op_addG pe_str (pe_slice sl_str (pv 4) po_none (po_some pe_int))) pa_nil)))))))))
      (pss_one (ps_ret (pe_fx R (hr.mono (by walk_at "lvl")) passL (pa_cons (pe_lc (own := [("v", 2)]) (g := gName 2) (tt := tYes) rfl sc__law_names_so.nd (pi_list (pe_op op_addG (pe_lst (pa_cons (pv 4) pa_nil)) (pv 5))) (blkOk_by (N := N__law_names_so) (sc := defScope s__law_names_so) (by decide +kernel)) (fun _ _ _ _ _ => pg_name (i := 2) sc__law_names_so.nd rfl (Or.inl rfl)) (fun _ _ _ _ _ => pts_nil) (fun _ _ _ _ _ => (pe_fx GNm (hr.mono (by walk_at "lvl")) passL (pa_cons (pv 2) pa_nil)))) (pa_cons (pe_op op_addG (pe_lst (pa_cons pe_bl pa_nil)) (pe_lc (own := [("v", 2)]) (g := gName 2) (tt := tYes) rfl sc__law_names_so.nd (pi_list (pv 5)) (blkOk_by (N := N__law_names_so) (sc := defScope s__law_names_so) (by decide +kernel)) (fun _ _ _ _ _ => pg_name (i := 2) sc__law_names_so.nd rfl (Or.inl rfl)) (fun _ _ _ _ _ => pts_nil) (fun _ _ _ _ _ => pe_bl))) pa_nil)))))))), ?_⟩
    walk_at "go"
    refine for_range (lo := 0) (fun i σ H' => ∃ (kv v tv : Option V), σ = [some (.ref b), kv, v, tv, none, none] ∧ BagAt b l H' ∧ Ext b H H') ⟨none, none, none, rfl, hB, Ext.refl b H⟩ ?_ ?_
    · rintro i σ H1 hi ⟨kv, v, tv, rfl, hB1, x1⟩
      walk_at "go"
      refine st_if (fun c => ?_) (fun c => ?_)
      · walk_at "go"
        refine ⟨b, l, rfl, hB1, fun z H2 hz hB2 x2 => ?_⟩
        have hv : Vl K w 3 H2 (.str z) := Vl.at0 (.inr (.inr (.inr (.inl ⟨z, rfl, hz⟩)))) 3
        obtain ⟨r, nm⟩ := nmOk T hv
        walk_at "go"
        intro t nt
        generalize e3 : upd H2 t _ = H3
        have a3 : H3 t = some (.lst [.int 3, .int 9]) := by rw [← e3]; exact upd_same
        have s3 : Same H2 H3 := by rw [← e3]; exact Same.new nt
        refine ⟨t, _, rfl, .inl (SqL.of a3), rfl, rfl, ?_⟩
        walk_at "go"
        refine st_ifb (fun _ => ?_) (fun _ => ?_)
        all_goals (
          walk_at "go"
          refine nm s3 fun H4 s4 => ?_
          walk_at "go"
          refine nm (s3.trans s4) fun H5 s5 => ?_
          walk_at "go"
          refine ⟨.inr (.inl ⟨by decide, r, rfl⟩), fun H6 s6 => ?_⟩
          walk_at "go"
          have sA := s3.trans (s4.trans (s5.trans s6))
          exact ⟨_, _, _, rfl, hB2.same sA, (x1.trans x2).trans (Ext.of sA)⟩)
      · walk_at "go"
        refine ⟨b, l, rfl, hB1, fun v' H2 hv0 hB2 x2 => ?_⟩
        have hv : Vl K w 3 H2 v' := hv0.all
        obtain ⟨r, nm⟩ := nmOk T hv
        walk_at "go"
        intro t nt
        generalize e3 : upd H2 t _ = H3
        have a3 : H3 t = some (.lst [.int 3, .int 9]) := by rw [← e3]; exact upd_same
        have s3 : Same H2 H3 := by rw [← e3]; exact Same.new nt
        refine ⟨t, _, rfl, .inl (SqL.of a3), rfl, rfl, ?_⟩
        walk_at "go"
        refine st_ifb (fun _ => ?_) (fun _ => ?_)
        all_goals (
          walk_at "go"
          refine nm s3 fun H4 s4 => ?_
          walk_at "go"
          refine nm (s3.trans s4) fun H5 s5 => ?_
          walk_at "go"
          refine ⟨.inr (.inl ⟨by decide, r, rfl⟩), fun H6 s6 => ?_⟩
          walk_at "go"
          have sA := s3.trans (s4.trans (s5.trans s6))
          exact ⟨_, _, _, rfl, hB2.same sA, (x1.trans x2).trans (Ext.of sA)⟩)
    · rintro σ H1 ⟨kv, v, tv, rfl, hB1, x1⟩
      walk_at "go"
      intro t nt
      generalize e2 : upd H1 t _ = H2
      have a2 : H2 t = some (.lst []) := by rw [← e2]; exact upd_same
      have s2 : Same H1 H2 := by rw [← e2]; exact Same.new nt
      refine ⟨b, l, t, rfl, hB1.same s2, notB hB1 nt, a2, fun z H3 hz hB3 x3 => ?_⟩
      walk_at "go"
      obtain ⟨z8, c, cs, hc, hca, hall⟩ := isN_facts hz
      intro t1 n1
      generalize e4 : upd H3 t1 _ = H4
      have a4 : H4 t1 = some (.lst [.str z]) := by rw [← e4]; exact upd_same
      have s4 : Same H3 H4 := by rw [← e4]; exact Same.new n1
      walk_at "go"
      intro t2 n2
      generalize e5 : upd H4 t2 _ = H5
      have a5 : H5 t2 = some (.tup [.str z]) := by rw [← e5]; exact upd_same
      have s5 : Same H4 H5 := by rw [← e5]; exact Same.new n2
      walk_at "go"
      refine And.intro (lenAdd (by omega) (by decide)) ?_
      walk_at "go"
      refine ⟨⟨z, rfl⟩, z, rfl, rfl, by omega, ?_⟩
      walk_at "go"
      have hcu := cut_le z
      refine And.intro (Nat.le_trans z8 (by decide)) ?_
      walk_at "go"
      refine And.intro (lenAdd (by decide) (by omega)) ?_
      walk_at "go"
      refine And.intro (lenAdd (by omega) (by decide)) ?_
      walk_at "go"
      refine And.intro (Nat.le_trans z8 (by decide)) ?_
      walk_at "go"
      refine And.intro (lenAdd (by decide) (by omega)) ?_
      walk_at "go"
      intro t3 n3
      generalize e6 : upd H5 t3 _ = H6
      have a6 : H6 t3 = some (.lst [.ref t1, .ref t2, .str (z ++ "_"), .str (Txt.upper z), .str ("1" ++ cutS z none (some 7)), .str (z ++ "00000000"), .str (" " ++ cutS z none (some 7))]) := by rw [← e6]; exact upd_same
      have s6 : Same H5 H6 := by rw [← e6]; exact Same.new n3
      walk_at "go"
      intro t4 n4
      generalize e7 : upd H6 t4 _ = H7
      have a7 : H7 t4 = some (.lst [.str z]) := by rw [← e7]; exact upd_same
      have s7 : Same H6 H7 := by rw [← e7]; exact Same.new n4
      walk_at "go"
      refine st_addL a7 (s7 _ _ a6) (Nat.le_of_ble_eq_true (by rfl)) fun t5 H8 n5 b8 s8 => ?_
      have a8 : H8 t5 = some (.lst [.str z, .ref t1, .ref t2, .str (z ++ "_"), .str (Txt.upper z), .str ("1" ++ cutS z none (some 7)), .str (z ++ "00000000"), .str (" " ++ cutS z none (some 7))]) := b8
      walk_at "go"
      have hu := isN_upper hc hca hall
      have each : ∀ (i : Nat) (x : V), ([.str z, .ref t1, .ref t2, .str (z ++ "_"), .str (Txt.upper z), .str ("1" ++ cutS z none (some 7)), .str (z ++ "00000000"), .str (" " ++ cutS z none (some 7))] : List V)[i]? = some x → ∀ {H' : Hp} {Q : VK} {E : XK}, Same H8 H' → (∀ H'', Same H' H'' → Q (.bl (bs8.getD i false)) H'') → spNm K w [x] H' Q E := by
        have S48 := s5.trans (s6.trans (s7.trans s8))
        have S58 := s6.trans (s7.trans s8)
        intro i x hx H' Q E s k
        match i, hx, k with
        | 0, hx, k =>
          obtain rfl := Option.some.inj hx
          refine st_nmS (by omega) fun H'' s'' => ?_
          rw [hz]
          exact k H'' s''
        | 1, hx, k =>
          obtain rfl := Option.some.inj hx
          exact st_nmV (.x (.base (.lst (s _ _ (S48 _ _ a4))))) (.inl ⟨_, by decide, rfl⟩) k
        | 2, hx, k =>
          obtain rfl := Option.some.inj hx
          exact st_nmV (.x (.base (.tup (s _ _ (S58 _ _ a5))))) (.inl ⟨_, by decide, rfl⟩) k
        | 3, hx, k =>
          obtain rfl := Option.some.inj hx
          refine st_nmS (by rw [show (z ++ "_" : Str).length = z.length + 1 from len_one z 95]; omega) fun H'' s'' => ?_
          rw [isN_under]
          exact k H'' s''
        | 4, hx, k =>
          obtain rfl := Option.some.inj hx
          refine st_nmS (by rw [hu.1]; omega) fun H'' s'' => ?_
          rw [hu.2]
          exact k H'' s''
        | 5, hx, k =>
          obtain rfl := Option.some.inj hx
          refine st_nmS (by
            have e : ("1" ++ cutS z none (some 7) : Str).length = 1 + (cutS z none (some 7)).length := by
              show (#[49] ++ (cutS z none (some 7)).cps).size = _
              rw [Array.size_append] <;> rfl
            omega) fun H'' s'' => ?_
          rw [isN_one]
          exact k H'' s''
        | 6, hx, k =>
          obtain rfl := Option.some.inj hx
          have z1 : 1 ≤ z.length := by
            have : z.cps.toList.length = z.length := by simp [PySem.Str.length]
            rw [hc] at this
            simp only [List.length_cons] at this
            omega
          refine st_nmS (by
            have e : (z ++ "00000000" : Str).length = z.length + 8 := by
              show (z.cps ++ (#[48, 48, 48, 48, 48, 48, 48, 48] : Array Nat)).size = z.cps.size + 8
              simp
            omega) fun H'' s'' => ?_
          rw [isN_zeros z1]
          exact k H'' s''
        | 7, hx, k =>
          obtain rfl := Option.some.inj hx
          refine st_nmS (by
            have e : (" " ++ cutS z none (some 7) : Str).length = 1 + (cutS z none (some 7)).length := by
              show (#[32] ++ (cutS z none (some 7)).cps).size = _
              rw [Array.size_append] <;> rfl
            omega) fun H'' s'' => ?_
          rw [isN_blank]
          exact k H'' s''
        | i + 8, hx, k => cases hx
      refine ⟨⟨_, SqL.of a8⟩, fun D nD => ?_⟩
      refine lc_list (a := t5) (xs := [.str z, .ref t1, .ref t2, .str (z ++ "_"), .str (Txt.upper z), .str ("1" ++ cutS z none (some 7)), .str (z ++ "00000000"), .str (" " ++ cutS z none (some 7))]) (fun i H9 => H9 D = some (.lst ((bs8.take i).map V.bl)) ∧ Same H8 H9) ⟨upd_same, Same.new nD⟩ (fun i H9 _ h => SqL.of (h.2 _ _ a8)) ?_ ?_
      · rintro i x H9 hx ⟨f1, f2⟩
        have hi : i < 8 := (List.getElem?_eq_some_iff.mp hx).1
        walk_at "go"
        refine each i x hx f2 fun H10 s10 => ?_
        refine ⟨_, s10 _ _ f1, ?_, ?_, fun a o q => ?_⟩
        · rw [List.length_map]
          exact Nat.lt_of_le_of_lt (List.length_take_le i bs8) (Nat.lt_of_lt_of_le hi (by decide))
        · rw [upd_same, List.take_succ, List.map_append]
          have hb : bs8[i]? = some (bs8.getD i false) := by
            have hl : i < bs8.length := hi
            rw [List.getD_eq_getElem?_getD, List.getElem?_eq_getElem hl] <;> rfl
          rw [hb] <;> rfl
        · rw [upd_ne (ne_of_none q nD)]
          exact s10 _ _ (f2 _ _ q)
      · rintro H9 ⟨f1, f2⟩
        walk_at "go"
        intro t6 n6
        generalize e10 : upd H9 t6 _ = H10
        have a10 : H10 t6 = some (.lst [.bl true]) := by rw [← e10]; exact upd_same
        have s10 : Same H9 H10 := by rw [← e10]; exact Same.new n6
        have a6' : H10 t3 = some (.lst _) := s10 _ _ (f2 _ _ (s8 _ _ (s7 _ _ a6)))
        walk_at "go"
        refine ⟨⟨_, SqL.of a6'⟩, fun D2 nD2 => ?_⟩
        refine lc_list (a := t3) (xs := [.ref t1, .ref t2, .str (z ++ "_"), .str (Txt.upper z), .str ("1" ++ cutS z none (some 7)), .str (z ++ "00000000"), .str (" " ++ cutS z none (some 7))]) (fun i H11 => H11 D2 = some (.lst (List.replicate i (.bl false))) ∧ Same H10 H11) ⟨upd_same, Same.new nD2⟩ (fun i H11 _ h => SqL.of (h.2 _ _ a6')) ?_ ?_
        · rintro i x H11 hx ⟨g1, g2⟩
          have hi : i < 7 := (List.getElem?_eq_some_iff.mp hx).1
          walk_at "go"
          refine ⟨_, g1, ?_, ?_, fun a o q => ?_⟩
          · rw [List.length_replicate]
            exact Nat.lt_of_lt_of_le hi (by decide)
          · rw [upd_same, List.replicate_succ']
          · rw [upd_ne (ne_of_none q nD2)]
            exact g2 _ _ q
        · rintro H11 ⟨g1, g2⟩
          walk_at "go"
          refine st_addL (g2 _ _ a10) g1 (Nat.le_of_ble_eq_true (by rfl)) fun t7 H12 n7 b12 s12 => ?_
          have a12 : H12 t7 = some (.lst (bs8.map V.bl)) := b12
          have f12 : H12 D = some (.lst (bs8.map V.bl)) := s12 _ _ (g2 _ _ (s10 _ _ f1))
          walk_at "go"
          refine ⟨.inr (.inr ⟨by decide, D, t7, bs8, rfl, f12, a12, by decide⟩), fun H13 s13 => ?_⟩
          have sZ : Same H3 H13 := s4.trans (s5.trans (s6.trans (s7.trans (s8.trans (f2.trans (s10.trans (g2.trans (s12.trans s13))))))))
          exact k H13 (hB3.same sZ) (((x1.trans (Ext.of s2)).trans x3).trans (Ext.of sZ))
end
end K00
end -- a14
section -- a15
set_option Elab.async false
set_option linter.all false
set_option maxRecDepth 100000
set_option maxHeartbeats 4000000
local macro_rules | `(tactic| walk_at "lvl") => `(tactic| first
  | decide
  | omega
  | (simp only [Nat.add_eq]; omega))
local macro_rules | `(tactic| walk_at "side") => `(tactic| first
  | decide
  | assumption
  | omega
  | exact Nat.le_of_ble_eq_true (by rfl)
  | exact ⟨by decide, by decide⟩
  | exact ⟨by decide, by decide, by decide⟩
  | exact Or.inl (Or.inr ⟨by decide, by decide⟩)
  | exact Or.inl (Or.inl ⟨by decide, by decide⟩))
local macro_rules | `(tactic| walk_at "ty") => `(tactic| first
  | assumption
  | exact L2.TyG.x (.base (.int _))
  | exact L2.TyG.x (.base (.str _))
  | exact L2.TyG.x (.base (.bl _))
  | exact L2.TyG.x (.base .non)
  | exact L2.TyG.x (.base (.lst (by assumption)))
  | exact L2.TyG.x (.base (.tup (by assumption)))
  | exact K00.tyR (by assumption) (by assumption)
  | exact L2.TyG.dn (by assumption))
local macro_rules | `(tactic| walk_at "cv") => `(tactic| first
  | exact L2.ClsV.ty _
  | exact L2.ClsV.own _)
local macro_rules | `(tactic| walk_at "kit") => `(tactic| first
  | exact L2.kit_ty (by decide +kernel)
  | exact K00.kR (by assumption) (by decide)
  | exact K00.kR2 (by assumption) (by decide)
  | exact K00.kR3 (by assumption))
local macro_rules | `(tactic| walk_at "s1") => `(tactic| first
  | refine ⟨_, rfl, ?_⟩
  | refine ⟨_, _, rfl, rfl, ?_⟩
  | refine ⟨_, _, rfl, ?_⟩
  | refine And.intro rfl ?_
  | refine L2.iteT ?_
  | refine L2.iteF ?_
  | refine L2.st_ixl (by assumption) (by rfl) ?_
  | refine L2.st_ixt (by assumption) (by rfl) ?_
  | refine L2.st_lenR (L2.lenr_l (by assumption)) ?_
  | refine L2.st_lenGR (L2.lenr_l (by assumption)) ?_
  | refine L2.st_lenGR (L2.lenr_t (by assumption)) ?_
  | refine L2.st_lenR (L2.lenr_t (by assumption)) ?_
  | refine L2.st_isG (b := false) (by walk_at "ty") (by walk_at "cv") (by walk_at "kit") ?_
  | refine L2.st_isG (b := true) (by walk_at "ty") (by walk_at "cv") (by walk_at "kit") ?_
  | refine And.intro (by walk_at "side") ?_)
local macro_rules | `(tactic| walk_at "go") => `(tactic| repeat (walk_at "s1"))
namespace K00
open PySem PySem.Spec PyProof.Rows L2
section
variable {P : Program} {w : World} {K : PySem.W.Frag} {mg : Str → Option Value} {base : Heap}
def spLaw (K : PySem.W.Frag) : Sp := fun vs H Q _ => ∃ (a : Addr) (ns : List Int), vs = [.ref a] ∧ SqL K H a (ns.map V.int) ∧ ns.length ≤ 63 ∧ ∀ H', Q (.bl true) H'
theorem ok_law (T : TL K mg) (GTk : FX P w K mg base 12 "_law_taken" [] spNs) : ∃ fd, FunD K d_law.name d_law.qual d_law.params d_law.body d_law.scope (d_law.dvs K) (d_law.kws K) (He.fAd K d_law.at_) fd ∧ FnOk P w K mg base (L2.CX P w) 13 (He.fAd K d_law.at_) fd ["script"] (spLaw K) := by
  have GV := G_value (P := P) (w := w) (base := base) T 3
  obtain ⟨fd, F⟩ := F_law T
  refine ⟨fd, F, F.ok0 sc_law (fun vs H Q E h => ?_) (fun cdv A outer s H vs Q E hr h => ?_)⟩
  · obtain ⟨a, ns, rfl, _⟩ := h
    rfl
  · obtain ⟨a, ns, rfl, hS, hl, k⟩ := h
    refine ⟨_, (pss_cons (ps_set (i := 1) sc_law.nd rfl (by first | exact Or.inl rfl | exact Or.inr rfl) (pe_fx (G__law_bag T) (hr.mono (by walk_at "lvl")) passL (pa_cons (pv 0) pa_nil)))
      (pss_cons (ps_for PassesOwn.never rfl (pi_range1 rfl (f_range T) (pa_cons pe_int pa_nil)) (pg_name (i := 2) sc_law.nd rfl (by first | exact Or.inl rfl | exact Or.inr rfl))
        (pss_cons (ps_par (i := 3) (j := 4) (by rfl) sc_law.nd rfl rfl (by decide) rfl rfl (pa_cons (pe_fx GV (hr.mono (by walk_at "lvl")) passL (pa_cons (pv 1) (pa_cons pe_int pa_nil))) (pa_cons (pe_fx GV (hr.mono (by walk_at "lvl")) passL (pa_cons (pv 1) (pa_cons pe_int pa_nil))) pa_nil)) (by rfl))
        (pss_one (ps_if (PW.pt (pw_or (pt_not (pt_val (pe_fx (G__law_error_so T) (hr.mono (by walk_at "lvl")) passL (pa_cons (pv 2) (pa_cons (pe_cmpR op_eq (pe_fx (G__law_draw T) (hr.mono (by walk_at "lvl")) passL (pa_cons (pv 1) (pa_cons pe_int pa_nil))) pe_int (nomark _)) (pa_cons (pv 3) (pa_cons (pv 4) pa_nil))))))) (pw_or1 (pt_not (pt_val (pe_fx (G__law_error_so T) (hr.mono (by walk_at "lvl")) passL (pa_cons (pv 2) (pa_cons pe_bl (pa_cons (pv 4) (pa_cons (pv 3) pa_nil))))))))))
          (pss_one (ps_ret pe_bl))
          pss_nil))))
      (pss_one (ps_ret (pe_and (pe_fx (G__law_names_so T) (hr.mono (by walk_at "lvl")) passL (pa_cons (pv 1) pa_nil)) (pe_one (pe_fx GTk (hr.mono (by walk_at "lvl")) passL (pa_cons (pv 1) pa_nil)))))))), ?_⟩
    walk_at "go"
    refine ⟨a, ns, rfl, hS, hl, fun b l H1 nb hB1 s1 => ?_⟩
    walk_at "go"
    refine for_range (lo := 0) (fun i σ H' => ∃ (pv av bv : Option V), σ = [some (.ref a), some (.ref b), pv, av, bv] ∧ BagAt b l H') ⟨none, none, none, rfl, hB1⟩ ?_ ?_
    · rintro i σ H2 hi ⟨pv, av, bv, rfl, hB2⟩
      walk_at "go"
      refine ⟨b, l, rfl, hB2, fun va H3 hva hB3 x3 => ?_⟩
      walk_at "go"
      refine ⟨b, l, rfl, hB3, fun vb H4 hvb hB4 x4 => ?_⟩
      have ha : Vl K w 3 H4 va := Vl.off hB3 x4 hva.all
      have hb : Vl K w 3 H4 vb := hvb.all
      walk_at "go"
      refine ⟨b, l, 2, rfl, hB4, by decide, fun d H5 d0 d1 hB5 x5 => ?_⟩
      have z0 : (0 : Int) + (i : Int) = (i : Int) := by omega
      walk_at "go"
      refine ⟨i, _, va, vb, hi, by rw [z0] <;> rfl, Vl.off hB4 x5 ha, Vl.off hB4 x5 hb, fun H6 s6 => ?_⟩
      walk_at "go"
      refine ⟨i, false, vb, va, hi, by rw [z0] <;> rfl, (Vl.off hB4 x5 hb).same s6, (Vl.off hB4 x5 ha).same s6, fun H7 s7 => ?_⟩
      walk_at "go"
      exact ⟨_, _, _, rfl, hB5.same (s6.trans s7)⟩
    · rintro σ H2 ⟨pv, av, bv, rfl, hB2⟩
      walk_at "go"
      refine ⟨b, l, rfl, hB2, fun H3 hB3 x3 => ?_⟩
      walk_at "go"
      exact ⟨b, l, rfl, hB3, fun H4 hB4 x4 => k H4⟩
end
end K00
end -- a15
section -- a16
set_option Elab.async false
set_option linter.all false
set_option maxRecDepth 100000
set_option maxHeartbeats 4000000
local macro_rules | `(tactic| walk_at "lvl") => `(tactic| first
  | decide
  | omega
  | (simp only [Nat.add_eq]; omega))
local macro_rules | `(tactic| walk_at "side") => `(tactic| first
  | decide
  | assumption
  | omega
  | exact Nat.le_of_ble_eq_true (by rfl)
  | exact ⟨by decide, by decide⟩
  | exact ⟨by decide, by decide, by decide⟩
  | exact Or.inl (Or.inr ⟨by decide, by decide⟩)
  | exact Or.inl (Or.inl ⟨by decide, by decide⟩))
local macro_rules | `(tactic| walk_at "ty") => `(tactic| first
  | assumption
  | exact L2.TyG.x (.base (.int _))
  | exact L2.TyG.x (.base (.str _))
  | exact L2.TyG.x (.base (.bl _))
  | exact L2.TyG.x (.base .non)
  | exact L2.TyG.x (.base (.lst (by assumption)))
  | exact L2.TyG.x (.base (.tup (by assumption)))
  | exact K00.tyR (by assumption) (by assumption)
  | exact L2.TyG.dn (by assumption))
local macro_rules | `(tactic| walk_at "cv") => `(tactic| first
  | exact L2.ClsV.ty _
  | exact L2.ClsV.own _)
local macro_rules | `(tactic| walk_at "kit") => `(tactic| first
  | exact L2.kit_ty (by decide +kernel)
  | exact K00.kR (by assumption) (by decide)
  | exact K00.kR2 (by assumption) (by decide)
  | exact K00.kR3 (by assumption))
local macro_rules | `(tactic| walk_at "s1") => `(tactic| first
  | refine ⟨_, rfl, ?_⟩
  | refine ⟨_, _, rfl, rfl, ?_⟩
  | refine ⟨_, _, rfl, ?_⟩
  | refine And.intro rfl ?_
  | refine L2.iteT ?_
  | refine L2.iteF ?_
  | refine L2.st_ixl (by assumption) (by rfl) ?_
  | refine L2.st_ixt (by assumption) (by rfl) ?_
  | refine L2.st_lenR (L2.lenr_l (by assumption)) ?_
  | refine L2.st_lenGR (L2.lenr_l (by assumption)) ?_
  | refine L2.st_lenGR (L2.lenr_t (by assumption)) ?_
  | refine L2.st_lenR (L2.lenr_t (by assumption)) ?_
  | refine L2.st_isG (b := false) (by walk_at "ty") (by walk_at "cv") (by walk_at "kit") ?_
  | refine L2.st_isG (b := true) (by walk_at "ty") (by walk_at "cv") (by walk_at "kit") ?_
  | refine And.intro (by walk_at "side") ?_)
local macro_rules | `(tactic| walk_at "go") => `(tactic| repeat (walk_at "s1"))
namespace K00
open PySem PySem.Spec PyProof.Rows L2
section
variable {P : Program} {w : World} {K : PySem.W.Frag} {mg : Str → Option Value} {base : Heap}
/-- _law_bases of the exception that is handled -/
def spBP (p : Nat) (a d : Addr) : Sp := fun vs H Q _ => vs = [.ref a] ∧ ∃ fs : List (Str × V), ExD H d fs ∧ ∀ (r : Addr) (H' : Hp), H' r = some (.lst (bL p)) → Same H H' → Q (.ref r) H'
theorem pin_bases (T : TL K mg) {p : Nat} (hp : p < 20) {a d : Addr} {oe : Obj} (hc : oe.cls = .ref (cN K p)) (hdd : oe.dict = some d) (hf : ∃ vs, oe.data = .fields vs) :
    ∀ fd, FunD K d__law_bases.name d__law_bases.qual d__law_bases.params d__law_bases.body d__law_bases.scope (d__law_bases.dvs K) (d__law_bases.kws K) (He.fAd K d__law_bases.at_) fd → FnPin P w K mg base 1 (He.fAd K d__law_bases.at_) fd ["err"] (spBP p a d) (a, oe) := by
  intro fd F
  have xc := xcN T hp
  refine pin_of F sc__law_bases (fun vs H Q E h => ?_) (fun cdv A outer s H vs Q E hr h => ?_)
  · obtain ⟨rfl, _⟩ := h
    rfl
  · obtain ⟨rfl, fs, hd, k⟩ := h
    refine ⟨_, (pss_cons (ps_set (i := 1) sc__law_bases.nd rfl (by first | exact Or.inl rfl | exact Or.inr rfl) (pe_lst (pa_cons (pe_callB (call_isP (List.mem_singleton.mpr rfl) hc hdd hf xc) (by rfl) (f_isinstance T) (by decide +kernel) (pa_cons (pv 0) (pa_cons (pe_gr (g_CellsError T)) pa_nil))) (pa_cons (pe_callB (call_isP (List.mem_singleton.mpr rfl) hc hdd hf xc) (by rfl) (f_isinstance T) (by decide +kernel) (pa_cons (pv 0) (pa_cons (pe_bty (n := "ValueError") (f_ValueError T) (by decide +kernel)) pa_nil))) (pa_cons (pe_callB (call_isP (List.mem_singleton.mpr rfl) hc hdd hf xc) (by rfl) (f_isinstance T) (by decide +kernel) (pa_cons (pv 0) (pa_cons (pe_gr (g_MissingError T)) pa_nil))) pa_nil)))))
      (pss_cons (ps_set (i := 1) sc__law_bases.nd rfl (by first | exact Or.inl rfl | exact Or.inr rfl) (pe_op op_addG (pv 1) (pe_lst (pa_cons (pe_callB (call_isP (List.mem_singleton.mpr rfl) hc hdd hf xc) (by rfl) (f_isinstance T) (by decide +kernel) (pa_cons (pv 0) (pa_cons (pe_bty (n := "LookupError") (f_LookupError T) (by decide +kernel)) pa_nil))) (pa_cons (pe_callB (call_isP (List.mem_singleton.mpr rfl) hc hdd hf xc) (by rfl) (f_isinstance T) (by decide +kernel) (pa_cons (pv 0) (pa_cons (pe_bty (n := "RuntimeError") (f_RuntimeError T) (by decide +kernel)) pa_nil))) pa_nil)))))
      (pss_one (ps_ret (pe_op op_addG (pv 1) (pe_lst (pa_cons (pe_callB (call_isP (List.mem_singleton.mpr rfl) hc hdd hf xc) (by rfl) (f_isinstance T) (by decide +kernel) (pa_cons (pv 0) (pa_cons (pe_bty (n := "KeyError") (f_KeyError T) (by decide +kernel)) pa_nil))) (pa_cons (pe_callB (call_isP (List.mem_singleton.mpr rfl) hc hdd hf xc) (by rfl) (f_isinstance T) (by decide +kernel) (pa_cons (pv 0) (pa_cons (pe_bty (n := "IndexError") (f_IndexError T) (by decide +kernel)) pa_nil))) (pa_cons (pe_callB (call_isP (List.mem_singleton.mpr rfl) hc hdd hf xc) (by rfl) (f_isinstance T) (by decide +kernel) (pa_cons (pv 0) (pa_cons (pe_bty (n := "ArithmeticError") (f_ArithmeticError T) (by decide +kernel)) pa_nil))) pa_nil))))))))), ?_⟩
    walk_at "go"
    refine st_isP (hd.same (Same.refl H)) (ClsV.own _) (kB T hp (j := 0) rfl) ?_
    walk_at "go"
    refine st_isP (hd.same (Same.refl H)) (ClsV.ty _) (kB T hp (j := 1) rfl) ?_
    walk_at "go"
    refine st_isP (hd.same (Same.refl H)) (ClsV.own _) (kB T hp (j := 2) rfl) ?_
    walk_at "go"
    intro r1 n1
    generalize e1 : upd H r1 _ = H1
    have a1 : H1 r1 = some (.lst [.bl ((bN p).getD 0 false), .bl ((bN p).getD 1 false), .bl ((bN p).getD 2 false)]) := by rw [← e1]; exact upd_same
    have s1 : Same H H1 := by rw [← e1]; exact Same.new n1
    have S1 := Same.trans (Same.refl H) s1
    walk_at "go"
    refine st_isP (hd.same S1) (ClsV.ty _) (kB T hp (j := 3) rfl) ?_
    walk_at "go"
    refine st_isP (hd.same S1) (ClsV.ty _) (kB T hp (j := 4) rfl) ?_
    walk_at "go"
    intro r2 n2
    generalize e2 : upd H1 r2 _ = H2
    have a2 : H2 r2 = some (.lst [.bl ((bN p).getD 3 false), .bl ((bN p).getD 4 false)]) := by rw [← e2]; exact upd_same
    have s2 : Same H1 H2 := by rw [← e2]; exact Same.new n2
    have S2 := Same.trans S1 s2
    walk_at "go"
    refine st_addL (s2 _ _ a1) a2 (Nat.le_of_ble_eq_true (by rfl)) fun r3 H3 n3 b3 s3 => ?_
    have a3 : H3 r3 = some (.lst [.bl ((bN p).getD 0 false), .bl ((bN p).getD 1 false), .bl ((bN p).getD 2 false), .bl ((bN p).getD 3 false), .bl ((bN p).getD 4 false)]) := b3
    have S3 := Same.trans S2 s3
    walk_at "go"
    refine st_isP (hd.same S3) (ClsV.ty _) (kB T hp (j := 5) rfl) ?_
    walk_at "go"
    refine st_isP (hd.same S3) (ClsV.ty _) (kB T hp (j := 6) rfl) ?_
    walk_at "go"
    refine st_isP (hd.same S3) (ClsV.ty _) (kB T hp (j := 7) rfl) ?_
    walk_at "go"
    intro r4 n4
    generalize e4 : upd H3 r4 _ = H4
    have a4 : H4 r4 = some (.lst [.bl ((bN p).getD 5 false), .bl ((bN p).getD 6 false), .bl ((bN p).getD 7 false)]) := by rw [← e4]; exact upd_same
    have s4 : Same H3 H4 := by rw [← e4]; exact Same.new n4
    have S4 := Same.trans S3 s4
    walk_at "go"
    refine st_addL (s4 _ _ a3) a4 (Nat.le_of_ble_eq_true (by rfl)) fun r5 H5 n5 b5 s5 => ?_
    have a5 : H5 r5 = some (.lst [.bl ((bN p).getD 0 false), .bl ((bN p).getD 1 false), .bl ((bN p).getD 2 false), .bl ((bN p).getD 3 false), .bl ((bN p).getD 4 false), .bl ((bN p).getD 5 false), .bl ((bN p).getD 6 false), .bl ((bN p).getD 7 false)]) := b5
    have S5 := Same.trans S4 s5
    walk_at "go"
    exact k r5 H5 a5 S5
end
end K00
end -- a16
section -- a17
set_option Elab.async false
set_option linter.all false
set_option maxRecDepth 100000
set_option maxHeartbeats 4000000
local macro_rules | `(tactic| walk_at "lvl") => `(tactic| first
  | decide
  | omega
  | (simp only [Nat.add_eq]; omega))
local macro_rules | `(tactic| walk_at "side") => `(tactic| first
  | decide
  | assumption
  | omega
  | exact Nat.le_of_ble_eq_true (by rfl)
  | exact ⟨by decide, by decide⟩
  | exact ⟨by decide, by decide, by decide⟩
  | exact Or.inl (Or.inr ⟨by decide, by decide⟩)
  | exact Or.inl (Or.inl ⟨by decide, by decide⟩))
local macro_rules | `(tactic| walk_at "ty") => `(tactic| first
  | assumption
  | exact L2.TyG.x (.base (.int _))
  | exact L2.TyG.x (.base (.str _))
  | exact L2.TyG.x (.base (.bl _))
  | exact L2.TyG.x (.base .non)
  | exact L2.TyG.x (.base (.lst (by assumption)))
  | exact L2.TyG.x (.base (.tup (by assumption)))
  | exact K00.tyR (by assumption) (by assumption)
  | exact L2.TyG.dn (by assumption))
local macro_rules | `(tactic| walk_at "cv") => `(tactic| first
  | exact L2.ClsV.ty _
  | exact L2.ClsV.own _)
local macro_rules | `(tactic| walk_at "kit") => `(tactic| first
  | exact L2.kit_ty (by decide +kernel)
  | exact K00.kR (by assumption) (by decide)
  | exact K00.kR2 (by assumption) (by decide)
  | exact K00.kR3 (by assumption))
local macro_rules | `(tactic| walk_at "s1") => `(tactic| first
  | refine ⟨_, rfl, ?_⟩
  | refine ⟨_, _, rfl, rfl, ?_⟩
  | refine ⟨_, _, rfl, ?_⟩
  | refine And.intro rfl ?_
  | refine L2.iteT ?_
  | refine L2.iteF ?_
  | refine L2.st_ixl (by assumption) (by rfl) ?_
  | refine L2.st_ixt (by assumption) (by rfl) ?_
  | refine L2.st_lenR (L2.lenr_l (by assumption)) ?_
  | refine L2.st_lenGR (L2.lenr_l (by assumption)) ?_
  | refine L2.st_lenGR (L2.lenr_t (by assumption)) ?_
  | refine L2.st_lenR (L2.lenr_t (by assumption)) ?_
  | refine L2.st_isG (b := false) (by walk_at "ty") (by walk_at "cv") (by walk_at "kit") ?_
  | refine L2.st_isG (b := true) (by walk_at "ty") (by walk_at "cv") (by walk_at "kit") ?_
  | refine And.intro (by walk_at "side") ?_)
local macro_rules | `(tactic| walk_at "go") => `(tactic| repeat (walk_at "s1"))
namespace K00
open PySem PySem.Spec PyProof.Rows L2
section
variable {P : Program} {w : World} {K : PySem.W.Frag} {mg : Str → Option Value} {base : Heap}
/-- what a raised error tells: its class, its code -/
def Erd (K : PySem.W.Frag) (p : Nat) (H : Hp) (E : XK) : Prop := ∀ (d : Addr) (fs : List (Str × V)) (H' : Hp), H' d = some (.xd fs) → fs.lookup ("code" : Str) = some (V.str (codesL.getD p "")) → Same H H' → E (.ref (cN K p)) (some d) H'
/-- raising such an error -/
theorem oxr_of {C : Addr} {n : Nat} {fsV : List V → List (Str × V)} {vs : List V} {H : Hp} {Q : XK} (hl : vs.length = n) (hn : n ≤ 1000) (q : ∀ (d : Addr) (H' : Hp), H' d = some (.xd (fsV vs)) → Same H H' → Q (.ref C) (some d) H') : OxRaise C (spIn C n fsV) vs H Q := by
  refine ⟨hl ▸ hn, fun a na => ⟨a, vs, rfl, hl, upd_same, fun d H2 nd a2 d2 e2 => ⟨rfl, d, fsV vs, a2, d2, ?_, q d _ upd_same fun b o hb => ?_⟩⟩⟩
  · by_cases z : d = a
    · rw [z]; exact na
    · rw [← upd_ne (H := H) (o := exo a C none) z]
      exact nd
  · have ba := ne_of_none hb na
    have h2 : H2 b = some o := e2 b o ba (by rw [upd_ne ba]; exact hb)
    have bd : b ≠ d := fun z => by
      rw [z, d2] at h2
      have nd' := nd
      rw [upd_ne (show d ≠ a from z ▸ ba), ← z, hb] at nd'
      cases nd'
    rw [upd_ne bd, del_ne ba]
    exact h2
def spRatE (K : PySem.W.Frag) : Sp := fun vs H _ E => ∃ (x : Addr) (t : Int), vs = [.ref x, .int t, .int 0] ∧ Erd K 0 H E
theorem ok_RatioE (T : TL K mg) : ∃ fd, FunD K d_Ratio___init__.name d_Ratio___init__.qual d_Ratio___init__.params d_Ratio___init__.body d_Ratio___init__.scope (d_Ratio___init__.dvs K) (d_Ratio___init__.kws K) (He.fAd K d_Ratio___init__.at_) fd ∧ FnOk P w K mg base (L2.CX P w) 3 (He.fAd K d_Ratio___init__.at_) fd ["self", "top", "bottom"] (spRatE K) := by
  obtain ⟨fd, F⟩ := F_Ratio___init__ T
  refine ⟨fd, F, FunD.ok F sc_Ratio___init__ (fun vs H Q E h => ?_) (fun cdv A outer s H vs Q E hr h => ?_)⟩
  · obtain ⟨x, t, rfl, _⟩ := h
    rfl
  · obtain ⟨x, t, rfl, hE⟩ := h
    refine ⟨_, (pss_cons (ps_if (pt_not (pt_val (pe_fx (G_is_whole T) (hr.mono (by walk_at "lvl")) passL (pa_cons (pv 1) pa_nil))))
        (pss_one ps_never)
        pss_nil)
      (pss_cons (ps_if (PW.pt (pw_or (pt_not (pt_val (pe_fx (G_is_whole T) (hr.mono (by walk_at "lvl")) passL (pa_cons (pv 2) pa_nil)))) (pw_or1 (pt_cmpR op_eq (pv 2) pe_int (nomark _)))))
        (pss_one (ps_raise rfl (takes_of rfl rfl rfl rfl) (pmk_ox (X_InvalidRatio T) (hr.mono (by walk_at "lvl")) passL (pa_cons (pv 2) pa_nil))))
        pss_nil)
      (pss_cons (ps_set (i := 3) sc_Ratio___init__.nd rfl (by first | exact Or.inl rfl | exact Or.inr rfl) (pe_callBfun cr_gcd rfl (gGcd T) (pa_cons (pv 1) (pa_cons (pv 2) pa_nil))))
      (pss_cons (ps_if (pt_cmpR op_lt (pv 2) pe_int (nomark _))
        (pss_one (ps_set (i := 3) sc_Ratio___init__.nd rfl (by first | exact Or.inl rfl | exact Or.inr rfl) (pe_un un_neg (pv 3))))
        pss_nil)
      (pss_cons (ps_fld (pv 0) (pe_op op_fdivW (pv 1) (pv 3)) rfl)
      (pss_one (ps_fld (pv 0) (pe_op op_fdivW (pv 2) (pv 3)) rfl))))))), ?_⟩
    walk_at "go"
    refine spInt_i ?_
    walk_at "go"
    refine spInt_i ?_
    walk_at "go"
    exact (oxr_of (C := He.ga K "InvalidRatio") (n := 1) (fsV := fs1 "InvalidRatio" "value") rfl (by decide) fun d H' hd s => hE d _ H' hd rfl s).2
/-- word_of of a list of a letter and a list: the list is unknown -/
def spWoE (K : PySem.W.Frag) : Sp := fun vs H _ E => ∃ (g t u gx dg : Addr) (fg : List (Str × V)) (ys : List V), vs = [.ref g, .ref t] ∧ H t = some (.lst [.str "b", .ref u, .str "a"]) ∧ H u = some (.lst ys) ∧ H g = some (.ins (He.ga K "Ground") gx fg) ∧ fg.lookup ("_ranks" : Str) = some (.ref dg) ∧
  H dg = some (.dK [(.inr "a", .int 0), (.inr "b", .int 1)]) ∧ Erd K 7 H E
end
end K00
end -- a17
section -- a18
set_option Elab.async false
set_option linter.all false
set_option maxRecDepth 100000
set_option maxHeartbeats 4000000
local macro_rules | `(tactic| walk_at "lvl") => `(tactic| first
  | decide
  | omega
  | (simp only [Nat.add_eq]; omega))
local macro_rules | `(tactic| walk_at "side") => `(tactic| first
  | decide
  | assumption
  | omega
  | exact Nat.le_of_ble_eq_true (by rfl)
  | exact ⟨by decide, by decide⟩
  | exact ⟨by decide, by decide, by decide⟩
  | exact Or.inl (Or.inr ⟨by decide, by decide⟩)
  | exact Or.inl (Or.inl ⟨by decide, by decide⟩))
local macro_rules | `(tactic| walk_at "ty") => `(tactic| first
  | assumption
  | exact L2.TyG.x (.base (.int _))
  | exact L2.TyG.x (.base (.str _))
  | exact L2.TyG.x (.base (.bl _))
  | exact L2.TyG.x (.base .non)
  | exact L2.TyG.x (.base (.lst (by assumption)))
  | exact L2.TyG.x (.base (.tup (by assumption)))
  | exact K00.tyR (by assumption) (by assumption)
  | exact L2.TyG.dn (by assumption))
local macro_rules | `(tactic| walk_at "cv") => `(tactic| first
  | exact L2.ClsV.ty _
  | exact L2.ClsV.own _)
local macro_rules | `(tactic| walk_at "kit") => `(tactic| first
  | exact L2.kit_ty (by decide +kernel)
  | exact K00.kR (by assumption) (by decide)
  | exact K00.kR2 (by assumption) (by decide)
  | exact K00.kR3 (by assumption))
local macro_rules | `(tactic| walk_at "s1") => `(tactic| first
  | refine ⟨_, rfl, ?_⟩
  | refine ⟨_, _, rfl, rfl, ?_⟩
  | refine ⟨_, _, rfl, ?_⟩
  | refine And.intro rfl ?_
  | refine L2.iteT ?_
  | refine L2.iteF ?_
  | refine L2.st_ixl (by assumption) (by rfl) ?_
  | refine L2.st_ixt (by assumption) (by rfl) ?_
  | refine L2.st_lenR (L2.lenr_l (by assumption)) ?_
  | refine L2.st_lenGR (L2.lenr_l (by assumption)) ?_
  | refine L2.st_lenGR (L2.lenr_t (by assumption)) ?_
  | refine L2.st_lenR (L2.lenr_t (by assumption)) ?_
  | refine L2.st_isG (b := false) (by walk_at "ty") (by walk_at "cv") (by walk_at "kit") ?_
  | refine L2.st_isG (b := true) (by walk_at "ty") (by walk_at "cv") (by walk_at "kit") ?_
  | refine And.intro (by walk_at "side") ?_)
local macro_rules | `(tactic| walk_at "go") => `(tactic| repeat (walk_at "s1"))
namespace K00
open PySem PySem.Spec PyProof.Rows L2
section
variable {P : Program} {w : World} {K : PySem.W.Frag} {mg : Str → Option Value} {base : Heap}
abbrev GC (K : PySem.W.Frag) : Addr := He.ga K "Ground"
/-- letter in gr: a list is none of its letters, b is one -/
def spCon (K : PySem.W.Frag) : Sp := fun vs H Q _ => ∃ (g gx dg : Addr) (fg : List (Str × V)) (x : V), vs = [.ref g, x] ∧ H g = some (.ins (GC K) gx fg) ∧ fg.lookup ("_ranks" : Str) = some (.ref dg) ∧ H dg = some (.dK [(.inr "a", .int 0), (.inr "b", .int 1)]) ∧
  ((x = .str "b" ∧ Q (.bl true) H) ∨ ∃ (u : Addr) (ys : List V), x = .ref u ∧ H u = some (.lst ys) ∧ Q (.bl false) H)
theorem ok_contains (T : TL K mg) : ∃ fd, FunD K d_Ground___contains__.name d_Ground___contains__.qual d_Ground___contains__.params d_Ground___contains__.body d_Ground___contains__.scope (d_Ground___contains__.dvs K) (d_Ground___contains__.kws K) (He.fAd K d_Ground___contains__.at_) fd ∧ FnOk P w K mg base (L2.CX P w) 1 (He.fAd K d_Ground___contains__.at_) fd ["self", "letter"] (spCon K) := by
  obtain ⟨fd, F⟩ := F_Ground___contains__ T
  refine ⟨fd, F, F.ok0 sc_Ground___contains__ (fun vs H Q E h => ?_) (fun cdv A outer s H vs Q E hr h => ?_)⟩
  · obtain ⟨g, gx, dg, fg, x, rfl, _⟩ := h
    rfl
  · obtain ⟨g, gx, dg, fg, x, rfl, hg, hf, hd, h⟩ := h
    refine ⟨_, (pss_one (ps_ret (pe_and (pe_callB call_isG (by rfl) (f_isinstance T) (by decide +kernel) (pa_cons (pv 1) (pa_cons (pe_bty (n := "str") (f_str T) (by decide +kernel)) pa_nil))) (pe_one (pe_cmp (pc_din (by have h1 := hr.units; exact Nat.lt_of_le_of_lt (Nat.add_le_add_left (by decide) _) h1) (pv 1) (pe_fld (pv 0) rfl)) rfl))))), ?_⟩
    rcases h with ⟨rfl, k⟩ | ⟨u, ys, rfl, hu, k⟩
    · walk_at "go"
      refine ⟨g, _, gx, fg, _, rfl, hg, He.cls_ok (a_cls_Ground T), He.noat_ok (a_noat_Ground__ranks T), hf, ?_⟩
      walk_at "go"
      exact ⟨dg, _, rfl, .inl ⟨_, .inr "b", .inl hd, rfl, rfl⟩, k⟩
    · walk_at "go"
      exact k
theorem mCon (T : TL K mg) : Meth K (GC K) "__contains__" (He.ma K (GC K) "__contains__") := He.meth_ok (a_meth_Ground___contains__ T)
theorem ok_word_ofE (T : TL K mg) : ∃ fd, FunD K d_Ground_word_of.name d_Ground_word_of.qual d_Ground_word_of.params d_Ground_word_of.body d_Ground_word_of.scope (d_Ground_word_of.dvs K) (d_Ground_word_of.kws K) (He.fAd K d_Ground_word_of.at_) fd ∧ FnOk P w K mg base (L2.CX P w) 3 (He.fAd K d_Ground_word_of.at_) fd ["self", "letters"] (spWoE K) := by
  obtain ⟨fdC, FC0, FC⟩ := ok_contains (P := P) (w := w) (base := base) T
  have bC : Binds K fdC ["self", "letter"] [] := FC0.bindsN (fun _ _ _ _ _ _ us hl => match us, hl with | [_, _], _ => rfl)
  obtain ⟨fd, F⟩ := F_Ground_word_of T
  refine ⟨fd, F, FunD.ok F sc_Ground_word_of (fun vs H Q E h => ?_) (fun cdv A outer s H vs Q E hr h => ?_)⟩
  · obtain ⟨g, t, u, gx, dg, fg, ys, rfl, _⟩ := h
    rfl
  · obtain ⟨g, t, u, gx, dg, fg, ys, rfl, ht, hu, hg, hf, hd, hE⟩ := h
    refine ⟨_, (pss_cons (ps_for (passes_of rfl) rfl (pi_list (pv 1)) (pg_name (i := 2) sc_Ground_word_of.nd rfl (by first | exact Or.inl rfl | exact Or.inr rfl))
        (pss_one (ps_if (pt_cmpR (op_notInOwn (mCon T) FC (hr.mono (by walk_at "lvl")) bC) (pv 2) (pv 0) rfl)
          (pss_one (ps_raise rfl (takes_of rfl rfl rfl rfl) (pmk_ox (X_Unknown T) (hr.mono (by walk_at "lvl")) passL (pa_cons (pv 2) pa_nil))))
          pss_nil)))
      (pss_cons (ps_if (pt_cmpR op_eq (pe_callB call_lenG (by rfl) (f_len T) (by decide +kernel) (pa_cons (pv 1) pa_nil)) pe_int (nomark _))
        (pss_one (ps_ret (pe_gs (c_EMPTY T))))
        pss_nil)
      (pss_one ps_never))), ?_⟩
    walk_at "go"
    refine ⟨⟨_, SqL.of ht⟩, for_list (K := K) (a := t) (xs := [.str "b", .ref u, .str "a"]) (fun i σ H' => i ≤ 1 ∧ H' = H ∧ ∃ lv : Option V, σ = [some (.ref g), some (.ref t), lv]) ⟨Nat.zero_le _, rfl, none, rfl⟩ (fun i σ H' _ h => by rw [h.2.1]; exact SqL.of ht) ?_ ?_⟩
    · rintro i x σ H' hx ⟨hi, rfl, lv, rfl⟩
      match i, hi, hx with
      | 0, _, hx =>
        obtain rfl := Option.some.inj hx
        walk_at "go"
        refine ⟨g, gx, fg, rfl, hg, g, gx, dg, fg, _, rfl, hg, hf, hd, .inl ⟨rfl, true, rfl, ?_⟩⟩
        walk_at "go"
        exact ⟨_, rfl⟩
      | 1, _, hx =>
        obtain rfl := Option.some.inj hx
        walk_at "go"
        refine ⟨g, gx, fg, rfl, hg, g, gx, dg, fg, _, rfl, hg, hf, hd, .inr ⟨u, ys, rfl, hu, false, rfl, ?_⟩⟩
        walk_at "go"
        exact (oxr_of (C := He.ga K "Unknown") (n := 1) (fsV := fs1 "Unknown" "value") rfl (by decide) fun d H'' hd s => hE d _ H'' hd rfl s).2
    · rintro σ H' ⟨hi, _⟩
      exact absurd (show 3 ≤ 1 from hi) (by decide)
end
end K00
end -- a18
section -- a19
set_option Elab.async false
set_option linter.all false
set_option maxRecDepth 100000
set_option maxHeartbeats 4000000
local macro_rules | `(tactic| walk_at "lvl") => `(tactic| first
  | decide
  | omega
  | (simp only [Nat.add_eq]; omega))
local macro_rules | `(tactic| walk_at "side") => `(tactic| first
  | decide
  | assumption
  | omega
  | exact Nat.le_of_ble_eq_true (by rfl)
  | exact ⟨by decide, by decide⟩
  | exact ⟨by decide, by decide, by decide⟩
  | exact Or.inl (Or.inr ⟨by decide, by decide⟩)
  | exact Or.inl (Or.inl ⟨by decide, by decide⟩))
local macro_rules | `(tactic| walk_at "ty") => `(tactic| first
  | assumption
  | exact L2.TyG.x (.base (.int _))
  | exact L2.TyG.x (.base (.str _))
  | exact L2.TyG.x (.base (.bl _))
  | exact L2.TyG.x (.base .non)
  | exact L2.TyG.x (.base (.lst (by assumption)))
  | exact L2.TyG.x (.base (.tup (by assumption)))
  | exact K00.tyR (by assumption) (by assumption)
  | exact L2.TyG.dn (by assumption))
local macro_rules | `(tactic| walk_at "cv") => `(tactic| first
  | exact L2.ClsV.ty _
  | exact L2.ClsV.own _)
local macro_rules | `(tactic| walk_at "kit") => `(tactic| first
  | exact L2.kit_ty (by decide +kernel)
  | exact K00.kR (by assumption) (by decide)
  | exact K00.kR2 (by assumption) (by decide)
  | exact K00.kR3 (by assumption))
local macro_rules | `(tactic| walk_at "s1") => `(tactic| first
  | refine ⟨_, rfl, ?_⟩
  | refine ⟨_, _, rfl, rfl, ?_⟩
  | refine ⟨_, _, rfl, ?_⟩
  | refine And.intro rfl ?_
  | refine L2.iteT ?_
  | refine L2.iteF ?_
  | refine L2.st_ixl (by assumption) (by rfl) ?_
  | refine L2.st_ixt (by assumption) (by rfl) ?_
  | refine L2.st_lenR (L2.lenr_l (by assumption)) ?_
  | refine L2.st_lenGR (L2.lenr_l (by assumption)) ?_
  | refine L2.st_lenGR (L2.lenr_t (by assumption)) ?_
  | refine L2.st_lenR (L2.lenr_t (by assumption)) ?_
  | refine L2.st_isG (b := false) (by walk_at "ty") (by walk_at "cv") (by walk_at "kit") ?_
  | refine L2.st_isG (b := true) (by walk_at "ty") (by walk_at "cv") (by walk_at "kit") ?_
  | refine And.intro (by walk_at "side") ?_)
local macro_rules | `(tactic| walk_at "go") => `(tactic| repeat (walk_at "s1"))
namespace K00
open PySem PySem.Spec PyProof.Rows L2
section
variable {P : Program} {w : World} {K : PySem.W.Frag} {mg : Str → Option Value} {base : Heap}
/-- a list of different names -/
def spAre (K : PySem.W.Frag) : Sp := fun vs H Q _ => ∃ (l : Addr) (ws : List Str), vs = [.ref l] ∧ H l = some (.lst (ws.map V.str)) ∧ ws.Nodup ∧ ws.length < 4000 ∧ (∀ z ∈ ws, isN z = true ∧ z.length ≤ 1000) ∧ ∀ H', Same H H' → Q (.bl true) H'
theorem G_are_names (T : TL K mg) : FX P w K mg base 4 "are_names" [] (spAre K) := by
  have R := G_is_name (P := P) (w := w) (base := base) T
  obtain ⟨fd, F⟩ := F_are_names T
  refine FX.of F (g_are_names T) (F.ok0 sc_are_names (fun vs H Q E h => ?_) (fun cdv A outer s H vs Q E hr h => ?_)) (fun _ _ _ _ _ _ us hl => match us, hl with | [_], _ => rfl)
  · obtain ⟨l, ws, rfl, _⟩ := h
    rfl
  · obtain ⟨l, ws, rfl, hl, nd, len, hz, q⟩ := h
    refine ⟨_, (pss_cons (ps_if (pt_not (pt_val (pe_callB call_isiT (by rfl) (f_isinstance T) (by decide +kernel) (pa_cons (pv 0) (pa_cons (pe_tup (pa_cons (pe_bty (n := "list") (f_list T) (by decide +kernel)) (pa_cons (pe_bty (n := "tuple") (f_tuple T) (by decide +kernel)) pa_nil))) pa_nil)))))
        (pss_one (ps_ret pe_bl))
        pss_nil)
      (pss_cons (ps_for PassesOwn.never rfl (pi_list (pv 0)) (pg_name (i := 1) sc_are_names.nd rfl (by first | exact Or.inl rfl | exact Or.inr rfl))
        (pss_one (ps_if (pt_not (pt_val (pe_fx (G_is_name T) (hr.mono (by walk_at "lvl")) passL (pa_cons (pv 1) pa_nil))))
          (pss_one (ps_ret pe_bl))
          pss_nil)))
      (pss_one (ps_ret (pe_cmpR op_eq (pe_lenSetD rfl (by rfl) (f_len T) (by rfl) (f_set T) (pv 0)) (pe_callB call_lenG (by rfl) (f_len T) (by decide +kernel) (pa_cons (pv 0) pa_nil)) (nomark _)))))), ?_⟩
    walk_at "go"
    intro p np
    generalize e : upd H p _ = H1
    have hp : H1 p = some (.tup [.ty "list", .ty "tuple"]) := by rw [← e]; exact upd_same
    have sm : Same H H1 := by rw [← e]; exact Same.new np
    have hl1 := sm _ _ hl
    refine ⟨.ref l, p, _, .type "list", [.type "list", .type "tuple"], true, rfl, hp, .cons (.ty _) (.cons (.ty _) .nil), .base (.lst hl1), ?_, ?_⟩
    · have k : PySem.W.kitOne K (.type "list") (.type "list") = some true := L2.kit_ty (by decide +kernel)
      show PySem.W.kitAny K (.type "list") [.type "list", .type "tuple"] = some true
      unfold PySem.W.kitAny
      rw [k]
    walk_at "go"
    refine ⟨⟨_, SqL.of hl1⟩, for_list (K := K) (a := l) (xs := ws.map V.str) (fun i σ H' => Same H1 H' ∧ ∃ lv : Option V, σ = [some (.ref l), lv]) ⟨fun _ _ z => z, none, rfl⟩ (fun i σ H' _ h => SqL.of (h.1 _ _ hl1)) ?_ ?_⟩
    · rintro i x σ H' hx ⟨s1, lv, rfl⟩
      obtain ⟨z, hm, rfl⟩ := List.mem_map.mp (List.mem_of_getElem? hx)
      obtain ⟨hn, hs⟩ := hz z hm
      walk_at "go"
      refine st_nmS hs fun H2 s2 => ?_
      rw [hn]
      walk_at "go"
      exact ⟨s1.trans s2, _, rfl⟩
    · rintro σ H' ⟨s1, lv, rfl⟩
      have hl2 := s1 _ _ hl1
      walk_at "go"
      refine ⟨l, ws, rfl, SqL.of hl2, nd, len, ?_⟩
      walk_at "go"
      rw [List.length_map, decide_eq_true rfl]
      exact q _ (sm.trans s1)
end
end K00
end -- a19
section -- a20
set_option Elab.async false
set_option linter.all false
set_option maxRecDepth 100000
set_option maxHeartbeats 4000000
local macro_rules | `(tactic| walk_at "lvl") => `(tactic| first
  | decide
  | omega
  | (simp only [Nat.add_eq]; omega))
local macro_rules | `(tactic| walk_at "side") => `(tactic| first
  | decide
  | assumption
  | omega
  | exact Nat.le_of_ble_eq_true (by rfl)
  | exact ⟨by decide, by decide⟩
  | exact ⟨by decide, by decide, by decide⟩
  | exact Or.inl (Or.inr ⟨by decide, by decide⟩)
  | exact Or.inl (Or.inl ⟨by decide, by decide⟩))
local macro_rules | `(tactic| walk_at "ty") => `(tactic| first
  | assumption
  | exact L2.TyG.x (.base (.int _))
  | exact L2.TyG.x (.base (.str _))
  | exact L2.TyG.x (.base (.bl _))
  | exact L2.TyG.x (.base .non)
  | exact L2.TyG.x (.base (.lst (by assumption)))
  | exact L2.TyG.x (.base (.tup (by assumption)))
  | exact K00.tyR (by assumption) (by assumption)
  | exact L2.TyG.dn (by assumption))
local macro_rules | `(tactic| walk_at "cv") => `(tactic| first
  | exact L2.ClsV.ty _
  | exact L2.ClsV.own _)
local macro_rules | `(tactic| walk_at "kit") => `(tactic| first
  | exact L2.kit_ty (by decide +kernel)
  | exact K00.kR (by assumption) (by decide)
  | exact K00.kR2 (by assumption) (by decide)
  | exact K00.kR3 (by assumption))
local macro_rules | `(tactic| walk_at "s1") => `(tactic| first
  | refine ⟨_, rfl, ?_⟩
  | refine ⟨_, _, rfl, rfl, ?_⟩
  | refine ⟨_, _, rfl, ?_⟩
  | refine And.intro rfl ?_
  | refine L2.iteT ?_
  | refine L2.iteF ?_
  | refine L2.st_ixl (by assumption) (by rfl) ?_
  | refine L2.st_ixt (by assumption) (by rfl) ?_
  | refine L2.st_lenR (L2.lenr_l (by assumption)) ?_
  | refine L2.st_lenGR (L2.lenr_l (by assumption)) ?_
  | refine L2.st_lenGR (L2.lenr_t (by assumption)) ?_
  | refine L2.st_lenR (L2.lenr_t (by assumption)) ?_
  | refine L2.st_isG (b := false) (by walk_at "ty") (by walk_at "cv") (by walk_at "kit") ?_
  | refine L2.st_isG (b := true) (by walk_at "ty") (by walk_at "cv") (by walk_at "kit") ?_
  | refine And.intro (by walk_at "side") ?_)
local macro_rules | `(tactic| walk_at "go") => `(tactic| repeat (walk_at "s1"))
namespace L2
open PySem PySem.Spec PyProof.Rows
/-- a dict comprehension over enumerate of a tuple that stays -/
theorem dc_enT {K : PySem.W.Frag} {a : Addr} {xs : List V} {g : TG} {tt : TT} {tk tv : TE} {vs : List Nat} {σ : St} {H1 : Hp} {D : Addr} {Qd : Hp → Prop} (Pv : Nat → Hp → Prop) (h0 : Pv 0 (upd H1 D (.dK []))) (hl : ∀ i H, i ≤ xs.length → Pv i H → SqT K H a xs)
    (hs : ∀ i x H T, xs[i]? = some x → Pv i H → H T = none → g (.ref T) (wipe σ vs) (upd H T (.tup [.int (i : Nat), x])) fun σ2 H2 => wipe σ2 vs = wipe σ vs ∧ tt σ2 H2 fun b H3 =>
      if b = true then tk σ2 H3 fun y H4 => tv σ2 H4 fun z H5 => ∃ kvs k, y = kV k ∧ H5 D = some (.dK kvs) ∧ kvs.length < sizeLine ∧ Pv (i + 1) (upd H5 D (.dK (putK kvs k z))) else Pv (i + 1) H3) (hd : ∀ H, Pv xs.length H → Qd H) :
    ∃ W : Nat → Nat → Hp → Prop, (∃ m, W 0 m (upd H1 D (.dK []))) ∧ ∀ i m H, W i m H →
      ((IteT K a).stop i H ∧ Qd H) ∨ ((IteT K a).go i H ∧ ∃ Nx : Hp → Prop, (∀ H', Nx H' → ∃ m', m' < m ∧ W (i + 1) m' H') ∧ ∀ x H', (IteT K a).yld i H x H' → g x (wipe σ vs) H' fun σ2 H2 => wipe σ2 vs = wipe σ vs ∧ tt σ2 H2 fun b H3 =>
        if b = true then tk σ2 H3 fun y H4 => tv σ2 H4 fun z H5 => ∃ kvs k, y = kV k ∧ H5 D = some (.dK kvs) ∧ kvs.length < sizeLine ∧ Nx (upd H5 D (.dK (putK kvs k z))) else Nx H3) := by
  refine ⟨fun i m H => m = xs.length - i ∧ i ≤ xs.length ∧ Pv i H, ⟨_, rfl, Nat.zero_le _, h0⟩, ?_⟩
  rintro i m H ⟨rfl, hi, p⟩
  have q := hl i H hi p
  rcases Nat.lt_or_ge i xs.length with lt | ge
  · refine .inr ⟨⟨xs, xs[i], q, by simp [lt]⟩, Pv (i + 1), fun H' p' => ⟨xs.length - (i + 1), by omega, rfl, lt, p'⟩, ?_⟩
    rintro v H' ⟨T, x, rfl, hT, rfl, hx⟩
    exact hs i x H T (hx xs q) p hT
  · obtain rfl : i = xs.length := Nat.le_antisymm hi ge
    exact .inl ⟨⟨xs, q, Nat.le_refl _⟩, hd H p⟩
end L2
namespace K00
open PySem PySem.Spec PyProof.Rows L2
section
variable {P : Program} {w : World} {K : PySem.W.Frag} {mg : Str → Option Value} {base : Heap}
/-- Ground(['a', 'b']) -/
def spGnd (K : PySem.W.Frag) : Sp := fun vs H Q _ => ∃ (x dx l : Addr), vs = [.ref x, .ref l] ∧ H x = some (.ins (GC K) dx []) ∧ H l = some (.lst [.str "a", .str "b"]) ∧
  ∀ (H' : Hp) (fg : List (Str × V)) (dg : Addr), H' x = some (.ins (GC K) dx fg) → fg.lookup ("_ranks" : Str) = some (.ref dg) → fg.lookup ("word_of" : Str) = none → H' dg = some (.dK [(.inr "a", .int 0), (.inr "b", .int 1)]) → (∀ b o, b ≠ x → H b = some o → H' b = some o) → Q .non H'
theorem ok_Ground (T : TL K mg) : ∃ fd, FunD K d_Ground___init__.name d_Ground___init__.qual d_Ground___init__.params d_Ground___init__.body d_Ground___init__.scope (d_Ground___init__.dvs K) (d_Ground___init__.kws K) (He.fAd K d_Ground___init__.at_) fd ∧ FnOk P w K mg base (L2.CX P w) 6 (He.fAd K d_Ground___init__.at_) fd ["self", "letters"] (spGnd K) := by
  have R := G_are_names (P := P) (w := w) (base := base) T
  obtain ⟨fd, F⟩ := F_Ground___init__ T
  refine ⟨fd, F, F.ok0 sc_Ground___init__ (fun vs H Q E h => ?_) (fun cdv A outer s H vs Q E hr h => ?_)⟩
  · obtain ⟨x, dx, l, rfl, _⟩ := h
    rfl
  · obtain ⟨x, dx, l, rfl, hx, hl, q⟩ := h
    refine ⟨_, (pss_cons (ps_if (PW.pt (pw_or (pt_not (pt_val (pe_fx (G_are_names T) (hr.mono (by walk_at "lvl")) passL (pa_cons (pv 1) pa_nil)))) (pw_or1 (pt_cmpR op_eq (pe_callB call_lenG (by rfl) (f_len T) (by decide +kernel) (pa_cons (pv 1) pa_nil)) pe_int (nomark _)))))
        (pss_one ps_never)
        pss_nil)
      (pss_cons (ps_fld (pv 0) (pe_callTy (T := "tuple") call_tupG (by rfl) (f_tuple T) (by decide +kernel) (pa_cons (pv 1) pa_nil)) rfl)
      (pss_one (ps_fld (pv 0) (pe_dc (own := [("at", 2), ("letter", 3)]) (g := gTup K 2 (gCons (gName 2) (gCons (gName 3) gNil))) (tt := tYes) rfl sc_Ground___init__.nd (pi_enT (by rfl) (f_enumerate T) (pa_cons (pe_fld (pv 0) rfl) pa_nil)) (blkOk_by (N := N_Ground___init__) (sc := defScope s_Ground___init__) (by decide +kernel)) (fun _ _ _ _ _ => pg_tup rfl (pgs_cons (pg_name (i := 2) sc_Ground___init__.nd rfl (Or.inl rfl)) (pgs_cons (pg_name (i := 3) sc_Ground___init__.nd rfl (Or.inl rfl)) pgs_nil))) (fun _ _ _ _ _ => pts_nil) (fun _ _ _ _ _ => (pv 3)) (fun _ _ _ _ _ => (pv 2))) rfl)))), ?_⟩
    walk_at "go"
    refine ⟨l, ["a", "b"], rfl, hl, by decide +kernel, by decide, fun z hz => ?_, fun H1 s1 => ?_⟩
    · rcases List.mem_cons.mp hz with rfl | hz
      · exact ⟨by decide +kernel, by decide +kernel⟩
      · obtain rfl := List.mem_singleton.mp hz
        exact ⟨by decide +kernel, by decide +kernel⟩
    have hl1 := s1 _ _ hl
    have hx1 := s1 _ _ hx
    walk_at "go"
    refine st_tupL (SqL.of hl1) fun p H2 np hp s2 => ?_
    have hx2 := s2 _ _ hx1
    refine ⟨_, rfl, x, _, dx, [], rfl, hx2, He.cls_ok (a_cls_Ground T), He.noat_ok (a_noat_Ground_letters T), by decide, ?_⟩
    walk_at "go"
    generalize e3 : upd H2 x _ = H3
    have hx3 : H3 x = some (.ins (GC K) dx (putF ("letters" : Str) (.ref p) [])) := by rw [← e3]; exact upd_same
    have np' : x ≠ p := fun z => by rw [z, hp] at hx2; cases hx2
    have hp3 : H3 p = some (.tup [.str "a", .str "b"]) := by rw [← e3, upd_ne (Ne.symm np')]; exact hp
    have k3 : ∀ b o, b ≠ x → H2 b = some o → H3 b = some o := fun b o hb h => by rw [← e3, upd_ne hb]; exact h
    refine ⟨x, _, dx, _, .ref p, rfl, hx3, He.cls_ok (a_cls_Ground T), He.noat_ok (a_noat_Ground_letters T), rfl, ?_⟩
    refine ⟨p, _, rfl, SqT.of hp3, fun D nD => ?_⟩
    refine dc_enT (K := K) (a := p) (xs := [.str "a", .str "b"]) (fun i H => H D = some (.dK ([(.inr "a", .int 0), (.inr "b", .int 1)].take i)) ∧ ∀ b o, b ≠ D → H3 b = some o → H b = some o) ⟨upd_same, fun b o hb h => by rw [upd_ne hb]; exact h⟩ (fun i H _ h => SqT.of (h.2 _ _ (fun z => by rw [z, nD] at hp3; cases hp3) hp3)) ?_ ?_
    · rintro i x0 H4 T0 hx0 ⟨hD, k4⟩ nT
      have nTD : D ≠ T0 := fun z => by rw [z, nT] at hD; cases hD
      have hT0 : (upd H4 T0 (.tup [.int (i : Nat), x0])) T0 = some (.tup [.int (i : Nat), x0]) := upd_same
      refine ⟨T0, _, rfl, SqT.of hT0, rfl, _, _, rfl, _, _, rfl, rfl, rfl, ?_⟩
      refine ⟨_, rfl, _, rfl, ?_⟩
      show ∃ kvs k, _
      have hD5 : (upd H4 T0 (.tup [.int (i : Nat), x0])) D = _ := (upd_ne nTD).trans hD
      have kk : ∀ kv, ∀ b o, b ≠ D → H3 b = some o → (upd (upd H4 T0 (.tup [.int (i : Nat), x0])) D kv) b = some o := fun kv b o hb h => by
        have z := k4 b o hb h
        rw [upd_ne hb, upd_ne (fun q => by rw [q, nT] at z; cases z)]
        exact z
      match i, hx0 with
      | 0, hx0 =>
        obtain rfl := Option.some.inj hx0
        exact ⟨_, .inr "a", rfl, hD5, by decide, upd_same, kk _⟩
      | 1, hx0 =>
        obtain rfl := Option.some.inj hx0
        exact ⟨_, .inr "b", rfl, hD5, by decide, upd_same, kk _⟩
      | n + 2, hx0 => simp at hx0
    · rintro H4 ⟨hD, k4⟩
      have nx : x ≠ D := fun z => by rw [z, nD] at hx3; cases hx3
      have hx4 := k4 x _ nx hx3
      refine ⟨_, rfl, x, _, dx, _, rfl, hx4, He.cls_ok (a_cls_Ground T), He.noat_ok (a_noat_Ground__ranks T), (show 1 < 1000 by decide), ?_⟩
      refine q _ _ D upd_same rfl rfl (by rw [upd_ne (Ne.symm nx)]; exact hD) fun b o hb h => ?_
      rw [upd_ne hb]
      have h2 := k3 b o hb (s2 _ _ (s1 _ _ h))
      exact k4 b o (fun z => by rw [z, nD] at h2; cases h2) h2
end
end K00
end -- a20
section -- a21
set_option Elab.async false
set_option linter.all false
set_option maxRecDepth 100000
set_option maxHeartbeats 4000000
local macro_rules | `(tactic| walk_at "lvl") => `(tactic| first
  | decide
  | omega
  | (simp only [Nat.add_eq]; omega))
local macro_rules | `(tactic| walk_at "side") => `(tactic| first
  | decide
  | assumption
  | omega
  | exact Nat.le_of_ble_eq_true (by rfl)
  | exact ⟨by decide, by decide⟩
  | exact ⟨by decide, by decide, by decide⟩
  | exact Or.inl (Or.inr ⟨by decide, by decide⟩)
  | exact Or.inl (Or.inl ⟨by decide, by decide⟩))
local macro_rules | `(tactic| walk_at "ty") => `(tactic| first
  | assumption
  | exact L2.TyG.x (.base (.int _))
  | exact L2.TyG.x (.base (.str _))
  | exact L2.TyG.x (.base (.bl _))
  | exact L2.TyG.x (.base .non)
  | exact L2.TyG.x (.base (.lst (by assumption)))
  | exact L2.TyG.x (.base (.tup (by assumption)))
  | exact K00.tyR (by assumption) (by assumption)
  | exact L2.TyG.dn (by assumption))
local macro_rules | `(tactic| walk_at "cv") => `(tactic| first
  | exact L2.ClsV.ty _
  | exact L2.ClsV.own _)
local macro_rules | `(tactic| walk_at "kit") => `(tactic| first
  | exact L2.kit_ty (by decide +kernel)
  | exact K00.kR (by assumption) (by decide)
  | exact K00.kR2 (by assumption) (by decide)
  | exact K00.kR3 (by assumption))
local macro_rules | `(tactic| walk_at "s1") => `(tactic| first
  | refine ⟨_, rfl, ?_⟩
  | refine ⟨_, _, rfl, rfl, ?_⟩
  | refine ⟨_, _, rfl, ?_⟩
  | refine And.intro rfl ?_
  | refine L2.iteT ?_
  | refine L2.iteF ?_
  | refine L2.st_ixl (by assumption) (by rfl) ?_
  | refine L2.st_ixt (by assumption) (by rfl) ?_
  | refine L2.st_lenR (L2.lenr_l (by assumption)) ?_
  | refine L2.st_lenGR (L2.lenr_l (by assumption)) ?_
  | refine L2.st_lenGR (L2.lenr_t (by assumption)) ?_
  | refine L2.st_lenR (L2.lenr_t (by assumption)) ?_
  | refine L2.st_isG (b := false) (by walk_at "ty") (by walk_at "cv") (by walk_at "kit") ?_
  | refine L2.st_isG (b := true) (by walk_at "ty") (by walk_at "cv") (by walk_at "kit") ?_
  | refine And.intro (by walk_at "side") ?_)
local macro_rules | `(tactic| walk_at "go") => `(tactic| repeat (walk_at "s1"))
namespace K00
open PySem PySem.Spec PyProof.Rows L2 L2H
section
variable {P : Program} {w : World} {K : PySem.W.Frag} {mg : Str → Option Value} {base : Heap}
/-- _law_bases of what a suite holds, if it is of class p and has a dict -/
def spBPc (K : PySem.W.Frag) (p : Nat) (a : Addr) (cls : Value) (d : Option Addr) : Sp := fun vs H Q E => ∃ dd, cls = .ref (cN K p) ∧ d = some dd ∧ spBP p a dd vs H Q E
theorem pinB (T : TL K mg) {p : Nat} (hp : p < 20) {a : Addr} {oe : Obj} {cls : Value} {d : Option Addr} (hz : Zc cls d oe) (hf : ∃ vs, oe.data = .fields vs) {fd : FuncData}
    (F : FunD K d__law_bases.name d__law_bases.qual d__law_bases.params d__law_bases.body d__law_bases.scope (d__law_bases.dvs K) (d__law_bases.kws K) (He.fAd K d__law_bases.at_) fd) :
    FnPin P w K mg base 1 (He.fAd K d__law_bases.at_) fd ["err"] (spBPc K p a cls d) (a, oe) := by
  refine ⟨fun vs H Q E h => ?_, fun A outer s H args us vs Q E hr hpin e0 hb r hsp => ?_⟩
  · obtain ⟨dd, _, _, rfl, _⟩ := h
    rfl
  · obtain ⟨dd, h1, h2, h3⟩ := hsp
    exact (pin_bases T hp (hz.1.trans h1) (hz.2.trans h2) hf fd F).run A outer s H args us vs Q E hr hpin e0 hb r h3
theorem xfN (T : TL K mg) {p : Nat} (hp : p < 20) : XfC K (cN K p) := ⟨(xcN T hp).hg, (xcN T hp).hk, (xcN T hp).hs, (xcN T hp).hd⟩
theorem mkG (T : TL K mg) : Mk K (GC K) (He.ma K (GC K) "__init__") := He.mkr_ok (a_mkr_Ground T)
theorem mWo (T : TL K mg) : Meth K (GC K) "word_of" (He.ma K (GC K) "word_of") := He.meth_ok (a_meth_Ground_word_of T)
theorem dpApp {H : Hp} : ∀ {as bs : List V} {cs ds : List PyData}, DpAll K H as cs → DpAll K H bs ds → DpAll K H (as ++ bs) (cs ++ ds)
  | _, _, _, _, .nil, h => h
  | _, _, _, _, .cons x y, h => .cons x (dpApp y h)
def tkD : List PyData := (((bB 7).map PyData.bool ++ [.str "Unknown"]) ++ (bB 0).map PyData.bool) ++ [.str "InvalidRatio"]
theorem tkSh : SeqAt.shaped (.list tkD) = true := by first | decide +kernel | kernel_rfl
theorem tkDp {H : Hp} : DpAll K H (((bL 7 ++ [.str "Unknown"]) ++ bL 0) ++ [.str "InvalidRatio"]) tkD :=
  dpApp (dpApp (dpApp (dpBls (bB 7)) (.cons (.str _) .nil)) (dpBls (bB 0))) (.cons (.str _) .nil)
theorem G__law_taken (T : TL K mg) : FX P w K mg base 12 "_law_taken" [] spNs := by
  have GV := G_value (P := P) (w := w) (base := base) T 2
  obtain ⟨fdG, FG0, FG⟩ := ok_Ground (P := P) (w := w) (base := base) T
  have bG : Binds K fdG ["self", "letters"] [] := FG0.bindsN (fun _ _ _ _ _ _ us hl => match us, hl with | [_, _], _ => rfl)
  obtain ⟨fdW, FW0, FW⟩ := ok_word_ofE (P := P) (w := w) (base := base) T
  have bW : Binds K fdW ["self", "letters"] [] := FW0.bindsN (fun _ _ _ _ _ _ us hl => match us, hl with | [_, _], _ => rfl)
  obtain ⟨fdR, FR0, FR⟩ := ok_RatioE (P := P) (w := w) (base := base) T
  have bR := bRat FR0
  obtain ⟨fdB, FB⟩ := F__law_bases T
  have bB : Binds K fdB ["err"] [] := FB.bindsN (fun _ _ _ _ _ _ us hl => match us, hl with | [_], _ => rfl)
  obtain ⟨fd, F⟩ := F__law_taken T
  refine FX.of F (g__law_taken T) (F.ok0 sc__law_taken (fun vs H Q E h => ?_) (fun cdv A outer s H vs Q E hr h => ?_)) (fun _ _ _ _ _ _ us hl => match us, hl with | [_], _ => rfl)
  · obtain ⟨b, l, rfl, _⟩ := h
    rfl
  · obtain ⟨b, l, rfl, hB, k⟩ := h
    have hrM : ∀ a : Addr, RoomH 1 ((A.deeper (envOfC d__law_taken.qual d__law_taken.scope s.heap.objs.size (He.fAd K d__law_taken.at_) cdv)).mark (some (.ref a))) := fun a => ⟨(roomH_of (hr.mono (show 1 ≤ 11 by decide))).dp, (roomH_of (hr.mono (show 1 ≤ 11 by decide))).un⟩
    refine ⟨_, (pss_cons (ps_set (i := 1) sc__law_taken.nd rfl (by first | exact Or.inl rfl | exact Or.inr rfl) (pe_make (mkG T) FG (hr.mono (by walk_at "lvl")) rfl (g_Ground T) bG .nil passL (pa_cons (pe_lst (pa_cons pe_str (pa_cons pe_str pa_nil))) pa_nil)))
      (pss_cons (ps_par (i := 2) (j := 3) (by rfl) sc__law_taken.nd rfl rfl (by decide) rfl rfl (pa_cons (pe_fx GV (hr.mono (by walk_at "lvl")) passL (pa_cons (pv 0) (pa_cons pe_int pa_nil))) (pa_cons (pe_fx (G__law_digits T) (hr.mono (by walk_at "lvl")) passL (pa_cons (pv 0) (pa_cons pe_int pa_nil))) pa_nil)) (by rfl))
      (pss_cons (ps_set (i := 4) sc__law_taken.nd rfl (by first | exact Or.inl rfl | exact Or.inr rfl) (pe_lst pa_nil))
      (pss_cons (ps_try_as (i := 5) rfl rfl sc__law_taken.nd rfl rfl ⟨rfl, by decide, Or.inl (g_MissingError T)⟩ takes_none5
        (fun W pn xe tk _ => pss_one (ps_expr (pe_methX (pv 1) (He.cls_ok (a_cls_Ground T)) (mWo T) FW (hr.mono (by walk_at "lvl")) bW (fun σ => passAt tk σ) (pa_cons (pe_lst (pa_cons pe_str (pa_cons (pe_lst (pa_cons (pv 2) pa_nil)) (pa_cons pe_str pa_nil)))) pa_nil))))
        (fun a oe cls d pn hz hf => pss_one (ps_set (i := 4) sc__law_taken.nd rfl (Or.inl rfl) (pe_op op_addG (pe_pin (pinB T (p := 7) (by decide) hz hf FB) (hrM a) (List.mem_cons_self) (g__law_bases T) FB.kp bB passL (pa_cons (pv 5) pa_nil)) (pe_lst (pa_cons (pe_xf (xfN T (p := 7) (by decide)) (noCode T (p := 7) (by decide)) hz hf (pv 5)) pa_nil))))))
      (pss_cons (ps_try_as (i := 5) rfl rfl sc__law_taken.nd rfl rfl ⟨rfl, by decide, Or.inl (g_CellsError T)⟩ takes_none5
        (fun W pn xe tk _ => pss_one (ps_expr (pe_makeS (mkR T) FR (hr.mono (by walk_at "lvl")) (g_Ratio T) bR .nil (fun σ => passAt tk σ) (pa_cons (pv 3) (pa_cons pe_int pa_nil)))))
        (fun a oe cls d pn hz hf => pss_one (ps_set (i := 4) sc__law_taken.nd rfl (Or.inl rfl) (pe_op op_addG (pe_op op_addG (pv 4) (pe_pin (pinB T (p := 0) (by decide) hz hf FB) (hrM a) (List.mem_cons_self) (g__law_bases T) FB.kp bB passL (pa_cons (pv 5) pa_nil))) (pe_lst (pa_cons (pe_xf (xfN T (p := 0) (by decide)) (noCode T (p := 0) (by decide)) hz hf (pv 5)) pa_nil))))))
      (pss_one (ps_ret (pe_cmpR (op_eqD hr.units) (pv 4) (pe_op op_addG (pe_op op_addG (pe_op op_addG (pe_fx (G__law_bases_due T) (hr.mono (by walk_at "lvl")) passL (pa_cons pe_int pa_nil)) (pe_lst (pa_cons pe_str pa_nil))) (pe_fx (G__law_bases_due T) (hr.mono (by walk_at "lvl")) passL (pa_cons pe_int pa_nil))) (pe_lst (pa_cons pe_str pa_nil))) (nomark _))))))))), ?_⟩
    walk_at "go"
    intro r1 n1
    generalize e1 : upd H r1 _ = H1
    have a1 : H1 r1 = some (.lst [.str "a", .str "b"]) := by rw [← e1]; exact upd_same
    have s1 : Same H H1 := by rw [← e1]; exact Same.new n1
    intro g dx ng ndx hne
    generalize e2 : upd (upd H1 dx (.own g)) g _ = H2
    have hg2 : H2 g = some (.ins (GC K) dx []) := by rw [← e2]; exact upd_same
    have s2 : Same H1 H2 := fun b o h => by rw [← e2, upd_ne (ne_of_none h ng), upd_ne (ne_of_none h ndx)]; exact h
    refine ⟨g, dx, r1, rfl, hg2, s2 _ _ a1, fun H3 fg dg hg hf hfw hd k3 => ⟨rfl, ?_⟩⟩
    walk_at "go"
    have ngH : H g = none := by
      cases q : H g with
      | none => rfl
      | some o => rw [s1 _ _ q] at ng; cases ng
    have s3 : Same H H3 := fun c o h => k3 c o (ne_of_none h ngH) (s2 _ _ (s1 _ _ h))
    have hB3 := hB.same s3
    refine ⟨b, l, rfl, hB3, fun v H4 hv hB4 x4 => ?_⟩
    walk_at "go"
    refine ⟨b, l, 12, rfl, hB4, by decide, fun m H5 m0 hB5 x5 => ?_⟩
    walk_at "go"
    have hg5 : H5 g = some (.ins (GC K) dx fg) := extOff hB4 x5 (extOff hB3 x4 hg (fun _ z => nomatch z)) (fun _ z => nomatch z)
    have hd5 := extOff hB4 x5 (extOff hB3 x4 hd (fun _ z => nomatch z)) (fun _ z => nomatch z)
    intro r6 n6
    generalize e6 : upd H5 r6 _ = H6
    have a6 : H6 r6 = some (.lst []) := by rw [← e6]; exact upd_same
    have s6 : Same H5 H6 := by rw [← e6]; exact Same.new n6
    walk_at "go"
    refine ⟨g, dx, fg, rfl, s6 _ _ hg5, hfw, ?_⟩
    walk_at "go"
    intro r7 n7
    generalize e7 : upd H6 r7 _ = H7
    have a7 : H7 r7 = some (.lst [v]) := by rw [← e7]; exact upd_same
    have s7 : Same H6 H7 := by rw [← e7]; exact Same.new n7
    walk_at "go"
    intro r8 n8
    generalize e8 : upd H7 r8 _ = H8
    have a8 : H8 r8 = some (.lst [.str "b", .ref r7, .str "a"]) := by rw [← e8]; exact upd_same
    have s8 : Same H7 H8 := by rw [← e8]; exact Same.new n8
    have S8 : Same H5 H8 := s6.trans (s7.trans s8)
    refine ⟨g, r8, r7, dx, dg, fg, [v], rfl, a8, s8 _ _ a7, S8 _ _ hg5, hf, S8 _ _ hd5, fun d fs H9 hd9 hc9 s9 => ?_⟩
    have hB9 := hB5.same (S8.trans s9)
    refine ⟨true, He.exm_ok (a_exm_Unknown_MissingError_true T), fun _ a na => ?_, fun z => nomatch z⟩
    walk_at "go"
    refine ⟨d, rfl, rfl, rfl, fs, .inr hd9, fun r10 H10 a10 s10 => ?_⟩
    walk_at "go"
    refine ⟨d, fs, _, rfl, s10 _ _ hd9, hc9, ?_⟩
    walk_at "go"
    intro r11 n11
    generalize e11 : upd H10 r11 _ = H11
    have a11 : H11 r11 = some (.lst [.str (codesL.getD 7 "")]) := by rw [← e11]; exact upd_same
    have s11 : Same H10 H11 := by rw [← e11]; exact Same.new n11
    walk_at "go"
    refine st_addL (s11 _ _ a10) a11 (Nat.le_of_ble_eq_true (by rfl)) fun r12 H12 n12 a12 s12 => ?_
    walk_at "go"
    have hB12 := hB9.same (s10.trans (s11.trans s12))
    intro y dy ny ndy hne2
    generalize e13 : upd (upd H12 dy (.own y)) y _ = H13
    have s13 : Same H12 H13 := fun b o h => by rw [← e13, upd_ne (ne_of_none h ny), upd_ne (ne_of_none h ndy)]; exact h
    refine ⟨y, m, rfl, fun d2 fs2 H14 hd14 hc14 s14 => ?_⟩
    have hB14 := hB12.same (s13.trans s14)
    refine ⟨true, He.exm_ok (a_exm_InvalidRatio_CellsError_true T), fun _ a2 na2 => ?_, fun z => nomatch z⟩
    walk_at "go"
    refine ⟨d2, rfl, rfl, rfl, fs2, .inr hd14, fun r15 H15 a15 s15 => ?_⟩
    walk_at "go"
    have S15 : Same H12 H15 := s13.trans (s14.trans s15)
    refine st_addL (S15 _ _ a12) a15 (Nat.le_of_ble_eq_true (by rfl)) fun r16 H16 n16 a16 s16 => ?_
    walk_at "go"
    refine ⟨d2, fs2, _, rfl, s16 _ _ (s15 _ _ hd14), hc14, ?_⟩
    walk_at "go"
    intro r17 n17
    generalize e17 : upd H16 r17 _ = H17
    have a17 : H17 r17 = some (.lst [.str (codesL.getD 0 "")]) := by rw [← e17]; exact upd_same
    have s17 : Same H16 H17 := by rw [← e17]; exact Same.new n17
    walk_at "go"
    refine st_addL (s17 _ _ a16) a17 (Nat.le_of_ble_eq_true (by rfl)) fun r18 H18 n18 a18 s18 => ?_
    walk_at "go"
    refine ⟨7, by decide, rfl, fun r19 H19 a19 s19 => ?_⟩
    walk_at "go"
    intro r20 n20
    generalize e20 : upd H19 r20 _ = H20
    have a20 : H20 r20 = some (.lst [.str "Unknown"]) := by rw [← e20]; exact upd_same
    have s20 : Same H19 H20 := by rw [← e20]; exact Same.new n20
    walk_at "go"
    refine st_addL (s20 _ _ a19) a20 (Nat.le_of_ble_eq_true (by rfl)) fun r21 H21 n21 a21 s21 => ?_
    walk_at "go"
    refine ⟨0, by decide, rfl, fun r22 H22 a22 s22 => ?_⟩
    walk_at "go"
    refine st_addL (s22 _ _ a21) a22 (Nat.le_of_ble_eq_true (by rfl)) fun r23 H23 n23 a23 s23 => ?_
    walk_at "go"
    intro r24 n24
    generalize e24 : upd H23 r24 _ = H24
    have a24 : H24 r24 = some (.lst [.str "InvalidRatio"]) := by rw [← e24]; exact upd_same
    have s24 : Same H23 H24 := by rw [← e24]; exact Same.new n24
    walk_at "go"
    refine st_addL (s24 _ _ a23) a24 (Nat.le_of_ble_eq_true (by rfl)) fun r25 H25 n25 a25 s25 => ?_
    have S25 : Same H18 H25 := s19.trans (s20.trans (s21.trans (s22.trans (s23.trans (s24.trans s25)))))
    have d18 : Dp K H25 (.ref r18) (.list tkD) := .lst (SqL.of (S25 _ _ a18)) tkDp
    have d25 : Dp K H25 (.ref r25) (.list tkD) := .lst (SqL.of a25) tkDp
    have sh := tkSh
    refine ⟨_, _, d18, d25, sh, sh, ?_⟩
    rw [SeqAt.eqv_refl _ (SeqAt.canLay_of_shaped sh)]
    have S16 : Same H14 H25 := s15.trans (s16.trans (s17.trans (s18.trans S25)))
    have xx : Ext b H H25 := (Ext.of s3).trans (x4.trans (x5.trans (Ext.of (S8.trans (s9.trans (s10.trans (s11.trans (s12.trans (s13.trans (s14.trans S16))))))))))
    exact k H25 (hB14.same S16) xx
end
end K00
end -- a21
section -- end
set_option Elab.async false
set_option linter.all false
set_option maxRecDepth 100000
set_option maxHeartbeats 0
namespace K00
open PySem PySem.Spec PyProof.Rows L2
theorem fund_one {K : PySem.W.Frag} {x qual : Str} {params : Arguments} {body : List Stmt} {scope : Scope} {dvs : List V} {kws : List (Str × V)} {f : Addr} {fd fd' : FuncData} (F : FunD K x qual params body scope dvs kws f fd) (F' : FunD K x qual params body scope dvs kws f fd') : fd = fd' := by
  obtain ⟨oc, od, dV, kV, doc, pm, an, cdv, ct, osl, _, lk, _⟩ := F.ex
  obtain ⟨oc', od', dV', kV', doc', pm', an', cdv', ct', osl', _, lk', _⟩ := F'.ex
  have e := Option.some.inj (lk.symm.trans lk')
  injection e with _ _ e3
  injection e3
theorem to0 {P : Program} {w : World} {K : PySem.W.Frag} {mg : Str → Option Value} {base : Heap} {k : Nat} {f : Addr} {fd : FuncData} {ps : List Str} {sp : Sp} (F : FnOk P w K mg base (L2.CX P w) k f fd ps sp) (h : ∀ vs H Q E, sp vs H Q E → sp vs H Q E0) : FnOk P w K mg base CX0 k f fd ps sp := by
  refine ⟨F.len, fun A outer s H args us vs Q E hr he hb hv hs => codeAny_mono (F.run A outer s H args us vs Q E0 hr he hb hv (h _ _ _ _ hs)) fun r s' q => ?_⟩
  cases r with
  | ok fl => cases fl <;> exact q
  | error e =>
    obtain ⟨_, _, _, _, _, _, _, _, _, _, _, _, z⟩ := q
    exact z.elim
theorem facts {P : Program} {w : World} {K : PySem.W.Frag} {h : Heap} {mg : Str → Option Value} {f : Addr} (X : K.In h) (G : h.Ns mainGlobals mg) (hfa : mg ("law" : Str) = some (.ref f)) (c : He.SaysD faL fnL K) (e : exL K = true) :
    ∃ fd : FuncData, (∀ (s : Shared) (v : Value), BindsTo s fd ⟨[v], []⟩ [("script", v)]) ∧ ∀ base : Heap, K.In base → base.Ns mainGlobals mg → FnOk P w K mg base CX0 13 f fd ["script"] (spLaw K) := by
  have T : TL K mg := tx_of X G c e
  obtain ⟨fd, F⟩ := F_law T
  have e1 := Option.some.inj (hfa.symm.trans (g_law T))
  have e2 : f = He.ga K "law" := by injection e1
  subst e2
  have b := FunD.bindsA (ps := ["script"]) F fun _ _ _ _ _ _ us hl => match us, hl with | [_], _ => rfl
  refine ⟨fd, fun s v => b s [v] rfl, fun base _ _ => ?_⟩
  obtain ⟨fd', F', ok⟩ := ok_law (P := P) (w := w) (base := base) T (G__law_taken T)
  obtain rfl := fund_one F F'
  exact to0 ok fun _ _ _ _ h => h
end K00
open PySem PySem.W PySem.Calls PyProof.Rows
theorem PySem.Challenge.cw_fewestcells_k00_errors_and_names_judged_holds : PySem.Challenge.rw_fewestcells_k00_errors_and_names_judged.Holds := by
  w_on; o_law
  refine HandSHeadRun.head_imp (r := OpenLaw.row PySem.Challenge.rw_fewestcells_k00_errors_and_names_judged) (q := K00.QV) (H := K00.HK) (ob := K00.obL) (M := 12000) (loose := K00.looseL) (d := HandSHeadRun.topDef (OpenLaw.row PySem.Challenge.rw_fewestcells_k00_errors_and_names_judged).prog 63) (kwd := []) K00.obL_eq
    K00.runL (by kernel_rfl) (by kernel_rfl) (by kernel_rfl) (by rfl) (by first | assumption | decide +kernel) (by decide +kernel) ⟨rfl, rfl, rfl, rfl, rfl, by decide +kernel⟩ ?hw ?hc
  case hw => w_witness2
  case hc =>
    refine L2.walk_ofE (l := PySem.Challenge.rw_fewestcells_k00_errors_and_names_judged) (n := 63) (k := 13) (x := "script") (CX := L2.CX0) rfl (by decide) (by kernel_rfl) ⟨rfl, by decide, by decide⟩ ?F (fun _ _ _ _ z => z)
    intro w mg fa h Y G hmg0
    obtain ⟨K, KX, c, e⟩ := Y
    have hmg : mg ("law" : PySem.Str) = some (.ref fa) := by
      have e : (HandSHeadRun.topDef (OpenLaw.row PySem.Challenge.rw_fewestcells_k00_errors_and_names_judged).prog 63).name = ("law" : PySem.Str) := by kernel_rfl
      rw [← e]
      exact hmg0
    obtain ⟨fd, hb, hF⟩ := K00.facts (P := (PySem.Challenge.rw_fewestcells_k00_errors_and_names_judged).prog) (w := w) KX G hmg c e
    exact ⟨K, fd, K00.spLaw K, KX, hb, fun H a ns hl _ hS => ⟨a, ns, rfl, hS, hl, fun _ => rfl⟩, hF⟩
end -- end
