import PyProof.Rows.All
import Wide.All
import OpenK.AllK
import Wide.FinOn
import KE.KStateDown
import HandS.ForMost
import HandS.Exc
import HandS.TryOnly
import HandS.ExcOwn
import HandS.WordsExc
import HandS.Defaults
import HandS.Codes
import HandS.IsInst
import HandS.Zip
import HandS.Wide
import HandS.Head0
import HandS.Head1
import HandS.Head2
import HandS.Head3
import HandS.HeadEnd
import HandS.HeadHook1
import HandS.HeadHook2
import HandS.HeadHook4
import KE.KeyNested
import KE.KDictKeyed
import HandS.ListItems
import HandS.Small
import HandS.TupLen
import KE.KDictCopyH
import KE.KDictWalk
import KE.KExcIs
import HandS.ExcInit
import KE.KExcInit
import HandS.ExcIs
import HandS.ExcField
import HandS.HotCalls
import HandS.Strs
import KE.GoesMore
import HandS.Iter
import OpenK.KOps
import KE.KCallOwn
import HandS.ClsMeth
import OpenK.KDescr
import HandS.Gcd
import HandS.Lambda
import HandS.TryMany
import HandS.EndTab
import PyProof.Rows.StrOr
import HandS.FStr
import KE.KIntText
import HandS.MakeKw
import HandS.Records
import HandS.Flow
import PyProof.StrBlock2
import KE.IntTextText
import PySem.Challenge.RW_fewestcells_k01_ratios_beside_pairs
section -- FwBase
set_option Elab.async false
set_option linter.all false
set_option maxRecDepth 100000
set_option maxHeartbeats 4000000
/-! FwBase: what all laws of this program share: operators by any operands, a callee in one piece, heaps that grow beside one object. -/
namespace L2
open PySem PySem.Spec PyProof.Rows

/-! ### operators by any operands -/
section
variable {X : Cx}
/-- a + b of ints, texts, lists that are tracked -/
def rAddG : R2 := fun x y H Q => match x, y with
  | .int i, .int j => Q (.int (i + j)) H
  | .str a, .str b => a.length + b.length ≤ sizeLine ∧ Q (.str (a ++ b)) H
  | .ref a, .ref b => ∃ xs ys, H a = some (.lst xs) ∧ H b = some (.lst ys) ∧ xs.length + ys.length ≤ sizeLine ∧ ∀ p, H p = none → Q (.ref p) (upd H p (.lst (xs ++ ys)))
  | _, _ => False
theorem op_addG : OpR X (binaryOp .Add) rAddG := by
  intro pins s σ H x y v u Q I rx ry h
  cases x <;> cases y <;> first
    | exact h.elim
    | exact op_add pins s σ H _ _ v u Q I rx ry ⟨_, _, rfl, rfl, h⟩
    | exact op_add_str pins s σ H _ _ v u Q I rx ry ⟨_, _, rfl, rfl, h⟩
    | exact (by obtain ⟨xs, ys, h1, h2, h3, h4⟩ := h; exact op_cat pins s σ H _ _ v u Q I rx ry ⟨_, _, _, _, rfl, rfl, h1, h2, h3, h4⟩)
end

/-- a * b: one factor below 2^64, or both together of less than a million bits -/
def CMulG (i j : Int) : Prop := CMul i j ∨ CMulW i j
section
variable {X : Cx}
theorem op_mulI : OpR X (binaryOp .Mult) (rI CMulG fun i j => .int (i * j)) := opI fun _ _ _ _ _ _ _ hc q => mul_int q (by
  rcases hc with h | h
  · exact h.ok
  · exact h.ok)
/-- int(x) of an int, a bool -/
def rInt1 : List V → Hp → VK → Prop := fun xs H Q => match xs with
  | [.int i] => Q (.int i) H
  | [.bl k] => Q (.int (if k then 1 else 0)) H
  | _ => False
theorem call_intG : CallR X (.type "int") rInt1 := by
  intro pins s σ H xs us Q I r h
  match xs, h with
  | [.int i], h => exact call_int1 pins s σ H _ us Q I r (.inl ⟨_, rfl, h⟩)
  | [.bl k], h => exact call_int1 pins s σ H _ us Q I r (.inr ⟨_, rfl, h⟩)
/-- the length of what stands at p -/
def LenR (K : PySem.W.Frag) (H : Hp) (p : Addr) (n : Nat) : Prop := (∃ xs, SqL K H p xs ∧ n = xs.length) ∨ ∃ xs, SqT K H p xs ∧ n = xs.length
theorem lenr_l {K : PySem.W.Frag} {H : Hp} {p : Addr} {xs : List V} (h : H p = some (.lst xs)) : LenR K H p xs.length := .inl ⟨_, SqL.of h, rfl⟩
theorem lenr_t {K : PySem.W.Frag} {H : Hp} {p : Addr} {xs : List V} (h : H p = some (.tup xs)) : LenR K H p xs.length := .inr ⟨_, .inl (.inl h), rfl⟩
@[irreducible] def rLenG (K : PySem.W.Frag) : List V → Hp → VK → Prop := fun xs H Q => match xs with
  | [.str y] => y.length ≤ sizeLine ∧ Q (.int y.length) H
  | [.ref p] => ∃ n, LenR K H p n ∧ Q (.int n) H
  | _ => False
theorem call_lenG : CallR X (.builtin "len") (rLenG X.K) := by
  intro pins s σ H xs us Q I r h
  unfold rLenG at h
  match xs, h with
  | [.str y], h => exact call_len pins s σ H _ us Q I r ⟨_, _, rfl, ⟨h.1, rfl⟩, h.2⟩
  | [.ref p], h =>
    obtain ⟨n, hn, q⟩ := h
    exact call_len pins s σ H _ us Q I r ⟨_, _, rfl, hn, q⟩
/-- list(xs), tuple(xs): new ones -/
@[irreducible] def rListG (K : PySem.W.Frag) : List V → Hp → VK → Prop := fun xs H Q => match xs with
  | [.ref p] => ∃ ys, (SqL K H p ys ∨ SqT K H p ys) ∧ ∀ l, H l = none → Q (.ref l) (upd H l (.lst ys))
  | _ => False
theorem call_listG : CallR X (.type "list") (rListG X.K) := by
  intro pins s σ H xs us Q I r h
  unfold rListG at h
  match xs, h with
  | [.ref p], h =>
    obtain ⟨ys, h1, q⟩ := h
    exact call_list_of pins s σ H _ us Q I r ⟨p, ys, rfl, h1, q⟩
@[irreducible] def rTupG (K : PySem.W.Frag) : List V → Hp → VK → Prop := fun xs H Q => match xs with
  | [.ref p] => ∃ ys, (SqL K H p ys ∧ ∀ l, H l = none → Q (.ref l) (upd H l (.tup ys))) ∨ (SqT K H p ys ∧ Q (.ref p) H)
  | _ => False
theorem call_tupG : CallR X (.type "tuple") (rTupG X.K) := by
  intro pins s σ H xs us Q I r h
  unfold rTupG at h
  match xs, h with
  | [.ref p], h =>
    obtain ⟨ys, h1⟩ := h
    exact call_tuple_of pins s σ H _ us Q I r ⟨p, ys, rfl, h1⟩
end

/-! ### a callee in one piece -/
/-- the def that the module's name x stands for keeps sp; dvs fill up behind the written arguments -/
structure FX (P : Program) (w : World) (K : PySem.W.Frag) (mg : Str → Option Value) (base : Heap) (k : Nat) (x : Str) (dvs : List V) (sp : Sp) : Prop where
  ex : ∃ (f : Addr) (fd : FuncData) (ps : List Str) (ds : List Value), FnOk P w K mg base (L2.CX P w) k f fd ps sp ∧ mg x = some (.ref f) ∧ PySem.W.keepIn K (.ref f) = true ∧ Binds K fd ps ds ∧ Vals dvs ds
theorem FX.mono {P : Program} {w : World} {K : PySem.W.Frag} {mg : Str → Option Value} {base : Heap} {j k : Nat} {x : Str} {dvs : List V} {sp : Sp} (F : FX P w K mg base j x dvs sp) (h : j ≤ k) : FX P w K mg base k x dvs sp := by
  obtain ⟨f, fd, ps, ds, h1, h2⟩ := F.ex
  exact ⟨f, fd, ps, ds, h1.mono h, h2⟩
theorem FnOk.toX {P : Program} {w : World} {K : PySem.W.Frag} {mg : Str → Option Value} {base : Heap} {k : Nat} {f : Addr} {fd : FuncData} {ps : List Str} {sp : Sp} (F : FnOk P w K mg base CX0 k f fd ps sp) : FnOk P w K mg base (L2.CX P w) k f fd ps sp :=
  ⟨F.len, fun A outer s H args us vs Q E hr e0 hb hv hs => codeAny_mono (F.run A outer s H args us vs Q E hr e0 hb hv hs) fun r s' q => by
    cases r with
    | error e => exact False.elim q
    | ok fl => cases fl <;> exact q⟩
section
variable {X : Cx} {k : Nat} {sp : Sp} {dvs : List V} {E : XK} {x : Str} {p pos : Pos} {e : Expr} {es : List Expr} {t : TA}
theorem pe_fx (F : FX X.prog X.w X.K X.mg X.base k x dvs sp) (hr : Room k X.A) (hx : Passes (L2.CX X.prog X.w) X E) (ha : PA X (e :: es) t) (hg : Gl X x := by rfl)
    (hdb : (x == ("__debug__" : Str)) = false := by decide) (he : starEach (e :: es) X.env = (false, eval e X.env) :: starEach es X.env := by rfl) (hpl : (backTo pos (starEach es X.env)).any (·.1) = false := by rfl) :
    PE X (.Call (.Name x p) (e :: es) [] pos) (tCall sp dvs E t) := by
  obtain ⟨f, fd, ps, ds, h1, h2, h3, h4, h5⟩ := F.ex
  exact pe_call h1 hr hg h2 h3 h4 h5 hx ha hdb he hpl
theorem pe_fxS {W : WX} (F : FX X.prog X.w X.K X.mg X.base k x [] sp) (hr : Room k X.A) (tk : Takes X W) (ha : PA X (e :: es) t) (hg : Gl X x := by rfl)
    (hdb : (x == ("__debug__" : Str)) = false := by decide) (he : starEach (e :: es) X.env = (false, eval e X.env) :: starEach es X.env := by rfl) (hpl : (backTo pos (starEach es X.env)).any (·.1) = false := by rfl) :
    PE X (.Call (.Name x p) (e :: es) [] pos) (tCallS sp (WE W) t) := by
  obtain ⟨f, fd, ps, ds, h1, h2, h3, h4, h5⟩ := F.ex
  cases h5
  exact pe_callS h1 hr hg h2 h3 h4 (fun σ => passAt tk σ) ha hdb he hpl
end

/-! ### a def of the text, its body in a context that lets nothing out -/
section
variable {P : Program} {w : World} {K : PySem.W.Frag} {mg : Str → Option Value} {base : Heap} {x qual : Str} {params : Arguments} {body : List Stmt} {scope : Scope} {dvs : List V} {kws : List (Str × V)} {f : Addr} {fd : FuncData}
theorem FunD.ok0 {N ps : List Str} {k : Nat} {sp : Sp} (F : FunD K x qual params body scope dvs kws f fd) (S : FnScope N ps scope) (len : ∀ vs H Q E, sp vs H Q E → vs.length = ps.length)
    (hbody : ∀ (cdv : Value) (A : Around) (outer : List Env) (s : Shared) (H : Hp) (vs : List V) (Q : VK) (E : XK), Room k (A.deeper (envOfC qual scope s.heap.objs.size f cdv)) → sp vs H Q E →
      ∃ t, PSs (cxOf CX0 P w K mg base N qual scope f cdv A outer s H E).nox body t ∧ t { nx := fun _ H' => Q .non H', rt := Q } (start N vs) H) : FnOk P w K mg base (L2.CX P w) (k + 1) f fd ps sp :=
  (FunD.ok (CX := CX0) F S len fun cdv A outer s H vs Q E hr hsp => by
    obtain ⟨t, h, q⟩ := hbody cdv A outer s H vs Q E hr hsp
    exact ⟨t, h.nox, q⟩).toX
/-- all arguments are written -/
theorem FX.of {ps : List Str} {k : Nat} {y : Str} {sp : Sp} (F : FunD K x qual params body scope [] kws f fd) (hm : mg y = some (.ref f)) (h : FnOk P w K mg base (L2.CX P w) k f fd ps sp)
    (hb : ∀ (kV doc pm : Value) (an : Option Addr) (cdv ct : Value) (us : List Value), us.length = ps.length → bindArgs (PySem.W.fnOf x qual params body scope .none kV doc pm an cdv ct) ⟨us, []⟩ = pure (ps.zip us)) : FX P w K mg base k y [] sp :=
  ⟨f, fd, ps, [], h, hm, F.kp, F.bindsN hb, .nil⟩
end

/-! ### heaps that grow beside one object -/
/-- all that was tracked, but at b, is as it was -/
def Ext (b : Addr) (H H' : Hp) : Prop := ∀ a o, a ≠ b → H a = some o → H' a = some o
theorem Ext.refl (b : Addr) (H : Hp) : Ext b H H := fun _ _ _ h => h
theorem Ext.trans {b : Addr} {H H1 H2 : Hp} (a : Ext b H H1) (c : Ext b H1 H2) : Ext b H H2 := fun d o n h => c d o n (a d o n h)
theorem Ext.of {b : Addr} {H H' : Hp} (s : Same H H') : Ext b H H' := fun a o _ h => s a o h
theorem Ext.new {b : Addr} {H : Hp} {p : Addr} {o : HO} (h : H p = none) : Ext b H (upd H p o) := fun a u _ e => by rw [upd_ne (ne_of_none e h)]; exact e
theorem Ext.put {b : Addr} {H : Hp} {o : HO} : Ext b H (upd H b o) := fun a u n e => by rw [upd_ne n]; exact e
theorem Same.new {H : Hp} {p : Addr} {o : HO} (h : H p = none) : Same H (upd H p o) := fun a u e => by rw [upd_ne (ne_of_none e h)]; exact e
theorem Ext.seq {K : PySem.W.Frag} {b : Addr} {H H' : Hp} {a : Addr} {xs : List V} (e : Ext b H H') (n : a ≠ b) (h : SqL K H a xs) : SqL K H' a xs := by
  rcases h with (h | ⟨o, h⟩) | h
  · exact .inl (.inl (e _ _ n h))
  · exact .inl (.inr ⟨o, e _ _ n h⟩)
  · exact .inr h
theorem Ext.seqT {K : PySem.W.Frag} {b : Addr} {H H' : Hp} {a : Addr} {xs : List V} (e : Ext b H H') (n : a ≠ b) (h : SqT K H a xs) : SqT K H' a xs := by
  rcases h with (h | ⟨o, h⟩) | h
  · exact .inl (.inl (e _ _ n h))
  · exact .inl (.inr ⟨o, e _ _ n h⟩)
  · exact .inr h
theorem Same.seqT {K : PySem.W.Frag} {H H' : Hp} {a : Addr} {xs : List V} (e : Same H H') (h : SqT K H a xs) : SqT K H' a xs := by
  rcases h with (h | ⟨o, h⟩) | h
  · exact .inl (.inl (e _ _ h))
  · exact .inl (.inr ⟨o, e _ _ h⟩)
  · exact .inr h
end L2
namespace L2
open PySem PySem.Spec PyProof.Rows
/-! ### what the head tells, in one piece -/
structure Tx (fa : List He.Fa) (fn : List He.DefD) (ex : PySem.W.Frag → Bool) (K : PySem.W.Frag) (mg : Str → Option Value) : Prop where
  fact : ∀ (i : Nat) {f : He.Fa}, fa[i]? = some f → f.ok K = true
  def_ : ∀ (i : Nat) {d : He.DefD}, fn[i]? = some d → ∃ fd, FunD K d.name d.qual d.params d.body d.scope (d.dvs K) (d.kws K) (He.fAd K d.at_) fd
  more : ex K = true
  kin : ∃ h : Heap, K.In h ∧ h.Ns mainGlobals mg
section
variable {fa : List He.Fa} {fn : List He.DefD} {ex : PySem.W.Frag → Bool} {K : PySem.W.Frag} {mg : Str → Option Value}
theorem Tx.glo (T : Tx fa fn ex K mg) (i : Nat) {x : Str} (h : fa[i]? = some (.glo x) := by rfl) : mg x = some (.ref (He.ga K x)) := by
  obtain ⟨hp, X, G⟩ := T.kin
  exact He.glo_ok X G (T.fact i h)
theorem Tx.free (T : Tx fa fn ex K mg) (i : Nat) {x : Str} (h : fa[i]? = some (.free x) := by rfl) : mg x = none := by
  obtain ⟨hp, X, G⟩ := T.kin
  exact He.free_ok X G (T.fact i h)
theorem Tx.str (T : Tx fa fn ex K mg) (i : Nat) {x z : Str} (h : fa[i]? = some (.str x z) := by rfl) : ∃ t, mg x = some (.str z t) := by
  obtain ⟨hp, X, G⟩ := T.kin
  exact He.str_ok X G (T.fact i h)
theorem Tx.int (T : Tx fa fn ex K mg) (i : Nat) {x : Str} {z : Int} (h : fa[i]? = some (.int x z) := by rfl) : ∃ t, mg x = some (.int z t) := by
  obtain ⟨hp, X, G⟩ := T.kin
  exact He.int_ok X G (T.fact i h)
theorem Tx.keep (T : Tx fa fn ex K mg) (i : Nat) {x : Str} (h : fa[i]? = some (.keep x) := by rfl) : PySem.W.keepIn K (.ref (He.ga K x)) = true := He.keep_ok (T.fact i h)
end
section
variable {X : Cx} {x : Str} {pos : Pos}
theorem pe_gs {z : Str} (h : ∃ t, X.mg x = some (.str z t)) (hg : Gl X x := by rfl) (hd : (x == ("__debug__" : Str)) = false := by decide) : PE X (.Name x pos) (tC (.str z)) := by
  obtain ⟨t, h⟩ := h
  exact pe_glob hg h ⟨t, rfl⟩ hd
theorem pe_gi {z : Int} (h : ∃ t, X.mg x = some (.int z t)) (hg : Gl X x := by rfl) (hd : (x == ("__debug__" : Str)) = false := by decide) : PE X (.Name x pos) (tC (.int z)) := by
  obtain ⟨t, h⟩ := h
  exact pe_glob hg h ⟨t, rfl⟩ hd
theorem pe_gr {a : Addr} (h : X.mg x = some (.ref a)) (hg : Gl X x := by rfl) (hd : (x == ("__debug__" : Str)) = false := by decide) : PE X (.Name x pos) (tC (.ref a)) := pe_glob hg h rfl hd
theorem pe_bty {n : String} (h : X.mg x = none) (hv : bootBuiltins x = some (.type n)) (hg : Gl X x := by rfl) (hn : x ≠ "__name__" := by decide) (hd : (x == ("__debug__" : Str)) = false := by decide) : PE X (.Name x pos) (tC (.ty n)) := pe_bltn hg h hv rfl hn hd
end
end L2
namespace L2
open PySem PySem.Spec PyProof.Rows
/-! ### the bag of draws -/
/-- at b stands a bag: the script's copy (at l), the index of the next cell, the rest of a great one, a mixed number, the number of draws -/
def BagAt (b l : Addr) (H : Hp) : Prop := ∃ (ns : List Int) (k : Nat) (r m n : Int), H b = some (.lst [.ref l, .int (k : Int), .int r, .int m, .int n]) ∧ H l = some (.lst (ns.map V.int)) ∧ l ≠ b ∧ 0 ≤ r ∧ (0 ≤ m ∧ m < 2147483647) ∧ 0 ≤ n
theorem BagAt.ext {b l : Addr} {H H' : Hp} (h : BagAt b l H) (e : Ext b H H') (hb : H' b = H b) : BagAt b l H' := by
  obtain ⟨ns, k, r, m, n, h1, h2, h3, h4⟩ := h
  exact ⟨ns, k, r, m, n, hb.trans h1, e l _ h3 h2, h3, h4⟩
theorem BagAt.new {b l p : Addr} {H : Hp} {o : HO} (h : BagAt b l H) (hp : H p = none) : BagAt b l (upd H p o) := by
  have hb := h
  obtain ⟨ns, k, r, m, n, h1, h2, h3, h4⟩ := hb
  exact h.ext (Ext.new hp) (by rw [upd_ne (ne_of_none h1 hp)])
theorem BagAt.same {b l : Addr} {H H' : Hp} (h : BagAt b l H) (e : Same H H') : BagAt b l H' := by
  obtain ⟨ns, k, r, m, n, h1, h2, h3, h4⟩ := h
  exact ⟨ns, k, r, m, n, e _ _ h1, e _ _ h2, h3, h4⟩
/-- a bag at the same places, when two objects stay -/
theorem BagAt.two {b l : Addr} {H H' : Hp} (h : BagAt b l H) (h1 : H' b = H b) (h2 : H' l = H l) : BagAt b l H' := by
  obtain ⟨ns, k, r, m, n, e1, e2, e3, e4⟩ := h
  exact ⟨ns, k, r, m, n, h1.trans e1, h2.trans e2, e3, e4⟩
theorem BagAt.isL {b l : Addr} {H : Hp} (h : BagAt b l H) : ∃ xs, H b = some (.lst xs) := by
  obtain ⟨ns, k, r, m, n, h1, h2, h3, h4⟩ := h
  exact ⟨_, h1⟩
theorem BagAt.isL2 {b l : Addr} {H : Hp} (h : BagAt b l H) : ∃ xs, H l = some (.lst xs) := by
  obtain ⟨ns, k, r, m, n, h1, h2, h3, h4⟩ := h
  exact ⟨_, h2⟩
/-- a number is drawn: from 0 to size - 1 (0 for a size below 1) -/
def spDraw : Sp := fun vs H Q _ => ∃ (b l : Addr) (size : Int), vs = [.ref b, .int size] ∧ BagAt b l H ∧ size < 1000000 ∧
  ∀ (d : Int) (H' : Hp), 0 ≤ d → (d < size ∨ d = 0) → BagAt b l H' → Ext b H H' → Q (.int d) H'
def spBag (K : PySem.W.Frag) : Sp := fun vs H Q _ => ∃ (a : Addr) (ns : List Int), vs = [.ref a] ∧ SqL K H a (ns.map V.int) ∧ ns.length ≤ 63 ∧ ∀ (b l : Addr) (H' : Hp), H b = none → BagAt b l H' → Same H H' → Q (.ref b) H'
end L2
namespace L2
open PySem PySem.Spec PyProof.Rows
/-! ### answers, one step each -/
theorem st_ixl {K : PySem.W.Frag} {p : Addr} {xs : List V} {i : Int} {v : V} {H : Hp} {Q : VK} (h : H p = some (.lst xs)) (hi : atI xs i = some v) (q : Q v H) : rIx K (.ref p) (.int i) H Q := .inl ⟨_, _, _, _, rfl, rfl, SqL.of h, hi, q⟩
theorem st_ixL {K : PySem.W.Frag} {p : Addr} {xs : List V} {i : Int} {v : V} {H : Hp} {Q : VK} (h : SqL K H p xs) (hi : atI xs i = some v) (q : Q v H) : rIx K (.ref p) (.int i) H Q := .inl ⟨_, _, _, _, rfl, rfl, h, hi, q⟩
theorem st_ixt {K : PySem.W.Frag} {p : Addr} {xs : List V} {i : Int} {v : V} {H : Hp} {Q : VK} (h : H p = some (.tup xs)) (hi : atI xs i = some v) (q : Q v H) : rIx K (.ref p) (.int i) H Q := .inr (.inl ⟨_, _, _, _, rfl, rfl, .inl (.inl h), hi, q⟩)
theorem st_ixs {K : PySem.W.Frag} {z : Str} {i : Int} {c : Nat} {H : Hp} {Q : VK} (hz : z.length ≤ sizeLine) (hi : atI z.cps.toList i = some c) (q : Q (.str ⟨#[c]⟩) H) : rIx K (.str z) (.int i) H Q := .inr (.inr ⟨_, _, _, rfl, rfl, hz, hi, q⟩)
theorem st_setl {p : Addr} {xs : List V} {i : Int} {y : V} {j : Nat} {H : Hp} {Q : Hp → Prop} (h : H p = some (.lst xs)) (hi : ixN xs.length i = some j) (q : Q (upd H p (.lst (xs.set j y)))) : rSetL (.ref p) (.int i) y H Q := ⟨_, _, _, _, rfl, rfl, h, hi, q⟩
theorem st_setX {p : Addr} {xs : List V} {i : Int} {y : V} {j : Nat} {H : Hp} {Q : Hp → Prop} (h : H p = some (.lst xs)) (hi : ixN xs.length i = some j) (q : ∀ H', H' p = some (.lst (xs.set j y)) → Ext p H H' → Q H') : rSetL (.ref p) (.int i) y H Q :=
  ⟨_, _, _, _, rfl, rfl, h, hi, q _ upd_same Ext.put⟩
/-- a new object -/
theorem st_new {H : Hp} {o : HO} {Q : VK} (q : ∀ p H', H p = none → H' p = some o → Same H H' → Q (.ref p) H') : ∀ p, H p = none → Q (.ref p) (upd H p o) := fun p n => q p _ n upd_same (Same.new n)
theorem st_lst {H : Hp} {xs : List V} {Q : VK} (hl : xs.length ≤ sizeLine) (q : ∀ p H', H p = none → H' p = some (.lst xs) → Same H H' → Q (.ref p) H') : xs.length ≤ sizeLine ∧ ∀ p, H p = none → Q (.ref p) (upd H p (.lst xs)) := ⟨hl, st_new q⟩
theorem st_tup {H : Hp} {xs : List V} {Q : VK} (hl : xs.length ≤ sizeLine) (q : ∀ p H', H p = none → H' p = some (.tup xs) → Same H H' → Q (.ref p) H') : xs.length ≤ sizeLine ∧ ∀ p, H p = none → Q (.ref p) (upd H p (.tup xs)) := ⟨hl, st_new q⟩
theorem cutV_map {α : Type} (f : α → V) (ns : List α) (lo hi : Option Int) : ∃ ms : List α, cutV (ns.map f) lo hi = ms.map f := by
  unfold cutV
  exact ⟨(ns.drop (HT.sIx (ns.map f).length 0 lo)).take (HT.sIx (ns.map f).length (ns.map f).length hi - HT.sIx (ns.map f).length 0 lo), by rw [List.map_take, List.map_drop]⟩
/-- a slice of a list, a new one -/
theorem st_sll {K : PySem.W.Frag} {p : Addr} {xs : List V} {lo hi : Option Int} {H : Hp} {Q : VK} (h : SqL K H p xs) (q : ∀ r H', H r = none → H' r = some (.lst (cutV xs lo hi)) → Same H H' → Q (.ref r) H') : rSlL K (.ref p) lo hi H Q := ⟨p, xs, rfl, h, st_new q⟩
/-- list(xs), tuple(xs) -/
theorem st_listL {K : PySem.W.Frag} {p : Addr} {xs : List V} {H : Hp} {Q : VK} (h : SqL K H p xs) (q : ∀ r H', H r = none → H' r = some (.lst xs) → Same H H' → Q (.ref r) H') : rListG K [.ref p] H Q := by unfold rListG; exact ⟨xs, .inl h, st_new q⟩
theorem st_listT {K : PySem.W.Frag} {p : Addr} {xs : List V} {H : Hp} {Q : VK} (h : SqT K H p xs) (q : ∀ r H', H r = none → H' r = some (.lst xs) → Same H H' → Q (.ref r) H') : rListG K [.ref p] H Q := by unfold rListG; exact ⟨xs, .inr h, st_new q⟩
theorem st_tupL {K : PySem.W.Frag} {p : Addr} {xs : List V} {H : Hp} {Q : VK} (h : SqL K H p xs) (q : ∀ r H', H r = none → H' r = some (.tup xs) → Same H H' → Q (.ref r) H') : rTupG K [.ref p] H Q := by unfold rTupG; exact ⟨xs, .inl ⟨h, st_new q⟩⟩
/-- a loop over a list that stays -/
theorem st_forL {K : PySem.W.Frag} {a : Addr} {xs : List V} {te : TE} {g : TG} {tb : TS} {D : Ends} {σ : L2.St} {H : Hp} (ht : ∀ R : VK, R (.ref a) H → te σ H R) (hs0 : SqL K H a xs) (Pv : Nat → L2.St → Hp → Prop) (h0 : Pv 0 σ H) (hl : ∀ i σ H, i ≤ xs.length → Pv i σ H → SqL K H a xs)
    (hs : ∀ i x σ H, xs[i]? = some x → Pv i σ H → g x σ H fun σ2 H2 => tb { D with nx := Pv (i + 1), ct := Pv (i + 1), bk := D.nx } σ2 H2) (hd : ∀ σ H, Pv xs.length σ H → D.nx σ H) : tFor (iList K te) g tb D σ H :=
  ht _ ⟨a, rfl, ⟨xs, hs0⟩, for_list Pv h0 hl hs hd⟩
theorem st_lenR {K : PySem.W.Frag} {p : Addr} {n : Nat} {H : Hp} {Q : VK} (h : LenR K H p n) (q : Q (.int n) H) : rLenG K [.ref p] H Q := by unfold rLenG; exact ⟨n, h, q⟩
theorem st_lenS {K : PySem.W.Frag} {z : Str} {H : Hp} {Q : VK} (h : z.length ≤ sizeLine) (q : Q (.int z.length) H) : rLenG K [.str z] H Q := by unfold rLenG; exact ⟨h, q⟩
/-- the test of an if, met -/
theorem st_if {c A B : Prop} {i : Decidable c} (h1 : c → A) (h2 : ¬ c → B) : if decide c = true then A else B := by
  by_cases h : c
  · rw [if_pos (decide_eq_true h)]
    exact h1 h
  · rw [if_neg (by simpa using h)]
    exact h2 h
theorem st_ifn {c A B : Prop} {i : Decidable c} (h1 : ¬ c → A) (h2 : c → B) : if (!decide c) = true then A else B := by
  by_cases h : c
  · rw [if_neg (by simpa using h)]
    exact h2 h
  · rw [if_pos (by simpa using h)]
    exact h1 h
theorem st_ifb {c : Bool} {A B : Prop} (h1 : c = true → A) (h2 : c = false → B) : if c = true then A else B := by
  cases c
  · exact (if_neg Bool.false_ne_true).mpr (h2 rfl)
  · exact (if_pos rfl).mpr (h1 rfl)
end L2
end -- FwBase
section -- FwDict
set_option Elab.async false
set_option linter.all false
set_option maxRecDepth 100000
set_option maxHeartbeats 4000000
/-! FwDict: a dict of at most two entries whose keys are ints, texts and tuples of such, mixed. -/
namespace PySem
open PySem.W
theorem fw_map {M : Model} {A : Around} {α β : Type} {t : Sem α} {f : α → β} {Q : β → Shared → Prop} {E : Value → Shared → Prop} {s : Shared} (h : wpAny M A t (fun a s => Q (f a) s) E s) : wpAny M A (f <$> t) Q E s := by
  rw [map_eq_pure_bind]
  exact wpAny_bind (wpAny_mono h (fun a s q => wpAny_pure q) fun _ _ z => z)
section
variable {prog : Program} {w : World} {A : Around} {E : Value → Shared → Prop} {s : Shared} {d : Addr} {o : Obj} {ep : Nat}
/-- a key of such a dict -/
def KeyV (h : Heap) (k : NestedKey) (v : Value) : Prop := NestedIs h k v ∧ k.depth ≤ 2 ∧ ((∃ i t, v = .int i t) ∨ (∃ x t, v = .str x t) ∨ ∃ a, v = .ref a)
theorem fw_find0 {k : NestedKey} {v : Value} {h : Int} {Q : Option Nat → Shared → Prop} (hk : KeyV s.heap k v) (ho : s.heap.get? d = some o) (hd : o.data = .dict #[] ep) (hq : Q none s) : wpAny (model prog w) A (dictFind d v h) Q E s := by
  obtain ⟨hn, hdp, hv⟩ := hk
  unfold dictFind
  refine wpAny_holding ?_
  refine wpAny_bind (wpAny_dictEntries ho hd ?_)
  rcases hv with ⟨i, t, rfl⟩ | ⟨x, t, rfl⟩ | ⟨a, rfl⟩
  · simp [placesWithHash, carriedByValue, dictWalkPlain]
    exact wpAny_pure hq
  · simp [placesWithHash, carriedByValue, dictWalkPlain, foundByValue]
    exact wpAny_pure hq
  · simp [placesWithHash, carriedByValue, dictWalkPlain, tableMayTell]
    exact wpAny_pure hq
theorem fw_find1 {k k1 : NestedKey} {v v1 u1 : Value} {Q : Option Nat → Shared → Prop} (hu : A.units + 8 < cLine) (hk : KeyV s.heap k v) (hk1 : KeyV s.heap k1 v1) (ho : s.heap.get? d = some o) (hd : o.data = .dict #[⟨k1.hash w, v1, u1⟩] ep)
    (h1 : k1 = k → Q (some 0) s) (h2 : k1 ≠ k → Q none s) : wpAny (model prog w) A (dictFind d v (k.hash w)) Q E s := by
  obtain ⟨hn, hdp, hv⟩ := hk
  obtain ⟨hn1, hdp1, hv1⟩ := hk1
  have eqr := eqAt_key (prog := prog) (w := w) k1 k A s v1 v hn1 hn (by omega)
  unfold dictFind
  refine wpAny_holding ?_
  refine wpAny_bind (wpAny_dictEntries ho hd ?_)
  have ebq : NestedKey.beq k1 k = decide (k1 = k) := by rw [← NestedKey.decide_eq]
  have yes : NestedKey.beq k1 k = true → Q (some 0) s := fun e => h1 (of_decide_eq_true (by rw [← ebq]; exact e))
  have no : NestedKey.beq k1 k = false → Q none s := fun e => h2 (of_decide_eq_false (by rw [← ebq]; exact e))
  have quiet : ∀ {Q' : Bool → Shared → Prop}, Q' false s → wpAny (model prog w) A (tableMayTell v [v1]) Q' E s := fun {Q'} q => by
    unfold tableMayTell
    simp only [List.isEmpty_cons, Bool.false_eq_true, if_false]
    refine wpAny_bind (quiet_key k v 8 s hn (by omega) A E _ ?_)
    simp
    refine wpAny_bind (quiet_key k1 v1 8 s hn1 (by omega) A E _ ?_)
    simp
    exact wpAny_pure q
  have stx : ∀ {x x1 : Str} {t t1 : Tok}, v = .str x t → v1 = .str x1 t1 → wpAny (model prog w) A (foundByValue d v #[⟨k1.hash w, v1, u1⟩] x) Q E s := fun {x x1 t t1} ev ev1 => by
    subst ev
    subst ev1
    cases hn
    cases hn1
    unfold foundByValue
    by_cases e : x1 = x
    · subst e
      simp [Value.isStr]
      refine wpAny_bind (wpAny_dictEpoch ho hd (wpAny_bind (eqr _ _ (wpAny_bind (wpAny_dictEpoch ho hd ?_)))))
      have hb : NestedKey.beq (.text x1) (.text x1) = true := by simp [NestedKey.beq]
      simp [hb]
      repeat (first | exact wpAny_pure (yes hb) | refine wpAny_bind ?_ | refine wpAny_rule ?_ | refine fw_map ?_)
    · have hb : NestedKey.beq (.text x1) (.text x) = false := by simp [NestedKey.beq, e]
      simp [Value.isStr, e]
      exact wpAny_pure (no hb)
  by_cases hh : k1.hash w = k.hash w
  · rcases hv with ⟨i, t, rfl⟩ | ⟨x, t, rfl⟩ | ⟨a, rfl⟩ <;> rcases hv1 with ⟨i1, t1, rfl⟩ | ⟨x1, t1, rfl⟩ | ⟨a1, rfl⟩ <;> simp [placesWithHash, carriedByValue, dictWalkPlain, isExactStrKey, hh, List.range_succ]
    all_goals try (
      refine wpAny_bind (wpAny_dictEpoch ho hd (wpAny_bind (eqr _ _ (wpAny_bind (wpAny_dictEpoch ho hd ?_)))))
      cases hb : NestedKey.beq k1 k <;> simp <;> (repeat (first | exact wpAny_pure (no hb) | exact wpAny_pure (yes hb) | refine wpAny_bind ?_ | refine wpAny_rule ?_ | refine fw_map ?_)) <;> done)
    all_goals try (
      refine wpAny_bind (quiet (wpAny_bind (wpAny_dictEpoch ho hd (wpAny_bind (eqr _ _ (wpAny_bind (wpAny_dictEpoch ho hd ?_)))))))
      cases hb : NestedKey.beq k1 k <;> simp <;> (repeat (first | exact wpAny_pure (no hb) | exact wpAny_pure (yes hb) | refine wpAny_bind ?_ | refine wpAny_rule ?_ | refine fw_map ?_)) <;> done)
    · rw [← hh]
      exact stx rfl rfl
    · split
      · refine wpAny_bind (wpAny_dictEpoch ho hd (wpAny_bind (eqr _ _ (wpAny_bind (wpAny_dictEpoch ho hd ?_)))))
        cases hb : NestedKey.beq k1 k <;> simp <;> (repeat (first | exact wpAny_pure (no hb) | exact wpAny_pure (yes hb) | refine wpAny_bind ?_ | refine wpAny_rule ?_ | refine fw_map ?_)) <;> done
      · refine wpAny_bind (quiet (wpAny_bind (wpAny_dictEpoch ho hd (wpAny_bind (eqr _ _ (wpAny_bind (wpAny_dictEpoch ho hd ?_)))))))
        cases hb : NestedKey.beq k1 k <;> simp <;> (repeat (first | exact wpAny_pure (no hb) | exact wpAny_pure (yes hb) | refine wpAny_bind ?_ | refine wpAny_rule ?_ | refine fw_map ?_)) <;> done
  · have hne : k1 ≠ k := fun e => hh (by rw [e])
    rcases hv with ⟨i, t, rfl⟩ | ⟨x, t, rfl⟩ | ⟨a, rfl⟩ <;> rcases hv1 with ⟨i1, t1, rfl⟩ | ⟨x1, t1, rfl⟩ | ⟨a1, rfl⟩ <;> simp [placesWithHash, carriedByValue, dictWalkPlain, isExactStrKey, hh, List.range_succ, tableMayTell]
    all_goals try exact wpAny_pure (h2 hne)
    · exact stx rfl rfl
    · rw [if_neg (fun e => hne (by subst e; exact NestedIs.inj _ _ _ hn1 hn))]
      exact wpAny_pure (h2 hne)
theorem fw_set0 {k : NestedKey} {v u : Value} {Q : Unit → Shared → Prop} (hu : A.units + 8 < cLine) (hk : KeyV s.heap k v) (ho : s.heap.get? d = some o) (hx : o.ExactDict) (hd : o.data = .dict #[] ep)
    (hq : ∀ h' o' ep', h'.get? d = some o' → o'.ExactDict → o'.data = .dict #[⟨k.hash w, v, u⟩] ep' → Heap.SameBut d s.heap h' → Q () { s with heap := h', toks := s.toks + k.draws }) : wpAny (model prog w) A (dictSet d v u) Q E s := by
  unfold dictSet
  refine wpAny_holding (wpAny_bind (pyHash_key k v A s _ hk.1 (by have := hk.2.1; omega) ?_))
  unfold dictSetHashed
  refine wpAny_holding (wpAny_bind (fw_find0 (s := { s with toks := s.toks + k.draws }) hk ho hd ?_))
  refine wpAny_bind (wpAny_rule (wpAny_updateDictKeys (hz := by simp) (s := { s with toks := s.toks + k.draws }) ho hd (hq _ _ (ep + 1) (Heap.get?_update_self _ ho (Obj.isFreed_of_dict (Obj.data_mapDictKeys hd _))) (hx.mapDictKeys _) (Obj.data_mapDictKeys hd _) (Heap.SameBut.update ..))))
theorem fw_set1 {k k1 : NestedKey} {v v1 u u1 : Value} {Q : Unit → Shared → Prop} (hu : A.units + 8 < cLine) (hk : KeyV s.heap k v) (hk1 : KeyV s.heap k1 v1) (ho : s.heap.get? d = some o) (hx : o.ExactDict) (hd : o.data = .dict #[⟨k1.hash w, v1, u1⟩] ep)
    (hq : ∀ h' o' ep', h'.get? d = some o' → o'.ExactDict → (k1 = k ∧ o'.data = .dict #[⟨k1.hash w, v1, u⟩] ep' ∨ k1 ≠ k ∧ o'.data = .dict #[⟨k1.hash w, v1, u1⟩, ⟨k.hash w, v, u⟩] ep') → Heap.SameBut d s.heap h' → Q () { s with heap := h', toks := s.toks + k.draws }) : wpAny (model prog w) A (dictSet d v u) Q E s := by
  unfold dictSet
  refine wpAny_holding (wpAny_bind (pyHash_key k v A s _ hk.1 (by have := hk.2.1; omega) ?_))
  unfold dictSetHashed
  refine wpAny_holding (wpAny_bind (fw_find1 (s := { s with toks := s.toks + k.draws }) hu hk hk1 ho hd (fun e => ?_) (fun e => ?_)))
  · refine wpAny_bind (wpAny_rule (wpAny_bind (wpAny_updateDict (s := { s with toks := s.toks + k.draws }) ho hd (wpAny_point (hq _ _ ep (Heap.get?_update_self _ ho (Obj.isFreed_of_dict (Obj.data_mapDict hd _))) (hx.mapDict _) (.inl ⟨e, ?_⟩) (Heap.SameBut.update ..))))))
    exact Obj.data_mapDict hd _
  · refine wpAny_bind (wpAny_rule (wpAny_updateDictKeys (hz := by simp; rw [sizeLine_eq]; decide) (s := { s with toks := s.toks + k.draws }) ho hd (hq _ _ (ep + 1) (Heap.get?_update_self _ ho (Obj.isFreed_of_dict (Obj.data_mapDictKeys hd _))) (hx.mapDictKeys _) (.inr ⟨e, Obj.data_mapDictKeys hd _⟩) (Heap.SameBut.update ..))))
end
end PySem
end -- FwDict
section -- Fw2
set_option Elab.async false
set_option linter.all false
set_option maxRecDepth 100000
set_option maxHeartbeats 4000000
/-! Fw2: a dict of at most two entries whose keys are ints, texts and pairs of such, mixed, as it is tracked. -/
namespace L2
open PySem PySem.Spec PyProof.Rows
/-- a key, as it is tracked -/
def KeyH (H : Hp) (k : NestedKey) (v : V) : Prop := (∃ i, k = .num i ∧ v = .int i) ∨ (∃ x, k = .text x ∧ v = .str x) ∨ ∃ a i x, k = .tup [.num i, .text x] ∧ v = .ref a ∧ H a = some (.tup [.int i, .str x])
theorem KeyH.ext {H H' : Hp} {k : NestedKey} {v : V} (h : KeyH H k v) (e : ∀ a xs, H a = some (.tup xs) → H' a = some (.tup xs)) : KeyH H' k v := by
  rcases h with h | h | ⟨a, i, x, h1, h2, h3⟩
  · exact .inl h
  · exact .inr (.inl h)
  · exact .inr (.inr ⟨a, i, x, h1, h2, e _ _ h3⟩)
theorem KeyH.keyV {P : Program} {w : World} {H : Hp} {h : Heap} {k : NestedKey} {v : V} {u : Value} (ok : HOk P w H h) (kh : KeyH H k v) (r : RelV v u) : KeyV h k u := by
  rcases kh with ⟨i, rfl, rfl⟩ | ⟨x, rfl, rfl⟩ | ⟨a, i, x, rfl, rfl, ha⟩
  · obtain ⟨t, rfl⟩ := (show ∃ t, u = Value.int i t from r)
    exact ⟨.int i t, Nat.zero_le _, .inl ⟨i, t, rfl⟩⟩
  · obtain ⟨t, rfl⟩ := (show ∃ t, u = Value.str x t from r)
    exact ⟨.text x t, Nat.zero_le _, .inr (.inl ⟨x, t, rfl⟩)⟩
  · obtain rfl : u = Value.ref a := r
    obtain ⟨_, its, rs, ob, e1, e2, n, e3⟩ := ok a _ ha
    refine ⟨.tup e1 e2 e3 ?_, by show max 0 (max 0 0) + 1 ≤ 2; decide, .inr (.inr ⟨a, rfl⟩)⟩
    cases rs with
    | cons r1 rs => cases rs with
      | cons r2 rs =>
        cases rs
        obtain ⟨t1, rfl⟩ := (show ∃ t, _ = Value.int i t from r1)
        obtain ⟨t2, rfl⟩ := (show ∃ t, _ = Value.str x t from r2)
        exact .cons (.int i t1) (.cons (.text x t2) .nil)
abbrev NKV := NestedKey × V × V
/-- what the entries of such a dict are -/
def EnOk (w : World) (p : NKV) (e : DictEntry) : Prop := e.hash = p.1.hash w ∧ RelV p.2.1 e.key ∧ RelV p.2.2 e.val
/-- a dict of the entries kvs, in order -/
def dN (w : World) (a : Addr) (kvs : List NKV) : HO := .ext fun h => (a == sysModules) = false ∧ ∃ o es ep, h.get? a = some o ∧ o.ExactDict ∧ o.data = .dict es ep ∧ Paired (EnOk w) kvs es.toList
theorem dn_ok {P : Program} {w : World} {H : Hp} {h : Heap} {a : Addr} {kvs : List NKV} {o : Obj} {es : Array DictEntry} {ep : Nat} (hs : (a == sysModules) = false) (h1 : h.get? a = some o) (h2 : o.ExactDict) (h3 : o.data = .dict es ep) (h4 : Paired (EnOk w) kvs es.toList) : ObjOk P w H h a (dN w a kvs) :=
  ⟨⟨hs, o, es, ep, h1, h2, h3, h4⟩, ⟨o, h1⟩, fun _ _ ⟨c1, o', es', ep', c2, c3⟩ e => ⟨c1, o', es', ep', e _ c2, c3⟩⟩
section
variable {X : Cx} {pins : List (Addr × Obj)} {σ : St} {H : Hp} {s : Shared}
theorem dn_at {a : Addr} {kvs : List NKV} (I : Inv X pins σ H s) (h : H a = some (dN X.w a kvs)) : (a == sysModules) = false ∧ ∃ o es ep, s.heap.get? a = some o ∧ o.ExactDict ∧ o.data = .dict es ep ∧ Paired (EnOk X.w) kvs es.toList := (I.hok a _ h).1
/-- {} -/
def tDNewN (w : World) : TE := fun _ H Q => ∀ p H', H p = none → H' p = some (dN w p []) → Same H H' → Q (.ref p) H'
theorem pe_dnewN {pos : Pos} : PE X (.Dict [] [] pos) (tDNewN X.w) := ⟨fun pins s σ H Q I h =>
  wpAny_Dict_empty ⟨.ref s.heap.objs.size, _, I.laid (a := s.heap.objs.size) (o := dN X.w s.heap.objs.size []) (t' := s.toks) (fun _ _ q => Heap.get?_push_of_some _ q) (Nat.le_refl _)
    (dn_ok (beq_eq_false_iff_ne.mpr (Ne.symm (Nat.ne_of_lt I.big))) (Heap.get?_push_size _ rfl) ⟨rfl, rfl, rfl⟩ rfl .nil), rfl, h _ _ (I.hok.fresh (Nat.le_refl _)) upd_same (Same.new (I.hok.fresh (Nat.le_refl _)))⟩⟩
/-- d[i] = v, d of at most one entry -/
def rSetN (w : World) : TSet := fun o i v H Q => ∃ a k, o = .ref a ∧ KeyH H k i ∧ ((H a = some (dN w a []) ∧ ∀ H', H' a = some (dN w a [(k, i, v)]) → Ext a H H' → Q H') ∨
  ∃ k1 i1 v1, H a = some (dN w a [(k1, i1, v1)]) ∧ KeyH H k1 i1 ∧ ∀ H' kvs, (kvs = [(k1, i1, v)] ∨ kvs = [(k1, i1, v1), (k, i, v)]) → H' a = some (dN w a kvs) → Ext a H H' → Q H')
theorem set_dictN (hu : X.A.units + 20 < cLine) : PSet X (rSetN X.w) := by
  intro pins s σ H o i v ov iv u Q I ro ri rv h
  obtain ⟨a, k, rfl, kh, h⟩ := h
  obtain rfl : ov = Value.ref a := ro
  have kv := kh.keyV I.hok ri
  have hT : s.TypeIs (.ref a) "dict" := by
    rcases h with ⟨ha, _⟩ | ⟨_, _, _, ha, _⟩
    · obtain ⟨_, ob, es, ep, e1, e2, _⟩ := dn_at I ha
      exact ⟨ob, e1, e2.1⟩
    · obtain ⟨_, ob, es, ep, e1, e2, _⟩ := dn_at I ha
      exact ⟨ob, e1, e2.1⟩
  unfold setItem
  try with_reducible refine wpAny_holding ?_
  refine wpAny_bind (wpAny_sequenceKey hT (by decide) ?_)
  refine wpAny_bind (wpAny_callSpecial?_slot (name := Str.ofString "__setitem__") hT PySem.F.slot_dict_setitem (wpAny_call_entry PySem.F.slot_dict_setitem hT PySem.F.entry_dict_setitem ?_ (PySem.F.args_dict_setitem_3 _ _ _)))
  show wpAny _ _ (Builtin.Dict.notOrdered "__setitem__" ⟨[.ref a, iv, u], []⟩ >>= _) _ _ s
  refine wpAny_bind (wpAny_notOrdered_dict hT ?_)
  show wpAny _ _ (dictSet a iv u >>= _) _ _ s
  rcases h with ⟨ha, q⟩ | ⟨k1, i1, v1, ha, kh1, q⟩
  · obtain ⟨hs, ob, es, ep, e1, e2, e3, e4⟩ := dn_at I ha
    obtain rfl : es = #[] := by
      cases es with
      | mk l =>
        cases e4
        rfl
    refine wpAny_bind (fw_set0 (A := _) ?_ kv e1 e2 e3 fun h' o' ep' g1 g2 g3 g4 => wpAny_pure ⟨.none, rfl, wpAny_pure ⟨upd H a (dN X.w a [(k, i, v)]), ?_, q _ upd_same Ext.put⟩⟩)
    · show X.A.units + 1 + 8 < cLine
      omega
    · exact d_write I (by rw [ha]; exact True.intro) g4 ⟨_, g1⟩ (dn_ok hs g1 g2 g3 (.cons ⟨rfl, ri, rv⟩ .nil))
  · obtain ⟨hs, ob, es, ep, e1, e2, e3, e4⟩ := dn_at I ha
    have kv1 := fun u r => kh1.keyV (u := u) I.hok r
    obtain ⟨en, rfl, g0, g1, g2⟩ : ∃ en : DictEntry, es = #[en] ∧ EnOk X.w (k1, i1, v1) en := by
      cases es with
      | mk l =>
        cases e4 with
        | cons r t =>
          cases t
          exact ⟨_, rfl, r⟩
    obtain ⟨eh, ek, ev⟩ := en
    obtain rfl : eh = k1.hash X.w := g0
    refine wpAny_bind (fw_set1 (A := _) ?_ kv (kv1 _ g1) e1 e2 e3 fun h' o' ep' g1' g2' g3 g4 => ?_)
    · show X.A.units + 1 + 8 < cLine
      omega
    · rcases g3 with ⟨hk, g3⟩ | ⟨hk, g3⟩
      · exact wpAny_pure ⟨.none, rfl, wpAny_pure ⟨upd H a (dN X.w a [(k1, i1, v)]), d_write I (by rw [ha]; exact True.intro) g4 ⟨_, g1'⟩ (dn_ok hs g1' g2' g3 (.cons ⟨rfl, g1, rv⟩ .nil)), q _ _ (.inl rfl) upd_same Ext.put⟩⟩
      · exact wpAny_pure ⟨.none, rfl, wpAny_pure ⟨upd H a (dN X.w a [(k1, i1, v1), (k, i, v)]), d_write I (by rw [ha]; exact True.intro) g4 ⟨_, g1'⟩ (dn_ok hs g1' g2' g3 (.cons ⟨rfl, g1, g2⟩ (.cons ⟨rfl, ri, rv⟩ .nil))), q _ _ (.inr rfl) upd_same Ext.put⟩⟩
end
end L2
end -- Fw2
section -- Fw3
set_option Elab.async false
set_option linter.all false
set_option maxRecDepth 100000
set_option maxHeartbeats 4000000
/-! Fw3: len(d) and list(d.items()) of a dict told by its raw entries. -/
namespace PySem
open PySem.W PySem.Calls PyProof.Rows
section
variable {prog : Program} {w : World} {A : Around} {E : Value → Shared → Prop} {s : Shared} {d : Addr} {es : Array DictEntry} {ep : Nat}
theorem fw_len {Q : Value → Shared → Prop} (hd : (d == sysModules) = false) (hm : s.heap.DictRaw d es ep) (hfit : (es.size : Int) < 2 ^ 63) (h : ∀ t, Q (.int es.size t) { s with toks := s.toks + 1 + 1 }) : wpAny (model prog w) A (call (.builtin "len") [.ref d]) Q E s := by
  refine Calls.call_function_entry kind_len plain_len entry_len (args_len1 _) ?_
  unfold Builtin.«len»
  refine wpAny_bind (m := oneArg "len" _) (wpAny_pure (wpAny_bind (m := callSpecial? (.ref d) (Str.ofString "__len__")) (wpAny_callSpecial?_slot (name := Str.ofString "__len__") hm.typeIs PySem.F.slot_dict_len ?_)))
  refine call_meetsIn PySem.F.slot_dict_len hm.typeIs PySem.F.entry_dict_len (PySem.F.args_dict_len_1 _) (meets_dict_len_raw d hd) ⟨es, ep, hm, ?_⟩
  show wpAny _ _ _ _ _ { s with toks := s.toks + 1 }
  refine wpAny_bind (wpAny_holding (wpAny_pure (wpAny_bind (wpAny_letGo ?_))))
  show wpAny _ _ (if ((es.size : Nat) : Int) < 0 then _ else _) _ _ _
  rw [if_neg (by omega)]
  show wpAny _ _ (if ((es.size : Nat) : Int) ≥ 2 ^ 63 then _ else _) _ _ _
  rw [if_neg (by omega)]
  exact wpAny_bind (wpAny_mkInt (wpAny_pure ⟨_, rfl, h _⟩))
/-- the addresses of the tuples so far -/
structure FwT (es : Array DictEntry) (lo : Addr) (h : Heap) (as : List Addr) : Prop where
  up : as.Pairwise (· < ·)
  over : ∀ a, a ∈ as → lo < a
  what : ∀ (j : Nat) (a : Addr), as[j]? = some a → ∃ hj : j < es.size, h.get? a = some { cls := .type "tuple", data := .seq #[es[j].key, es[j].val] }
theorem FwT.lt {lo : Addr} {h : Heap} {as : List Addr} (g : FwT es lo h as) {a : Addr} (ha : a ∈ as) : a < h.objs.size := by
  obtain ⟨j, hj⟩ := List.mem_iff_getElem?.mp ha
  obtain ⟨_, e⟩ := g.what j a hj
  exact Heap.lt_size e
theorem FwT.snoc {lo : Addr} {h h' : Heap} {as : List Addr} {p : Addr} (g : FwT es lo h as) (hj : as.length < es.size) (hp : ∀ a ∈ as, a < p) (hl : lo < p) (k : ∀ a o, a ∈ as → h.get? a = some o → h'.get? a = some o)
    (e : h'.get? p = some { cls := .type "tuple", data := .seq #[es[as.length].key, es[as.length].val] }) : FwT es lo h' (as ++ [p]) where
  up := List.pairwise_append.mpr ⟨g.up, List.pairwise_singleton _ _, fun a ha b hb => by
    rw [List.mem_singleton.mp hb]
    exact hp a ha⟩
  over := fun a ha => by
    rcases List.mem_append.mp ha with ha | ha
    · exact g.over a ha
    · exact List.mem_singleton.mp ha ▸ hl
  what := fun j a hja => by
    by_cases h1 : j < as.length
    · rw [List.getElem?_append_left h1] at hja
      obtain ⟨hj', e'⟩ := g.what j a hja
      exact ⟨hj', k a _ (List.mem_of_getElem? hja) e'⟩
    · have h2 : j = as.length := by
        have := (List.getElem?_eq_some_iff.mp hja).1
        rw [List.length_append, List.length_singleton] at this
        omega
      subst h2
      rw [List.getElem?_append_right (Nat.le_refl _), Nat.sub_self] at hja
      have := Option.some.inj hja
      subst this
      exact ⟨hj, e⟩
/-- the iterator over the items, i are through -/
def FwSt (h : Heap) (it d S : Addr) (i n ep : Nat) : Prop := (i = 0 ∧ ∃ ok ov, IsItemIter h it d 0 n ep ok ov) ∨ ∃ ok ov a f oa, KdxIt h it d i n ep ok ov a f ∧ h.get? a = some oa ∧ a ≠ it ∧ a ≠ S
theorem FwSt.keep {h h' : Heap} {it S : Addr} {i n : Nat} (x : FwSt h it d S i n ep) (hI : it ≠ S) (hk : ∀ b o, b ≠ S → h.get? b = some o → h'.get? b = some o) : FwSt h' it d S i n ep := by
  rcases x with ⟨e, ok, ov, z⟩ | ⟨ok, ov, a, f, oa, z, ha, h1, h2⟩
  · exact .inl ⟨e, ok, ov, hk _ _ hI z⟩
  · exact .inr ⟨ok, ov, a, f, oa, hk _ _ hI z, hk _ _ h2 ha, h1, h2⟩
theorem fw_next {it S : Addr} {i : Nat} {Q : Option Value → Shared → Prop} (st : FwSt s.heap it d S i es.size ep) (hS : S < s.heap.objs.size) (hm : s.heap.DictRaw d es ep) (hi : i < es.size)
    (hQ : ∀ h', FwSt h' it d S (i + 1) es.size ep → h'.get? s.heap.objs.size = some { cls := .type "tuple", data := .seq #[es[i].key, es[i].val] } → h'.objs.size = s.heap.objs.size + 1 →
      (∀ b o, b ≠ it → s.heap.get? b = some o → h'.get? b = some o) → Q (some (.ref s.heap.objs.size)) { s with heap := h' }) : wpAny (model prog w) A (pyNext (.ref it)) Q E s := by
  rcases st with ⟨rfl, ok, ov, z⟩ | ⟨ok, ov, a, f, oa, z, ha, h1, h2⟩
  · exact wpAny_pyNext_items_item_raw z hm hi fun h' z' ht hz hk => hQ h' (.inr ⟨_, _, _, false, _, z', ht, Nat.ne_of_gt (Heap.lt_size z), Nat.ne_of_gt hS⟩) ht hz hk
  · exact wpAny_pyNext_items_item_out_raw z ha h1 hm hi fun h' z' ht hz hk => hQ h' (.inr ⟨ok, ov, a, true, oa, z', hk a oa h1 ha, h1, h2⟩) ht hz hk
theorem fw_stop {it S : Addr} {i : Nat} {Q : Option Value → Shared → Prop} (hh : A.handled = none) (st : FwSt s.heap it d S i es.size ep) (hm : s.heap.DictRaw d es ep) (hi : es.size ≤ i)
    (hQ : ∀ h', Heap.ExtBut it s.heap h' → Q none { s with heap := h' }) : wpAny (model prog w) A (pyNext (.ref it)) Q E s := by
  rcases st with ⟨rfl, ok, ov, z⟩ | ⟨ok, ov, a, f, oa, z, _, _, _⟩
  · exact wpAny_pyNext_items_end_raw hh z hm hi hQ
  · exact wpAny_pyNext_items_end_out_raw hh z hm hi hQ
end
section
variable {prog : Program} {w : World} {A : Around} {s : Shared} {R : Result → Shared → Prop} {d S I : Addr} {es : Array DictEntry} {ep : Nat}
theorem fw_loop (hh : A.handled = none) (hSI : S < I) (hSd : d ≠ S) (hId : d ≠ I) (hn : es.size ≤ sizeLine) (res : Value) {h₁ : Heap}
    (hR : ∀ h' tk acc c as, (∀ b o, b ≠ S → b ≠ I → h₁.get? b = some o → h'.get? b = some o) → h'.get? S = some { cls := .type "list", dict := none, data := .seq acc c, slots := #[] } → as.length = es.size → FwT es I h' as → acc.toList = as.map Value.ref → R (.ok (.ret res)) { s with heap := h', toks := tk }) :
    ∀ (k : Nat) (h : Heap) (tk c : Nat) (acc : Array Value) (as : List Addr), as.length + k = es.size → FwSt h I d S as.length es.size ep → h.DictRaw d es ep → (∀ b o, b ≠ S → b ≠ I → h₁.get? b = some o → h.get? b = some o) →
      h.get? S = some { cls := .type "list", dict := none, data := .seq acc c, slots := #[] } → acc.toList = as.map Value.ref → FwT es I h as → I < h.objs.size →
      codeAny (model prog w) A (.builtin "list.extend.loop" ⟨[.ref S, .ref I, res], []⟩) R { s with heap := h, toks := tk } := by
  intro k
  induction k with
  | zero =>
    intro h tk c acc as hk st hD keep hS hacc g hI
    refine codeAny_builtin PySem.F.entry_extend_loop ?_
    rw [Around.under_plainId PySem.F.plain_extend_loop _]
    show wpAny _ A.in1 (pyNext (.ref I) >>= _) _ _ _
    refine wpAny_bind (fw_stop (s := { s with heap := h, toks := tk }) (A := A.in1) hh st hD (by omega) fun h' he => ?_)
    refine wpAny_pure (hR h' tk acc c as (fun b o h1 h2 e => he b o h2 (keep b o h1 h2 e)) (he S _ (Nat.ne_of_lt hSI) hS) (by omega) ⟨g.up, g.over, fun j a hj => ?_⟩ hacc)
    obtain ⟨h1, e⟩ := g.what j a hj
    exact ⟨h1, he a _ (Nat.ne_of_gt (g.over a (List.mem_of_getElem? hj))) e⟩
  | succ k ih =>
    intro h tk c acc as hk st hD keep hS hacc g hI
    have hlt : as.length < es.size := by omega
    have hsz : acc.size = as.length := by rw [← Array.length_toList, hacc, List.length_map]
    have hSl : S < h.objs.size := Heap.lt_size hS
    refine codeAny_builtin PySem.F.entry_extend_loop ?_
    rw [Around.under_plainId PySem.F.plain_extend_loop _]
    show wpAny _ A.in1 (pyNext (.ref I) >>= _) _ _ _
    refine wpAny_bind (fw_next (s := { s with heap := h, toks := tk }) (S := S) st hSl hD hlt fun h' st' ht hz hkp => ?_)
    dsimp only at ht hz hkp ⊢
    have hS' := hkp S _ (Nat.ne_of_lt hSI) hS
    have up : ∀ b o, b ≠ S → h'.get? b = some o → (h'.update S (Obj.mapSeq (·.push (Value.ref h.objs.size)))).get? b = some o := fun b o hb e => (Heap.get?_update_other _ _ (Ne.symm hb)).trans e
    show wpAny _ A.in1 (updateSeq S (·.push (Value.ref h.objs.size)) >>= _) _ _ _
    refine wpAny_bind (wpAny_updateSeq hS' rfl (wpAny_pure ⟨plainId_quiet PySem.F.plain_extend_loop _, ?_⟩) (by rw [hsz]; omega) (by show (acc.push (Value.ref h.objs.size)).size ≤ sizeLine + 1; rw [Array.size_push, hsz]; omega))
    have g' : FwT es I (h'.update S (Obj.mapSeq (·.push (Value.ref h.objs.size)))) (as ++ [h.objs.size]) :=
      g.snoc hlt (fun a ha => g.lt ha) hI (fun a o ha e => up a o (Nat.ne_of_gt (Nat.lt_trans hSI (g.over a ha))) (hkp a o (Nat.ne_of_gt (g.over a ha)) e)) (up _ _ (Nat.ne_of_gt hSl) ht)
    refine ih _ tk _ (acc.push (Value.ref h.objs.size)) (as ++ [h.objs.size]) (by rw [List.length_append, List.length_singleton]; omega) ?_ (hD.at fun o e => up d o hSd (hkp d o hId e)) (fun b o h1 h2 e => up b o h1 (hkp b o h2 (keep b o h1 h2 e)))
      (Heap.get?_update_self _ hS' rfl) (by rw [Array.toList_push, hacc, List.map_append]; rfl) g' ?_
    · rw [List.length_append, List.length_singleton]
      exact st'.keep (Nat.ne_of_gt hSI) up
    · exact Nat.lt_trans hI (g'.lt (List.mem_append_right _ (List.mem_singleton.mpr rfl)))
end
section
variable {prog : Program} {w : World} {A : Around} {E : Value → Shared → Prop} {s : Shared} {r d : Addr} {es : Array DictEntry} {ep : Nat}
theorem fw_ext {R : Result → Shared → Prop} (hh : A.handled = none) (hv : s.heap.IsItemsView r d) (hm : s.heap.DictRaw d es ep) (hn : es.size ≤ sizeLine) (S : Addr) (hSr : S ≠ r) (hSd : d ≠ S) (c₀ : Nat) (hS : s.heap.get? S = some { cls := .type "list", data := .seq #[] c₀ })
    (hR : ∀ h' tk acc c as, (∀ b o, b ≠ S → s.heap.get? b = some o → h'.get? b = some o) → h'.get? S = some { cls := .type "list", dict := none, data := .seq acc c, slots := #[] } → as.length = es.size → FwT es s.heap.objs.size h' as → acc.toList = as.map Value.ref → R (.ok (.ret .none)) { s with heap := h', toks := tk }) :
    wpAny (model prog w) A.in1 (Builtin.List.listExtendWith (.ref S) (.ref r) .none)
      (fun fin s' => match fin with | .done f => R (.ok f) s' | .again c' => c'.quiet = true ∧ codeAny (model prog w) A c' R s') (fun e s' => R (.error e) s') s := by
  have hSI : S < s.heap.objs.size := Heap.lt_size hS
  have hdI : d < s.heap.objs.size := by obtain ⟨o, ho, _⟩ := hm; exact Heap.lt_size ho
  generalize hit : ({ cls := .type "dict_itemiterator", data := .fields #[.none, .bool false, .ref d, .int 0 0, .int es.size 0, .int ep 0, .none, .none] } : Obj) = oi
  have go : ∀ (h : Heap) (c₁ tk : Nat), (∀ b o, b ≠ S → (s.heap.push oi).get? b = some o → h.get? b = some o) → h.get? S = some { cls := .type "list", data := .seq #[] c₁ } →
      codeAny (model prog w) A (.builtin "list.extend.loop" ⟨[.ref S, .ref s.heap.objs.size, .none], []⟩) R { s with heap := h, toks := tk } := by
    intro h c₁ tk hk hS₁
    have hI : h.get? s.heap.objs.size = some oi := hk s.heap.objs.size _ (Nat.ne_of_gt hSI) (Heap.get?_push_size _ (by rw [← hit]; rfl))
    refine fw_loop (s := s) (h₁ := s.heap) (ep := ep) hh hSI hSd (Nat.ne_of_lt hdI) hn .none (fun h' tk' acc c as k' => hR h' tk' acc c as fun b o hb e => k' b o hb (Nat.ne_of_lt (Heap.lt_size e)) e)
      es.size h tk c₁ #[] [] (by simp) (.inl ⟨rfl, .none, .none, by rw [← hit] at hI; exact hI⟩) (hm.at fun o e => hk d o hSd (Heap.get?_push_of_some _ e)) (fun b o hb _ e => hk b o hb (Heap.get?_push_of_some _ e)) hS₁ rfl ⟨.nil, (fun _ ha => nomatch ha), fun j a hj => by simp at hj⟩ (Heap.lt_size hI)
  unfold Builtin.List.listExtendWith
  refine wpAny_bind (wpAny_typeOf (T := "dict_items") hv.typeIs ?_)
  have n1 : Builtin.List.listSameRef (.ref S) (.ref r) = false := by simp [Builtin.List.listSameRef, hSr]
  simp only [n1, show (Value.type "dict_items" == Value.type "list") = false from by decide, show (Value.type "dict_items" == Value.type "tuple") = false from by decide, Bool.or_false, Bool.false_eq_true, if_false]
  refine wpAny_bind (wpAny_pyIter_items_raw hv hm ?_)
  rw [hit]
  have hS₁ := Heap.get?_push_of_some oi hS
  refine wpAny_bind (wpAny_holding (kdx_hint (by obtain ⟨o, ho, hc, _⟩ := hv; exact ⟨o, Heap.get?_push_of_some _ ho, hc⟩) ?_))
  refine wpAny_ite_split (fun _ => ?_) (fun _ => wpAny_pure ⟨plainId_quiet PySem.F.plain_extend_loop _, go _ c₀ _ (fun b o _ e => e) hS₁⟩)
  refine wpAny_bind (wpAny_rule (wpAny_bind ?_))
  show wpAny _ _ (updateSeq S (·.push .none) >>= fun _ => updateSeq S (·.pop)) _ _ _
  refine wpAny_bind (wpAny_updateSeq hS₁ rfl ?_)
  have hS₂ := Heap.get?_update_self (Obj.mapSeq (·.push Value.none)) hS₁ rfl
  refine wpAny_updateSeq (hz := by seq_fits) hS₂ rfl (wpAny_pure ⟨plainId_quiet PySem.F.plain_extend_loop _, go _ _ _ (fun b o hb e => ?_) (Heap.get?_update_self (Obj.mapSeq (·.pop)) hS₂ rfl)⟩)
  exact (Heap.get?_update_other _ _ (Ne.symm hb)).trans ((Heap.get?_update_other _ _ (Ne.symm hb)).trans e)
/-- list(v), v the items of a dict -/
theorem fw_list {Q : Value → Shared → Prop} (hh : A.handled = none) (hv : s.heap.IsItemsView r d) (hm : s.heap.DictRaw d es ep) (hn : es.size ≤ sizeLine)
    (hQ : ∀ h' tk acc c as, (∀ b o, s.heap.get? b = some o → h'.get? b = some o) → h'.get? s.heap.objs.size = some { cls := .type "list", dict := none, data := .seq acc c, slots := #[] } → as.length = es.size → FwT es s.heap.objs.size h' as → acc.toList = as.map Value.ref → Q (.ref s.heap.objs.size) { s with heap := h', toks := tk }) :
    wpAny (model prog w) A (call (.type "list") [.ref r]) Q E s := by
  refine callType_codes (Q₁ := fun obj s₁ => obj = .ref s.heap.objs.size ∧ s₁ = { s with heap := s.heap.push { cls := .type "list", data := .seq #[] } }) PySem.F.called_list (PySem.F.typeCall_list_1 _) PySem.F.entry_list_init (code_list_new _ ⟨rfl, rfl⟩) fun obj s₁ h₁ => ?_
  obtain ⟨rfl, rfl⟩ := h₁
  generalize ea : s.heap.objs.size = a at *
  have hS : (s.heap.push { cls := .type "list", data := .seq #[] }).get? a = some { cls := .type "list", data := .seq #[] } := by rw [← ea]; exact Heap.get?_push_size _ rfl
  have hr : r < a := by rw [← ea]; obtain ⟨_, ho, _⟩ := hv; exact Heap.lt_size ho
  have hd : d < a := by rw [← ea]; obtain ⟨o, ho, _⟩ := hm; exact Heap.lt_size ho
  refine ⟨⟨_, hS, rfl⟩, PySem.F.args_list_init_2 _ _, ?_⟩
  show wpAny _ A.in1.in1 (do let old ← Builtin.List.listItems (.ref a); Builtin.List.listUpdate (.ref a) (fun _ => #[]); letGo old.toList.reverse; Builtin.List.listExtendWith (.ref a) (.ref r) .none) _ _ _
  unfold Builtin.List.listItems
  refine wpAny_bind (wpAny_bind (wpAny_seqItems hS rfl (wpAny_pure ?_)))
  show wpAny _ _ (updateSeq a (fun _ => #[]) >>= fun _ => letGo (#[] : Array Value).toList.reverse >>= fun _ => Builtin.List.listExtendWith (.ref a) (.ref r) .none) _ _ _
  refine wpAny_bind (wpAny_updateSeq hS rfl ?_)
  have hS₂ := Heap.get?_update_self (Obj.mapSeq (fun _ => (#[] : Array Value))) hS rfl
  have oth : ∀ b o, b ≠ a → s.heap.get? b = some o → ((s.heap.push { cls := .type "list", data := .seq #[] }).update a (Obj.mapSeq (fun _ => (#[] : Array Value)))).get? b = some o := fun b o hb e => (Heap.get?_update_other _ _ (Ne.symm hb)).trans (Heap.get?_push_of_some _ e)
  refine wpAny_bind (wpAny_letGo ?_)
  refine fw_ext (A := A.in1) hh (by obtain ⟨o, ho, x⟩ := hv; exact ⟨o, oth r o (Nat.ne_of_lt hr) ho, x⟩) (hm.at fun o e => oth d o (Nat.ne_of_lt hd) e) hn a (Nat.ne_of_gt hr) (Nat.ne_of_lt hd) _ hS₂ (fun h' tk acc c as hk hS' hl g hacc => ?_)
  have lo : a < ((s.heap.push { cls := .type "list", data := .seq #[] }).update a (Obj.mapSeq (fun _ => (#[] : Array Value)))).objs.size := Heap.lt_size hS₂
  exact ⟨rfl, hQ h' tk acc c as (fun b o e => by
    have hb : b ≠ a := by rw [← ea]; exact Nat.ne_of_lt (Heap.lt_size e)
    exact hk b o hb (oth b o hb e)) hS' hl ⟨g.up, fun b hb => Nat.lt_trans lo (g.over b hb), g.what⟩ hacc⟩
end
end PySem
end -- Fw3
section -- Fw4
set_option Elab.async false
set_option linter.all false
set_option maxRecDepth 100000
set_option maxHeartbeats 4000000
/-! Fw4: len(d), list(d.items()) and isinstance of mixed dicts, as readings. -/
namespace L2
open PySem PySem.Spec PyProof.Rows
/-- the tuples that are tracked at their addresses -/
def putP : Hp → List Addr → List (V × V) → Hp
  | H, a :: as, p :: ps => putP (upd H a (.tup [p.1, p.2])) as ps
  | H, _, _ => H
theorem putP_off {b : Addr} : ∀ (as : List Addr) (ps : List (V × V)) (H : Hp), b ∉ as → putP H as ps b = H b
  | [], _, _, _ => rfl
  | _ :: _, [], _, _ => rfl
  | a :: as, p :: ps, H, h => by
    have h1 := putP_off as ps (upd H a (.tup [p.1, p.2])) (fun z => h (List.mem_cons_of_mem _ z))
    rw [upd_ne (fun z => h (by rw [z]; exact List.mem_cons_self))] at h1
    exact h1
theorem putP_at : ∀ (as : List Addr) (ps : List (V × V)) (H : Hp), as.length = ps.length → as.Nodup → Paired (fun (t : Addr) (p : V × V) => putP H as ps t = some (.tup [p.1, p.2])) as ps
  | [], [], _, _, _ => .nil
  | [], _ :: _, _, h, _ => nomatch h
  | _ :: _, [], _, h, _ => nomatch h
  | a :: as, p :: ps, H, h, hn => by
    have nd := List.nodup_cons.mp hn
    refine .cons ?_ (putP_at as ps (upd H a (.tup [p.1, p.2])) (Nat.succ.inj h) nd.2)
    have h1 := putP_off as ps (upd H a (.tup [p.1, p.2])) nd.1
    rw [upd_same] at h1
    exact h1
/-- what is told of list(d.items()) -/
def rItemsN (w : World) : V → Hp → VK → Prop := fun x H Q => ∃ (d : Addr) (kvs : List NKV), x = .ref d ∧ H d = some (dN w d kvs) ∧ kvs.length ≤ 1000 ∧
  ∀ (H' : Hp) (p : Addr) (ts : List Addr), Same H H' → H p = none → (∀ t ∈ ts, H t = none) → H' p = some (.lst (ts.map V.ref)) → Paired (fun (t : Addr) (q : NKV) => H' t = some (.tup [q.2.1, q.2.2])) ts kvs → Q (.ref p) H'
def tItemsN (w : World) (te : TE) : TE := fun σ H Q => te σ H fun x H1 => rItemsN w x H1 Q
def rLenN (w : World) : List V → Hp → VK → Prop := fun xs H Q => match xs with
  | [.ref p] => ∃ kvs, H p = some (dN w p kvs) ∧ kvs.length ≤ 1000 ∧ Q (.int kvs.length) H
  | _ => False
section
variable {X : Cx}
theorem paired_toP {F : Addr → NKV → Prop} {G : Addr → V × V → Prop} (h : ∀ t q, G t q.2 → F t q) : ∀ {ts : List Addr} {kvs : List NKV}, Paired G ts (kvs.map (·.2)) → Paired F ts kvs
  | [], [], _ => .nil
  | [], _ :: _, z => nomatch z
  | _ :: _, [], z => nomatch z
  | t :: ts, q :: kvs, .cons r z => .cons (h _ _ r) (paired_toP h z)
theorem itemsN_laid {pins : List (Addr × Obj)} {σ : L2.St} {H : Hp} {s : Shared} {h' : Heap} {tk : Nat} {kvs : List NKV} {es : Array DictEntry} {acc : Array Value} {c : Nat} {as : List Addr} (I : Inv X pins σ H s) (hz : kvs.length ≤ 1000) (kv : Paired (EnOk X.w) kvs es.toList)
    (hk : ∀ b o, s.heap.get? b = some o → h'.get? b = some o) (hS : h'.get? s.heap.objs.size = some { cls := .type "list", dict := none, data := .seq acc c, slots := #[] }) (hl : as.length = es.size) (hG : FwT es s.heap.objs.size h' as) (hacc : acc.toList = as.map Value.ref) :
    ∃ H' : Hp, Same H H' ∧ H s.heap.objs.size = none ∧ (∀ t ∈ as, H t = none) ∧ H' s.heap.objs.size = some (.lst (as.map V.ref)) ∧ Paired (fun (t : Addr) (q : NKV) => H' t = some (.tup [q.2.1, q.2.2])) as kvs ∧ Inv X pins σ H' { s with heap := h', toks := tk } := by
  generalize ep : s.heap.objs.size = p at *
  have lk : kvs.length = es.size := by rw [Paired.length kv, Array.length_toList]
  have pn : p ∉ as := fun z => Nat.lt_irrefl _ (hG.over _ z)
  have nd : as.Nodup := List.Pairwise.imp (fun {a b} (h : a < b) => Nat.ne_of_lt h) hG.up
  have new : ∀ t ∈ as, H t = none := fun t ht => I.hok.fresh (by rw [ep]; exact Nat.le_of_lt (hG.over t ht))
  have newp : H p = none := I.hok.fresh (by rw [ep]; exact Nat.le_refl _)
  have atP := putP_at as (kvs.map (·.2)) (upd H p (.lst (as.map V.ref))) (by rw [List.length_map]; omega) nd
  have off : ∀ b, b ∉ as → b ≠ p → putP (upd H p (.lst (as.map V.ref))) as (kvs.map (·.2)) b = H b := fun b h1 h2 => by rw [putP_off as _ _ h1, upd_ne h2]
  have low : ∀ b o, s.heap.get? b = some o → b ∉ as ∧ b ≠ p := fun b o e => by
    have hb : b < p := by rw [← ep]; exact Heap.lt_size e
    exact ⟨fun z => absurd hb (Nat.not_lt.mpr (Nat.le_of_lt (hG.over b z))), Nat.ne_of_lt hb⟩
  have kp : Same H (putP (upd H p (.lst (as.map V.ref))) as (kvs.map (·.2))) := fun b u e => by
    rw [off b (fun z => by rw [new b z] at e; cases e) (fun z => by rw [z, newp] at e; cases e)]
    exact e
  have eS : putP (upd H p (.lst (as.map V.ref))) as (kvs.map (·.2)) p = some (.lst (as.map V.ref)) := by rw [putP_off as _ _ pn, upd_same]
  refine ⟨_, kp, newp, new, eS, paired_toP (fun _ _ z => z) atP, ?_⟩
  refine I.call' (ch := []) rfl ⟨fun b o q _ _ _ => hk b o q, fun b o q _ _ _ => ⟨o.slots, hk b o q⟩, fun b o q n _ => ?_, fun b o q _ => ⟨o, hk b o q⟩, fun b xs q => kp b _ q, fun b o u q => kp b _ q, fun b ps q => ⟨#[], by rw [kp b _ q]; simp⟩⟩ (fun b u q => ?_) I.bare fun b z => by simp at z
  · obtain ⟨z1, z2⟩ := low b o q
    rw [off b z1 z2]
    exact n
  · by_cases hb : b ∈ as
    · obtain ⟨j, pk, e1, e2, e3⟩ := LiI.paired_ix atP hb
      rw [e3] at q
      cases q
      obtain ⟨hj, f3⟩ := hG.what j b e1
      obtain ⟨kv0, g1, g2⟩ := List.getElem?_eq_some_iff.mp e2 |> fun ⟨hl, hv⟩ => (⟨kvs[j]'(by simpa using hl), by rw [List.getElem?_eq_getElem], by rw [← hv]; simp⟩ : ∃ q : NKV, kvs[j]? = some q ∧ pk = q.2)
      obtain ⟨en, k1, k2⟩ := LiI.paired_get kv g1
      have ee : en = es[j] := by
        rw [Array.getElem?_toList, Array.getElem?_eq_getElem hj] at k1
        exact (Option.some.inj k1).symm
      subst ee g2
      exact ⟨by show 2 ≤ sizeLine; decide, [es[j].key, es[j].val], .cons k2.2.1 (.cons k2.2.2 .nil), ⟨_, f3, rfl, _, rfl⟩⟩
    · by_cases hb2 : b = p
      · rw [hb2] at q ⊢
        rw [eS] at q
        cases q
        refine ⟨by rw [List.length_map, sizeLine_eq]; omega, acc.toList, c, by rw [hacc]; exact LiI.vals_refs as, ?_⟩
        rw [Array.toArray_toList]
        exact hS
      · rw [off b hb hb2] at q
        exact (I.hok b u q).stay (fun d v _ y => hk d v y) (fun d y => kp d _ y) fun d xs y => kp d _ y
/-- list(e.items()), e a mixed dict -/
theorem pe_listItemsN {e : Expr} {te : TE} {p apos cpos pos : Pos} (hc : X.calm = true) (he : PE X e te) (hg : Gl X "list") (hm : X.mg "list" = none) (hv : bootBuiltins "list" = some (.type "list")) (hbase : attributeBase e "items" X.env (eval e X.env) = eval e X.env := by rfl) (hline : (apos.endLine == cpos.line) = true := by rfl)
    (hs : starEach [.Call (.Attribute e "items" apos) [] [] cpos] X.env = (false, eval (.Call (.Attribute e "items" apos) [] [] cpos) X.env) :: starEach [] X.env := by rfl) :
    PE X (.Call (.Name "list" p) [.Call (.Attribute e "items" apos) [] [] cpos] [] pos) (tItemsN X.w te) := by
  refine ⟨fun pins s σ H Q I hq => ?_⟩
  refine wpAny_Call_Name_kw (ld_blt I hg hm hv (PyProof.Rows.callWith_type1 ?_ hs rfl))
  rw [hs]
  show wpAny _ _ (spliced ((false, eval (.Call (.Attribute e "items" apos) [] [] cpos) X.env) :: backTo pos (starEach [] X.env))) _ _ s
  refine Calls.spliced_cons (wpAny_Call_method (T := "dict") (id := "dict.items") hbase rfl hline F.plainAttrs_dict F.slot_dict_items F.type_dict_items (thn (he.run pins s σ H _ I hq) fun u s1 ⟨x, H1, I1, rx, d, kvs, ex, hd, hz, q⟩ => ?_))
  subst ex
  obtain rfl : u = Value.ref d := rx
  obtain ⟨hs0, o, es, ep, e1, e2, e3, kv⟩ := dn_at I1 hd
  have hr : s1.heap.DictRaw d es ep := ⟨o, e1, e2, e3⟩
  have I2 : Inv X pins σ H1 { s1 with heap := s1.heap.push { cls := .type "dict_items", data := .fields #[.ref d] } } := I1.kept (t' := s1.toks) fun b ob q => Heap.get?_push_of_some _ q
  refine ⟨hr.typeIs, fun o' ho' => ?_, ?_⟩
  · cases ho'
    exact ⟨o, e1, e2.2.1⟩
  show wpAny _ _ (callWith cpos (.builtin "dict.items") [.ref d] [] []) _ X.xe s1
  refine method_meetsIn F.slot_dict_items F.entry_dict_items rfl (PySem.evalArgs_none ⟨rfl, hr.typeIs, F.args_dict_items_1 _, _, meets_dict_items_raw d hs0, ⟨es, ep, hr⟩, ?_⟩)
  have ez : es.size ≤ sizeLine := by
    rw [← Array.length_toList, ← Paired.length kv, sizeLine_eq]
    omega
  refine Calls.spliced_nil (fw_list (I1.ok.hd hc) ⟨_, Heap.get?_push_size _ rfl, rfl, rfl⟩ (hr.at fun o' q => Heap.get?_push_of_some _ q) ez fun h' tk acc c as hk hS hl hG hacc => ?_)
  obtain ⟨H', k1, k2, k3, k4, k5, J⟩ := itemsN_laid (tk := tk) I2 hz kv hk hS hl hG hacc
  exact ⟨.ref _, H', J, rfl, q H' _ as k1 k2 k3 k4 k5⟩
theorem call_lenN : CallR X (.builtin "len") (rLenN X.w) := by
  intro pins s σ H xs us Q I r h
  match xs, h with
  | [.ref p], h =>
    obtain ⟨kvs, hp, hz, q⟩ := h
    obtain ⟨u, rfl, rx⟩ := vals1 r
    obtain rfl : u = .ref p := rx
    obtain ⟨hs, o, es, ep, e1, e2, e3, kv⟩ := dn_at I hp
    have hl : kvs.length = es.size := by rw [Paired.length kv, Array.length_toList]
    refine fw_len hs ⟨o, e1, e2, e3⟩ (by omega) fun t => ⟨.int kvs.length, H, I.tok _, ⟨t, by rw [hl]⟩, q⟩
end
end L2
end -- Fw4
section -- FwX1
set_option Elab.async false
set_option linter.all false
set_option maxRecDepth 100000
set_option maxHeartbeats 4000000
/-! FwX1: an own exception class with an __init__ of its own is called, with keywords as well. -/
namespace PySem
namespace FwX
open Builtin Builtin.ObjectAttr HandSPX
section
variable {M : Model} {A : Around} {E : Value → Shared → Prop} {h : Heap} {g : Array GenState} {d : Drawn} {t : Nat} {os : OsState}
variable {nm q : Str} {C N : Addr} {bs bm bmB : List Value} {hdct : Bool} {sn : List Str} {sub : List Value} {ab : Bool} {col : Option Bool} {dd : Option Addr} {k0 k1 k2 k3 k5 : Option Value} {B newId initId : String}
theorem fx_checkNew (F : ExcBaseFacts B newId initId bmB) (hT : ∀ X : String, bm.contains (.type X) = bmB.contains (.type X)) {rest : List Value} {kw : List (Str × Value)} {Q : Unit → Shared → Prop}
    (hC : h.get? C = some (excClassObj nm q C N bs bm hdct sn sub ab col dd k0 k1 k2 k3 k5 newId)) (hq : Q () ⟨h, g, d, t, os⟩) : wpAny M A (checkBuiltinCall newId ⟨.ref C :: rest, kw⟩) Q E ⟨h, g, d, t, os⟩ := by
  have c1 : (Value.ref C :: bm).contains (.type B) = true := by rw [List.contains_cons, hT, F.hasB, Bool.or_true]
  have c2 := F.noStar
  simp only [checkBuiltinCall, F.newKind, F.newSplit, F.newRow]
  repeat (first
    | refine wpAny_loadPart_at hC ?_
    | (refine wpAny_isSubtype_exc hC ?_; rw [c1])
    | refine wpAny_staticBase_exc hC ?_
    | refine wpAny_madeBy_exc hC ?_
    | simp only [bne_self_eq_false, Bool.false_eq_true, if_false]
    | wp_step)
  exact hq
theorem fx_checkCall {rest : List Value} {kw : List (Str × Value)} {Q : Unit → Shared → Prop} (hC : h.get? C = some (excClassObj nm q C N bs bm hdct sn sub ab col dd k0 k1 k2 k3 k5 newId)) (hq : Q () ⟨h, g, d, t, os⟩) :
    wpAny M A (checkBuiltinCall "type.__call__" ⟨.ref C :: rest, kw⟩) Q E ⟨h, g, d, t, os⟩ := by
  have f3 := tc_sub
  have hT : (⟨h, g, d, t, os⟩ : Shared).TypeIs (.ref C) "type" := ⟨_, hC, rfl⟩
  simp only [checkBuiltinCall, tc_kind, tc_split]
  repeat (any_goals (first
    | assumption
    | with_reducible refine wpAny_loadPart_at hC ?_
    | with_reducible refine wpAny_onRaise ?_
    | with_reducible refine wpAny_map ?_
    | wp_step))
end
section
variable {prog : Program} {w : World} {A : Around} {E : Value → Shared → Prop} {R : Result → Shared → Prop} {h : Heap} {g : Array GenState} {d : Drawn} {t : Nat} {os : OsState}
variable {nm q : Str} {C N : Addr} {bs bm bmB : List Value} {hdct : Bool} {sn : List Str} {sub : List Value} {ab : Bool} {col : Option Bool} {dd : Option Addr} {k0 k1 k2 k3 k5 : Option Value} {B newId initId : String}
theorem fx_new (F : ExcBaseFacts B newId initId bmB) (hT : ∀ X : String, bm.contains (.type X) = bmB.contains (.type X)) {rest : List Value} {kw : List (Str × Value)} (hC : h.get? C = some (excClassObj nm q C N bs bm hdct sn sub ab col dd k0 k1 k2 k3 k5 newId)) (hz : rest.length ≤ sizeLine)
    (hq : R (.ok (.ret (.ref (h.objs.size + 1)))) ⟨(h.push (W.kdv_tup rest)).push (excO C h.objs.size), g, d, t, os⟩) : codeAny (model prog w) A (.builtin newId ⟨.ref C :: rest, kw⟩) R ⟨h, g, d, t, os⟩ := by
  have e1 := F.ends
  have c1 : (Value.ref C :: bm).contains (.type B) = true := by rw [List.contains_cons, hT, F.hasB, Bool.or_true]
  have c2 : (Value.ref C :: bm).contains (.type "AttributeError") = false := by rw [List.contains_cons, hT, F.noAttr]; rfl
  have c3 : (Value.ref C :: bm).contains (.type "NameError") = false := by rw [List.contains_cons, hT, F.noName]; rfl
  refine codeAny_builtinAt F.entry ?_
  unfold Builtin.«BaseException.__new__»
  refine wpAt_bind ?_
  show wpAt _ _ _ (stack >>= _) _ _ _
  refine wpAt_bind (wpAt_stack fun p below => wpAt_of_wpAny ?_)
  wp_walk
  refine wpAt_of_wpAny ?_
  rw [F.owner]
  repeat (first
    | with_reducible refine wpAny_madeHere_exc F.canon hC ?_
    | with_reducible refine wpAny_loadPart_at hC ?_
    | (with_reducible refine wpAny_isSubtype_exc hC ?_; first | rw [c1] | rw [c2] | rw [c3])
    | wp_step)
  show R _ _
  rw [Heap.size_push]
  exact hq
theorem fx_typeCall (F : ExcBaseFacts B newId initId bmB) (hT : ∀ X : String, bm.contains (.type X) = bmB.contains (.type X)) {rest : List Value} {kw : List (Str × Value)} {fI : Addr} {Q : Fin → Shared → Prop}
    (hC : h.get? C = some (excClassObj nm q C N bs bm hdct sn sub ab col dd k0 k1 k2 k3 k5 newId)) (hi : W.Looks (model prog w) h (typeLookup (.ref C) "__init__") (some (.ref fI))) (hb : ∀ self, W.Looks (model prog w) h (bindSpecial (.ref fI) self) (.ref fI, [self])) (hz : rest.length ≤ sizeLine)
    (hq : codeAny (model prog w) A (.call (.ref fI) ⟨.ref (h.objs.size + 1) :: rest, kw⟩) (fun r s' => match r with | .ok (.ret v) => v = .none ∧ Q (.done (.ret (.ref (h.objs.size + 1)))) s' | .ok _ => False | .error e => E e s')
      ⟨(h.push (W.kdv_tup rest)).push (excO C h.objs.size), g, d, t, os⟩) : wpAny (model prog w) A (Builtin.«type.__call__» ⟨.ref C :: rest, kw⟩) Q E ⟨h, g, d, t, os⟩ := by
  repeat (first
    | with_reducible refine wpAny_loadPart_at hC ?_
    | with_reducible refine wpAny_madeBy_exc hC ?_
    | wp_step)
  refine codeAny_call_builtin_code (Code.quiet_builtin _ F.quiet) (fx_checkNew F hT hC (fx_new F hT hC hz ?_))
  show wpAny _ _ _ _ _ _
  have keep : ∀ b o, h.get? b = some o → ((h.push (W.kdv_tup rest)).push (excO C h.objs.size)).get? b = some o := fun b o e => Heap.get?_push_of_some _ (Heap.get?_push_of_some _ e)
  have hC1 := keep _ _ hC
  have here : ((h.push (W.kdv_tup rest)).push (excO C h.objs.size)).get? (h.objs.size + 1) = some (excO C h.objs.size) := by heap_get
  have c4 : (Value.ref C :: bm).contains (.ref C) = true := by simp
  have i1 := hi.keeps keep
  have b1 := (hb (.ref (h.objs.size + 1))).keeps keep
  unfold isInstance
  repeat (first
    | with_reducible refine wpAny_loadPart_at here ?_
    | (with_reducible refine wpAny_isSubtype_exc hC1 ?_; rw [c4])
    | wp_step)
  show wpAny _ _ (typeLookup (.ref C) _) _ _ _
  refine i1.at (wpAny_holding (wpAny_bind (b1.at (wpAny_bind (wpAny_call (codeAny_mono hq fun r s' z => ?_))))))
  rcases r with e | (v | _ | _ | _) <;> first | exact z | exact z.elim | skip
  obtain ⟨rfl, z⟩ := z
  first
    | exact wpAny_pure (wpAny_pure z)
    | (wp_walk; exact z)
theorem fx_call (F : ExcBaseFacts B newId initId bmB) (hT : ∀ X : String, bm.contains (.type X) = bmB.contains (.type X)) {rest : List Value} {kw : List (Str × Value)} {fI : Addr}
    (hC : h.get? C = some (excClassObj nm q C N bs bm hdct sn sub ab col dd k0 k1 k2 k3 k5 newId)) (hi : W.Looks (model prog w) h (typeLookup (.ref C) "__init__") (some (.ref fI))) (hb : ∀ self, W.Looks (model prog w) h (bindSpecial (.ref fI) self) (.ref fI, [self])) (hz : rest.length ≤ sizeLine)
    (hq : codeAny (model prog w) (A.under (.builtin "type.__call__" ⟨.ref C :: rest, kw⟩)) (.call (.ref fI) ⟨.ref (h.objs.size + 1) :: rest, kw⟩) (W.InitBack (h.objs.size + 1) R) ⟨(h.push (W.kdv_tup rest)).push (excO C h.objs.size), g, d, t, os⟩) :
    codeAny (model prog w) A (.call (.ref C) ⟨rest, kw⟩) R ⟨h, g, d, t, os⟩ := by
  have f1 := tc_lookup
  have f2 := tc_bind (.ref C)
  have hTy : (⟨h, g, d, t, os⟩ : Shared).TypeIs (.ref C) "type" := ⟨_, hC, rfl⟩
  refine codeAny_of_tree ?_
  show wpAny _ _ (callAny (.ref C) _) _ _ _
  repeat (any_goals (first
    | assumption
    | with_reducible refine wpAny_loadPart_at hC ?_
    | wp_step))
  refine ⟨rfl, codeAny_call_builtin_at (Code.quiet_builtin _ (by decide +kernel)) entry_typeCall (fx_checkCall hC (fx_typeCall F hT hC hi hb hz (codeAny_mono hq fun r s' z => ?_)))⟩
  rcases r with e | (v | _ | _ | _) <;> exact z
end
end FwX
end PySem
end -- FwX1
section -- FwX2
set_option Elab.async false
set_option linter.all false
set_option maxRecDepth 100000
set_option maxHeartbeats 4000000
/-! FwX2: exceptions of own classes as values: made by position and by keyword, stored into, read, asked by isinstance. -/
namespace PySem
namespace FwX
open Builtin Builtin.ObjectAttr HandSPX
section
variable {prog : Program} {w : World} {A : Around} {E : Value → Shared → Prop} {R : Result → Shared → Prop} {hp : Heap} {g : Array GenState} {d : Drawn} {t : Nat} {os : OsState} {K : W.Frag} {B : String} {bmB : List Value}
/-- the first field of an exception -/
theorem fx_saNew {name : Str} {tk : Tok} {v : Value} {x C : Addr} {fv : Array Value} (SF : StoreFacts B bmB "object.__setattr__" "object") (X : K.In hp) (hx : hp.get? x = some { cls := .ref C, data := .fields fv }) (hov : W.excOver K C bmB = true) (ht : W.takerIn K C name = some none) (hh : W.hasDictIn K C = true)
    (hq : ∀ h' tk' dx, (∀ b o, b ≠ x → hp.get? b = some o → h'.get? b = some o) → hp.objs.size ≤ dx → dx ≠ x → h'.get? x = some { cls := .ref C, dict := some dx, data := .fields fv } → h'.Ns1 dx (fun y => if y = name then some v else none) → R (.ok (.ret .none)) ⟨h', g, d, tk', os⟩) :
    codeAny (model prog w) A (.call (.builtin "object.__setattr__") ⟨[.ref x, .str name tk, v], []⟩) R ⟨hp, g, d, t, os⟩ := by
  obtain ⟨cd, hc, hd⟩ := W.any_some hh
  have hxs : x ≠ hp.objs.size := Nat.ne_of_lt (Heap.lt_size hx)
  have Lc : W.Looks (model prog w) hp (classData C) cd := W.looks_clsIn X hc
  refine W.osa_openX (od := none) SF X ⟨hx, rfl, rfl, trivial⟩ hov ht fun b => ?_
  show wpAny _ _ (storeInOwnDict (.ref x) (.ref C) (.str name tk) name v b) _ _ _
  obtain ⟨nm, bs, mro, ns, qn, hd', sn, sb, ab, col, del⟩ := cd
  dsimp only at hd
  subst hd
  unfold storeInOwnDict ownDictForStores
  repeat (first
    | with_reducible refine store_in_new ?_ ?_
    | with_reducible refine wpAny_loadPart_at hx ?_
    | with_reducible refine Lc.at ?_
    | wp_step)
  · exact ⟨_, #[], _, (Heap.get?_update_ne _ _ _ _ hxs.symm).trans (Heap.get?_push_at rfl rfl), rfl, fun e he => absurd he (by simp), fun _ => rfl⟩
  · intro h' tk' hn' hs
    refine hq h' tk' hp.objs.size (fun b o hb ho => ?_) (Nat.le_refl _) hxs.symm ?_ hn'
    · exact (hs.2 b (Nat.ne_of_lt (Heap.lt_size ho))).trans ((Heap.get?_update_ne _ _ _ _ hb).trans (Heap.get?_push_of_some _ ho))
    · exact (hs.2 x hxs).trans (Heap.get?_update_self _ (Heap.get?_push_of_some _ hx) rfl)
/-- a further field -/
theorem fx_saOld {name : Str} {tk : Tok} {v : Value} {x C dx : Addr} {fv : Array Value} {m0 : Str → Option Value} {nl : List Str} (SF : StoreFacts B bmB "object.__setattr__" "object") (X : K.In hp) (hx : hp.get? x = some { cls := .ref C, dict := some dx, data := .fields fv }) (hns : hp.Ns1 dx m0) (hw : Within m0 nl)
    (hz : nl.length ≤ 1000) (hov : W.excOver K C bmB = true) (ht : W.takerIn K C name = some none) (hh : W.hasDictIn K C = true)
    (hq : ∀ h' tk', (∀ b o, b ≠ dx → hp.get? b = some o → h'.get? b = some o) → h'.Ns1 dx (fun y => if y = name then some v else m0 y) → R (.ok (.ret .none)) ⟨h', g, d, tk', os⟩) :
    codeAny (model prog w) A (.call (.builtin "object.__setattr__") ⟨[.ref x, .str name tk, v], []⟩) R ⟨hp, g, d, t, os⟩ := by
  obtain ⟨oD, esD, epD, hoD, hdD, _⟩ := hns.count hw
  obtain ⟨cd, hc, hd⟩ := W.any_some hh
  have Lc : W.Looks (model prog w) hp (classData C) cd := W.looks_clsIn X hc
  refine W.osa_openX (od := some oD) SF X ⟨hx, rfl, rfl, hoD⟩ hov ht fun b => ?_
  show wpAny _ _ (storeInOwnDict (.ref x) (.ref C) (.str name tk) name v b) _ _ _
  obtain ⟨nm, bs, mro, ns, qn, hd', sn, sb, ab, col, del⟩ := cd
  dsimp only at hd
  subst hd
  unfold storeInOwnDict ownDictForStores
  repeat (first
    | with_reducible refine OEX.store_in_old hns hw hz ?_
    | with_reducible refine wpAny_loadPart_at hx ?_
    | with_reducible refine Lc.at ?_
    | wp_step)
  intro h' tk' hn' hs
  exact hq h' tk' (fun b o hb ho => (hs.2 b hb).trans ho) hn'
end
end FwX
end PySem
namespace L2
open PySem PySem.Spec PyProof.Rows
/-- what the written part says of an own exception class -/
structure OxC (K : PySem.W.Frag) (C : Addr) (B newId initId : String) (bmB : List Value) : Prop where
  fb : ExcBaseFacts B newId initId bmB
  sf : StoreFacts B bmB "object.__setattr__" "object"
  q : PySem.W.excInitIn K C bmB newId = true
  ov : PySem.W.excOver K C bmB = true
  sa : PySem.W.findIn K (.ref C) "__setattr__" = some (some (.builtin "object.__setattr__"))
  tyC : PySem.W.typeIn K (.ref C) = some (.type "type")
  kC : PySem.W.keepIn K (.ref C) = true
  xc : ExcC K C
/-- the check of it -/
def oxB (K : PySem.W.Frag) (C : Addr) (newId : String) (bmB : List Value) : Bool :=
  PySem.W.excInitIn K C bmB newId && PySem.W.excOver K C bmB && (PySem.W.findIn K (.ref C) "__setattr__" == some (some (.builtin "object.__setattr__"))) && (PySem.W.typeIn K (.ref C) == some (.type "type")) && PySem.W.keepIn K (.ref C) &&
  ((PySem.W.findIn K (.ref C) "__getattribute__" == some (some (.builtin "BaseException.__getattribute__"))) && (PySem.W.findIn K (.ref C) "__getattr__" == some none) && (PySem.W.subIn K (.ref C) (.type "BaseException") == some true) && PySem.W.hasDictIn K C &&
    (PySem.W.findIn K (.ref C) "__class__" == some (some (.builtin "object.__class__"))) && (PySem.W.specialIn K (.builtin "object.__class__") "__get__" == some (some (.builtin "getset_descriptor.__get__"))) && (PySem.W.takesIn K (.builtin "object.__class__") == some true) && (PySem.W.mroIn K C (.type "object") == some true))
theorem oxB_ok {K : PySem.W.Frag} {C : Addr} {B newId initId : String} {bmB : List Value} (fb : ExcBaseFacts B newId initId bmB) (sf : StoreFacts B bmB "object.__setattr__" "object") (h : oxB K C newId bmB = true) : OxC K C B newId initId bmB := by
  unfold oxB at h
  simp only [Bool.and_eq_true, beq_iff_eq] at h
  obtain ⟨⟨⟨⟨⟨h1, h2⟩, h3⟩, h4⟩, h5⟩, ⟨⟨⟨⟨⟨⟨h6, h7⟩, h8⟩, h9⟩, h10⟩, h11⟩, h12⟩, h13⟩ := h
  exact ⟨fb, sf, h1, h2, h3, h4, h5, ⟨h6, h7, h8, h9, h10, h11, h12, h13⟩⟩
/-- a name that the class does not have -/
theorem taker_none {K : PySem.W.Frag} {C : Addr} {f : Str} (h : PySem.W.findIn K (.ref C) f = some none) : PySem.W.takerIn K C f = some none := by
  unfold PySem.W.takerIn
  rw [h] <;> rfl
section
variable {X : Cx} {pins : List (Addr × Obj)} {σ : L2.St} {H : Hp} {s : Shared} {a C dx : Addr} {f : Str} {y : V} {u : Value} {fs : List (Str × V)} {Q : Unit → Shared → Prop} {E : Value → Shared → Prop} {A : Around} {B newId initId : String} {bmB : List Value}
theorem oxs_new (T : OxC X.K C B newId initId bmB) (I : Inv X pins σ H s) (e : H a = some (exo a C none)) (hno : PySem.W.findIn X.K (.ref C) f = some none) (ry : RelV y u)
    (h : ∀ dx s', H dx = none → dx ≠ a → Inv X pins σ (upd (upd H dx (exd dx [(f, y)])) a (exo a C (some dx))) s' → Q () s') : wpAny (model X.prog X.w) A (setAttr (.ref a) f u) Q E s := by
  obtain ⟨t1, ho⟩ := exo_at I.hok e
  obtain ⟨hp, g, d, t, os⟩ := s
  refine PySem.W.set_plain I.kIn (ox := { cls := .ref C, dict := none, data := .fields #[.ref t1, .none, .none, .none, .bool false, .none] }) (od := none) ⟨ho, rfl, rfl, trivial⟩ T.sa ?_
  refine PySem.FwX.fx_saNew T.sf I.kIn ho T.ov (taker_none hno) T.xc.hd (fun h' tk' dx k dn dne hx hn => ?_)
  have hnd : H dx = none := I.hok.fresh dn
  have nd : ∀ {b : Addr} {o : Obj}, hp.get? b = some o → b ≠ dx := fun {b o} q => Nat.ne_of_lt (Nat.lt_of_lt_of_le (Heap.lt_size q) dn)
  have na : ∀ {b : Addr}, H b = none → b ≠ a := fun {b} n z => by
    rw [z, e] at n
    cases n
  have U : Un X.fs [] H (upd (upd H dx (exd dx [(f, y)])) a (exo a C (some dx))) hp h' := {
    keep := fun b o q n _ _ => k b o (na n) q
    slot := fun b o q n _ _ => ⟨o.slots, k b o (na n) q⟩
    free := fun b o q n _ => by rw [upd_ne (na n), upd_ne (nd q)]; exact n
    there := fun b o q _ => by
      by_cases hb : b = a
      · exact ⟨_, by rw [hb]; exact hx⟩
      · exact ⟨o, k b o hb q⟩
    tups := fun b xs q => by rw [upd_ne (at_ne e q exo_tup), upd_ne (ne_of_none q hnd)]; exact q
    frzs := fun b o v q => by rw [upd_ne (at_ne e q exo_frz), upd_ne (ne_of_none q hnd)]; exact q
    tbls := fun b ps q => ⟨#[], by rw [upd_ne (at_ne e q exo_tbl), upd_ne (ne_of_none q hnd), q]; simp⟩ }
  refine h dx _ hnd dne (I.un (t' := tk') U fun b o q => ?_)
  by_cases hb : b = a
  · subst hb
    rw [upd_same] at q
    cases q
    exact exo_ok hx
  · rw [upd_ne hb] at q
    by_cases hd : b = dx
    · subst hd
      rw [upd_same] at q
      cases q
      exact exd_ok hn (relO_put (fs := []) ry fun g => True.intro)
    · rw [upd_ne hd] at q
      refine (I.hok b o q).stay (fun c v hc z => k c v ?_ z) (fun c hc => ?_) (fun c xs hc => ?_)
      · rcases hc with hc | hc
        · rw [hc]
          exact hb
        · exact at_ne e hc exo_own
      · rw [upd_ne (at_ne e hc exo_own), upd_ne (ne_of_none hc hnd)]
        exact hc
      · rw [upd_ne (at_ne e hc exo_tup), upd_ne (ne_of_none hc hnd)]
        exact hc
theorem oxs_old (T : OxC X.K C B newId initId bmB) (I : Inv X pins σ H s) (e : H a = some (exo a C (some dx))) (ed : H dx = some (exd dx fs)) (hl : fs.length ≤ 900) (hno : PySem.W.findIn X.K (.ref C) f = some none) (ry : RelV y u)
    (h : ∀ s', Inv X pins σ (upd H dx (exd dx ((f, y) :: fs))) s' → Q () s') : wpAny (model X.prog X.w) A (setAttr (.ref a) f u) Q E s := by
  obtain ⟨t1, ho⟩ := exo_at I.hok e
  obtain ⟨mA, hns, rel⟩ := exd_at I.hok ed
  have hw := within_of rel
  obtain ⟨hp, g, d, t, os⟩ := s
  obtain ⟨oD, _, _, hoD, _, _⟩ := hns.count hw
  refine PySem.W.set_plain I.kIn (ox := { cls := .ref C, dict := some dx, data := .fields #[.ref t1, .none, .none, .none, .bool false, .none] }) (od := some oD) ⟨ho, rfl, rfl, hoD⟩ T.sa ?_
  refine PySem.FwX.fx_saOld T.sf I.kIn ho hns hw (by rw [List.length_map]; omega) T.ov (taker_none hno) T.xc.hd (fun h' tk' k hn => ?_)
  have hd : ∃ o, h'.get? dx = some o := by
    obtain ⟨o, _, _, e', _⟩ := hn
    exact ⟨o, e'⟩
  exact h _ (I.write (t' := tk') (x := dx) (e := dx) (o := exd dx ((f, y) :: fs)) (by rw [ed]; exact True.intro) (.inl rfl) k hd (exd_ok hn (relO_put ry rel)))
end
/-- self.f = e, self such an exception -/
def tOxs (K : PySem.W.Frag) (f : Str) (to te : TE) : TS := fun D σ H => te σ H fun y H1 => to σ H1 fun x H2 => ∃ (a C : Addr) (B newId initId : String) (bmB : List Value), x = .ref a ∧ OxC K C B newId initId bmB ∧ PySem.W.findIn K (.ref C) f = some none ∧
  ((H2 a = some (exo a C none) ∧ ∀ dx H', H2 dx = none → dx ≠ a → H' dx = some (exd dx [(f, y)]) → H' a = some (exo a C (some dx)) → (∀ b o, b ≠ a → H2 b = some o → H' b = some o) → D.nx σ H') ∨
    ∃ (dx : Addr) (fs : List (Str × V)), H2 a = some (exo a C (some dx)) ∧ H2 dx = some (exd dx fs) ∧ fs.length ≤ 900 ∧ ∀ H', H' dx = some (exd dx ((f, y) :: fs)) → H' a = some (exo a C (some dx)) → (∀ b o, b ≠ dx → H2 b = some o → H' b = some o) → D.nx σ H')
theorem exo_exd {e d C : Addr} {dd : Option Addr} {fs : List (Str × V)} {h : Heap} {P : Program} {w : World} {H : Hp} (ok : HOk P w H h) (h1 : H e = some (exo e C dd)) (h2 : H d = some (exd d fs)) : d ≠ e := fun z => by
  obtain ⟨t, e1⟩ := exo_at ok h1
  obtain ⟨mA, ⟨o, es, ep, e2, e3, _⟩, _⟩ := exd_at ok h2
  rw [z, e1] at e2
  have := Option.some.inj e2
  subst this
  cases e3
section
variable {X : Cx} {o e : Expr} {es : List Expr} {to te : TE} {ta : TA} {f : Str} {p p' p1 p2 pos : Pos}
theorem ps_oxs (ho : PE X o to) (he : PE X e te) (hs : swapsWith e (some (.Attribute o f p')) pos.line X.env = pure false := by rfl) : PS X (.Assign [.Attribute o f p'] e pos) (tOxs X.K f to te) := by
  refine ⟨fun pins s σ H D I h => ?_⟩
  refine plainObj_wpAny_Assign_Attribute (thn (he.run pins s σ H _ I h) fun v s1 ⟨y, H1, I1, r1, q1⟩ => thn (ho.run pins s1 σ H1 _ I1 q1) fun u s2 ⟨x, H2, I2, r2, a, C, B, newId, initId, bmB, ex, T, hno, q⟩ => ?_) hs
  subst ex
  obtain rfl : u = Value.ref a := r2
  rcases q with ⟨ea, q⟩ | ⟨dx, fs, ea, ed, hl, q⟩
  · refine oxs_new T I2 ea hno r1 fun dx s' n ne J => ⟨σ, _, J, q dx _ n ne ?_ upd_same ?_⟩
    · rw [upd_ne ne, upd_same]
    · intro b o hb hbo
      rw [upd_ne hb, upd_ne (ne_of_none hbo n)]
      exact hbo
  · refine oxs_old T I2 ea ed hl hno r1 fun s' J => ⟨σ, _, J, q _ upd_same ?_ fun b o hb hbo => ?_⟩
    · rw [upd_ne (Ne.symm (exo_exd I2.hok ea ed))]
      exact ea
    · rw [upd_ne hb]
      exact hbo
end
/-! ### such an exception is made -/
/-- the promise of an __init__ at its exception a: what stands behind it -/
@[irreducible] def OxMade (C : Addr) (sp : Sp) (vs : List V) (H : Hp) (Q : VK) : Prop := vs.length ≤ 1000 ∧ ∀ a H1, H a = none → H1 a = some (exo a C none) → Same H H1 → sp (.ref a :: vs) H1
  (fun v H2 => v = .non ∧ Q (.ref a) H2) (fun _ _ _ => False)
section
variable {X : Cx} {pins : List (Addr × Obj)} {σ : L2.St} {H : Hp} {s : Shared} {C fI : Addr} {B newId initId : String} {bmB : List Value} {k : Nat} {fd : FuncData} {ps : List Str} {sp : Sp}
theorem run_ox (T : OxC X.K C B newId initId bmB) (iC : PySem.W.findIn X.K (.ref C) "__init__" = some (some (.ref fI))) (tI : PySem.W.typeIn X.K (.ref fI) = some (.type "function"))
    (F1 : FnOk X.prog X.w X.K X.mg X.base (L2.CX X.prog X.w) k fI fd ps sp) (hr : Room (k + 1) X.A) (I : Inv X pins σ H s) {us ws : List Value} {kw : List (Str × Value)} {vs : List V} {Q : VK} (hx : Passes (L2.CX X.prog X.w) X (fun _ _ _ => False))
    (hz : us.length ≤ 1000) (hb : ∀ (s : Shared) (x : Value), BindsTo s fd ⟨x :: us, kw⟩ (ps.zip (x :: ws))) (r : Vals vs ws) (h : OxMade C sp vs H Q) : wpAny (model X.prog X.w) X.A (call (.ref C) us kw) (EP X pins σ Q) X.xe s := by
  unfold OxMade at h
  obtain ⟨nm, N, qn, bs, bm, hdct, sn, sub, ab, col, dd, k0, k1, k2, k3, k5, hC, hT⟩ := PySem.W.excInit_of I.kIn T.q
  obtain ⟨hp, g, dr, tk, os⟩ := s
  have hsz : hp.objs.size ≤ hp.objs.size + 1 := Nat.le_succ _
  have hn : H (hp.objs.size + 1) = none := I.hok.fresh hsz
  have hq := h.2 (hp.objs.size + 1) _ hn upd_same (Same.new hn)
  have kk : ∀ b o, hp.get? b = some o → ((hp.push (PySem.W.kdv_tup us)).push (PySem.HandSPX.excO C hp.objs.size)).get? b = some o := fun b o e => Heap.get?_push_of_some _ (Heap.get?_push_of_some _ e)
  have hget : ((hp.push (PySem.W.kdv_tup us)).push (PySem.HandSPX.excO C hp.objs.size)).get? (hp.objs.size + 1) = some (PySem.HandSPX.excO C hp.objs.size) := by heap_get
  have I2 : Inv X pins σ (upd H (hp.objs.size + 1) (exo (hp.objs.size + 1) C none)) ⟨(hp.push (PySem.W.kdv_tup us)).push (PySem.HandSPX.excO C hp.objs.size), g, dr, tk, os⟩ :=
    I.laid (t' := tk) (a := hp.objs.size + 1) (o := exo (hp.objs.size + 1) C none) (h' := (hp.push (PySem.W.kdv_tup us)).push (PySem.HandSPX.excO C hp.objs.size)) kk hsz (exo_ok hget)
  have r2 : Vals (V.ref (hp.objs.size + 1) :: vs) (Value.ref (hp.objs.size + 1) :: ws) := .cons rfl r
  have hus : us.length ≤ sizeLine := by rw [sizeLine_eq]; omega
  refine wpAny_call (PySem.FwX.fx_call T.fb hT hC (PySem.W.looks_findIn I.kIn iC) (fun self => PySem.W.bind_fn I.kIn self tI) hus
    (codeAny_mono (F1.run _ X.stack _ _ ⟨Value.ref (hp.objs.size + 1) :: us, kw⟩ (Value.ref (hp.objs.size + 1) :: ws) _ _ (fun _ _ _ => False) (hr.make C us kw) (I2.env0.make C us kw) (hb _ _) r2 hq) fun r s' hq' => ?_))
  cases r with
  | error er => exact hx pins σ _ _ er s' I2 hq'
  | ok fl =>
    cases fl with
    | ret u =>
      obtain ⟨v, H2, J, rv, ev, q2⟩ := I2.after hq'
      subst ev
      exact ⟨rv, .ref _, H2, J, rfl, q2⟩
    | next => exact False.elim hq'
    | brk => exact False.elim hq'
    | cont => exact False.elim hq'
end
/-- the class that the module's name x stands for, its __init__ keeping sp; every written way to bind is in hb -/
structure OxX (P : Program) (w : World) (K : PySem.W.Frag) (mg : Str → Option Value) (base : Heap) (k : Nat) (x : Str) (C : Addr) (ps : List Str) (sp : Sp) : Prop where
  ex : ∃ (B newId initId : String) (bmB : List Value) (fI : Addr) (fd : FuncData), OxC K C B newId initId bmB ∧ mg x = some (.ref C) ∧ PySem.W.findIn K (.ref C) "__init__" = some (some (.ref fI)) ∧ PySem.W.typeIn K (.ref fI) = some (.type "function") ∧ FnOk P w K mg base (L2.CX P w) k fI fd ps sp ∧
    (∀ (s : Shared) (us : List Value), us.length = ps.length → BindsTo s fd ⟨us, []⟩ (ps.zip us)) ∧
    (∀ (s : Shared) (x u : Value) (n m : Str), ps = [n, m] → BindsTo s fd ⟨[x], [(m, u)]⟩ (ps.zip [x, u])) ∧
    (∀ (s : Shared) (x u v : Value) (n m l : Str), ps = [n, m, l] → BindsTo s fd ⟨[x], [(l, v), (m, u)]⟩ (ps.zip [x, u, v]))
def tOx (C : Addr) (sp : Sp) (n : Nat) (ta : TA) : TE := fun σ H Q => ta σ H fun vs H1 => vs.length = n ∧ OxMade C sp vs H1 Q
section
variable {X : Cx} {k : Nat} {sp : Sp} {C : Addr} {ps : List Str} {x n m l : Str} {p pos kp kp2 : Pos} {e e2 : Expr} {es : List Expr} {te te2 : TE} {ta : TA}
theorem pe_ox (F : OxX X.prog X.w X.K X.mg X.base k x C ps sp) (hr : Room (k + 1) X.A) (hx : Passes (L2.CX X.prog X.w) X (fun _ _ _ => False)) (ha : PA X (e :: es) ta) (hg : Gl X x := by rfl) (hn : ps.length = (e :: es).length + 1 := by rfl)
    (hdb : (x == ("__debug__" : Str)) = false := by decide) (he : starEach (e :: es) X.env = (false, eval e X.env) :: starEach es X.env := by rfl) (hpl : (backTo pos (starEach es X.env)).any (·.1) = false := by rfl) :
    PE X (.Call (.Name x p) (e :: es) [] pos) (tOx C sp (e :: es).length ta) := by
  obtain ⟨B, newId, initId, bmB, fI, fd, T, gC, iC, tI, F1, b1, b2, b3⟩ := F.ex
  refine ⟨fun pins s σ H Q I h => wpAny_Call_Name_kw (ld_glob I hg gC ?_ hdb)⟩
  refine PySem.W.callWith_K (h₀ := X.base) I.ok.mod.kin T.kC (thn (ha.run pos pins s σ H _ I h) fun us s1 ⟨vs, H1, I1, r1, hz, q1⟩ => ⟨I1.kIn, ?_⟩) he hpl
  show wpAny _ _ (call (.ref C) us) _ _ _
  refine run_ox T iC tI F1 hr I1 hx (by unfold OxMade at q1; rw [← Paired.length r1]; exact q1.1) (fun s' y => b1 s' (y :: us) ?_) r1 q1
  rw [List.length_cons, ← Paired.length r1, hz, hn]
theorem pe_ox0 (F : OxX X.prog X.w X.K X.mg X.base k x C ps sp) (hr : Room (k + 1) X.A) (hx : Passes (L2.CX X.prog X.w) X (fun _ _ _ => False)) (hg : Gl X x := by rfl) (hn : ps.length = 1 := by rfl) (hdb : (x == ("__debug__" : Str)) = false := by decide) :
    PE X (.Call (.Name x p) [] [] pos) (tOx C sp 0 tNil) := by
  obtain ⟨B, newId, initId, bmB, fI, fd, T, gC, iC, tI, F1, b1, b2, b3⟩ := F.ex
  refine ⟨fun pins s σ H Q I h => wpAny_Call_Name_kw (ld_glob I hg gC ?_ hdb)⟩
  exact PySem.W.callWith_K0 I.kIn T.kC (run_ox T iC tI F1 hr I hx (Nat.zero_le _) (fun s' y => b1 s' [y] hn.symm) .nil h.2)
/-- X(m = e) -/
theorem pe_oxK (F : OxX X.prog X.w X.K X.mg X.base k x C [n, m] sp) (hr : Room (k + 1) X.A) (hx : Passes (L2.CX X.prog X.w) X (fun _ _ _ => False)) (he : PE X e te) (hg : Gl X x := by rfl) (hdb : (x == ("__debug__" : Str)) = false := by decide) :
    PE X (.Call (.Name x p) [] [⟨some m, e, kp⟩] pos) (fun σ H Q => te σ H fun v H1 => OxMade C sp [v] H1 Q) := by
  obtain ⟨B, newId, initId, bmB, fI, fd, T, gC, iC, tI, F1, b1, b2, b3⟩ := F.ex
  refine ⟨fun pins s σ H Q I h => wpAny_Call_Name_kw (ld_glob I hg gC ?_ hdb)⟩
  refine PySem.W.callWith_KW0 (h₀ := X.base) I.ok.mod.kin T.kC rfl (thn ((pk_cons he pk_nil).run pos pins s σ H (fun vs H1 => match vs with | [v] => OxMade C sp [v] H1 Q | _ => False) I h) fun us s1 ⟨vs, H1, I1, r1, q1⟩ => ⟨I1.kIn, ?_⟩) rfl
  match vs, q1 with
  | [v], q1 =>
    obtain ⟨u, rfl, ru⟩ := vals1 r1
    exact run_ox (us := []) (ws := [u]) (kw := [(m, u)]) T iC tI F1 hr I1 hx (Nat.zero_le _) (fun s' y => b2 s' y u n m rfl) (.cons ru .nil) q1
/-- X(l = e, m = e2) -/
theorem pe_oxK2 (F : OxX X.prog X.w X.K X.mg X.base k x C [n, m, l] sp) (hr : Room (k + 1) X.A) (hx : Passes (L2.CX X.prog X.w) X (fun _ _ _ => False)) (he : PE X e te) (he2 : PE X e2 te2) (hg : Gl X x := by rfl) (hdb : (x == ("__debug__" : Str)) = false := by decide) :
    PE X (.Call (.Name x p) [] [⟨some l, e, kp⟩, ⟨some m, e2, kp2⟩] pos) (fun σ H Q => te σ H fun v H1 => te2 σ H1 fun v2 H2 => OxMade C sp [v2, v] H2 Q) := by
  obtain ⟨B, newId, initId, bmB, fI, fd, T, gC, iC, tI, F1, b1, b2, b3⟩ := F.ex
  refine ⟨fun pins s σ H Q I h => wpAny_Call_Name_kw (ld_glob I hg gC ?_ hdb)⟩
  refine PySem.W.callWith_KW0 (h₀ := X.base) I.ok.mod.kin T.kC rfl (thn ((pk_cons he (pk_cons he2 pk_nil)).run pos pins s σ H (fun vs H1 => match vs with | [v, v2] => OxMade C sp [v2, v] H1 Q | _ => False) I h) fun us s1 ⟨vs, H1, I1, r1, q1⟩ => ⟨I1.kIn, ?_⟩) rfl
  match vs, q1 with
  | [v, v2], q1 =>
    obtain ⟨u, u2, rfl, ru, ru2⟩ := vals2 r1
    exact run_ox (us := []) (ws := [u2, u]) (kw := [(l, u), (m, u2)]) T iC tI F1 hr I1 hx (Nat.zero_le _) (fun s' y => b3 s' y u2 u n m l rfl) (.cons ru2 (.cons ru .nil)) q1
end
end L2
end -- FwX2
section -- FwX3
set_option Elab.async false
set_option linter.all false
set_option maxRecDepth 100000
set_option maxHeartbeats 4000000
/-! FwX3: an exception's fields are read; isinstance of all that is tracked. -/
namespace L2
open PySem PySem.Spec PyProof.Rows
/-- at e: an exception of the class at C that was caught -/
def exq (e C : Addr) (d : Option Addr) : HO := .ext fun h => ∃ (o : Obj) (vs : Array Value), h.get? e = some o ∧ o.cls = .ref C ∧ o.dict = d ∧ o.data = .fields vs
/-- an exception with its dict -/
def ExAt (H : Hp) (a C d : Addr) : Prop := H a = some (exo a C (some d)) ∨ H a = some (exq a C (some d))
/-- the dict of an exception -/
def ExD (H : Hp) (d : Addr) (fs : List (Str × V)) : Prop := H d = some (exd d fs) ∨ H d = some (.xd fs)
theorem ExAt.same {H H' : Hp} {a C d : Addr} (h : ExAt H a C d) (e : Same H H') : ExAt H' a C d := by
  rcases h with h | h
  · exact .inl (e _ _ h)
  · exact .inr (e _ _ h)
theorem ExD.same {H H' : Hp} {d : Addr} {fs : List (Str × V)} (h : ExD H d fs) (e : Same H H') : ExD H' d fs := by
  rcases h with h | h
  · exact .inl (e _ _ h)
  · exact .inr (e _ _ h)
section
variable {X : Cx} {pins : List (Addr × Obj)} {σ : L2.St} {H : Hp} {s : Shared}
theorem ex_at {P : Program} {w : World} {h : Heap} {a C d : Addr} (ok : HOk P w H h) (e : ExAt H a C d) : ∃ (o : Obj) (vs : Array Value), h.get? a = some o ∧ o.cls = .ref C ∧ o.dict = some d ∧ o.data = .fields vs := by
  rcases e with e | e
  · obtain ⟨t, z⟩ := exo_at ok e
    exact ⟨_, _, z, rfl, rfl, rfl⟩
  · exact (ok a _ e).1
theorem ex_dict {P : Program} {w : World} {h : Heap} {d : Addr} {fs : List (Str × V)} (ok : HOk P w H h) (e : ExD H d fs) : ∃ mA, h.Ns1 d mA ∧ ∀ f, RelO (fs.lookup f) (mA f) := by
  rcases e with e | e
  · exact exd_at ok e
  · exact ok d _ e
theorem ex_inst {P : Program} {w : World} {h : Heap} {a C d : Addr} {fs : List (Str × V)} (ok : HOk P w H h) (e : ExAt H a C d) (ed : ExD H d fs) :
    ∃ (ox od : Obj) (mA : Str → Option Value), PySem.W.InstAt h a ox C (some od) ∧ (∀ name, PySem.W.lookIn name od = some (mA name)) ∧ ∀ f, RelO (fs.lookup f) (mA f) := by
  obtain ⟨ox, vs, h1, h2, h3, h4⟩ := ex_at ok e
  obtain ⟨mA, hns, rel⟩ := ex_dict ok ed
  obtain ⟨od, g1, g2⟩ := lookIn_ns hns
  exact ⟨ox, od, mA, ⟨h1, h2, by unfold PySem.W.notCls; rw [h4] <;> rfl, by rw [h3]; exact g1⟩, g2, rel⟩
end
/-- e.f, e an exception -/
def tXat (K : PySem.W.Frag) (f : Str) (te : TE) : TE := fun σ H Q => te σ H fun x H1 => ∃ (a C d : Addr) (fs : List (Str × V)) (v : V), x = .ref a ∧ ExAt H1 a C d ∧ ExD H1 d fs ∧ ExcC K C ∧ PySem.W.findIn K (.ref C) f = some none ∧ fs.lookup f = some v ∧ Q v H1
theorem pe_xat {X : Cx} {e : Expr} {te : TE} {pos : Pos} {n : Str} (he : PE X e te) (hb : attributeBase e n X.env (eval e X.env) = eval e X.env := by rfl) : PE X (.Attribute e n pos) (tXat X.K n te) := by
  refine ⟨fun pins s σ H Q I h => attr_of hb (thn (he.run pins s σ H _ I h) fun u s1 hh => ?_)⟩
  obtain ⟨x, H1, I1, rx, a, C, d, fs, v, rfl, ea, ed, T, hno, hl, q⟩ := hh
  obtain rfl : u = Value.ref a := rx
  obtain ⟨ox, od, mA, J, g2, rel⟩ := ex_inst I1.hok ea ed
  obtain ⟨u, hu, ru⟩ := RelO.some_of (v := v) (o := mA n) (by rw [← hl]; exact rel n)
  exact HandSPX.exc_get I1.kIn J T.hg T.hk T.hs (PySem.W.findObj_own T.hd hno rfl (by rw [g2, hu])) (handed_of ru) ⟨v, H1, I1.tok _, ru, q⟩
/-! ### what a value is, for isinstance -/
inductive TyG (K : PySem.W.Frag) (w : World) (H : Hp) : V → Value → Prop where
  | x {x : V} {t : Value} (h : TyX K H x t) : TyG K w H x t
  | dn {a : Addr} {kvs : List NKV} (h : H a = some (dN w a kvs)) : TyG K w H (.ref a) (.type "dict")
  | ex {a C d : Addr} {fs : List (Str × V)} (h : ExAt H a C d) (hd : ExD H d fs) (c : ExcC K C) : TyG K w H (.ref a) (.ref C)
@[irreducible] def rIsG (K : PySem.W.Frag) (w : World) : List V → Hp → VK → Prop := fun xs H Q => ∃ (x c : V) (t u : Value) (b : Bool), xs = [x, c] ∧ ClsV c u ∧ TyG K w H x t ∧ PySem.W.kitOne K t u = some b ∧ Q (.bl b) H
theorem call_isG {X : Cx} : CallR X (.builtin "isinstance") (rIsG X.K X.w) := by
  intro pins s σ H xs us Q I r h
  unfold rIsG at h
  obtain ⟨x, c, t, u, b, rfl, k, ty, e, q⟩ := h
  cases ty with
  | x h => exact call_isi pins s σ H _ us Q I r ⟨x, c, t, u, b, rfl, k, h, e, q⟩
  | @dn a kvs ha =>
    obtain ⟨u1, u2, rfl, r1, r2⟩ := vals2 r
    have e2 := k.eq r2
    subst e2
    obtain rfl : u1 = .ref a := r1
    obtain ⟨hs, o, es, ep, e1, e2, e3, kv⟩ := dn_at I ha
    exact PySem.W.kia_one PySem.W.kitx_dict I.kIn ⟨o, e1, e2.1⟩ e (fun z => nomatch z) fun tk => ⟨.bl b, H, I.tok tk, rfl, q⟩
  | @ex a C d fs ha hd c =>
    obtain ⟨u1, u2, rfl, r1, r2⟩ := vals2 r
    have e2 := k.eq r2
    subst e2
    obtain rfl : u1 = .ref a := r1
    obtain ⟨ox, od, mA, J, g2, rel⟩ := ex_inst I.hok ha hd
    obtain ⟨cd, hcd, _⟩ := PySem.W.any_some c.hd
    exact PySem.W.kia_one (PySem.W.kitx_exc (by rw [hcd]; rfl) c.hg c.hk c.hs c.ha c.hn c.ht c.hm) I.kIn J e (fun z => nomatch z) fun tk => ⟨.bl b, H, I.tok tk, rfl, q⟩
theorem st_isG {K : PySem.W.Frag} {w : World} {x c : V} {t u : Value} {b : Bool} {H : Hp} {Q : VK} (ty : TyG K w H x t) (k : ClsV c u) (e : PySem.W.kitOne K t u = some b) (q : Q (.bl b) H) : rIsG K w [x, c] H Q := by
  unfold rIsG
  exact ⟨x, c, t, u, b, rfl, k, ty, e, q⟩
end L2
end -- FwX3
section -- FwMore
set_option Elab.async false
set_option linter.all false
set_option maxRecDepth 100000
set_option maxHeartbeats 4000000
/-! FwMore: comprehensions over zip, len of all that is tracked. -/
namespace L2
open PySem PySem.Spec PyProof.Rows RZ
/-- what one turn of a list comprehension over zip must do -/
def ZStep (g : TG) (tt : TT) (te : TE) (vs : List Nat) (σ : St) (D : Addr) (xs ys : List V) (Pv : Nat → Hp → Prop) : Prop :=
  ∀ (i : Nat) (x y : V) (T : Addr) (H H' : Hp), xs[i]? = some x → ys[i]? = some y → Pv i H → H T = none → H' T = some (.tup [x, y]) → Same H H' → g (.ref T) (wipe σ vs) H' fun σ2 H2 => wipe σ2 vs = wipe σ vs ∧ tt σ2 H2 fun b H3 =>
    if b = true then te σ2 H3 fun z H4 => ∃ acc, H4 D = some (.lst acc) ∧ acc.length < sizeLine ∧ Pv (i + 1) (upd H4 D (.lst (acc ++ [z]))) else Pv (i + 1) H3
theorem lc_zipL {K : PySem.W.Frag} {a b : Addr} {xs ys : List V} {g : TG} {tt : TT} {te : TE} {vs : List Nat} {σ : St} {H1 : Hp} {D : Addr} {Qd : Hp → Prop} (hl : xs.length = ys.length) (Pv : Nat → Hp → Prop) (h0 : Pv 0 (upd H1 D (.lst [])))
    (hq : ∀ i H, Pv i H → SqL K H a xs ∧ SqL K H b ys) (hs : ZStep g tt te vs σ D xs ys Pv) (hd : ∀ H, Pv xs.length H → Qd H) : ∃ W : Nat → Nat → Hp → Prop, (∃ m, W 0 m (upd H1 D (.lst []))) ∧ ∀ i m H, W i m H →
      ((Itz K a b).stop i H ∧ Qd H) ∨ ((Itz K a b).go i H ∧ ∃ Nx : Hp → Prop, (∀ H', Nx H' → ∃ m', m' < m ∧ W (i + 1) m' H') ∧ ∀ x H', (Itz K a b).yld i H x H' → g x (wipe σ vs) H' fun σ2 H2 => wipe σ2 vs = wipe σ vs ∧ tt σ2 H2 fun b H3 =>
        if b = true then te σ2 H3 fun y H4 => ∃ acc, H4 D = some (.lst acc) ∧ acc.length < sizeLine ∧ Nx (upd H4 D (.lst (acc ++ [y]))) else Nx H3) := by
  refine ⟨fun i m H => m = xs.length - i ∧ i ≤ xs.length ∧ Pv i H, ⟨xs.length, rfl, Nat.zero_le _, h0⟩, ?_⟩
  rintro i m H ⟨rfl, hi, p⟩
  obtain ⟨qx, qy⟩ := hq i H p
  by_cases hlt : i < xs.length
  · have hlt2 : i < ys.length := hl ▸ hlt
    refine .inr ⟨⟨xs, ys, xs[i], ys[i], qx, qy, List.getElem?_eq_getElem hlt, List.getElem?_eq_getElem hlt2⟩, Pv (i + 1), fun H' p' => ⟨xs.length - (i + 1), by omega, rfl, hlt, p'⟩, ?_⟩
    rintro v H' ⟨T, x', y', rfl, hT, rfl, f1, f2⟩
    exact hs i x' y' T H _ (f1 xs qx) (f2 ys qy) p hT upd_same (Same.new hT)
  · obtain rfl : i = xs.length := by omega
    exact .inl ⟨⟨xs, ys, qx, qy, Or.inl (Nat.le_refl _)⟩, hd H p⟩
theorem lc_zipT {K : PySem.W.Frag} {a b : Addr} {xs ys : List V} {g : TG} {tt : TT} {te : TE} {vs : List Nat} {σ : St} {H1 : Hp} {D : Addr} {Qd : Hp → Prop} (hl : xs.length = ys.length) (Pv : Nat → Hp → Prop) (h0 : Pv 0 (upd H1 D (.lst [])))
    (hq : ∀ i H, Pv i H → SqT K H a xs ∧ SqT K H b ys) (hs : ZStep g tt te vs σ D xs ys Pv) (hd : ∀ H, Pv xs.length H → Qd H) : ∃ W : Nat → Nat → Hp → Prop, (∃ m, W 0 m (upd H1 D (.lst []))) ∧ ∀ i m H, W i m H →
      ((ItzT K a b).stop i H ∧ Qd H) ∨ ((ItzT K a b).go i H ∧ ∃ Nx : Hp → Prop, (∀ H', Nx H' → ∃ m', m' < m ∧ W (i + 1) m' H') ∧ ∀ x H', (ItzT K a b).yld i H x H' → g x (wipe σ vs) H' fun σ2 H2 => wipe σ2 vs = wipe σ vs ∧ tt σ2 H2 fun b H3 =>
        if b = true then te σ2 H3 fun y H4 => ∃ acc, H4 D = some (.lst acc) ∧ acc.length < sizeLine ∧ Nx (upd H4 D (.lst (acc ++ [y]))) else Nx H3) := by
  refine ⟨fun i m H => m = xs.length - i ∧ i ≤ xs.length ∧ Pv i H, ⟨xs.length, rfl, Nat.zero_le _, h0⟩, ?_⟩
  rintro i m H ⟨rfl, hi, p⟩
  obtain ⟨qx, qy⟩ := hq i H p
  by_cases hlt : i < xs.length
  · have hlt2 : i < ys.length := hl ▸ hlt
    refine .inr ⟨⟨xs, ys, xs[i], ys[i], qx, qy, List.getElem?_eq_getElem hlt, List.getElem?_eq_getElem hlt2⟩, Pv (i + 1), fun H' p' => ⟨xs.length - (i + 1), by omega, rfl, hlt, p'⟩, ?_⟩
    rintro v H' ⟨T, x', y', rfl, hT, rfl, f1, f2⟩
    exact hs i x' y' T H _ (f1 xs qx) (f2 ys qy) p hT upd_same (Same.new hT)
  · obtain rfl : i = xs.length := by omega
    exact .inl ⟨⟨xs, ys, qx, qy, Or.inl (Nat.le_refl _)⟩, hd H p⟩
theorem call_listK {X : Cx} {K : PySem.W.Frag} (h : X.K = K) : CallR X (.type "list") (rListG K) := h ▸ call_listG
/-- len of a text, of a list, a tuple, a mixed dict -/
@[irreducible] def rLenGN (K : PySem.W.Frag) (w : World) : List V → Hp → VK → Prop := fun xs H Q => rLenG K xs H Q ∨ rLenN w xs H Q
theorem call_lenGN {X : Cx} : CallR X (.builtin "len") (rLenGN X.K X.w) := by
  intro pins s σ H xs us Q I r h
  unfold rLenGN at h
  rcases h with h | h
  · exact call_lenG pins s σ H xs us Q I r h
  · exact call_lenN pins s σ H xs us Q I r h
theorem st_lenGR {K : PySem.W.Frag} {w : World} {p : Addr} {n : Nat} {H : Hp} {Q : VK} (h : LenR K H p n) (q : Q (.int n) H) : rLenGN K w [.ref p] H Q := by unfold rLenGN; exact .inl (st_lenR h q)
theorem st_lenGN {K : PySem.W.Frag} {w : World} {p : Addr} {kvs : List NKV} {H : Hp} {Q : VK} (h : H p = some (dN w p kvs)) (l : kvs.length ≤ 1000) (q : Q (.int kvs.length) H) : rLenGN K w [.ref p] H Q := by unfold rLenGN; exact .inr ⟨kvs, h, l, q⟩
end L2
end -- FwMore
section -- FwX4
set_option Elab.async false
set_option linter.all false
set_option maxRecDepth 100000
set_option maxHeartbeats 4000000
/-! FwX4: such an exception is raised. -/
namespace L2
open PySem PySem.Spec PyProof.Rows
/-- what is raised: an exception of C with the dict d -/
def OxRaise (C : Addr) (sp : Sp) (vs : List V) (H : Hp) (Q : XK) : Prop := vs.length ≤ 1000 ∧ ∀ a, H a = none → sp (.ref a :: vs) (upd H a (exo a C none))
  (fun v H2 => v = .non ∧ ∃ (d : Addr) (fs : List (Str × V)), H2 a = some (exo a C (some d)) ∧ H2 d = some (exd d fs) ∧ H d = none ∧ Q (.ref C) (some d) (upd (del H2 a) d (.xd fs))) (fun _ _ _ => False)
section
variable {X : Cx} {k : Nat} {sp : Sp} {C : Addr} {ps : List Str} {x : Str} {p pos : Pos} {e : Expr} {es : List Expr} {ta : TA}
theorem pmk_ox (F : OxX X.prog X.w X.K X.mg X.base k x C ps sp) (hr : Room (k + 1) X.A) (hx : Passes (L2.CX X.prog X.w) X (fun _ _ _ => False)) (ha : PA X (e :: es) ta) (hg : Gl X x := by rfl) (hn : ps.length = (e :: es).length + 1 := by rfl)
    (hdb : (x == ("__debug__" : Str)) = false := by decide) (he : starEach (e :: es) X.env = (false, eval e X.env) :: starEach es X.env := by rfl) (hpl : (backTo pos (starEach es X.env)).any (·.1) = false := by rfl) :
    PMk X (.Call (.Name x p) (e :: es) [] pos) (fun σ H Q => ta σ H fun vs H1 => vs.length = (e :: es).length ∧ OxRaise C sp vs H1 Q) := by
  obtain ⟨B, newId, initId, bmB, fI, fd, T, gC, iC, tI, F1, b1, b2, b3⟩ := F.ex
  intro pins s σ H Q I h
  refine wpAny_Call_Name_kw (ld_glob I hg gC ?_ hdb)
  refine PySem.W.callWith_K (h₀ := X.base) I.ok.mod.kin T.kC (thn (ha.run pos pins s σ H _ I h) fun us s1 ⟨vs, H1, I1, r1, hz, q1⟩ => ⟨I1.kIn, ?_⟩) he hpl
  show wpAny _ _ (call (.ref C) us) _ _ _
  obtain ⟨nm, N, qn, bs, bm, hdct, sn, sub, ab, col, dd, k0, k1, k2, k3, k5, hC, hT⟩ := PySem.W.excInit_of I1.kIn T.q
  obtain ⟨hp, g, dr, tk, os⟩ := s1
  have hsz : hp.objs.size ≤ hp.objs.size + 1 := Nat.le_succ _
  have hn1 : H1 (hp.objs.size + 1) = none := I1.hok.fresh hsz
  have hq := q1.2 (hp.objs.size + 1) hn1
  have kk : ∀ b o, hp.get? b = some o → ((hp.push (PySem.W.kdv_tup us)).push (PySem.HandSPX.excO C hp.objs.size)).get? b = some o := fun b o e => Heap.get?_push_of_some _ (Heap.get?_push_of_some _ e)
  have hget : ((hp.push (PySem.W.kdv_tup us)).push (PySem.HandSPX.excO C hp.objs.size)).get? (hp.objs.size + 1) = some (PySem.HandSPX.excO C hp.objs.size) := by heap_get
  have I2 : Inv X pins σ (upd H1 (hp.objs.size + 1) (exo (hp.objs.size + 1) C none)) ⟨(hp.push (PySem.W.kdv_tup us)).push (PySem.HandSPX.excO C hp.objs.size), g, dr, tk, os⟩ :=
    I1.laid (t' := tk) (a := hp.objs.size + 1) (o := exo (hp.objs.size + 1) C none) (h' := (hp.push (PySem.W.kdv_tup us)).push (PySem.HandSPX.excO C hp.objs.size)) kk hsz (exo_ok hget)
  have r2 : Vals (V.ref (hp.objs.size + 1) :: vs) (Value.ref (hp.objs.size + 1) :: us) := .cons rfl r1
  have hl : (Value.ref (hp.objs.size + 1) :: us).length = ps.length := by rw [List.length_cons, ← Paired.length r1, hz, hn]
  have hus : us.length ≤ sizeLine := by
    rw [← Paired.length r1, sizeLine_eq]
    have := q1.1
    omega
  refine wpAny_call (PySem.FwX.fx_call T.fb hT hC (PySem.W.looks_findIn I1.kIn iC) (fun self => PySem.W.bind_fn I1.kIn self tI) hus
    (codeAny_mono (F1.run _ X.stack _ _ ⟨Value.ref (hp.objs.size + 1) :: us, []⟩ (Value.ref (hp.objs.size + 1) :: us) _ _ (fun _ _ _ => False) (hr.make C us []) (I2.env0.make C us []) (b1 _ _ hl) r2 hq) fun r s' hq' => ?_))
  cases r with
  | error er => exact hx pins σ _ _ er s' I2 hq'
  | ok fl =>
    cases fl with
    | ret u =>
      obtain ⟨v, H2, os2, bare2, un2, hok2, rv, ev, d, fs, ea, ed, hd1, q2⟩ := hq'
      subst ev
      obtain ⟨h2, g2, d2, t2, os'⟩ := s'
      exact ⟨rv, mk_end (raises_own T.xc.hs T.tyC) I1 hsz kk un2 hok2 os2 bare2 ea ed hd1 q2⟩
    | next => exact False.elim hq'
    | brk => exact False.elim hq'
    | cont => exact False.elim hq'
end
end L2
end -- FwX4
section -- FwPin
set_option Elab.async false
set_option linter.all false
set_option maxRecDepth 100000
set_option maxHeartbeats 4000000
/-! FwPin: a def that is called while an exception is handled: the exception's object is pinned, the def may ask it by isinstance. -/
namespace L2
open PySem PySem.Spec PyProof.Rows L2H
/-- isinstance(e, c), e the pinned exception -/
@[irreducible] def rIsP (K : PySem.W.Frag) (a C d : Addr) : List V → Hp → VK → Prop := fun xs H Q => ∃ (c : V) (u : Value) (b : Bool) (fs : List (Str × V)), xs = [.ref a, c] ∧ ClsV c u ∧ ExD H d fs ∧ PySem.W.kitOne K (.ref C) u = some b ∧ Q (.bl b) H
theorem st_isP {K : PySem.W.Frag} {a C d : Addr} {c : V} {u : Value} {b : Bool} {fs : List (Str × V)} {H : Hp} {Q : VK} (hd : ExD H d fs) (k : ClsV c u) (e : PySem.W.kitOne K (.ref C) u = some b) (q : Q (.bl b) H) : rIsP K a C d [.ref a, c] H Q := by
  unfold rIsP
  exact ⟨c, u, b, fs, rfl, k, hd, e, q⟩
theorem call_isP {X : Cx} {a C d : Addr} {oe : Obj} (hp : (a, oe) ∈ X.pn) (hc : oe.cls = .ref C) (hdd : oe.dict = some d) (hf : ∃ vs, oe.data = .fields vs) (xc : ExcC X.K C) : CallR X (.builtin "isinstance") (rIsP X.K a C d) := by
  intro pins s σ H xs us Q I r h
  unfold rIsP at h
  obtain ⟨c, t, b, fs, rfl, k, hd, e, q⟩ := h
  obtain ⟨u1, u2, rfl, r1, r2⟩ := vals2 r
  have e2 := k.eq r2
  subst e2
  obtain rfl : u1 = .ref a := r1
  obtain ⟨vs, hv⟩ := hf
  obtain ⟨mA, hns, rel⟩ := ex_dict I.hok hd
  obtain ⟨od, g1, g2⟩ := lookIn_ns hns
  have J : PySem.W.InstAt s.heap a oe C (some od) := ⟨(I.pin (a, oe) (List.mem_append_left _ hp)).1, hc, by unfold PySem.W.notCls; rw [hv] <;> rfl, by rw [hdd]; exact g1⟩
  obtain ⟨cd, hcd, _⟩ := PySem.W.any_some xc.hd
  exact PySem.W.kia_one (PySem.W.kitx_exc (by rw [hcd]; rfl) xc.hg xc.hk xc.hs xc.ha xc.hn xc.ht xc.hm) I.kIn J e (fun z => nomatch z) fun tk => ⟨.bl b, H, I.tok tk, rfl, q⟩
/-- what a def promises while p is pinned -/
structure FnPin (P : Program) (w : World) (K : PySem.W.Frag) (mg : Str → Option Value) (base : Heap) (k : Nat) (f : Addr) (fd : FuncData) (ps : List Str) (sp : Sp) (p : Addr × Obj) : Prop where
  len : ∀ vs H Q E, sp vs H Q E → vs.length = ps.length
  run : ∀ (A : Around) (outer : List Env) (s : Shared) (H : Hp) (args : Args) (us : List Value) (vs : List V) (Q : VK) (E : XK), RoomH k A → PinOk outer H s p → Env0 P w K mg base A outer s H → BindsTo s fd args (ps.zip us) → Vals vs us → sp vs H Q E →
    codeAny (model P w) A (.call (.ref f) args) (CR (L2.CX P w) outer P w H s Q E) s
theorem pin_of {P : Program} {w : World} {K : PySem.W.Frag} {mg : Str → Option Value} {base : Heap} {k : Nat} {f : Addr} {x qual : Str} {params : Arguments} {body : List Stmt} {scope : Scope} {dvs : List V} {kws : List (Str × V)} {fd : FuncData} {N ps : List Str} {sp : Sp} {p : Addr × Obj}
    (F : FunD K x qual params body scope dvs kws f fd) (S : FnScope N ps scope) (len : ∀ vs H Q E, sp vs H Q E → vs.length = ps.length)
    (hbody : ∀ (cdv : Value) (A : Around) (outer : List Env) (s : Shared) (H : Hp) (vs : List V) (Q : VK) (E : XK), RoomH k (A.deeper (envOfC qual scope s.heap.objs.size f cdv)) → sp vs H Q E →
      ∃ t, PSs (cxH (L2.CX P w) P w K mg base N qual scope f cdv A outer s H E p) body t ∧ t { nx := fun _ H' => Q .non H', rt := Q } (L2.start N vs) H) : FnPin P w K mg base (k + 1) f fd ps sp p := by
  obtain ⟨oc, od, dV, kV, doc, pm, an, cdv, ct, osl, rfl, lk, hcd, _, _⟩ := F.ex
  refine ⟨len, fun A outer s H args us vs Q E hr hpin e0 hb r hsp => ?_⟩
  have hl := len _ _ _ _ hsp
  have kp : ∀ b o, base.get? b = some o → s.heap.get? b = some o := fun b o e => (e0.bs b o e).1
  have KX : K.In s.heap := e0.mod.kin.keeps kp
  have lim : s.heap.NoLimit := e0.mod.nolimit.keeps kp
  have hk : ∀ y ∈ ps.zip us, scope.names.lookup y.1 = some .local ∨ (scope.names.lookup y.1 = some .cell ∧ ((cellsFrom (s.heap.objs.size + 1) scope.names []).lookup y.1).isSome = true) := by
    rintro ⟨n, v⟩ hy
    rcases S.par n (List.of_mem_zip hy).1 with q | q
    · exact .inl q
    · exact .inr ⟨q, PySem.W.cellsFrom_some _ _ _ (.inl q)⟩
  refine codeAny_call_function hr.depth (KX _ _ lk) rfl S.co S.gen rfl (PySem.W.codeRec_of KX hcd) (hb _ _ _ _ (wpAny_newFunctionEnv_cells S.kind hk fun env he s1 y => ?_))
  subst he
  obtain ⟨t, ht, hq⟩ := hbody cdv A outer s H vs Q E (hr.deeper _) hsp
  have I : Inv (cxH (L2.CX P w) P w K mg base N qual scope f cdv A outer s H E p) [] (L2.start N vs) H s1 := inv_startH S hpin e0 hl r y
  refine ⟨lim.keeps y.toInCall.keep, codeAny_func (wpAny_mono (ht.run [] s1 (L2.start N vs) H _ I hq) (fun fl s' hs => ?_) fun e s' hs => hs)⟩
  cases fl with
  | ret u =>
    obtain ⟨v, σ', H', J, rv, q⟩ := hs
    exact ⟨v, H', J.os, J.bare, J.base, J.hok, rv, q⟩
  | next =>
    obtain ⟨σ', H', J, q⟩ := hs
    exact ⟨.non, H', J.os, J.bare, J.base, J.hok, rfl, q⟩
  | brk =>
    obtain ⟨_, _, _, q⟩ := hs
    exact q.elim
  | cont =>
    obtain ⟨_, _, _, q⟩ := hs
    exact q.elim
/-- such a def is called -/
theorem pe_pin {X : Cx} {k : Nat} {f : Addr} {fd : FuncData} {ps : List Str} {sp : Sp} {p : Addr × Obj} {x : Str} {q pos : Pos} {e : Expr} {es : List Expr} {t : TA} (F : FnPin X.prog X.w X.K X.mg X.base k f fd ps sp p) (hr : RoomH k X.A) (hp : p ∈ X.pn) (hm : X.mg x = some (.ref f)) (hk : PySem.W.keepIn X.K (.ref f) = true)
    (hb : Binds X.K fd ps []) (hx : Passes (L2.CX X.prog X.w) X E0) (ha : PA X (e :: es) t) (hg : Gl X x := by rfl) (hdb : (x == ("__debug__" : Str)) = false := by decide) (he : starEach (e :: es) X.env = (false, eval e X.env) :: starEach es X.env := by rfl) (hpl : (backTo pos (starEach es X.env)).any (·.1) = false := by rfl) :
    PE X (.Call (.Name x q) (e :: es) [] pos) (fun σ H Q => t σ H fun vs H1 => sp vs H1 Q E0) := by
  refine ⟨fun pins s σ H Q I h => wpAny_Call_Name_kw (ld_glob I hg hm ?_ hdb)⟩
  refine PySem.W.callWith_K (h₀ := X.base) I.ok.mod.kin hk (thn (ha.run pos pins s σ H _ I h) fun us s1 ⟨vs, H1, I1, r, q1⟩ => ⟨I1.kIn, ?_⟩) he hpl
  show wpAny _ _ (call (.ref f) us) _ _ _
  have hl : us.length = ps.length := by rw [← r.length]; exact F.len _ _ _ _ q1
  have b := hb s1 us I1.kIn (by rw [List.append_nil]; exact hl)
  rw [List.append_nil] at b
  have P1 := I1.pin p (List.mem_append_left _ hp)
  have hpin : PinOk X.stack H1 s1 p := ⟨P1.1, P1.2.1, fun hm => (List.mem_cons.mp (I1.stkSub p.1 hm)).elim P1.2.2.1 P1.2.2.2.1, P1.2.2.2.2⟩
  refine wpAny_call (codeAny_mono (F.run X.A X.stack s1 H1 ⟨us, []⟩ us vs Q E0 hr hpin I1.env0 b r q1) fun r' s' hq => ?_)
  cases r' with
  | error e => exact hx pins σ H1 s1 e s' I1 hq
  | ok fl =>
    cases fl with
    | ret u => exact I1.after hq
    | next => exact False.elim hq
    | brk => exact False.elim hq
    | cont => exact False.elim hq
end L2
end -- FwPin
section -- FwTry
set_option Elab.async false
set_option linter.all false
set_option maxRecDepth 100000
set_option maxHeartbeats 4000000
/-! FwTry: a class is called, a method is called, and what they raise is taken by a try. -/
namespace L2
open PySem PySem.Spec PyProof.Rows
section
variable {X : Cx} {CX : CXT} {k : Nat} {f C : Addr} {fd : FuncData} {ps : List Str} {sp : Sp} {E : St → XK} {x m : Str} {p pos apos : Pos} {e o : Expr} {es : List Expr} {te ta : TE} {t : TA} {ds : List Value} {dvs : List V}
def tMakeS (C : Addr) (sp : Sp) (dvs : List V) (E : St → XK) (t : TA) : TE := fun σ H Q => t σ H fun vs H1 => ∀ x dx, H1 x = none → H1 dx = none → dx ≠ x → sp (.ref x :: (vs ++ dvs)) (upd (upd H1 dx (.own x)) x (.ins C dx [])) (fun v H2 => v = .non ∧ Q (.ref x) H2) (E σ)
theorem pe_makeS (M : Mk X.K C f) (F : FnOk X.prog X.w X.K X.mg X.base CX k f fd ps sp) (hr : Room (k + 1) X.A) (hm : X.mg x = some (.ref C)) (hb : Binds X.K fd ps ds) (hd : Vals dvs ds) (hx : ∀ σ, PassesAt CX X σ (E σ)) (ha : PA X (e :: es) t) (hg : Gl X x := by rfl)
    (hdb : (x == ("__debug__" : Str)) = false := by decide) (he : starEach (e :: es) X.env = (false, eval e X.env) :: starEach es X.env := by rfl) (hpl : (backTo pos (starEach es X.env)).any (·.1) = false := by rfl) :
    PE X (.Call (.Name x p) (e :: es) [] pos) (tMakeS C sp dvs E t) := by
  refine ⟨fun pins s σ H Q I h => wpAny_Call_Name_kw (ld_glob I hg hm ?_ hdb)⟩
  refine PySem.W.callWith_K (h₀ := X.base) I.ok.mod.kin M.kp (thn (ha.run pos pins s σ H _ I h) fun us s1 ⟨vs, H1, I1, r, q⟩ => ⟨I1.kIn, ?_⟩) he hpl
  show wpAny _ _ (call (.ref C) us) _ _ _
  have hq := q (s1.heap.objs.size + 1) s1.heap.objs.size (I1.hok.fresh (Nat.le_succ _)) (I1.hok.fresh (Nat.le_refl _)) (Nat.ne_of_lt (Nat.lt_succ_self _))
  have I2 := Inv.made (C := C) I1
  have r2 : Vals (V.ref (s1.heap.objs.size + 1) :: (vs ++ dvs)) (Value.ref (s1.heap.objs.size + 1) :: (us ++ ds)) := .cons rfl (r.append hd)
  have hl : (Value.ref (s1.heap.objs.size + 1) :: us ++ ds).length = ps.length := by
    have z := r2.length
    rw [F.len _ _ _ _ hq] at z
    exact z.symm
  refine wpAny_call (make_map (f := f) I1.kIn M.makes M.init (beq_iff_eq.mp M.fn) (codeAny_mono (F.run _ X.stack _ _ ⟨Value.ref (s1.heap.objs.size + 1) :: us, []⟩ (Value.ref (s1.heap.objs.size + 1) :: (us ++ ds)) _ _ (E σ) (hr.make C us [])
    (I2.env0.make C us []) (hb _ (Value.ref (s1.heap.objs.size + 1) :: us) I2.kIn hl) r2 hq) fun r' s' hq' => ?_))
  cases r' with
  | error er => exact hx σ pins _ _ er s' I2 hq'
  | ok fl =>
    cases fl with
    | ret u =>
      obtain ⟨v, H', I3, rv, ev, q3⟩ := I2.after hq'
      subst ev
      exact ⟨rv, V.ref (s1.heap.objs.size + 1), H', I3, rfl, q3⟩
    | next => exact False.elim hq'
    | brk => exact False.elim hq'
    | cont => exact False.elim hq'
def tMethX (C : Addr) (m : Str) (sp : Sp) (E : St → XK) (ta : TE) (t : TA) : TE := fun σ H Q => ta σ H fun x H1 => ∃ a dx fs, x = .ref a ∧ H1 a = some (.ins C dx fs) ∧ fs.lookup m = none ∧ t σ H1 fun vs H2 => sp (x :: vs) H2 Q (E σ)
theorem pe_methX {pl : Sem Bool} (he : PE X o te) (c : Cls X.K C) (hm : Meth X.K C m f) (F : FnOk X.prog X.w X.K X.mg X.base CX k f fd ps sp) (hr : Room k X.A) (hb : Binds X.K fd ps []) (hx : ∀ σ, PassesAt CX X σ (E σ)) (ha : PA X (e :: es) t)
    (hst : starEach (e :: es) X.env = (false, eval e X.env) :: starEach es X.env := by rfl) (hpl : (backTo pos (starEach es X.env)).any (·.1) = false := by rfl)
    (ht : eval (.Call (.Attribute o m apos) (e :: es) [] pos) X.env = (do
      let ov ← eval o X.env
      standAt apos.atName
      let (f, first) ← holding [ov] (getMethod ov m pl)
      callWith pos f first (backTo pos (starEach (e :: es) X.env)) (backToKw pos (keywordEach [] X.env))) := by rfl) :
    PE X (.Call (.Attribute o m apos) (e :: es) [] pos) (tMethX C m sp E te t) := by
  refine ⟨fun pins s σ H Q I h => PySem.W.methodCall_KW (pl := pl) (thn (he.run pins s σ H _ I h) fun u s1 ⟨x, H1, I1, rx, a, dx, fs, ex, ea, l, q⟩ => ?_) ht⟩
  subst ex
  obtain rfl : u = Value.ref a := rx
  refine getmeth_ok I1 ea c hm l ?_
  refine PySem.W.callWith_K (first := [.ref a]) (h₀ := X.base) I.ok.mod.kin hm.kp (thn (ha.run pos pins s1 σ H1 _ I1 q) fun us s2 ⟨vs, H2, I2, r, q2⟩ => ⟨I2.kIn, run_fnS (us := .ref a :: us) (vs := .ref a :: vs) F hr hb (hx σ) I2 (.cons rfl r) q2⟩) hst hpl
end
end L2
end -- FwTry
section -- FwIn
set_option Elab.async false
set_option linter.all false
set_option maxRecDepth 100000
set_option maxHeartbeats 4000000
/-! FwIn: x not in o, o an instance with a __contains__ of its own. -/
namespace L2
open PySem PySem.Spec PyProof.Rows
def rNotInOwn (C : Addr) (sp : Sp) : R2 := fun x y H Q => ∃ (g gx : Addr) (fg : List (Str × V)), y = .ref g ∧ H g = some (.ins C gx fg) ∧ sp [.ref g, x] H (fun v H' => ∃ b, v = .bl b ∧ Q (.bl (!b)) H') E0
theorem op_notInOwn {X : Cx} {C f : Addr} {k : Nat} {fd : FuncData} {ps : List Str} {sp : Sp} (hm : Meth X.K C "__contains__" f) (F : FnOk X.prog X.w X.K X.mg X.base (L2.CX X.prog X.w) k f fd ps sp) (hr : Room k X.A) (hb : Binds X.K fd ps []) : OpR X (compareOp .NotIn) (rNotInOwn C sp) := by
  intro pins s σ H x y v u Q I rx ry h
  obtain ⟨g, gx, fg, rfl, hg, h⟩ := h
  obtain rfl : u = .ref g := ry
  obtain ⟨mA, O, _⟩ := ins_get I.hok hg
  obtain ⟨od, J, _⟩ := O.look
  have LT := J.type (M := model X.prog X.w)
  have LF := PySem.W.looks_findIn (M := model X.prog X.w) I.kIn hm.at_
  have LB := PySem.W.bind_fn (M := model X.prog X.w) I.kIn (.ref g) (beq_iff_eq.mp hm.fn)
  have LS : PySem.W.Looks (model X.prog X.w) s.heap (specialOf (.ref g) "__contains__") (some (.ref f)) := LT.andThen LF
  show wpAny _ _ (do return Value.bool (!(← contains (.ref g) v))) _ _ s
  refine wpAny_bind ?_
  unfold contains
  refine wpAny_holding (wpAny_bind (LS.here ?_))
  rw [if_neg (show ¬ ((some (Value.ref f) == some Value.none) = true) from Bool.false_ne_true)]
  unfold callSpecialUnlessNone?
  refine wpAny_bind (wpAny_bind (LS.here (wpAny_holding (wpAny_bind (LB.here ?_)))))
  show wpAny _ _ (if (Value.ref f == Value.none) = true then _ else _) _ _ s
  rw [if_neg (show ¬ ((Value.ref f == Value.none) = true) from Bool.false_ne_true)]
  refine wpAny_bind (wpAny_mono (run_fn (us := [.ref g, v]) (vs := [.ref g, x]) F hr hb .nil passL I (.cons rfl (.cons rx .nil)) h) (fun r s' hq => ?_) fun _ _ z => z)
  obtain ⟨b0, H', J', rv, b, rfl, q⟩ := hq
  obtain rfl : r = .bool b := rv
  exact wpAny_pure (wpAny_truthy_bool (wpAny_pure ⟨.bl (!b), H', J', rfl, q⟩))
end L2
end -- FwIn
section -- FwSet
set_option Elab.async false
set_option linter.all false
set_option maxRecDepth 100000
set_option maxHeartbeats 4000000
/-! FwSet: len(set(xs)) of a list of different texts. -/
namespace L2
open PySem PySem.Spec PyProof.Rows
/-- what a set holds of the first i of xs -/
def hasS (xs : List Str) (i : Nat) : Str → Bool := fun y => (xs.take i).any fun z => z == y
theorem hasS_more {xs : List Str} {i : Nat} {x : Str} (hx : xs[i]? = some x) (y : Str) : (hasS xs i y || decide (y = x)) = hasS xs (i + 1) y := by
  unfold hasS
  have h : i < xs.length := (List.getElem?_eq_some_iff.mp hx).1
  rw [List.take_succ, hx, List.any_append]
  congr 1
  simp only [Option.toList, List.any_cons, List.any_nil, Bool.or_false]
  by_cases e : y = x
  · rw [e]; simp
  · have : (x == y) = false := beq_eq_false_iff_ne.mpr fun z => e z.symm
    rw [this]; simp [e]
theorem hasS_new {xs : List Str} (nd : xs.Nodup) {i : Nat} {x : Str} (hx : xs[i]? = some x) : hasS xs i x = false := by
  unfold hasS
  rw [List.any_eq_false]
  intro z hz e
  have e' : z = x := eq_of_beq e
  subst e'
  have h : i < xs.length := (List.getElem?_eq_some_iff.mp hx).1
  obtain ⟨j, hj, ej⟩ := List.mem_iff_getElem.mp hz
  rw [List.length_take] at hj
  rw [List.getElem_take] at ej
  have ex := (List.getElem?_eq_some_iff.mp hx).2
  exact List.pairwise_iff_getElem.mp nd j i (by omega) h (by omega) (ej.trans ex.symm)
section
variable {prog : Program} {w : World} {A : Around} {R : Result → Shared → Prop} {I : Addr} {fp wr : List Addr} {G : Array GenState → Array GenState → Prop} {n : Nat} {Pv : Nat → Value → Prop} {St : Nat → Shared → Prop}
/-- the walk of set.update over different texts: a set of m of them, d to come -/
theorem grow_set (W : WalksS prog w A.in1 I fp wr G n Pv St) {b : Addr} (hb : b ∉ fp) {xs : List Str} (nd : xs.Nodup) (hn : xs.length = n) (hroom : n + 1 < scanBound)
    (hv : ∀ i v, Pv i v → ∃ t, v = .str (xs.getD i Str.empty) t) :
    ∀ (d m : Nat) (s : Shared), m + d = n → St m s → s.heap.SetOf (PySem.strKind prog w) b (hasS xs m) m →
      (∀ s', Moved (b :: wr) G s s' → s'.heap.SetOf (PySem.strKind prog w) b (hasS xs n) n → R (.ok (.ret .none)) s') →
      codeAny (model prog w) A (.builtin "set.update.loop" ⟨[.ref b, .ref I], []⟩) R s
  | 0, m, s, hm, hst, hS, hR => by
    obtain rfl : m = n := hm
    refine codeAny_builtin PyProof.Rows.F.entry_set_update_loop ?_
    rw [Around.under_plainId PyProof.Rows.F.plain_set_update_loop _]
    show wpAny _ A.in1 (pyNext (.ref I) >>= _) _ _ s
    refine wpAny_bind (W.done s _ _ hst fun s2 mv => ?_)
    obtain ⟨o, es, ep, tb, ho, more⟩ := hS
    exact wpAny_pure (hR s2 (mv.mono fun _ z => List.mem_cons_of_mem _ z) ⟨o, es, ep, tb, mv.heap b _ (fun z => hb (W.sub _ z)) ho, more⟩)
  | d + 1, m, s, hm, hst, hS, hR => by
    have lt : m < n := by omega
    have up : ∀ c ∈ wr, c ∈ b :: wr := fun _ z => List.mem_cons_of_mem _ z
    refine codeAny_builtin PyProof.Rows.F.entry_set_update_loop ?_
    rw [Around.under_plainId PyProof.Rows.F.plain_set_update_loop _]
    show wpAny _ A.in1 (pyNext (.ref I) >>= _) _ _ s
    refine wpAny_bind (W.item m s _ _ lt hst fun v s2 pv hst2 mv => ?_)
    obtain ⟨t, rfl⟩ := hv m v pv
    have hx : xs[m]? = some (xs.getD m Str.empty) := by
      rw [List.getD_eq_getElem?_getD, List.getElem?_eq_getElem (hn ▸ lt)]; rfl
    obtain ⟨o, es, ep, tb, ho, more⟩ := hS
    have hS2 : s2.heap.SetOf (PySem.strKind prog w) b (hasS xs m) m := ⟨o, es, ep, tb, mv.heap b _ (fun z => hb (W.sub _ z)) ho, more⟩
    generalize xs.getD m Str.empty = x at hx
    show wpAny _ A.in1 (holding [Value.str x t] (setAdd b (.str x t)) >>= _) _ _ s2
    refine wpAny_bind (wpAny_holding ?_)
    unfold setAdd
    refine wpAny_holding (wpAny_bind ((PySem.strKind prog w).pyHash (k := x) (strKind_is _ _ _ _) ?_))
    refine wpAny_setAddHashed_of (knd := PySem.strKind prog w) (s := { s2 with toks := s2.toks + 1 }) (strKind_is _ _ _ _) rfl hS2 (by omega) fun h3 same hS3 => ?_
    have hS4 : h3.SetOf (PySem.strKind prog w) b (hasS xs (m + 1)) (m + 1) := SetOf_congr hS3 (hasS_more hx) (by rw [hasS_new nd hx]; rfl)
    refine wpAny_pure ⟨plainId_quiet PyProof.Rows.F.plain_set_update_loop _, grow_set W hb nd hn hroom hv d (m + 1) _ (by omega) (W.frame _ s2 _ _ hst2 (Nat.le_succ _) fun c hc o' e => ?_) hS4 fun s5 mv5 hS5 => ?_⟩
    · rw [same.2 c (fun z : c = b => hb (z ▸ hc))]
      exact e
    · refine hR s5 (Moved.trans W.gtrans ((mv.mono up).then_heap (Nat.le_succ _) fun c o' hc e => ?_) mv5) hS5
      rw [same.2 c (fun z : c = b => hc (z ▸ List.mem_cons_self))]
      exact e
end
end L2
namespace L2
open PySem PySem.Spec PyProof.Rows
theorem strs_get {us : List Value} {xs : List Str} (r : Vals (xs.map V.str) us) (i : Nat) (v : Value) (h : us[i]? = some v) : ∃ t, v = .str (xs.getD i Str.empty) t := by
  have lt : i < us.length := (List.getElem?_eq_some_iff.mp h).1
  have lx : i < xs.length := by rw [← r.length, List.length_map] at lt; exact lt
  obtain ⟨u, hu, t, ht⟩ := r.get (i := i) (x := .str xs[i]) (by simp [lx])
  rw [h] at hu
  cases hu
  exact ⟨t, by rw [ht, List.getD_eq_getElem?_getD, List.getElem?_eq_getElem lx]; rfl⟩
section
variable {P : Program} {w : World} {A : Around} {E : Value → Shared → Prop} {s : Shared}
/-- what making the set tells: its place, its members, all that was stays -/
def SetMade (P : Program) (w : World) (xs : List Str) (s : Shared) (h' : Heap) : Prop := h'.SetOf (PySem.strKind P w) s.heap.objs.size (hasS xs xs.length) xs.length ∧ ∀ c o, c < s.heap.objs.size → s.heap.get? c = some o → h'.get? c = some o
set_option maxHeartbeats 3200000 in
theorem call_setD {l : Addr} {us : Array Value} {xs : List Str} {Q : Value → Shared → Prop} (hh : A.handled = none) (hl : s.heap.IsList l us) (r : Vals (xs.map V.str) us.toList) (nd : xs.Nodup) (hroom : xs.length + 1 < scanBound)
    (h : ∀ (h' : Heap) (tk : Nat), SetMade P w xs s h' → Q (.ref s.heap.objs.size) { s with heap := h', toks := tk }) :
    wpAny (model P w) A (call (.type "set") [.ref l]) Q E s := by
  have lt : l < s.heap.objs.size := let ⟨_, z, _⟩ := hl; Heap.lt_size z
  have len : xs.length = us.size := by rw [← Array.length_toList, ← r.length, List.length_map]
  obtain ⟨c, tl, hmro⟩ := PySem.F.called_set.mro
  have f1 := PySem.F.called_set.made
  have f2 := PySem.F.called_set.sub
  have f3 := PySem.F.called_set.notType
  have f4 := PySem.F.called_set.canCreate
  have f5 := PySem.F.typeCall_set_1 (.ref l)
  refine wpAny_call (codeAny_of_tree ?_)
  show wpAny _ _ (callAny (.type "set") _) _ _ _
  refine wpAny_pure ⟨Code.quiet_builtin _ (by decide +kernel), codeAny_builtin PySem.F.entry_type_call ?_⟩
  rw [Around.under_plain (weight_type_call_type "set" [.ref l] []) rfl]
  repeat (any_goals (first | assumption | wp_step))
  refine codeAny_mono (code_set_new_1 (.ref l) (E := E) (Q₁ := fun v s1 => ∃ led : Bool, v = .ref s.heap.objs.size ∧ s1 = { s with heap := s.heap.push { cls := .type "set", dict := none, data := .set #[] 0 (.fresh 0 0 led) } }) fun led => ⟨led, rfl, rfl⟩) fun x s1 hx => ?_
  cases x with
  | error e => exact hx
  | ok fl =>
    cases fl with
    | next => exact hx.elim
    | brk => exact hx.elim
    | cont => exact hx.elim
    | ret v =>
      obtain ⟨led, rfl, rfl⟩ := hx
      generalize eo : ({ cls := .type "set", dict := none, data := .set #[] 0 (.fresh 0 0 led) } : Obj) = ob
      have hb : (s.heap.push ob).get? s.heap.objs.size = some ob := Heap.get?_push_size _ (by rw [← eo]; rfl)
      have hT : Shared.TypeIs { s with heap := s.heap.push ob } (.ref s.heap.objs.size) "set" := ⟨_, hb, by rw [← eo]⟩
      have g1 := PySem.F.called_set.init.lookup
      have g2 := PySem.F.called_set.init.bind (.ref s.heap.objs.size)
      repeat (any_goals (first | assumption | wp_step))
      refine codeAny_mono (codeAny_call_builtin (R := wants (fun v s2 => v = .none ∧ ∃ h' tk, s2 = { s with heap := h', toks := tk } ∧ SetMade P w xs s h') E) PySem.F.called_set.init.plain PySem.F.entry_set_init (check_set_init_1 hT ?_)) fun x2 s2 hx2 => ?_
      · obtain ⟨⟨c0, d0, dt0, sl0⟩, hol, hc, nl, hd⟩ := hl
        simp only at hc hd
        subst hc hd
        subst eo
        have hol' := Heap.get?_push_of_some { cls := .type "set", dict := none, data := .set #[] 0 (.fresh 0 0 led) } hol
        have k1 := PySem.F.sub_list_set
        have k2 := PySem.F.sub_list_frozenset
        have k3 : (Value.type "list" == Value.type "dict") = false := by decide
        have hl1 : (s.heap.push { cls := .type "set", dict := none, data := .set #[] 0 (.fresh 0 0 led) }).IsList l us := ⟨_, hol', rfl, nl, rfl⟩
        unfold Builtin.«set.__init__» noKeywords Builtin.Frozenset.updateFrom
        generalize hPI : pyIter = PI
        wp_walk
        subst hPI
        refine wpAny_pyIter_list hl1 ?_
        refine wpAny_bind (wpAny_runValue ?_)
        have ne : l ≠ (s.heap.push { cls := .type "set", dict := none, data := .set #[] 0 (.fresh 0 0 led) }).objs.size := by rw [Heap.size_push]; exact Nat.ne_of_lt (Nat.lt_succ_of_lt lt)
        have out : s.heap.objs.size ∉ [(s.heap.push { cls := .type "set", dict := none, data := .set #[] 0 (.fresh 0 0 led) }).objs.size, l] := by
          rw [Heap.size_push]
          intro z
          rcases List.mem_cons.mp z with z | z
          · exact Nat.ne_of_lt (Nat.lt_succ_self _) z
          · exact Nat.ne_of_gt lt (List.mem_singleton.mp z)
        refine grow_set ((Walks.list (by simp [hh]) _ l ne us).toS) (b := s.heap.objs.size) (xs := xs) out nd len (by omega)
          (fun i v hv => strs_get r i v (by rw [Array.getElem?_toList]; exact hv)) us.size 0 _ (by omega) ⟨⟨_, Heap.get?_push_size _ rfl, rfl, rfl⟩, hl1.push _⟩ ?start ?fin
        case start =>
          have hb2 := Heap.get?_push_of_some { cls := .type "list_iterator", data := .fields #[.ref l, .int 0 0] } hb
          exact SetOf_congr ((setObjOf_fresh (knd := PySem.strKind P w) led).setOf hb2 (by unfold scanBound; omega)) (fun _ => rfl) rfl
        case fin =>
          rintro ⟨h', gs, dr, tk, os⟩ mv hS
          obtain rfl : gs = s.gens := mv.gens
          obtain rfl : dr = s.drawn := mv.drawn
          obtain rfl : os = s.os := mv.os
          show wpAny _ _ _ _ _ _
          refine wpAny_pure ?_
          show wpAny _ _ (ret Value.none) _ _ _
          rw [← len] at hS
          refine wpAny_pure ⟨rfl, h', tk, rfl, hS, fun b o hlt e => ?_⟩
          refine mv.heap b o ?_ (Heap.get?_push_of_some _ (Heap.get?_push_of_some _ e))
          simp only [List.mem_cons, List.mem_singleton, List.not_mem_nil, or_false, not_or]
          rw [Heap.size_push]
          exact ⟨Nat.ne_of_lt hlt, Nat.ne_of_lt (Nat.lt_succ_of_lt hlt)⟩
      · cases x2 with
        | error e => exact hx2
        | ok fl2 =>
          cases fl2 with
          | next => exact hx2.elim
          | brk => exact hx2.elim
          | cont => exact hx2.elim
          | ret u =>
            obtain ⟨rfl, h', tk, rfl, made⟩ := hx2
            repeat (any_goals (first | assumption | wp_step))
            exact h _ _ made
end
section
variable {X : Cx}
/-- len(set(xs)), xs a list of different texts -/
def tLenSetD (K : PySem.W.Frag) (ta : TE) : TE := fun σ H Q => ta σ H fun x H1 => ∃ l, ∃ xs : List Str, x = .ref l ∧ SqL K H1 l (xs.map V.str) ∧ xs.Nodup ∧ xs.length < 4000 ∧ Q (.int xs.length) H1
theorem pe_lenSetD {a : Expr} {ta : TE} {p p2 q pos : Pos} (hc : X.calm = true) (hg : Gl X "len") (hm : X.mg "len" = none) (hg2 : Gl X "set") (hm2 : X.mg "set" = none) (ha : PE X a ta)
    (na : starEach [a] X.env = (false, eval a X.env) :: starEach [] X.env := by rfl) : PE X (.Call (.Name "len" p) [.Call (.Name "set" p2) [a] [] q] [] pos) (tLenSetD X.K ta) := by
  refine ⟨fun pins s σ H Q I h => Call_ (ld_blt I hg hm boot_len (callWith_builtin1 (args_cons (Call_ (ld_blt I hg2 hm2 boot_set (callWith_type1 (args_cons (thn (ha.run pins s σ H _ I h) ?_) na) na rfl))) rfl) rfl rfl))⟩
  rintro v s1 ⟨x, H1, I1, r1, l, xs, rfl, hq, nd, hl, q⟩
  cases r1
  refine args_nil ?_
  obtain ⟨us, r, pl, _⟩ := I1.list hq
  refine call_setD (I1.ok.hd hc) pl.isList (by simpa using r) nd (by unfold scanBound; omega) fun h' tk made => args_nil ?_
  obtain ⟨⟨o, es, ep, t, ho, hex, hd, _, _, _, hf, hn⟩, keep⟩ := made
  have I2 : Inv X pins σ H1 { s1 with heap := h', toks := tk } := I1.kept fun b o e => keep b o (Heap.lt_size e) e
  exact call_len_set ho hex hd hf (by rw [hn]; omega) ⟨.int xs.length, H1, I2.tok _, ⟨_, by rw [hn]⟩, q⟩
end
end L2
end -- FwSet
section -- FwEnum
set_option Elab.async false
set_option linter.all false
set_option maxRecDepth 100000
set_option maxHeartbeats 4000000
/-! FwEnum: enumerate over a tuple. -/
namespace L2
open PySem PySem.Spec PyProof.Rows
open AutoSeq1 (wpAny_loadPart')
/-- the heap after enumerate(t): the tuple's own walker, the pair maker -/
def enT (h : Heap) (t : Addr) : Heap := (h.push { cls := .type "tuple_iterator", data := .fields #[.ref t, .int 0 0] }).push { cls := .type "enumerate", data := .fields #[.none, .bool false, .ref h.objs.size, rawInt 0, .none, .none] }
theorem meets_enT (t : Addr) (us : Array Value) (n : Nat) (dct : Option Addr) (sl : Array (Option Value)) :
    Meets (Builtin.«enumerate.__new__» ⟨[.type "enumerate", .ref t], []⟩) (fun _ R s => s.heap.get? t = some { cls := .type "tuple", dict := dct, data := .seq us n, slots := sl } ∧
      R (.ok (.ret (.ref (s.heap.push { cls := .type "tuple_iterator", data := .fields #[.ref t, .int 0 0] }).objs.size))) { s with heap := enT s.heap t }) :=
  .of_wp fun prog w A R s h => by
    obtain ⟨hp, gs, dr, tk, os⟩ := s
    obtain ⟨ht, h⟩ := h
    have hsub := sub_enumerate
    have hT : Heap.IsTuple (Shared.heap ⟨hp, gs, dr, tk, os⟩) t us := ⟨_, ht, rfl, n, rfl⟩
    wp_walk using wpAny_loadPart' ht
    refine wpAny_stack_any fun _ => wpAny_pure ?_
    split
    · rename_i c _ _ _ _ _
      by_cases e : (c == Value.type "enumerate") = true <;> simp only [e] <;> wp_walk using wpAny_loadPart' ht, wpAny_pyIter_tuple hT <;> exact ⟨_, rfl, h⟩
    · wp_walk using wpAny_loadPart' ht, wpAny_pyIter_tuple hT
      exact ⟨_, rfl, h⟩
section
variable {P : Program} {w : World} {A : Around} {E : Value → Shared → Prop} {s : Shared}
theorem call_enT {t : Addr} {us : Array Value} {Q : Value → Shared → Prop} (hT : s.heap.IsTuple t us)
    (h : IsEnum (enT s.heap t) (s.heap.objs.size + 1) s.heap.objs.size 0 .none → (enT s.heap t).IsTupleIter s.heap.objs.size t 0 → (∀ b o, s.heap.get? b = some o → (enT s.heap t).get? b = some o) → Q (.ref (s.heap.objs.size + 1)) { s with heap := enT s.heap t }) :
    wpAny (model P w) A (call (.type "enumerate") [.ref t]) Q E s := by
  obtain ⟨⟨c, dct, dt, sl⟩, ht, hc, n, hd⟩ := hT
  simp only at hc hd
  subst hc hd
  refine callType_new F.called_enumerate (by decide) (F.typeCall_enumerate_1 _) (F.newCall_enumerate_1 _) (fun v => F.args_object_init_2 v _) F.entry_enumerate_new (meets_enT t us n dct sl) ⟨ht, ?_⟩
  have sz : ∀ o, (s.heap.push o).objs.size = s.heap.objs.size + 1 := fun _ => Heap.size_push ..
  show _ ∧ _
  rw [sz]
  have he : IsEnum (enT s.heap t) (s.heap.objs.size + 1) s.heap.objs.size 0 .none := by
    have z := Heap.get?_push_size (s.heap.push { cls := .type "tuple_iterator", data := .fields #[.ref t, .int 0 0] }) (o := { cls := .type "enumerate", data := .fields #[.none, .bool false, .ref s.heap.objs.size, rawInt 0, .none, .none] }) rfl
    rw [sz] at z
    exact z
  exact ⟨⟨_, he, rfl⟩, h he ⟨_, Heap.get?_push_of_some _ (Heap.get?_push_size _ rfl), rfl, rfl⟩ fun b o x => Heap.get?_push_of_some _ (Heap.get?_push_of_some _ x)⟩
end
/-- the tuple at a as it stands at each turn, each item in a new pair -/
def IteT (K : PySem.W.Frag) (a : Addr) : It :=
  ⟨fun i H => ∃ (xs : List V) (x : V), SqT K H a xs ∧ xs[i]? = some x, fun i H v H' => ∃ T x, v = .ref T ∧ H T = none ∧ H' = upd H T (.tup [.int (i : Nat), x]) ∧ ∀ xs, SqT K H a xs → xs[i]? = some x, fun i H => ∃ xs : List V, SqT K H a xs ∧ xs.length ≤ i⟩
/-- where the two makers stand -/
def EnAt (a e it : Addr) (i : Nat) (h : Heap) : Prop := (∃ old, IsEnum h e it ((i : Nat) : Int) old) ∧ h.IsTupleIter it a i ∧ e ≠ it ∧ e ≠ a ∧ a ≠ it
theorem turn_enT {P : Program} {w : World} {K : PySem.W.Frag} {elts : List Expr} {kk : Nat} {tpos : Pos} (a e it : Addr) : Turn P w K (.Tuple elts kk tpos) (IteT K a) [e, it] e (EnAt a e it) where
  mem := List.mem_cons_self
  obj := fun i h st b hb => by
    obtain ⟨⟨old, he⟩, ⟨o, ho, _, hd⟩, _⟩ := st
    rcases List.mem_cons.mp hb with rfl | z
    · exact ⟨_, he, fun v q => nomatch q⟩
    · obtain rfl := List.mem_singleton.mp z
      exact ⟨o, ho, fun v q => by rw [hd] at q; cases q⟩
  keep := fun i h h' st k => let ⟨⟨old, he⟩, hi, more⟩ := st; ⟨⟨old, k e (by simp) _ he⟩, hi.at fun o q => k it (by simp) o q, more⟩
  item := by
    intro X hP hw hK hc i pins s σ H E I hf st hg
    subst hP hw hK
    obtain ⟨⟨old, he⟩, hit, hne, hea, hai⟩ := st
    obtain ⟨xs, x, hq, hx⟩ := hg
    obtain ⟨us, rv, p, _⟩ := I.tuple hq
    obtain ⟨u, hu, ru⟩ := rv.get hx
    have lu : i < us.length := (List.getElem?_eq_some_iff.mp hu).1
    have hel : e < s.heap.objs.size := Heap.lt_size he
    have hil : it < s.heap.objs.size := let ⟨_, q, _⟩ := hit; Heap.lt_size q
    refine wpAny_pyNext_enum_itemD (Draws.tuple (A := X.A.in1) (by have := I.ok.hd hc; simp [this]) it a hai us.toArray) he ⟨hit, p⟩ (by simpa using lu) hne (by simp [hne, hea]) fun u' h' tk hx' ho st' hT _ hk => ?_
    obtain rfl : u' = u := by
      have z : us[i]? = some u' := by simpa using hx'
      rw [hu] at z
      exact (Option.some.inj z).symm
    refine ⟨_, rfl, wpAny_letOwnedTupleGo_enum (s := { s with heap := h', toks := tk + 1 }) ho fun h2 he2 sb => ?_⟩
    have hT2 : h2.get? s.heap.objs.size = some { cls := .type "tuple", data := .seq #[.int i tk, u'] } := (sb.2 _ (Nat.ne_of_gt hel)).trans hT
    have new : ObjOk X.prog X.w (upd H s.heap.objs.size (.tup [.int (i : Nat), x])) h2 s.heap.objs.size (.tup [.int (i : Nat), x]) :=
      ⟨show 2 ≤ sizeLine by decide, [.int i tk, u'], .cons ⟨_, rfl⟩ (.cons ru .nil), ⟨_, hT2, rfl, _, rfl⟩⟩
    have I1 : Inv X pins σ (upd H s.heap.objs.size (.tup [.int (i : Nat), x])) { s with heap := h2, toks := tk + 1 } :=
      I.turnedNew (ch := [e, it]) (fun b o hb q => (sb.2 b fun z => hb (by simp [z])).trans (hk b o (fun z => hb (by simp [z])) (fun z => hb (by simp [z])) q)) hf (Nat.le_refl _) new
    refine ⟨.ref s.heap.objs.size, _, I1, rfl, ⟨_, x, rfl, I.hok.fresh (Nat.le_refl _), rfl, fun ys hy => by rw [I.tuple_inj hy hq]; exact hx⟩, ⟨⟨u', ?_⟩, st'.1.at fun o q => (sb.2 it (Ne.symm hne)).trans q, hne, hea, hai⟩, fun b hb => ?_⟩
    · rw [show ((i + 1 : Nat) : Int) = (i : Int) + 1 by omega]
      exact he2
    · have lb : b < s.heap.objs.size := by
        rcases List.mem_cons.mp hb with rfl | z
        · exact hel
        · exact (List.mem_singleton.mp z) ▸ hil
      rw [upd_ne (Nat.ne_of_lt lb)]
      exact (hf b hb).1
  done := by
    intro X hP hw hK hc i pins s σ H E I hf st hg
    subst hP hw hK
    obtain ⟨⟨old, he⟩, hit, hne, hea, hai⟩ := st
    obtain ⟨xs, hq, hx⟩ := hg
    obtain ⟨us, rv, p, _⟩ := I.tuple hq
    obtain ⟨f0, f1, _, f3, f4, f5⟩ := hf it (by simp)
    have hl := rv.length
    have D : Draws X.prog X.w X.A.in1 it [it, a] i (fun _ _ => False) (fun j h => j = i ∧ h.IsTupleIter it a j ∧ h.IsTuple a us.toArray) :=
      { live := fun _ _ st => let ⟨o, ho, _⟩ := st.2.1; ⟨o, ho⟩
        frame := fun _ _ _ st hk => ⟨st.1, st.2.1.at fun o e => hk it (by simp) o e, st.2.2.at fun o e => hk a (by simp) o e⟩
        item := fun j s Q E hj st hQ => absurd st.1 (Nat.ne_of_lt hj)
        done := fun s Q E st hE => wpAny_nextOf_tuple_end (by have := I.ok.hd hc; simp [this]) st.2.1 st.2.2 (by simp; omega) hE }
    exact wpAny_pyNext_enum_endD D he ⟨rfl, hit, p⟩ fun h' eb => ⟨rfl, I.turned (t' := s.toks) (fun b o hb q => eb b o hb q) f0 f1 f3 f4 f5⟩
  self := fun A i s Q E st h => let ⟨⟨_, he⟩, _⟩ := st; wpAny_pyIter_enum he h
def iEnT (K : PySem.W.Frag) (ta : TA) : TI := fun σ H R => ta σ H fun vs H1 => ∃ a xs, vs = [.ref a] ∧ SqT K H1 a xs ∧ R (IteT K a) H1
theorem pi_enT {X : Cx} {e : Expr} {ta : TA} {p pos tpos : Pos} {elts : List Expr} {kk : Nat} (hg : Gl X "enumerate") (hm : X.mg "enumerate" = none) (ha : PA X [e] ta) (hs : starEach [e] X.env = [(false, eval e X.env)] := by rfl) :
    PI X (.Tuple elts kk tpos) (.Call (.Name "enumerate" p) [e] [] pos) (iEnT X.K ta) := by
  refine ⟨fun pins s σ H R I h => Call_ (ld_blt I hg hm boot_enumerate (PyProof.Rows.callWith_type1 (thn (ha.run pos pins s σ H _ I h) ?_) hs rfl))⟩
  rintro us s1 ⟨vs, H1, I1, r1, a, xs, rfl, hq, q⟩
  obtain ⟨u, rfl, ru⟩ := vals1 r1
  obtain rfl : u = .ref a := ru
  obtain ⟨its, rv, p', _⟩ := I1.tuple hq
  have la : a < s1.heap.objs.size := let ⟨_, z, _⟩ := p'; Heap.lt_size z
  refine call_enT p' fun he hit hk => wpAny_pyIter_enum he ?_
  have I2 : Inv X pins σ H1 { s1 with heap := enT s1.heap a } := I1.kept (t' := s1.toks) hk
  refine ⟨s1.heap.objs.size + 1, [s1.heap.objs.size + 1, s1.heap.objs.size], _, _, H1, rfl, I2, turn_enT a (s1.heap.objs.size + 1) s1.heap.objs.size, ⟨⟨.none, he⟩, hit, Nat.succ_ne_self _, Nat.ne_of_gt (Nat.lt_succ_of_lt la), Nat.ne_of_lt la⟩, fun b hb => ?_, q⟩
  have hle : s1.heap.objs.size ≤ b := by
    rcases List.mem_cons.mp hb with rfl | z
    · exact Nat.le_add_right _ _
    · exact Nat.le_of_eq (List.mem_singleton.mp z).symm
  exact I1.fpOk hle (I1.hok.fresh hle)
end L2
end -- FwEnum
section -- FwOps
set_option Elab.async false
set_option linter.all false
set_option maxRecDepth 100000
set_option maxHeartbeats 4000000
/-! FwOps: operators by an own class's methods. -/
namespace L2
open PySem PySem.Spec PyProof.Rows
theorem rel_notNI {v : V} {Q : Value → Shared → Prop} {u : Value} {s : Shared} (r : RelV v u) (q : Q u s) : PySem.W.CmpBack Q u s := by
  cases u with
  | notImplemented => cases v <;> exact (nomatch r)
  | _ => exact q
/-- x op y, x an instance of C, y another one, or an int or a text -/
def rOwn2 (C : Addr) (sp : Sp) : R2 := fun x y H Q => ∃ (g gx : Addr) (fg : List (Str × V)), x = .ref g ∧ H g = some (.ins C gx fg) ∧ ((∃ (o ox : Addr) (fo : List (Str × V)), y = .ref o ∧ H o = some (.ins C ox fo)) ∨ (∃ i, y = .int i)) ∧ sp [x, y] H Q E0
structure OwnOp (K : PySem.W.Frag) (C : Addr) (op : Operator) (f : Addr) : Prop where
  first : PySem.W.selfFirst K C = true
  at_ : PySem.W.findIn K (.ref C) (PySem.dunder op.info.2) = some (some (.ref f))
  fn : PySem.W.isFn K (.ref f) = true
  rat : PySem.W.findIn K (.ref C) (dunderR op.info.2) = some none
  i1 : ∃ fo, PySem.W.findIn K (.type "int") (PySem.dunder op.info.2) = some fo
  i2 : ∃ ro, PySem.W.findIn K (.type "int") (dunderR op.info.2) = some ro
  sub : PySem.W.subIn K (.type "int") (.ref C) = some false
theorem op_own2 {X : Cx} {op : Operator} {C f : Addr} {k : Nat} {fd : FuncData} {ps : List Str} {sp : Sp} (hm : OwnOp X.K C op f) (F : FnOk X.prog X.w X.K X.mg X.base (L2.CX X.prog X.w) k f fd ps sp) (hr : Room k X.A) (hb : Binds X.K fd ps []) : OpR X (binaryOp op) (rOwn2 C sp) := by
  intro pins s σ H x y v u Q I rx ry h
  obtain ⟨g, gx, fg, rfl, hg, hy, h⟩ := h
  obtain rfl : v = .ref g := rx
  obtain ⟨mA, O, _⟩ := ins_get I.hok hg
  obtain ⟨od, J, _⟩ := O.look
  have fin : wpAny (model X.prog X.w) X.A (call (.ref f) [.ref g, u]) (PySem.W.CmpBack (EP X pins σ Q)) X.xe s :=
    wpAny_mono (run_fn (us := [.ref g, u]) (vs := [.ref g, y]) F hr hb .nil passL I (.cons rfl (.cons ry .nil)) h) (fun r s' hq => by
      obtain ⟨b0, H', J', rv, q⟩ := hq
      exact rel_notNI (Q := EP X pins σ Q) rv ⟨b0, H', J', rv, q⟩) fun _ _ z => z
  rcases hy with ⟨o, ox, fo, rfl, ho⟩ | ⟨i, rfl⟩
  · obtain rfl : u = .ref o := ry
    obtain ⟨mB, O2, _⟩ := ins_get I.hok ho
    obtain ⟨od2, J2, _⟩ := O2.look
    obtain ⟨m, hfr⟩ := I.fr
    exact PySem.W.binop_K hfr I.ok.mod.kin J (J2.type (M := model X.prog X.w)) hm.first hm.at_ hm.fn fin
  · obtain ⟨t, rfl⟩ := ry
    obtain ⟨fo, h1⟩ := hm.i1
    obtain ⟨ro, h2⟩ := hm.i2
    obtain ⟨m, hfr⟩ := I.fr
    exact PySem.W.ksp_binT (T := "int") hfr I.ok.mod.kin J rfl hm.first hm.at_ hm.fn hm.rat (.inl rfl) h1 h2 hm.sub fin
end L2
end -- FwOps
section -- FwOps2
set_option Elab.async false
set_option linter.all false
set_option maxRecDepth 100000
set_option maxHeartbeats 4000000
/-! FwOps2: ==, !=, -, str, repr by an own class's methods. -/
namespace L2
open PySem PySem.Spec PyProof.Rows
section
variable {X : Cx} {pins : List (Addr × Obj)} {σ : St} {H : Hp} {s : Shared} {k : Nat} {C f : Addr} {fd : FuncData} {ps : List Str} {sp : Sp}
theorem run_at {A' : Around} {E' : Value → Shared → Prop} {us : List Value} {vs : List V} {Q : VK} (e0 : Env0 X.prog X.w X.K X.mg X.base A' X.stack s H) (F : FnOk X.prog X.w X.K X.mg X.base (L2.CX X.prog X.w) k f fd ps sp) (hr : Room k A') (hb : Binds X.K fd ps [])
    (I : Inv X pins σ H s) (r : Vals vs us) (h : sp vs H Q E0) : wpAny (model X.prog X.w) A' (call (.ref f) us) (EP X pins σ Q) E' s := by
  have hl : us.length = ps.length := by rw [← r.length]; exact F.len _ _ _ _ h
  have b := hb s us I.kIn (by rw [List.append_nil]; exact hl)
  rw [List.append_nil] at b
  refine wpAny_call (codeAny_mono (F.run A' X.stack s H ⟨us, []⟩ us vs Q E0 hr e0 b r h) fun r s' hq => ?_)
  cases r with
  | error e =>
    obtain ⟨_, _, _, _, _, _, _, _, _, _, _, _, z⟩ := hq
    exact z.elim
  | ok fl =>
    cases fl with
    | ret u => exact I.after hq
    | next => exact False.elim hq
    | brk => exact False.elim hq
    | cont => exact False.elim hq
theorem looks_ty {y : V} {u t : Value} (I : Inv X pins σ H s) (ry : RelV y u) (ty : TyG X.K X.w H y t) : PySem.W.Looks (model X.prog X.w) s.heap (typeOf u) t := by
  cases ty with
  | x h =>
    obtain ⟨P, kx, hP, _⟩ := kit_of I ry h
    exact kx.ty _ _ I.kIn hP
  | @dn a kvs ha =>
    obtain rfl : u = .ref a := ry
    obtain ⟨hs, o, es, ep, e1, e2, e3, kv⟩ := dn_at I ha
    exact (PySem.W.kitx_dict (K := X.K)).ty _ _ I.kIn ⟨o, e1, e2.1⟩
  | @ex a C d fs ha hd c =>
    obtain rfl : u = .ref a := ry
    obtain ⟨ox, od, mA, J, g2, rel⟩ := ex_inst I.hok ha hd
    exact J.type
def tys7 : List String := ["NoneType", "bool", "int", "str", "list", "tuple", "dict"]
structure OwnEq (K : PySem.W.Frag) (C f : Addr) : Prop where
  at_ : PySem.W.findIn K (.ref C) "__eq__" = some (some (.ref f))
  ne_ : PySem.W.findIn K (.ref C) "__ne__" = some (some (.builtin "object.__ne__"))
  ob : PySem.W.mroIn K C (.type "object") = some true
  fn : PySem.W.isFn K (.ref f) = true
  sub : ∀ t ∈ tys7, PySem.W.subIn K (.type t) (.ref C) = some false
def TyE (K : PySem.W.Frag) (w : World) (C : Addr) (H : Hp) (y : V) : Prop := ∃ t, TyG K w H y t ∧ (t = .ref C ∨ ∃ n ∈ tys7, t = .type n)
def rEqOwn (K : PySem.W.Frag) (w : World) (C : Addr) (sp : Sp) : R2 := fun x y H Q => ∃ (g gx : Addr) (fg : List (Str × V)), x = .ref g ∧ H g = some (.ins C gx fg) ∧ TyE K w C H y ∧ sp [x, y] H Q E0
theorem OwnEq.nf {K : PySem.W.Frag} (h : OwnEq K C f) {t : Value} (ht : t = .ref C ∨ ∃ n ∈ tys7, t = .type n) : PySem.W.notFirst K C t = true := by
  unfold PySem.W.notFirst
  rcases ht with rfl | ⟨n, hn, rfl⟩
  · simp
  · rw [h.sub n hn]
    simp
theorem op_eqOwn (hm : OwnEq X.K C f) (F : FnOk X.prog X.w X.K X.mg X.base (L2.CX X.prog X.w) k f fd ps sp) (hr : Room k X.A) (hb : Binds X.K fd ps []) (hu : X.A.units + 64 < cLine) : OpR X (compareOp .Eq) (rEqOwn X.K X.w C sp) := by
  intro pins s σ H x y v u Q I rx ry h
  obtain ⟨g, gx, fg, rfl, hg, ⟨t, ty, ht⟩, h⟩ := h
  obtain rfl : v = .ref g := rx
  obtain ⟨mA, O, _⟩ := ins_get I.hok hg
  obtain ⟨od, J, _⟩ := O.look
  obtain ⟨m, hfr⟩ := I.fr
  show wpAny _ _ (richCompare .Eq (.ref g) u) _ _ s
  exact PySem.W.cmp_K (by omega) hfr I.ok.mod.kin J (looks_ty I ry ty) (hm.nf ht) hm.at_ hm.fn
    (wpAny_mono (run_fn (us := [.ref g, u]) (vs := [.ref g, y]) F hr hb .nil passL I (.cons rfl (.cons ry .nil)) h) (fun r s' hq => by
      obtain ⟨b0, H', J', rv, q⟩ := hq
      exact rel_notNI (Q := EP X pins σ Q) rv ⟨b0, H', J', rv, q⟩) fun _ _ z => z)
theorem un_negOwn (at_ : PySem.W.findIn X.K (.ref C) "__neg__" = some (some (.ref f))) (fn : PySem.W.isFn X.K (.ref f) = true) (F : FnOk X.prog X.w X.K X.mg X.base (L2.CX X.prog X.w) k f fd ps sp) (hr : Room k X.A) (hb : Binds X.K fd ps []) :
    UnR X (unaryOp .USub) (fun x H Q => ∃ (g gx : Addr) (fg : List (Str × V)), x = .ref g ∧ H g = some (.ins C gx fg) ∧ sp [x] H Q E0) := by
  intro pins s σ H x v Q I rx h
  obtain ⟨g, gx, fg, rfl, hg, h⟩ := h
  obtain rfl : v = .ref g := rx
  obtain ⟨mA, O, _⟩ := ins_get I.hok hg
  obtain ⟨od, J, _⟩ := O.look
  obtain ⟨m, hfr⟩ := I.fr
  exact PySem.W.ksp_neg hfr I.ok.mod.kin J at_ fn (run_fn (us := [.ref g]) (vs := [.ref g]) F hr hb .nil passL I (.cons rfl .nil) h)
/-- a def's answer that is a text -/
def rTxtOwn (C : Addr) (sp : Sp) : List V → Hp → VK → Prop := fun xs H Q => ∃ (g gx : Addr) (fg : List (Str × V)), xs = [.ref g] ∧ H g = some (.ins C gx fg) ∧ sp [.ref g] H (fun v H' => ∃ z, v = .str z ∧ Q v H') E0
theorem strBack {Q : VK} {v : Value} {s' : Shared} (h : EP X pins σ (fun v H' => ∃ z, v = .str z ∧ Q v H') v s') : PySem.W.StrBack (EP X pins σ Q) v s' := by
  obtain ⟨v0, H', J', rv, z, rfl, q⟩ := h
  obtain ⟨t, rfl⟩ := rv
  exact ⟨.str z, H', J', ⟨t, rfl⟩, q⟩
theorem call_strOwn (at_ : PySem.W.findIn X.K (.ref C) "__str__" = some (some (.ref f))) (fn : PySem.W.isFn X.K (.ref f) = true) (F : FnOk X.prog X.w X.K X.mg X.base (L2.CX X.prog X.w) k f fd ps sp) (hr : Room (k + 2) X.A) (hb : Binds X.K fd ps []) :
    CallR X (.type "str") (rTxtOwn C sp) := by
  intro pins s σ H xs us Q I r h
  obtain ⟨g, gx, fg, rfl, hg, h⟩ := h
  obtain ⟨u, rfl, hu⟩ : ∃ u, us = [u] ∧ RelV (.ref g) u := by
    cases r with
    | cons r1 r2 => cases r2; exact ⟨_, rfl, r1⟩
  obtain rfl : u = .ref g := hu
  obtain ⟨mA, O, _⟩ := ins_get I.hok hg
  obtain ⟨od, J, _⟩ := O.look
  have hr2 := hr.in1.in1
  exact PySem.W.kso_call (by have := hr2.un; omega) I.kIn J at_ fn (wpAny_mono (run_at (us := [.ref g]) (vs := [.ref g]) I.env0.in1.in1 F hr2 hb I (.cons rfl .nil) h) (fun v s' hq => strBack hq) fun _ _ z => z)
theorem call_reprOwn (at_ : PySem.W.findIn X.K (.ref C) "__repr__" = some (some (.ref f))) (fn : PySem.W.isFn X.K (.ref f) = true) (F : FnOk X.prog X.w X.K X.mg X.base (L2.CX X.prog X.w) k f fd ps sp) (hr : Room (k + 1) X.A) (hb : Binds X.K fd ps []) :
    CallR X (.builtin "repr") (rTxtOwn C sp) := by
  intro pins s σ H xs us Q I r h
  obtain ⟨g, gx, fg, rfl, hg, h⟩ := h
  obtain ⟨u, rfl, hu⟩ : ∃ u, us = [u] ∧ RelV (.ref g) u := by
    cases r with
    | cons r1 r2 => cases r2; exact ⟨_, rfl, r1⟩
  obtain rfl : u = .ref g := hu
  obtain ⟨mA, O, _⟩ := ins_get I.hok hg
  obtain ⟨od, J, _⟩ := O.look
  obtain ⟨m, hfr⟩ := I.fr
  have hr2 := hr.in1
  exact PySem.W.repr_K (by have := hr2.un; omega) hfr I.ok.mod.kin J at_ fn (wpAny_mono (run_at (us := [.ref g]) (vs := [.ref g]) I.env0.in1 F hr2 hb I (.cons rfl .nil) h) (fun v s' hq => strBack hq) fun _ _ z => z)
/-- x != y by the own __eq__ -/
def rNeOwn (K : PySem.W.Frag) (w : World) (C : Addr) (sp : Sp) : R2 := fun x y H Q => ∃ (g gx : Addr) (fg : List (Str × V)), x = .ref g ∧ H g = some (.ins C gx fg) ∧ TyE K w C H y ∧ sp [x, y] H (fun v H' => ∃ b, v = .bl b ∧ Q (.bl (!b)) H') E0
theorem op_neOwn (hm : OwnEq X.K C f) (Fk : FnOk X.prog X.w X.K X.mg X.base (L2.CX X.prog X.w) k f fd ps sp) (hr : Room (k + 1) X.A) (hb : Binds X.K fd ps []) : OpR X (compareOp .NotEq) (rNeOwn X.K X.w C sp) := by
  intro pins s σ H x y v u Q I rx ry h
  obtain ⟨g, gx, fg, rfl, hg, ⟨t, ty, ht⟩, h⟩ := h
  obtain rfl : v = .ref g := rx
  obtain ⟨mA, O, _⟩ := ins_get I.hok hg
  obtain ⟨od, J, _⟩ := O.look
  have hr2 := hr.in1
  have LB := looks_ty I ry ty
  have inner : wpAny (model X.prog X.w) X.A.in1 (callSpecialIfBound? (.ref g) "__eq__" [u]) (fun r s' => ∃ b, r = some (.bool b) ∧ EP X pins σ Q (.bool !b) s') X.xe s :=
    PySem.W.ifBound_K I.kIn J hm.at_ hm.fn (wpAny_mono (run_at (us := [.ref g, u]) (vs := [.ref g, y]) I.env0.in1 Fk hr2 hb I (.cons rfl (.cons ry .nil)) h) (fun r s' hq => by
      obtain ⟨v0, H', J', rv, b, rfl, q⟩ := hq
      obtain rfl : r = .bool b := rv
      exact ⟨b, rfl, .bl !b, H', J', rfl, q⟩) fun _ _ z => z)
  have hu : X.A.in1.units < cLine := by have := hr2.un; omega
  have hu0 : X.A.units < cLine := by have := hr.un; omega
  have entry : wpAny (model X.prog X.w) X.A.in1 (Builtin.«object.__ne__» ⟨[.ref g, u], []⟩) (fun r s' => ∃ b, r = .done (.ret (.bool b)) ∧ EP X pins σ Q (.bool b) s') X.xe s := by
    unfold Builtin.«object.__ne__»
    refine wpAny_bind (m := slotArgs "__ne__" 1 _) (wpAny_pure ?_)
    refine wpAny_bind (wpAny_cRoomFor hu ?_)
    refine wpAny_bind (m := callSpecialIfBound? (.ref g) (Str.ofString "__eq__") [u]) (wpAny_mono inner (fun r s' hq => ?_) fun _ _ z => z)
    obtain ⟨b, rfl, q⟩ := hq
    exact wpAny_bind (wpAny_truthy_bool (wpAny_pure ⟨!b, rfl, q⟩))
  have called : wpAny (model X.prog X.w) X.A (call (.builtin "object.__ne__") [.ref g, u]) (fun r s' => ∃ b, r = .bool b ∧ EP X pins σ Q (.bool b) s') X.xe s :=
    wpAny_call (codeAny_call_builtin PySem.F.cmp_object.ne.plain PySem.F.cmpEntry_ne (PySem.W.check_slot PySem.F.cmpKind_ne PySem.F.cmpSplit_ne (J.type.andThen (PySem.W.looks_mroIn I.kIn hm.ob)) (PySem.F.cmpArgs_ne _ _) (wpAny_mono entry (fun r s' hq => by
      obtain ⟨b, rfl, q⟩ := hq
      exact ⟨b, rfl, q⟩) fun _ _ z => z)))
  have bound : wpAny (model X.prog X.w) X.A (callSpecialIfBound? (.ref g) "__ne__" [u]) (fun r s' => ∃ b, r = some (.bool b) ∧ EP X pins σ Q (.bool b) s') X.xe s := by
    simp only [callSpecialIfBound?, bindSpecialIfBound?]
    refine wpAny_holding (wpAny_bind (wpAny_bind (wpAny_bind (J.type.here ((PySem.W.looks_findIn I.kIn hm.ne_).here ?_)))))
    refine wpAny_bind (wpAny_askSetting (wpAny_ite ?_))
    have fin : wpAny (model X.prog X.w) X.A (call (.builtin "object.__ne__") ([.ref g] ++ [u]) >>= fun v => pure (some v)) (fun r s' => ∃ b, r = some (.bool b) ∧ EP X pins σ Q (.bool b) s') X.xe s := wpAny_bind (wpAny_mono called (fun v s' h' => wpAny_pure (by
      obtain ⟨b, rfl, q⟩ := h'
      exact ⟨b, rfl, q⟩)) fun _ _ h' => h')
    split
    · exact wpAny_bind (wpAny_of_eq (PySem.F.cmp_object.ne.bind _) (wpAny_pure (by exact fin)))
    · exact wpAny_tryCatch (wpAny_bind (wpAny_of_eq (PySem.F.cmp_object.ne.bind _) (wpAny_pure (by exact fin))))
  have one : wpAny (model X.prog X.w) X.A (tryCompare (.ref g) "__ne__" u) (fun r s' => ∃ v, r = some v ∧ EP X pins σ Q v s') X.xe s := by
    unfold tryCompare
    refine wpAny_bind (wpAny_mono bound (fun v s' hv => ?_) fun _ _ e => e)
    obtain ⟨b, rfl, q⟩ := hv
    exact wpAny_pure ⟨_, rfl, q⟩
  show wpAny _ _ (richCompare .NotEq (.ref g) u) _ _ s
  unfold richCompare
  simp only [oneThing_ref]
  refine wpAny_holding (wpAny_bind (wpAny_cRoomFor hu0 ?_))
  refine wpAny_bind (J.type.here (wpAny_bind (LB.here ?_)))
  split
  · rename_i q
    have e : PySem.W.subIn X.K t (.ref C) = some false := by
      rcases Bool.or_eq_true_iff.mp (hm.nf ht) with e | e
      · rw [beq_iff_eq.mp e] at q; simp at q
      · exact beq_iff_eq.mp e
    refine wpAny_bind ((PySem.W.looks_subIn I.kIn e).here ?_)
    simp only [Bool.false_eq_true, if_false]
    refine wpAny_bind (wpAny_mono one (fun r s' z => ?_) fun _ _ e => e)
    obtain ⟨v, rfl, hq⟩ := z
    exact wpAny_pure hq
  · refine wpAny_bind (wpAny_pure ?_)
    simp only [Bool.false_eq_true, if_false]
    refine wpAny_bind (wpAny_mono one (fun r s' z => ?_) fun _ _ e => e)
    obtain ⟨v, rfl, hq⟩ := z
    exact wpAny_pure hq
end
end L2
end -- FwOps2
section -- FwKit1
set_option Elab.async false
set_option linter.all false
set_option maxRecDepth 100000
set_option maxHeartbeats 4000000
/-! FwKit1: the head's facts of own operators; static methods called off their class. -/
namespace L2
open PySem PySem.Spec PyProof.Rows
theorem a5 {a b c d e : Bool} (h : (a && (b && (c && (d && e)))) = true) : a = true ∧ b = true ∧ c = true ∧ d = true ∧ e = true := by
  cases a <;> cases b <;> cases c <;> cases d <;> cases e <;> simp_all
def ownOpB (K : PySem.W.Frag) (C : Addr) (op : Operator) (f : Addr) : Bool :=
  (PySem.W.selfFirst K C && PySem.W.isFn K (.ref f)) && (He.eqO (PySem.W.findIn K (.ref C) (PySem.dunder op.info.2)) (some (some (.ref f))) && (He.eqO (PySem.W.findIn K (.ref C) (dunderR op.info.2)) (some none) &&
    (((PySem.W.findIn K (.type "int") (PySem.dunder op.info.2)).isSome && (PySem.W.findIn K (.type "int") (dunderR op.info.2)).isSome) && decide (PySem.W.subIn K (.type "int") (.ref C) = some false))))
theorem ownOp_ok {K : PySem.W.Frag} {C : Addr} {op : Operator} {f : Addr} (h : ownOpB K C op f = true) : OwnOp K C op f := by
  obtain ⟨h1, h⟩ := Bool.and_eq_true_iff.mp h
  obtain ⟨h1, h2⟩ := Bool.and_eq_true_iff.mp h1
  obtain ⟨h3, h⟩ := Bool.and_eq_true_iff.mp h
  obtain ⟨h4, h⟩ := Bool.and_eq_true_iff.mp h
  obtain ⟨h5, h7⟩ := Bool.and_eq_true_iff.mp h
  obtain ⟨h5, h6⟩ := Bool.and_eq_true_iff.mp h5
  exact ⟨h1, He.eqO_ok h3, h2, He.eqO_ok h4, Option.isSome_iff_exists.mp h5, Option.isSome_iff_exists.mp h6, of_decide_eq_true h7⟩
def ownEqB (K : PySem.W.Frag) (C f : Addr) : Bool :=
  He.eqO (PySem.W.findIn K (.ref C) "__eq__") (some (some (.ref f))) && (He.eqO (PySem.W.findIn K (.ref C) "__ne__") (some (some (.builtin "object.__ne__"))) && (decide (PySem.W.mroIn K C (.type "object") = some true) && (PySem.W.isFn K (.ref f) &&
    tys7.all fun t => decide (PySem.W.subIn K (.type t) (.ref C) = some false))))
theorem ownEq_ok {K : PySem.W.Frag} {C f : Addr} (h : ownEqB K C f = true) : OwnEq K C f := by
  obtain ⟨h1, h2, h3, h4, h5⟩ := a5 h
  exact ⟨He.eqO_ok h1, He.eqO_ok h2, of_decide_eq_true h3, h4, fun t ht => of_decide_eq_true (List.all_eq_true.mp h5 t ht)⟩
/-- a method of a class, found as a special one -/
structure OwnSp (K : PySem.W.Frag) (C : Addr) (m : Str) (f : Addr) : Prop where
  at_ : PySem.W.findIn K (.ref C) m = some (some (.ref f))
  fn : PySem.W.isFn K (.ref f) = true
def ownSpB (K : PySem.W.Frag) (C : Addr) (m : Str) (f : Addr) : Bool := He.eqO (PySem.W.findIn K (.ref C) m) (some (some (.ref f))) && PySem.W.isFn K (.ref f)
theorem ownSp_ok {K : PySem.W.Frag} {C : Addr} {m : Str} {f : Addr} (h : ownSpB K C m f = true) : OwnSp K C m f := ⟨He.eqO_ok (Bool.and_eq_true_iff.mp h).1, (Bool.and_eq_true_iff.mp h).2⟩
/-! ### static methods -/
structure SMet (K : PySem.W.Frag) (C : Addr) (mc : Value) (m : Str) (p g : Addr) : Prop where
  rd : PySem.W.readsIn K C mc = true
  ga : PySem.W.specialIn K (.ref C) "__getattribute__" = some (some (.builtin "type.__getattribute__"))
  at_ : PySem.W.findCls K (.ref C) mc m = some (.get (.builtin "staticmethod.__get__") (.ref p) .none (.ref C))
  rc : ∃ rest, PySem.W.recIn K p "staticmethod" = some (.ref g :: rest)
  kp : PySem.W.keepIn K (.ref g) = true
def headIs (o : Option (List Value)) (v : Value) : Bool := match o with
  | some (x :: _) => decide (x = v)
  | _ => false
theorem headIs_ok {o : Option (List Value)} {v : Value} (h : headIs o v = true) : ∃ r, o = some (v :: r) := by
  unfold headIs at h
  split at h
  · exact ⟨_, by rw [of_decide_eq_true h]⟩
  · cases h
section
variable {X : Cx} {pins : List (Addr × Obj)} {σ : L2.St} {H : Hp} {s : Shared} {C p g : Addr} {mc : Value} {m : Str} {A : Around} {E : Value → Shared → Prop}
theorem getmethsm_ok {pl : Sem Bool} {Q : Value × List Value → Shared → Prop} (I : Inv X pins σ H s) (k : SMet X.K C mc m p g) (h : ∀ s', Inv X pins σ H s' → Q (.ref g, []) s') : wpAny (model X.prog X.w) A (getMethod (.ref C) m pl) Q E s := by
  refine PySem.W.method_cls I.kIn k.ga ?_
  obtain ⟨rest, hp⟩ := k.rc
  refine PySem.W.cls_bind I.kIn k.rd k.at_ ?_
  exact wpAny_call (PySem.W.sm_get (s := { s with toks := s.toks + 1 }) I.kIn hp (PySem.W.handed_on rfl (h _ (I.tok _))))
end
def tStat (C : Addr) (sp : Sp) (E : XK) (ta : TE) (t : TA) : TE := fun σ H Q => ta σ H fun x H1 => x = .ref C ∧ t σ H1 fun vs H2 => sp vs H2 Q E
theorem pe_stat {X : Cx} {CX : CXT} {k : Nat} {C p g : Addr} {fd : FuncData} {ps : List Str} {mc : Value} {sp : Sp} {E : XK} {o e : Expr} {es : List Expr} {m : Str} {pos apos : Pos} {ta : TE} {t : TA} {pl : Sem Bool} (he : PE X o ta) (c : SMet X.K C mc m p g) (F : FnOk X.prog X.w X.K X.mg X.base CX k g fd ps sp) (hr : Room k X.A)
    (hb : Binds X.K fd ps []) (hx : Passes CX X E) (ha : PA X (e :: es) t) (hst : starEach (e :: es) X.env = (false, eval e X.env) :: starEach es X.env := by rfl) (hpl : (backTo pos (starEach es X.env)).any (·.1) = false := by rfl)
    (ht : eval (.Call (.Attribute o m apos) (e :: es) [] pos) X.env = (do
      let ov ← eval o X.env
      standAt apos.atName
      let (f, first) ← holding [ov] (getMethod ov m pl)
      callWith pos f first (backTo pos (starEach (e :: es) X.env)) (backToKw pos (keywordEach [] X.env))) := by rfl) :
    PE X (.Call (.Attribute o m apos) (e :: es) [] pos) (tStat C sp E ta t) := by
  refine ⟨fun pins s σ H Q I h => ?_⟩
  refine PySem.W.methodCall_KW (pl := pl) (thn (he.run pins s σ H _ I h) fun u s1 ⟨x, H1, I1, rx, ex, q⟩ => ?_) ht
  subst ex
  obtain rfl : u = Value.ref C := rx
  refine getmethsm_ok I1 c fun s2 I2 => ?_
  refine PySem.W.callWith_K (first := []) (h₀ := X.base) I.ok.mod.kin c.kp (thn (ha.run pos _ s2 σ H1 _ I2 q) fun us s3 ⟨vs, H2, I3, rv, q2⟩ => ⟨I3.kIn, ?_⟩) hst hpl
  have z := run_fn (us := us) (vs := vs) F hr hb .nil hx I3 rv (by rw [List.append_nil]; exact q2)
  exact z
end L2
end -- FwKit1
section -- FwHook
set_option Elab.async false
set_option linter.all false
set_option maxRecDepth 100000
set_option maxHeartbeats 4000000
/-! FwHook: the head's facts over a written list of addresses. -/
namespace L2
open PySem PySem.Spec PyProof.Rows
abbrev AlN : Type := He.AlD × Bool
def obsN (as : List Addr) (fa : List He.Fa) (fn : List He.DefD) (ex : PySem.W.Frag → Bool) (g : Addr → Option Obj) : AlN := (He.obsD fa fn (He.frG g as), ex (He.frG g as))
def hookN (as : List Addr) (fa : List He.Fa) (fn : List He.DefD) (ex : PySem.W.Frag → Bool) : PySem.W.Hook where
  α := AlN
  obs := fun s => obsN as fa fn ex s.heap.get?
  val := fun _ => (He.valD fn, true)
  says := fun _ h => ∃ K : PySem.W.Frag, K.In h ∧ He.SaysD fa fn K ∧ ex K = true
  of := fun _ _ e => ⟨_, He.frG_in, congrArg (fun z : AlN => z.1) e, congrArg (fun z : AlN => z.2) e⟩
  keeps := fun _ _ _ ⟨K, hK, c⟩ k => ⟨K, PySem.W.Frag.In.keeps hK k, c⟩
theorem obsN_eq {as : List Addr} {fa : List He.Fa} {fn : List He.DefD} {ex : PySem.W.Frag → Bool} {g : Addr → Option Obj} {s : Shared} (h : ∀ a, g a = s.heap.get? a) : obsN as fa fn ex g = (hookN as fa fn ex).obs s := by
  have e : g = s.heap.get? := funext h
  rw [e] <;> rfl
theorem tx_of {fa : List He.Fa} {fn : List He.DefD} {ex : PySem.W.Frag → Bool} {K : PySem.W.Frag} {mg : Str → Option Value} {h : Heap} (hK : K.In h) (G : h.Ns mainGlobals mg) (c : He.SaysD fa fn K) (e : ex K = true) : Tx fa fn ex K mg :=
  ⟨fun i _ hi => c.fact i hi, fun i _ hi => c.def_ i hi, e, ⟨h, hK, G⟩⟩
end L2
end -- FwHook
section -- FwHookS
set_option Elab.async false
set_option linter.all false
set_option maxRecDepth 100000
set_option maxHeartbeats 4000000
/-! FwHookS: the head's facts with static methods. -/
namespace L2
open PySem PySem.Spec PyProof.Rows
/-- the function behind a static method -/
def saS (K : PySem.W.Frag) (p : Str × Str) : Addr := match PySem.W.recIn K (He.ma K (He.ga K p.1) p.2) "staticmethod" with
  | some (.ref g :: _) => g
  | _ => 0
def fnWs (K : PySem.W.Frag) (a : Addr) : He.FnW := match K.lookup a with
  | some ⟨_, _, .func fd, _⟩ => some (fd.name, fd.qualname, fd.params, fd.body, fd.scope, fd.globals, fd.closure, fd.builtins)
  | _ => none
def okS (K : PySem.W.Frag) (a : Addr) (d : He.DefD) : Bool := PySem.W.keepIn K (.ref a) && (match K.lookup a with
  | some ⟨_, _, .func fd, _⟩ => PySem.W.codeIn K fd.code d.qual && (He.dflB K fd.defaults (d.dvs K) && He.kwdB K fd.kwdefaults (d.kws K))
  | _ => false)
theorem funS {K : PySem.W.Frag} {a : Addr} {d : He.DefD} (e : fnWs K a = d.val) (c : okS K a d = true) : ∃ fd, FunD K d.name d.qual d.params d.body d.scope (d.dvs K) (d.kws K) a fd := by
  obtain ⟨kp, c2⟩ := He.ba c
  unfold fnWs at e
  cases q : K.lookup a with
  | none =>
    rw [q] at c2
    cases c2
  | some o =>
    obtain ⟨oc, od, dt, osl⟩ := o
    rw [q] at c2 e
    cases dt with
    | func fd =>
      obtain ⟨n1, n2, n3, n4, n5, n6, n7, n8, n9, n10, n11, n12, n13, n14, n15⟩ := fd
      have e2 : (some (n1, n2, n3, n4, n5, n6, n7, n15) : He.FnW) = some (d.name, d.qual, d.params, .stmts d.body, d.scope, mainGlobals, [], builtinsNs) := e
      simp only [Option.some.injEq, Prod.mk.injEq] at e2
      obtain ⟨h1, h2, h3, h4, h5, h6, h7, h8⟩ := e2
      subst h1 h2 h3 h4 h5 h6 h7 h8
      have c3 : (PySem.W.codeIn K n13 d.qual && (He.dflB K n8 (d.dvs K) && He.kwdB K n9 (d.kws K))) = true := c2
      obtain ⟨k1, k2⟩ := He.ba c3
      obtain ⟨k3, k4⟩ := He.ba k2
      exact ⟨_, ⟨oc, od, n8, n9, n10, n11, n12, n13, n14, osl, rfl, q, k1, He.dflB_ok k3, He.kwdB_ok k4⟩, kp⟩
    | _ => cases c2
def isSm (o : Option PySem.W.CFound) (p C : Addr) : Bool := match o with
  | some (.get (.builtin i) (.ref a) .none (.ref c)) => decide (i = "staticmethod.__get__") && (decide (a = p) && decide (c = C))
  | _ => false
theorem isSm_ok {o : Option PySem.W.CFound} {p C : Addr} (h : isSm o p C = true) : o = some (.get (.builtin "staticmethod.__get__") (.ref p) .none (.ref C)) := by
  unfold isSm at h
  split at h
  · simp only [Bool.and_eq_true, decide_eq_true_eq] at h
    obtain ⟨rfl, rfl, rfl⟩ := h
    rfl
  · cases h
abbrev StD : Type := (Str × Str) × He.DefD
abbrev AlS : Type := (He.AlD × Bool) × (Bool × List He.FnW)
def obS (st : List StD) (K : PySem.W.Frag) : Bool × List He.FnW := (st.all fun d => okS K (saS K d.1) d.2, st.map fun d => fnWs K (saS K d.1))
def vaS (st : List StD) : Bool × List He.FnW := (true, st.map fun d => d.2.val)
def SaysS (st : List StD) (K : PySem.W.Frag) : Prop := obS st K = vaS st
/-- the tables of the defs that make lambdas: empty, not in K -/
structure SaysC (tf : List He.Defn) (h : Heap) (K : PySem.W.Frag) : Prop where
  hd : ∀ p ∈ tf, PySem.W.codeHdIn K (He.cT K p).1 (He.cT K p).2 = true
  out : ∀ p ∈ tf, K.lookup (He.cT K p).2 = none
  empty : ∀ p ∈ tf, h.get? (He.cT K p).2 = some { cls := .none, data := .fields #[] }
def obsS (as : List Addr) (fa : List He.Fa) (fn : List He.DefD) (st : List StD) (tf : List He.Defn) (ex : PySem.W.Frag → Bool) (g : Addr → Option Obj) : AlS :=
  ((He.obsD fa fn (He.frT g as), ex (He.frT g as) && He.tabsB g tf (He.frT g as)), obS st (He.frT g as))
def valS (fn : List He.DefD) (st : List StD) : AlS := ((He.valD fn, true), vaS st)
theorem saysC_of {as : List Addr} {fa : List He.Fa} {fn : List He.DefD} {st : List StD} {tf : List He.Defn} {ex : PySem.W.Frag → Bool} {h : Heap} (e : obsS as fa fn st tf ex h.get? = valS fn st) :
    He.SaysD fa fn (He.frT h.get? as) ∧ ex (He.frT h.get? as) = true ∧ SaysS st (He.frT h.get? as) ∧ SaysC tf h (He.frT h.get? as) := by
  have e1 : He.SaysD fa fn (He.frT h.get? as) := congrArg (fun z : AlS => z.1.1) e
  have e2 : (ex (He.frT h.get? as) && He.tabsB h.get? tf (He.frT h.get? as)) = true := congrArg (fun z : AlS => z.1.2) e
  have e3 : SaysS st (He.frT h.get? as) := congrArg (fun z : AlS => z.2) e
  obtain ⟨h1, h2⟩ := He.ba e2
  have key : ∀ p ∈ tf, PySem.W.codeHdIn (He.frT h.get? as) (He.cT (He.frT h.get? as) p).1 (He.cT (He.frT h.get? as) p).2 = true ∧ ∃ o, h.get? (He.cT (He.frT h.get? as) p).2 = some o ∧ He.emptyTab o = true := fun p hp => by
    obtain ⟨h3, h4⟩ := He.ba (List.all_eq_true.mp h2 p hp)
    refine ⟨h3, ?_⟩
    cases q : h.get? (He.cT (He.frT h.get? as) p).2 with
    | none =>
      rw [q] at h4
      cases h4
    | some o =>
      rw [q] at h4
      exact ⟨o, rfl, h4⟩
  refine ⟨e1, h1, e3, fun p hp => (key p hp).1, fun p hp => ?_, fun p hp => ?_⟩
  · obtain ⟨_, o, q, z⟩ := key p hp
    exact He.frT_none q z
  · obtain ⟨_, o, q, z⟩ := key p hp
    rw [q, He.emptyTab_eq z]
def hookS (as : List Addr) (fa : List He.Fa) (fn : List He.DefD) (st : List StD) (tf : List He.Defn) (ex : PySem.W.Frag → Bool) : PySem.W.Hook where
  α := AlS
  obs := fun s => obsS as fa fn st tf ex s.heap.get?
  val := fun _ => valS fn st
  says := fun _ h => ∃ K : PySem.W.Frag, K.In h ∧ He.SaysD fa fn K ∧ ex K = true ∧ SaysS st K ∧ SaysC tf h K
  of := fun _ _ e => ⟨_, He.frT_in, saysC_of e⟩
  keeps := fun _ _ _ ⟨K, hK, c1, c2, c3, c⟩ k => ⟨K, PySem.W.Frag.In.keeps hK k, c1, c2, c3, ⟨c.hd, c.out, fun p hp => k _ _ (c.empty p hp)⟩⟩
theorem obsS_eq {as : List Addr} {fa : List He.Fa} {fn : List He.DefD} {st : List StD} {tf : List He.Defn} {ex : PySem.W.Frag → Bool} {g : Addr → Option Obj} {s : Shared} (h : ∀ a, g a = s.heap.get? a) : obsS as fa fn st tf ex g = (hookS as fa fn st tf ex).obs s := by
  have e : g = s.heap.get? := funext h
  rw [e] <;> rfl
/-- what the texts lean on, with static methods -/
structure TxS (fa : List He.Fa) (fn : List He.DefD) (st : List StD) (ex : PySem.W.Frag → Bool) (K : PySem.W.Frag) (mg : Str → Option Value) : Prop extends Tx fa fn ex K mg where
  says : SaysS st K
theorem TxS.stat {fa : List He.Fa} {fn : List He.DefD} {st : List StD} {ex : PySem.W.Frag → Bool} {K : PySem.W.Frag} {mg : Str → Option Value} (T : TxS fa fn st ex K mg) (i : Nat) {d : StD} (h : st[i]? = some d := by rfl) :
    ∃ fd, FunD K d.2.name d.2.qual d.2.params d.2.body d.2.scope (d.2.dvs K) (d.2.kws K) (saS K d.1) fd := by
  have c2 : (st.all fun d => okS K (saS K d.1) d.2) = true := congrArg (fun z : Bool × List He.FnW => z.1) T.says
  have e : (st.map fun d => fnWs K (saS K d.1)) = st.map fun d => d.2.val := congrArg (fun z : Bool × List He.FnW => z.2) T.says
  have e2 : (st.map fun d => fnWs K (saS K d.1))[i]? = (st.map fun d => d.2.val)[i]? := by rw [e]
  rw [List.getElem?_map, List.getElem?_map, h] at e2
  exact funS (Option.some.inj e2) (List.all_eq_true.mp c2 d (List.mem_of_getElem? h))
end L2
end -- FwHookS
section -- a0
set_option Elab.async false
set_option linter.all false
set_option maxRecDepth 100000
set_option maxHeartbeats 4000000
namespace K01
open PySem PySem.Spec PyProof.Rows L2
def top (i : Nat) : Stmt := PySem.Challenge.pw_fewestcells_k01_ratios_beside_pairs.main.body.getD i (.Pass ⟨0, 0, 0, 0⟩)
abbrev s__law_bag : Stmt := top 23
abbrev N__law_bag : List Str := ["script", "mix", "item"]
theorem sc__law_bag : FnScope N__law_bag ["script"] (defScope s__law_bag) := ⟨rfl, rfl, rfl, by decide +kernel, rfl, by decide +kernel, by decide +kernel⟩
abbrev d__law_bag : He.DefD := ⟨("_law_bag", none), "_law_bag", "_law_bag", defArgs s__law_bag, defBody s__law_bag, defScope s__law_bag, [], []⟩
abbrev s__law_draw : Stmt := top 24
abbrev N__law_draw : List Str := ["bag", "size", "item", "digit", "mix"]
theorem sc__law_draw : FnScope N__law_draw ["bag", "size"] (defScope s__law_draw) := ⟨rfl, rfl, rfl, by decide +kernel, rfl, by decide +kernel, by decide +kernel⟩
abbrev d__law_draw : He.DefD := ⟨("_law_draw", none), "_law_draw", "_law_draw", defArgs s__law_draw, defBody s__law_draw, defScope s__law_draw, [], []⟩
abbrev s__law_of : Stmt := top 25
abbrev N__law_of : List Str := ["bag", "things"]
theorem sc__law_of : FnScope N__law_of ["bag", "things"] (defScope s__law_of) := ⟨rfl, rfl, rfl, by decide +kernel, rfl, by decide +kernel, by decide +kernel⟩
abbrev d__law_of : He.DefD := ⟨("_law_of", none), "_law_of", "_law_of", defArgs s__law_of, defBody s__law_of, defScope s__law_of, [], []⟩
abbrev s__law_low : Stmt := top 26
abbrev N__law_low : List Str := ["up", "down", "a", "b"]
theorem sc__law_low : FnScope N__law_low ["up", "down"] (defScope s__law_low) := ⟨rfl, rfl, rfl, by decide +kernel, rfl, by decide +kernel, by decide +kernel⟩
abbrev d__law_low : He.DefD := ⟨("_law_low", none), "_law_low", "_law_low", defArgs s__law_low, defBody s__law_low, defScope s__law_low, [], []⟩
abbrev s__law_plus : Stmt := top 27
abbrev N__law_plus : List Str := ["a", "b"]
theorem sc__law_plus : FnScope N__law_plus ["a", "b"] (defScope s__law_plus) := ⟨rfl, rfl, rfl, by decide +kernel, rfl, by decide +kernel, by decide +kernel⟩
abbrev d__law_plus : He.DefD := ⟨("_law_plus", none), "_law_plus", "_law_plus", defArgs s__law_plus, defBody s__law_plus, defScope s__law_plus, [], []⟩
abbrev s__law_by : Stmt := top 28
abbrev N__law_by : List Str := ["a", "b"]
theorem sc__law_by : FnScope N__law_by ["a", "b"] (defScope s__law_by) := ⟨rfl, rfl, rfl, by decide +kernel, rfl, by decide +kernel, by decide +kernel⟩
abbrev d__law_by : He.DefD := ⟨("_law_by", none), "_law_by", "_law_by", defArgs s__law_by, defBody s__law_by, defScope s__law_by, [], []⟩
abbrev s__law_neg : Stmt := top 29
abbrev N__law_neg : List Str := ["a"]
theorem sc__law_neg : FnScope N__law_neg ["a"] (defScope s__law_neg) := ⟨rfl, rfl, rfl, by decide +kernel, rfl, by decide +kernel, by decide +kernel⟩
abbrev d__law_neg : He.DefD := ⟨("_law_neg", none), "_law_neg", "_law_neg", defArgs s__law_neg, defBody s__law_neg, defScope s__law_neg, [], []⟩
abbrev s__law_digits : Stmt := top 30
abbrev N__law_digits : List Str := ["bag", "cap", "told", "k"]
theorem sc__law_digits : FnScope N__law_digits ["bag", "cap"] (defScope s__law_digits) := ⟨rfl, rfl, rfl, by decide +kernel, rfl, by decide +kernel, by decide +kernel⟩
abbrev d__law_digits : He.DefD := ⟨("_law_digits", none), "_law_digits", "_law_digits", defArgs s__law_digits, defBody s__law_digits, defScope s__law_digits, [], []⟩
abbrev s__law_num_text : Stmt := top 31
abbrev N__law_num_text : List Str := ["num"]
theorem sc__law_num_text : FnScope N__law_num_text ["num"] (defScope s__law_num_text) := ⟨rfl, rfl, rfl, by decide +kernel, rfl, by decide +kernel, by decide +kernel⟩
abbrev d__law_num_text : He.DefD := ⟨("_law_num_text", none), "_law_num_text", "_law_num_text", defArgs s__law_num_text, defBody s__law_num_text, defScope s__law_num_text, [], []⟩
abbrev s__law_num_odd : Stmt := top 32
abbrev N__law_num_odd : List Str := ["bag", "num", "by"]
theorem sc__law_num_odd : FnScope N__law_num_odd ["bag", "num"] (defScope s__law_num_odd) := ⟨rfl, rfl, rfl, by decide +kernel, rfl, by decide +kernel, by decide +kernel⟩
abbrev d__law_num_odd : He.DefD := ⟨("_law_num_odd", none), "_law_num_odd", "_law_num_odd", defArgs s__law_num_odd, defBody s__law_num_odd, defScope s__law_num_odd, [], []⟩
abbrev s__law_given : Stmt := top 33
abbrev N__law_given : List Str := ["bag", "num"]
theorem sc__law_given : FnScope N__law_given ["bag", "num"] (defScope s__law_given) := ⟨rfl, rfl, rfl, by decide +kernel, rfl, by decide +kernel, by decide +kernel⟩
abbrev d__law_given : He.DefD := ⟨("_law_given", none), "_law_given", "_law_given", defArgs s__law_given, defBody s__law_given, defScope s__law_given, [], []⟩
abbrev s__law_int : Stmt := top 34
abbrev N__law_int : List Str := ["v"]
theorem sc__law_int : FnScope N__law_int ["v"] (defScope s__law_int) := ⟨rfl, rfl, rfl, by decide +kernel, rfl, by decide +kernel, by decide +kernel⟩
abbrev d__law_int : He.DefD := ⟨("_law_int", none), "_law_int", "_law_int", defArgs s__law_int, defBody s__law_int, defScope s__law_int, [], []⟩
abbrev s__law_like : Stmt := top 35
abbrev N__law_like : List Str := ["told", "due", "a", "b"]
theorem sc__law_like : FnScope N__law_like ["told", "due"] (defScope s__law_like) := ⟨rfl, rfl, rfl, by decide +kernel, rfl, by decide +kernel, by decide +kernel⟩
abbrev d__law_like : He.DefD := ⟨("_law_like", none), "_law_like", "_law_like", defArgs s__law_like, defBody s__law_like, defScope s__law_like, [], []⟩
abbrev s__law_exact : Stmt := top 36
abbrev N__law_exact : List Str := ["told", "due", "pair", "wanted", "a", "b"]
theorem sc__law_exact : FnScope N__law_exact ["told", "due"] (defScope s__law_exact) := ⟨rfl, rfl, rfl, by decide +kernel, rfl, by decide +kernel, by decide +kernel⟩
abbrev d__law_exact : He.DefD := ⟨("_law_exact", none), "_law_exact", "_law_exact", defArgs s__law_exact, defBody s__law_exact, defScope s__law_exact, [], []⟩
abbrev s__law_value : Stmt := top 37
abbrev N__law_value : List Str := ["bag", "deep", "pick", "some", "k", "told", "thing"]
theorem sc__law_value : FnScope N__law_value ["bag", "deep"] (defScope s__law_value) := ⟨rfl, rfl, rfl, by decide +kernel, rfl, by decide +kernel, by decide +kernel⟩
abbrev d__law_value : He.DefD := ⟨("_law_value", none), "_law_value", "_law_value", defArgs s__law_value, defBody s__law_value, defScope s__law_value, [], []⟩
abbrev s__law_fate : Stmt := top 38
abbrev N__law_fate : List Str := ["deed", "e"]
theorem sc__law_fate : FnScope N__law_fate ["deed"] (defScope s__law_fate) := ⟨rfl, rfl, rfl, by decide +kernel, rfl, by decide +kernel, by decide +kernel⟩
abbrev d__law_fate : He.DefD := ⟨("_law_fate", none), "_law_fate", "_law_fate", defArgs s__law_fate, defBody s__law_fate, defScope s__law_fate, [], []⟩
abbrev s__law_raises : Stmt := top 39
abbrev N__law_raises : List Str := ["deed", "code", "kept", "fate"]
theorem sc__law_raises : FnScope N__law_raises ["deed", "code", "kept"] (defScope s__law_raises) := ⟨rfl, rfl, rfl, by decide +kernel, rfl, by decide +kernel, by decide +kernel⟩
abbrev d__law_raises : He.DefD := ⟨("_law_raises", none), "_law_raises", "_law_raises", defArgs s__law_raises, defBody s__law_raises, defScope s__law_raises, [], []⟩
abbrev s__law_int_read : Stmt := top 40
abbrev N__law_int_read : List Str := ["tok", "c"]
theorem sc__law_int_read : FnScope N__law_int_read ["tok"] (defScope s__law_int_read) := ⟨rfl, rfl, rfl, by decide +kernel, rfl, by decide +kernel, by decide +kernel⟩
abbrev d__law_int_read : He.DefD := ⟨("_law_int_read", none), "_law_int_read", "_law_int_read", defArgs s__law_int_read, defBody s__law_int_read, defScope s__law_int_read, [], []⟩
abbrev s__law_num_read : Stmt := top 41
abbrev N__law_num_read : List Str := ["tok", "parts", "up", "down"]
theorem sc__law_num_read : FnScope N__law_num_read ["tok"] (defScope s__law_num_read) := ⟨rfl, rfl, rfl, by decide +kernel, rfl, by decide +kernel, by decide +kernel⟩
abbrev d__law_num_read : He.DefD := ⟨("_law_num_read", none), "_law_num_read", "_law_num_read", defArgs s__law_num_read, defBody s__law_num_read, defScope s__law_num_read, [], []⟩
abbrev s__law_pair : Stmt := top 42
abbrev N__law_pair : List Str := ["bag", "pick", "by"]
theorem sc__law_pair : FnScope N__law_pair ["bag"] (defScope s__law_pair) := ⟨rfl, rfl, rfl, by decide +kernel, rfl, by decide +kernel, by decide +kernel⟩
abbrev d__law_pair : He.DefD := ⟨("_law_pair", none), "_law_pair", "_law_pair", defArgs s__law_pair, defBody s__law_pair, defScope s__law_pair, [], []⟩
abbrev s__law_is : Stmt := top 43
abbrev N__law_is : List Str := ["told", "num", "mine"]
theorem sc__law_is : FnScope N__law_is ["told", "num"] (defScope s__law_is) := ⟨rfl, rfl, rfl, by decide +kernel, rfl, by decide +kernel, by decide +kernel⟩
abbrev d__law_is : He.DefD := ⟨("_law_is", none), "_law_is", "_law_is", defArgs s__law_is, defBody s__law_is, defScope s__law_is, [], []⟩
abbrev s__law_two_so : Stmt := top 44
abbrev N__law_two_so : List Str := ["bag", "a", "b", "r", "s", "due", "less"]
theorem sc__law_two_so : FnScope N__law_two_so ["bag", "a", "b"] (defScope s__law_two_so) := ⟨rfl, rfl, rfl, by decide +kernel, rfl, by decide +kernel, by decide +kernel⟩
abbrev d__law_two_so : He.DefD := ⟨("_law_two_so", none), "_law_two_so", "_law_two_so", defArgs s__law_two_so, defBody s__law_two_so, defScope s__law_two_so, [], []⟩
abbrev s__law_equals : Stmt := top 45
abbrev N__law_equals : List Str := ["bag", "a", "raw", "r", "k", "near", "rest", "told", "v"]
theorem sc__law_equals : FnScope N__law_equals ["bag", "a", "raw"] (defScope s__law_equals) := ⟨rfl, rfl, rfl, by decide +kernel, rfl, by decide +kernel, by decide +kernel⟩
abbrev d__law_equals : He.DefD := ⟨("_law_equals", none), "_law_equals", "_law_equals", defArgs s__law_equals, defBody s__law_equals, defScope s__law_equals, [], []⟩
abbrev s__law_sign_bent : Stmt := top 46
abbrev N__law_sign_bent : List Str := ["bag", "mine", "spot", "pick", "new"]
theorem sc__law_sign_bent : FnScope N__law_sign_bent ["bag", "mine"] (defScope s__law_sign_bent) := ⟨rfl, rfl, rfl, by decide +kernel, rfl, by decide +kernel, by decide +kernel⟩
abbrev d__law_sign_bent : He.DefD := ⟨("_law_sign_bent", none), "_law_sign_bent", "_law_sign_bent", defArgs s__law_sign_bent, defBody s__law_sign_bent, defScope s__law_sign_bent, [], []⟩
abbrev s__law_read_so : Stmt := top 47
abbrev N__law_read_so : List Str := ["mine", "due"]
theorem sc__law_read_so : FnScope N__law_read_so ["mine"] (defScope s__law_read_so) := ⟨rfl, rfl, rfl, by decide +kernel, rfl, by decide +kernel, by decide +kernel⟩
abbrev d__law_read_so : He.DefD := ⟨("_law_read_so", none), "_law_read_so", "_law_read_so", defArgs s__law_read_so, defBody s__law_read_so, defScope s__law_read_so, [], []⟩
abbrev s__law_texts_so : Stmt := top 48
abbrev N__law_texts_so : List Str := ["bag", "a", "k", "strange", "mine", "v"]
theorem sc__law_texts_so : FnScope N__law_texts_so ["bag", "a"] (defScope s__law_texts_so) := ⟨rfl, rfl, rfl, by decide +kernel, rfl, by decide +kernel, by decide +kernel⟩
abbrev d__law_texts_so : He.DefD := ⟨("_law_texts_so", none), "_law_texts_so", "_law_texts_so", defArgs s__law_texts_so, defBody s__law_texts_so, defScope s__law_texts_so, [], []⟩
abbrev s__law_long_so : Stmt := top 49
abbrev N__law_long_so : List Str := ["bag", "most", "k", "lead", "longest", "told"]
theorem sc__law_long_so : FnScope N__law_long_so ["bag"] (defScope s__law_long_so) := ⟨rfl, rfl, rfl, by decide +kernel, rfl, by decide +kernel, by decide +kernel⟩
abbrev d__law_long_so : He.DefD := ⟨("_law_long_so", none), "_law_long_so", "_law_long_so", defArgs s__law_long_so, defBody s__law_long_so, defScope s__law_long_so, [], []⟩
abbrev s__law_parts_so : Stmt := top 50
abbrev N__law_parts_so : List Str := ["bag", "v", "w", "a", "b", "wrong", "one"]
theorem sc__law_parts_so : FnScope N__law_parts_so ["bag"] (defScope s__law_parts_so) := ⟨rfl, rfl, rfl, by decide +kernel, rfl, by decide +kernel, by decide +kernel⟩
abbrev d__law_parts_so : He.DefD := ⟨("_law_parts_so", none), "_law_parts_so", "_law_parts_so", defArgs s__law_parts_so, defBody s__law_parts_so, defScope s__law_parts_so, [], []⟩
abbrev s_law : Stmt := top 51
abbrev N_law : List Str := ["script", "bag", "k", "one_raw", "two_raw", "a", "b"]
theorem sc_law : FnScope N_law ["script"] (defScope s_law) := ⟨rfl, rfl, rfl, by decide +kernel, rfl, by decide +kernel, by decide +kernel⟩
abbrev d_law : He.DefD := ⟨("law", none), "law", "law", defArgs s_law, defBody s_law, defScope s_law, [], []⟩
abbrev s_is_whole : Stmt := top 16
abbrev N_is_whole : List Str := ["value"]
theorem sc_is_whole : FnScope N_is_whole ["value"] (defScope s_is_whole) := ⟨rfl, rfl, rfl, by decide +kernel, rfl, by decide +kernel, by decide +kernel⟩
abbrev d_is_whole : He.DefD := ⟨("is_whole", none), "is_whole", "is_whole", defArgs s_is_whole, defBody s_is_whole, defScope s_is_whole, [], []⟩
abbrev s_is_number : Stmt := top 17
abbrev N_is_number : List Str := ["value"]
theorem sc_is_number : FnScope N_is_number ["value"] (defScope s_is_number) := ⟨rfl, rfl, rfl, by decide +kernel, rfl, by decide +kernel, by decide +kernel⟩
abbrev d_is_number : He.DefD := ⟨("is_number", none), "is_number", "is_number", defArgs s_is_number, defBody s_is_number, defScope s_is_number, [], []⟩
abbrev s_parts_of : Stmt := top 18
abbrev N_parts_of : List Str := ["number"]
theorem sc_parts_of : FnScope N_parts_of ["number"] (defScope s_parts_of) := ⟨rfl, rfl, rfl, by decide +kernel, rfl, by decide +kernel, by decide +kernel⟩
abbrev d_parts_of : He.DefD := ⟨("parts_of", none), "parts_of", "parts_of", defArgs s_parts_of, defBody s_parts_of, defScope s_parts_of, [], []⟩
abbrev s_read_whole : Stmt := top 19
abbrev N_read_whole : List Str := ["text", "sign"]
theorem sc_read_whole : FnScope N_read_whole ["text"] (defScope s_read_whole) := ⟨rfl, rfl, rfl, by decide +kernel, rfl, by decide +kernel, by decide +kernel⟩
abbrev d_read_whole : He.DefD := ⟨("read_whole", none), "read_whole", "read_whole", defArgs s_read_whole, defBody s_read_whole, defScope s_read_whole, [], []⟩
abbrev s_read_number : Stmt := top 20
abbrev N_read_number : List Str := ["text", "below_zero", "digits", "above", "slash", "below", "top", "bottom"]
theorem sc_read_number : FnScope N_read_number ["text"] (defScope s_read_number) := ⟨rfl, rfl, rfl, by decide +kernel, rfl, by decide +kernel, by decide +kernel⟩
abbrev d_read_number : He.DefD := ⟨("read_number", none), "read_number", "read_number", defArgs s_read_number, defBody s_read_number, defScope s_read_number, [], []⟩
abbrev s_Ratio___init__ : Stmt := inClass (top 21) 0
abbrev N_Ratio___init__ : List Str := ["self", "top", "bottom", "common"]
theorem sc_Ratio___init__ : FnScope N_Ratio___init__ ["self", "top", "bottom"] (defScope s_Ratio___init__) := ⟨rfl, rfl, rfl, by decide +kernel, rfl, by decide +kernel, by decide +kernel⟩
abbrev d_Ratio___init__ : He.DefD := ⟨("Ratio", some "__init__"), "__init__", "Ratio.__init__", defArgs s_Ratio___init__, defBody s_Ratio___init__, defScope s_Ratio___init__, [.int (1)], []⟩
abbrev s_Ratio___add__ : Stmt := inClass (top 21) 1
abbrev N_Ratio___add__ : List Str := ["self", "other", "top", "bottom"]
theorem sc_Ratio___add__ : FnScope N_Ratio___add__ ["self", "other"] (defScope s_Ratio___add__) := ⟨rfl, rfl, rfl, by decide +kernel, rfl, by decide +kernel, by decide +kernel⟩
abbrev d_Ratio___add__ : He.DefD := ⟨("Ratio", some "__add__"), "__add__", "Ratio.__add__", defArgs s_Ratio___add__, defBody s_Ratio___add__, defScope s_Ratio___add__, [], []⟩
abbrev s_Ratio___sub__ : Stmt := inClass (top 21) 2
abbrev N_Ratio___sub__ : List Str := ["self", "other", "top", "bottom"]
theorem sc_Ratio___sub__ : FnScope N_Ratio___sub__ ["self", "other"] (defScope s_Ratio___sub__) := ⟨rfl, rfl, rfl, by decide +kernel, rfl, by decide +kernel, by decide +kernel⟩
abbrev d_Ratio___sub__ : He.DefD := ⟨("Ratio", some "__sub__"), "__sub__", "Ratio.__sub__", defArgs s_Ratio___sub__, defBody s_Ratio___sub__, defScope s_Ratio___sub__, [], []⟩
abbrev s_Ratio___mul__ : Stmt := inClass (top 21) 3
abbrev N_Ratio___mul__ : List Str := ["self", "other", "top", "bottom"]
theorem sc_Ratio___mul__ : FnScope N_Ratio___mul__ ["self", "other"] (defScope s_Ratio___mul__) := ⟨rfl, rfl, rfl, by decide +kernel, rfl, by decide +kernel, by decide +kernel⟩
abbrev d_Ratio___mul__ : He.DefD := ⟨("Ratio", some "__mul__"), "__mul__", "Ratio.__mul__", defArgs s_Ratio___mul__, defBody s_Ratio___mul__, defScope s_Ratio___mul__, [], []⟩
abbrev s_Ratio___neg__ : Stmt := inClass (top 21) 4
abbrev N_Ratio___neg__ : List Str := ["self"]
theorem sc_Ratio___neg__ : FnScope N_Ratio___neg__ ["self"] (defScope s_Ratio___neg__) := ⟨rfl, rfl, rfl, by decide +kernel, rfl, by decide +kernel, by decide +kernel⟩
abbrev d_Ratio___neg__ : He.DefD := ⟨("Ratio", some "__neg__"), "__neg__", "Ratio.__neg__", defArgs s_Ratio___neg__, defBody s_Ratio___neg__, defScope s_Ratio___neg__, [], []⟩
abbrev s_Ratio___eq__ : Stmt := inClass (top 21) 5
abbrev N_Ratio___eq__ : List Str := ["self", "other"]
theorem sc_Ratio___eq__ : FnScope N_Ratio___eq__ ["self", "other"] (defScope s_Ratio___eq__) := ⟨rfl, rfl, rfl, by decide +kernel, rfl, by decide +kernel, by decide +kernel⟩
abbrev d_Ratio___eq__ : He.DefD := ⟨("Ratio", some "__eq__"), "__eq__", "Ratio.__eq__", defArgs s_Ratio___eq__, defBody s_Ratio___eq__, defScope s_Ratio___eq__, [], []⟩
abbrev s_Ratio_below : Stmt := inClass (top 21) 6
abbrev N_Ratio_below : List Str := ["self", "other", "top", "bottom"]
theorem sc_Ratio_below : FnScope N_Ratio_below ["self", "other"] (defScope s_Ratio_below) := ⟨rfl, rfl, rfl, by decide +kernel, rfl, by decide +kernel, by decide +kernel⟩
abbrev d_Ratio_below : He.DefD := ⟨("Ratio", some "below"), "below", "Ratio.below", defArgs s_Ratio_below, defBody s_Ratio_below, defScope s_Ratio_below, [], []⟩
abbrev s_Ratio_over : Stmt := inClass (top 21) 7
abbrev N_Ratio_over : List Str := ["self", "other", "top", "bottom"]
theorem sc_Ratio_over : FnScope N_Ratio_over ["self", "other"] (defScope s_Ratio_over) := ⟨rfl, rfl, rfl, by decide +kernel, rfl, by decide +kernel, by decide +kernel⟩
abbrev d_Ratio_over : He.DefD := ⟨("Ratio", some "over"), "over", "Ratio.over", defArgs s_Ratio_over, defBody s_Ratio_over, defScope s_Ratio_over, [], []⟩
abbrev s_Ratio_text : Stmt := inClass (top 21) 8
abbrev N_Ratio_text : List Str := ["self"]
theorem sc_Ratio_text : FnScope N_Ratio_text ["self"] (defScope s_Ratio_text) := ⟨rfl, rfl, rfl, by decide +kernel, rfl, by decide +kernel, by decide +kernel⟩
abbrev d_Ratio_text : He.DefD := ⟨("Ratio", some "text"), "text", "Ratio.text", defArgs s_Ratio_text, defBody s_Ratio_text, defScope s_Ratio_text, [], []⟩
abbrev s_Ratio___str__ : Stmt := inClass (top 21) 9
abbrev N_Ratio___str__ : List Str := ["self"]
theorem sc_Ratio___str__ : FnScope N_Ratio___str__ ["self"] (defScope s_Ratio___str__) := ⟨rfl, rfl, rfl, by decide +kernel, rfl, by decide +kernel, by decide +kernel⟩
abbrev d_Ratio___str__ : He.DefD := ⟨("Ratio", some "__str__"), "__str__", "Ratio.__str__", defArgs s_Ratio___str__, defBody s_Ratio___str__, defScope s_Ratio___str__, [], []⟩
abbrev s_Ratio___repr__ : Stmt := inClass (top 21) 10
abbrev N_Ratio___repr__ : List Str := ["self"]
theorem sc_Ratio___repr__ : FnScope N_Ratio___repr__ ["self"] (defScope s_Ratio___repr__) := ⟨rfl, rfl, rfl, by decide +kernel, rfl, by decide +kernel, by decide +kernel⟩
abbrev d_Ratio___repr__ : He.DefD := ⟨("Ratio", some "__repr__"), "__repr__", "Ratio.__repr__", defArgs s_Ratio___repr__, defBody s_Ratio___repr__, defScope s_Ratio___repr__, [], []⟩
abbrev s_Ratio_read : Stmt := inClass (top 21) 11
abbrev N_Ratio_read : List Str := ["text", "found"]
theorem sc_Ratio_read : FnScope N_Ratio_read ["text"] (defScope s_Ratio_read) := ⟨rfl, rfl, rfl, by decide +kernel, rfl, by decide +kernel, by decide +kernel⟩
abbrev d_Ratio_read : He.DefD := ⟨("Ratio", some "read"), "read", "Ratio.read", defArgs s_Ratio_read, defBody s_Ratio_read, defScope s_Ratio_read, [], []⟩
abbrev s_InvalidRatio___init__ : Stmt := inClass (top 4) 0
abbrev N_InvalidRatio___init__ : List Str := ["self", "value"]
theorem sc_InvalidRatio___init__ : FnScope N_InvalidRatio___init__ ["self", "value"] (defScope s_InvalidRatio___init__) := ⟨rfl, rfl, rfl, by decide +kernel, rfl, by decide +kernel, by decide +kernel⟩
abbrev d_InvalidRatio___init__ : He.DefD := ⟨("InvalidRatio", some "__init__"), "__init__", "InvalidRatio.__init__", defArgs s_InvalidRatio___init__, defBody s_InvalidRatio___init__, defScope s_InvalidRatio___init__, [], []⟩
def faL0 : List He.Fa := [.free "len", .free "int", .free "list", .free "range", .free "isinstance", .free "bool", .free "str", .free "tuple", .free "dict", .free "all", .free "zip", .free "abs", .free "repr", .free "NotImplemented", .glo "_law_bag", .glo "_law_draw", .glo "_law_of", .glo "_law_low", .glo "_law_plus", .glo "_law_by", .glo "_law_neg", .glo "_law_digits", .glo "_law_num_text", .glo "_law_num_odd", .glo "_law_given", .glo "_law_int", .glo "_law_like", .glo "_law_exact", .glo "_law_value", .glo "_law_fate"]
def faL1 : List He.Fa := [.glo "_law_raises", .glo "_law_int_read", .glo "_law_num_read", .glo "_law_pair", .glo "_law_is", .glo "_law_two_so", .glo "_law_equals", .glo "_law_sign_bent", .glo "_law_read_so", .glo "_law_texts_so", .glo "_law_long_so", .glo "_law_parts_so", .glo "law", .glo "is_whole", .glo "is_number", .glo "parts_of", .glo "read_whole", .glo "read_number", .glo "Ratio", .glo "InvalidRatio", .glo "InvalidGround", .glo "BadWord", .glo "BadSum", .glo "BadStanding", .glo "BadDevice", .glo "BadBook", .glo "Unlike", .glo "Unknown", .str "DIGITS" "0123456789", .int "MOST_DIGITS" (4000)]
def faL2 : List He.Fa := [.cls "Ratio", .mkr "Ratio", .noat "Ratio" "top", .noat "Ratio" "bottom", .meth "Ratio" "below", .meth "Ratio" "over", .meth "Ratio" "text", .exm "InvalidRatio" "InvalidRatio" true, .meth "InvalidRatio" "__init__", .noat "InvalidRatio" "code", .noat "InvalidRatio" "value"]
def faL : List He.Fa := faL0 ++ (faL1 ++ (faL2))
def fnL0 : List He.DefD := [d__law_bag, d__law_draw, d__law_of, d__law_low, d__law_plus, d__law_by, d__law_neg, d__law_digits, d__law_num_text, d__law_num_odd, d__law_given, d__law_int, d__law_like, d__law_exact, d__law_value, d__law_fate, d__law_raises, d__law_int_read, d__law_num_read, d__law_pair, d__law_is, d__law_two_so, d__law_equals, d__law_sign_bent, d__law_read_so, d__law_texts_so, d__law_long_so, d__law_parts_so, d_law, d_is_whole]
def fnL1 : List He.DefD := [d_is_number, d_parts_of, d_read_whole, d_read_number, d_Ratio___init__, d_Ratio___add__, d_Ratio___sub__, d_Ratio___mul__, d_Ratio___neg__, d_Ratio___eq__, d_Ratio_below, d_Ratio_over, d_Ratio_text, d_Ratio___str__, d_Ratio___repr__, d_InvalidRatio___init__]
def fnL : List He.DefD := fnL0 ++ (fnL1)
def exOx (K : PySem.W.Frag) : Bool := oxB K (He.ga K "InvalidRatio") "ValueError.__new__" [.type "ValueError", .type "Exception", .type "BaseException", .type "object"]
def exR (K : PySem.W.Frag) : Bool := ["NoneType", "bool", "int", "str", "list", "tuple", "dict"].all fun t => PySem.W.kitOne K (.type t) (.ref (He.ga K "Ratio")) == some false
def exR2 (K : PySem.W.Frag) : Bool := ["bool", "int", "str", "list", "tuple", "dict"].all fun t => PySem.W.kitOne K (.ref (He.ga K "Ratio")) (.type t) == some false
def exR3 (K : PySem.W.Frag) : Bool := (PySem.W.kitOne K (.ref (He.ga K "Ratio")) (.ref (He.ga K "Ratio")) == some true) && (PySem.W.findIn K (.ref (He.ga K "Ratio")) "__class__" == some (some (.builtin "object.__class__"))) && (PySem.W.specialIn K (.builtin "object.__class__") "__get__" == some (some (.builtin "getset_descriptor.__get__"))) &&
  (PySem.W.takesIn K (.builtin "object.__class__") == some true) && (PySem.W.mroIn K (He.ga K "Ratio") (.type "object") == some true)
def exG (K : PySem.W.Frag) : Bool := He.eqO (PySem.W.nsIn K mainGlobals "gcd") (some (some (.builtin "math.gcd")))
abbrev RA (K : PySem.W.Frag) : Addr := He.ga K "Ratio"
abbrev mR (K : PySem.W.Frag) (m : Str) : Addr := He.ma K (RA K) m
def exO (K : PySem.W.Frag) : Bool := ownOpB K (RA K) .Add (mR K "__add__") && (ownOpB K (RA K) .Sub (mR K "__sub__") && (ownOpB K (RA K) .Mult (mR K "__mul__") && (ownEqB K (RA K) (mR K "__eq__") && (ownSpB K (RA K) "__neg__" (mR K "__neg__") && (ownSpB K (RA K) "__str__" (mR K "__str__") && ownSpB K (RA K) "__repr__" (mR K "__repr__"))))))
def exS (K : PySem.W.Frag) : Bool := PySem.W.readsIn K (RA K) (.type "type") && (He.eqO (PySem.W.specialIn K (.ref (RA K)) "__getattribute__") (some (some (.builtin "type.__getattribute__"))) && (isSm (PySem.W.findCls K (.ref (RA K)) (.type "type") "read") (mR K "read") (RA K) &&
  (headIs (PySem.W.recIn K (mR K "read") "staticmethod") (.ref (saS K ("Ratio", "read"))) && PySem.W.keepIn K (.ref (saS K ("Ratio", "read"))))))
def exD (K : PySem.W.Frag) : Bool := He.eqO (PySem.W.nsIn K cStatics "sys.int_max_str_digits") (some none)
def exT (K : PySem.W.Frag) : Bool := He.eqO (PySem.W.findIn K (.ref (RA K)) "__bool__") (some none) && He.eqO (PySem.W.findIn K (.ref (RA K)) "__len__") (some none)
def tfL : List He.Defn := [("_law_two_so", none), ("_law_read_so", none), ("_law_texts_so", none), ("_law_long_so", none), ("_law_parts_so", none)]
def exTd (K : PySem.W.Frag) : Bool := decide ((tfL.map fun p => (He.cT K p).2).Nodup)
def exK (K : PySem.W.Frag) : Bool := exOx K && (exO K && (exS K && (exR K && (exR2 K && (exR3 K && (exG K && (exD K && (exT K && exTd K))))))))

def exL (K : PySem.W.Frag) : Bool := exK K
def stL : List StD := [(("Ratio", "read"), d_Ratio_read)]
abbrev TL (K : PySem.W.Frag) (mg : Str → Option Value) : Prop := TxS faL fnL stL exL K mg
section
variable {K : PySem.W.Frag} {mg : Str → Option Value}
theorem f_len (T : TL K mg) : mg "len" = none := T.free 0
theorem f_int (T : TL K mg) : mg "int" = none := T.free 1
theorem f_list (T : TL K mg) : mg "list" = none := T.free 2
theorem f_range (T : TL K mg) : mg "range" = none := T.free 3
theorem f_isinstance (T : TL K mg) : mg "isinstance" = none := T.free 4
theorem f_bool (T : TL K mg) : mg "bool" = none := T.free 5
theorem f_str (T : TL K mg) : mg "str" = none := T.free 6
theorem f_tuple (T : TL K mg) : mg "tuple" = none := T.free 7
theorem f_dict (T : TL K mg) : mg "dict" = none := T.free 8
theorem f_all (T : TL K mg) : mg "all" = none := T.free 9
theorem f_zip (T : TL K mg) : mg "zip" = none := T.free 10
theorem f_abs (T : TL K mg) : mg "abs" = none := T.free 11
theorem f_repr (T : TL K mg) : mg "repr" = none := T.free 12
theorem f_NotImplemented (T : TL K mg) : mg "NotImplemented" = none := T.free 13
theorem g__law_bag (T : TL K mg) : mg "_law_bag" = some (.ref (He.ga K "_law_bag")) := T.glo 14
theorem g__law_draw (T : TL K mg) : mg "_law_draw" = some (.ref (He.ga K "_law_draw")) := T.glo 15
theorem g__law_of (T : TL K mg) : mg "_law_of" = some (.ref (He.ga K "_law_of")) := T.glo 16
theorem g__law_low (T : TL K mg) : mg "_law_low" = some (.ref (He.ga K "_law_low")) := T.glo 17
theorem g__law_plus (T : TL K mg) : mg "_law_plus" = some (.ref (He.ga K "_law_plus")) := T.glo 18
theorem g__law_by (T : TL K mg) : mg "_law_by" = some (.ref (He.ga K "_law_by")) := T.glo 19
theorem g__law_neg (T : TL K mg) : mg "_law_neg" = some (.ref (He.ga K "_law_neg")) := T.glo 20
theorem g__law_digits (T : TL K mg) : mg "_law_digits" = some (.ref (He.ga K "_law_digits")) := T.glo 21
theorem g__law_num_text (T : TL K mg) : mg "_law_num_text" = some (.ref (He.ga K "_law_num_text")) := T.glo 22
theorem g__law_num_odd (T : TL K mg) : mg "_law_num_odd" = some (.ref (He.ga K "_law_num_odd")) := T.glo 23
theorem g__law_given (T : TL K mg) : mg "_law_given" = some (.ref (He.ga K "_law_given")) := T.glo 24
theorem g__law_int (T : TL K mg) : mg "_law_int" = some (.ref (He.ga K "_law_int")) := T.glo 25
theorem g__law_like (T : TL K mg) : mg "_law_like" = some (.ref (He.ga K "_law_like")) := T.glo 26
theorem g__law_exact (T : TL K mg) : mg "_law_exact" = some (.ref (He.ga K "_law_exact")) := T.glo 27
theorem g__law_value (T : TL K mg) : mg "_law_value" = some (.ref (He.ga K "_law_value")) := T.glo 28
theorem g__law_fate (T : TL K mg) : mg "_law_fate" = some (.ref (He.ga K "_law_fate")) := T.glo 29
theorem g__law_raises (T : TL K mg) : mg "_law_raises" = some (.ref (He.ga K "_law_raises")) := T.glo 30
theorem g__law_int_read (T : TL K mg) : mg "_law_int_read" = some (.ref (He.ga K "_law_int_read")) := T.glo 31
theorem g__law_num_read (T : TL K mg) : mg "_law_num_read" = some (.ref (He.ga K "_law_num_read")) := T.glo 32
theorem g__law_pair (T : TL K mg) : mg "_law_pair" = some (.ref (He.ga K "_law_pair")) := T.glo 33
theorem g__law_is (T : TL K mg) : mg "_law_is" = some (.ref (He.ga K "_law_is")) := T.glo 34
theorem g__law_two_so (T : TL K mg) : mg "_law_two_so" = some (.ref (He.ga K "_law_two_so")) := T.glo 35
theorem g__law_equals (T : TL K mg) : mg "_law_equals" = some (.ref (He.ga K "_law_equals")) := T.glo 36
theorem g__law_sign_bent (T : TL K mg) : mg "_law_sign_bent" = some (.ref (He.ga K "_law_sign_bent")) := T.glo 37
theorem g__law_read_so (T : TL K mg) : mg "_law_read_so" = some (.ref (He.ga K "_law_read_so")) := T.glo 38
theorem g__law_texts_so (T : TL K mg) : mg "_law_texts_so" = some (.ref (He.ga K "_law_texts_so")) := T.glo 39
theorem g__law_long_so (T : TL K mg) : mg "_law_long_so" = some (.ref (He.ga K "_law_long_so")) := T.glo 40
theorem g__law_parts_so (T : TL K mg) : mg "_law_parts_so" = some (.ref (He.ga K "_law_parts_so")) := T.glo 41
theorem g_law (T : TL K mg) : mg "law" = some (.ref (He.ga K "law")) := T.glo 42
theorem g_is_whole (T : TL K mg) : mg "is_whole" = some (.ref (He.ga K "is_whole")) := T.glo 43
theorem g_is_number (T : TL K mg) : mg "is_number" = some (.ref (He.ga K "is_number")) := T.glo 44
theorem g_parts_of (T : TL K mg) : mg "parts_of" = some (.ref (He.ga K "parts_of")) := T.glo 45
theorem g_read_whole (T : TL K mg) : mg "read_whole" = some (.ref (He.ga K "read_whole")) := T.glo 46
theorem g_read_number (T : TL K mg) : mg "read_number" = some (.ref (He.ga K "read_number")) := T.glo 47
theorem g_Ratio (T : TL K mg) : mg "Ratio" = some (.ref (He.ga K "Ratio")) := T.glo 48
theorem g_InvalidRatio (T : TL K mg) : mg "InvalidRatio" = some (.ref (He.ga K "InvalidRatio")) := T.glo 49
theorem g_InvalidGround (T : TL K mg) : mg "InvalidGround" = some (.ref (He.ga K "InvalidGround")) := T.glo 50
theorem g_BadWord (T : TL K mg) : mg "BadWord" = some (.ref (He.ga K "BadWord")) := T.glo 51
theorem g_BadSum (T : TL K mg) : mg "BadSum" = some (.ref (He.ga K "BadSum")) := T.glo 52
theorem g_BadStanding (T : TL K mg) : mg "BadStanding" = some (.ref (He.ga K "BadStanding")) := T.glo 53
theorem g_BadDevice (T : TL K mg) : mg "BadDevice" = some (.ref (He.ga K "BadDevice")) := T.glo 54
theorem g_BadBook (T : TL K mg) : mg "BadBook" = some (.ref (He.ga K "BadBook")) := T.glo 55
theorem g_Unlike (T : TL K mg) : mg "Unlike" = some (.ref (He.ga K "Unlike")) := T.glo 56
theorem g_Unknown (T : TL K mg) : mg "Unknown" = some (.ref (He.ga K "Unknown")) := T.glo 57
theorem c_DIGITS (T : TL K mg) : ∃ t, mg "DIGITS" = some (.str "0123456789" t) := T.str 58
theorem c_MOST_DIGITS (T : TL K mg) : ∃ t, mg "MOST_DIGITS" = some (.int (4000) t) := T.int 59
theorem F_Ratio_read (T : TL K mg) : ∃ fd, FunD K d_Ratio_read.name d_Ratio_read.qual d_Ratio_read.params d_Ratio_read.body d_Ratio_read.scope (d_Ratio_read.dvs K) (d_Ratio_read.kws K) (saS K ("Ratio", "read")) fd := T.stat 0 rfl
theorem F__law_bag (T : TL K mg) : ∃ fd, FunD K d__law_bag.name d__law_bag.qual d__law_bag.params d__law_bag.body d__law_bag.scope (d__law_bag.dvs K) (d__law_bag.kws K) (He.fAd K d__law_bag.at_) fd := T.def_ 0 rfl
theorem F__law_draw (T : TL K mg) : ∃ fd, FunD K d__law_draw.name d__law_draw.qual d__law_draw.params d__law_draw.body d__law_draw.scope (d__law_draw.dvs K) (d__law_draw.kws K) (He.fAd K d__law_draw.at_) fd := T.def_ 1 rfl
theorem F__law_of (T : TL K mg) : ∃ fd, FunD K d__law_of.name d__law_of.qual d__law_of.params d__law_of.body d__law_of.scope (d__law_of.dvs K) (d__law_of.kws K) (He.fAd K d__law_of.at_) fd := T.def_ 2 rfl
theorem F__law_low (T : TL K mg) : ∃ fd, FunD K d__law_low.name d__law_low.qual d__law_low.params d__law_low.body d__law_low.scope (d__law_low.dvs K) (d__law_low.kws K) (He.fAd K d__law_low.at_) fd := T.def_ 3 rfl
theorem F__law_plus (T : TL K mg) : ∃ fd, FunD K d__law_plus.name d__law_plus.qual d__law_plus.params d__law_plus.body d__law_plus.scope (d__law_plus.dvs K) (d__law_plus.kws K) (He.fAd K d__law_plus.at_) fd := T.def_ 4 rfl
theorem F__law_by (T : TL K mg) : ∃ fd, FunD K d__law_by.name d__law_by.qual d__law_by.params d__law_by.body d__law_by.scope (d__law_by.dvs K) (d__law_by.kws K) (He.fAd K d__law_by.at_) fd := T.def_ 5 rfl
theorem F__law_neg (T : TL K mg) : ∃ fd, FunD K d__law_neg.name d__law_neg.qual d__law_neg.params d__law_neg.body d__law_neg.scope (d__law_neg.dvs K) (d__law_neg.kws K) (He.fAd K d__law_neg.at_) fd := T.def_ 6 rfl
theorem F__law_digits (T : TL K mg) : ∃ fd, FunD K d__law_digits.name d__law_digits.qual d__law_digits.params d__law_digits.body d__law_digits.scope (d__law_digits.dvs K) (d__law_digits.kws K) (He.fAd K d__law_digits.at_) fd := T.def_ 7 rfl
theorem F__law_num_text (T : TL K mg) : ∃ fd, FunD K d__law_num_text.name d__law_num_text.qual d__law_num_text.params d__law_num_text.body d__law_num_text.scope (d__law_num_text.dvs K) (d__law_num_text.kws K) (He.fAd K d__law_num_text.at_) fd := T.def_ 8 rfl
theorem F__law_num_odd (T : TL K mg) : ∃ fd, FunD K d__law_num_odd.name d__law_num_odd.qual d__law_num_odd.params d__law_num_odd.body d__law_num_odd.scope (d__law_num_odd.dvs K) (d__law_num_odd.kws K) (He.fAd K d__law_num_odd.at_) fd := T.def_ 9 rfl
theorem F__law_given (T : TL K mg) : ∃ fd, FunD K d__law_given.name d__law_given.qual d__law_given.params d__law_given.body d__law_given.scope (d__law_given.dvs K) (d__law_given.kws K) (He.fAd K d__law_given.at_) fd := T.def_ 10 rfl
theorem F__law_int (T : TL K mg) : ∃ fd, FunD K d__law_int.name d__law_int.qual d__law_int.params d__law_int.body d__law_int.scope (d__law_int.dvs K) (d__law_int.kws K) (He.fAd K d__law_int.at_) fd := T.def_ 11 rfl
theorem F__law_like (T : TL K mg) : ∃ fd, FunD K d__law_like.name d__law_like.qual d__law_like.params d__law_like.body d__law_like.scope (d__law_like.dvs K) (d__law_like.kws K) (He.fAd K d__law_like.at_) fd := T.def_ 12 rfl
theorem F__law_exact (T : TL K mg) : ∃ fd, FunD K d__law_exact.name d__law_exact.qual d__law_exact.params d__law_exact.body d__law_exact.scope (d__law_exact.dvs K) (d__law_exact.kws K) (He.fAd K d__law_exact.at_) fd := T.def_ 13 rfl
theorem F__law_value (T : TL K mg) : ∃ fd, FunD K d__law_value.name d__law_value.qual d__law_value.params d__law_value.body d__law_value.scope (d__law_value.dvs K) (d__law_value.kws K) (He.fAd K d__law_value.at_) fd := T.def_ 14 rfl
theorem F__law_fate (T : TL K mg) : ∃ fd, FunD K d__law_fate.name d__law_fate.qual d__law_fate.params d__law_fate.body d__law_fate.scope (d__law_fate.dvs K) (d__law_fate.kws K) (He.fAd K d__law_fate.at_) fd := T.def_ 15 rfl
theorem F__law_raises (T : TL K mg) : ∃ fd, FunD K d__law_raises.name d__law_raises.qual d__law_raises.params d__law_raises.body d__law_raises.scope (d__law_raises.dvs K) (d__law_raises.kws K) (He.fAd K d__law_raises.at_) fd := T.def_ 16 rfl
theorem F__law_int_read (T : TL K mg) : ∃ fd, FunD K d__law_int_read.name d__law_int_read.qual d__law_int_read.params d__law_int_read.body d__law_int_read.scope (d__law_int_read.dvs K) (d__law_int_read.kws K) (He.fAd K d__law_int_read.at_) fd := T.def_ 17 rfl
theorem F__law_num_read (T : TL K mg) : ∃ fd, FunD K d__law_num_read.name d__law_num_read.qual d__law_num_read.params d__law_num_read.body d__law_num_read.scope (d__law_num_read.dvs K) (d__law_num_read.kws K) (He.fAd K d__law_num_read.at_) fd := T.def_ 18 rfl
theorem F__law_pair (T : TL K mg) : ∃ fd, FunD K d__law_pair.name d__law_pair.qual d__law_pair.params d__law_pair.body d__law_pair.scope (d__law_pair.dvs K) (d__law_pair.kws K) (He.fAd K d__law_pair.at_) fd := T.def_ 19 rfl
theorem F__law_is (T : TL K mg) : ∃ fd, FunD K d__law_is.name d__law_is.qual d__law_is.params d__law_is.body d__law_is.scope (d__law_is.dvs K) (d__law_is.kws K) (He.fAd K d__law_is.at_) fd := T.def_ 20 rfl
theorem F__law_two_so (T : TL K mg) : ∃ fd, FunD K d__law_two_so.name d__law_two_so.qual d__law_two_so.params d__law_two_so.body d__law_two_so.scope (d__law_two_so.dvs K) (d__law_two_so.kws K) (He.fAd K d__law_two_so.at_) fd := T.def_ 21 rfl
theorem F__law_equals (T : TL K mg) : ∃ fd, FunD K d__law_equals.name d__law_equals.qual d__law_equals.params d__law_equals.body d__law_equals.scope (d__law_equals.dvs K) (d__law_equals.kws K) (He.fAd K d__law_equals.at_) fd := T.def_ 22 rfl
theorem F__law_sign_bent (T : TL K mg) : ∃ fd, FunD K d__law_sign_bent.name d__law_sign_bent.qual d__law_sign_bent.params d__law_sign_bent.body d__law_sign_bent.scope (d__law_sign_bent.dvs K) (d__law_sign_bent.kws K) (He.fAd K d__law_sign_bent.at_) fd := T.def_ 23 rfl
theorem F__law_read_so (T : TL K mg) : ∃ fd, FunD K d__law_read_so.name d__law_read_so.qual d__law_read_so.params d__law_read_so.body d__law_read_so.scope (d__law_read_so.dvs K) (d__law_read_so.kws K) (He.fAd K d__law_read_so.at_) fd := T.def_ 24 rfl
theorem F__law_texts_so (T : TL K mg) : ∃ fd, FunD K d__law_texts_so.name d__law_texts_so.qual d__law_texts_so.params d__law_texts_so.body d__law_texts_so.scope (d__law_texts_so.dvs K) (d__law_texts_so.kws K) (He.fAd K d__law_texts_so.at_) fd := T.def_ 25 rfl
theorem F__law_long_so (T : TL K mg) : ∃ fd, FunD K d__law_long_so.name d__law_long_so.qual d__law_long_so.params d__law_long_so.body d__law_long_so.scope (d__law_long_so.dvs K) (d__law_long_so.kws K) (He.fAd K d__law_long_so.at_) fd := T.def_ 26 rfl
theorem F__law_parts_so (T : TL K mg) : ∃ fd, FunD K d__law_parts_so.name d__law_parts_so.qual d__law_parts_so.params d__law_parts_so.body d__law_parts_so.scope (d__law_parts_so.dvs K) (d__law_parts_so.kws K) (He.fAd K d__law_parts_so.at_) fd := T.def_ 27 rfl
theorem F_law (T : TL K mg) : ∃ fd, FunD K d_law.name d_law.qual d_law.params d_law.body d_law.scope (d_law.dvs K) (d_law.kws K) (He.fAd K d_law.at_) fd := T.def_ 28 rfl
theorem F_is_whole (T : TL K mg) : ∃ fd, FunD K d_is_whole.name d_is_whole.qual d_is_whole.params d_is_whole.body d_is_whole.scope (d_is_whole.dvs K) (d_is_whole.kws K) (He.fAd K d_is_whole.at_) fd := T.def_ 29 rfl
theorem F_is_number (T : TL K mg) : ∃ fd, FunD K d_is_number.name d_is_number.qual d_is_number.params d_is_number.body d_is_number.scope (d_is_number.dvs K) (d_is_number.kws K) (He.fAd K d_is_number.at_) fd := T.def_ 30 rfl
theorem F_parts_of (T : TL K mg) : ∃ fd, FunD K d_parts_of.name d_parts_of.qual d_parts_of.params d_parts_of.body d_parts_of.scope (d_parts_of.dvs K) (d_parts_of.kws K) (He.fAd K d_parts_of.at_) fd := T.def_ 31 rfl
theorem F_read_whole (T : TL K mg) : ∃ fd, FunD K d_read_whole.name d_read_whole.qual d_read_whole.params d_read_whole.body d_read_whole.scope (d_read_whole.dvs K) (d_read_whole.kws K) (He.fAd K d_read_whole.at_) fd := T.def_ 32 rfl
theorem F_read_number (T : TL K mg) : ∃ fd, FunD K d_read_number.name d_read_number.qual d_read_number.params d_read_number.body d_read_number.scope (d_read_number.dvs K) (d_read_number.kws K) (He.fAd K d_read_number.at_) fd := T.def_ 33 rfl
theorem F_Ratio___init__ (T : TL K mg) : ∃ fd, FunD K d_Ratio___init__.name d_Ratio___init__.qual d_Ratio___init__.params d_Ratio___init__.body d_Ratio___init__.scope (d_Ratio___init__.dvs K) (d_Ratio___init__.kws K) (He.fAd K d_Ratio___init__.at_) fd := T.def_ 34 rfl
theorem F_Ratio___add__ (T : TL K mg) : ∃ fd, FunD K d_Ratio___add__.name d_Ratio___add__.qual d_Ratio___add__.params d_Ratio___add__.body d_Ratio___add__.scope (d_Ratio___add__.dvs K) (d_Ratio___add__.kws K) (He.fAd K d_Ratio___add__.at_) fd := T.def_ 35 rfl
theorem F_Ratio___sub__ (T : TL K mg) : ∃ fd, FunD K d_Ratio___sub__.name d_Ratio___sub__.qual d_Ratio___sub__.params d_Ratio___sub__.body d_Ratio___sub__.scope (d_Ratio___sub__.dvs K) (d_Ratio___sub__.kws K) (He.fAd K d_Ratio___sub__.at_) fd := T.def_ 36 rfl
theorem F_Ratio___mul__ (T : TL K mg) : ∃ fd, FunD K d_Ratio___mul__.name d_Ratio___mul__.qual d_Ratio___mul__.params d_Ratio___mul__.body d_Ratio___mul__.scope (d_Ratio___mul__.dvs K) (d_Ratio___mul__.kws K) (He.fAd K d_Ratio___mul__.at_) fd := T.def_ 37 rfl
theorem F_Ratio___neg__ (T : TL K mg) : ∃ fd, FunD K d_Ratio___neg__.name d_Ratio___neg__.qual d_Ratio___neg__.params d_Ratio___neg__.body d_Ratio___neg__.scope (d_Ratio___neg__.dvs K) (d_Ratio___neg__.kws K) (He.fAd K d_Ratio___neg__.at_) fd := T.def_ 38 rfl
theorem F_Ratio___eq__ (T : TL K mg) : ∃ fd, FunD K d_Ratio___eq__.name d_Ratio___eq__.qual d_Ratio___eq__.params d_Ratio___eq__.body d_Ratio___eq__.scope (d_Ratio___eq__.dvs K) (d_Ratio___eq__.kws K) (He.fAd K d_Ratio___eq__.at_) fd := T.def_ 39 rfl
theorem F_Ratio_below (T : TL K mg) : ∃ fd, FunD K d_Ratio_below.name d_Ratio_below.qual d_Ratio_below.params d_Ratio_below.body d_Ratio_below.scope (d_Ratio_below.dvs K) (d_Ratio_below.kws K) (He.fAd K d_Ratio_below.at_) fd := T.def_ 40 rfl
theorem F_Ratio_over (T : TL K mg) : ∃ fd, FunD K d_Ratio_over.name d_Ratio_over.qual d_Ratio_over.params d_Ratio_over.body d_Ratio_over.scope (d_Ratio_over.dvs K) (d_Ratio_over.kws K) (He.fAd K d_Ratio_over.at_) fd := T.def_ 41 rfl
theorem F_Ratio_text (T : TL K mg) : ∃ fd, FunD K d_Ratio_text.name d_Ratio_text.qual d_Ratio_text.params d_Ratio_text.body d_Ratio_text.scope (d_Ratio_text.dvs K) (d_Ratio_text.kws K) (He.fAd K d_Ratio_text.at_) fd := T.def_ 42 rfl
theorem F_Ratio___str__ (T : TL K mg) : ∃ fd, FunD K d_Ratio___str__.name d_Ratio___str__.qual d_Ratio___str__.params d_Ratio___str__.body d_Ratio___str__.scope (d_Ratio___str__.dvs K) (d_Ratio___str__.kws K) (He.fAd K d_Ratio___str__.at_) fd := T.def_ 43 rfl
theorem F_Ratio___repr__ (T : TL K mg) : ∃ fd, FunD K d_Ratio___repr__.name d_Ratio___repr__.qual d_Ratio___repr__.params d_Ratio___repr__.body d_Ratio___repr__.scope (d_Ratio___repr__.dvs K) (d_Ratio___repr__.kws K) (He.fAd K d_Ratio___repr__.at_) fd := T.def_ 44 rfl
theorem F_InvalidRatio___init__ (T : TL K mg) : ∃ fd, FunD K d_InvalidRatio___init__.name d_InvalidRatio___init__.qual d_InvalidRatio___init__.params d_InvalidRatio___init__.body d_InvalidRatio___init__.scope (d_InvalidRatio___init__.dvs K) (d_InvalidRatio___init__.kws K) (He.fAd K d_InvalidRatio___init__.at_) fd := T.def_ 45 rfl
theorem a_cls_Ratio (T : TL K mg) : He.Fa.ok K (.cls "Ratio") = true := T.fact 60 rfl
theorem a_mkr_Ratio (T : TL K mg) : He.Fa.ok K (.mkr "Ratio") = true := T.fact 61 rfl
theorem a_noat_Ratio_top (T : TL K mg) : He.Fa.ok K (.noat "Ratio" "top") = true := T.fact 62 rfl
theorem a_noat_Ratio_bottom (T : TL K mg) : He.Fa.ok K (.noat "Ratio" "bottom") = true := T.fact 63 rfl
theorem a_meth_Ratio_below (T : TL K mg) : He.Fa.ok K (.meth "Ratio" "below") = true := T.fact 64 rfl
theorem a_meth_Ratio_over (T : TL K mg) : He.Fa.ok K (.meth "Ratio" "over") = true := T.fact 65 rfl
theorem a_meth_Ratio_text (T : TL K mg) : He.Fa.ok K (.meth "Ratio" "text") = true := T.fact 66 rfl
theorem a_exm_InvalidRatio_InvalidRatio_true (T : TL K mg) : He.Fa.ok K (.exm "InvalidRatio" "InvalidRatio" true) = true := T.fact 67 rfl
theorem a_meth_InvalidRatio___init__ (T : TL K mg) : He.Fa.ok K (.meth "InvalidRatio" "__init__") = true := T.fact 68 rfl
theorem a_noat_InvalidRatio_code (T : TL K mg) : He.Fa.ok K (.noat "InvalidRatio" "code") = true := T.fact 69 rfl
theorem a_noat_InvalidRatio_value (T : TL K mg) : He.Fa.ok K (.noat "InvalidRatio" "value") = true := T.fact 70 rfl
end
end K01
end -- a0
section -- a1
set_option Elab.async false
set_option linter.all false
set_option maxRecDepth 100000
set_option maxHeartbeats 4000000
local macro_rules | `(tactic| walk_at "lvl") => `(tactic| first
  | decide
  | omega
  | (simp only [Nat.add_eq]; omega))
local macro_rules | `(tactic| walk_at "side") => `(tactic| first
  | decide
  | assumption
  | omega
  | exact ⟨by decide, by decide⟩
  | exact ⟨by decide, by decide, by decide⟩
  | exact Or.inl (Or.inr ⟨by decide, by decide⟩)
  | exact Or.inl (Or.inl ⟨by decide, by decide⟩))
local macro_rules | `(tactic| walk_at "s1") => `(tactic| first
  | refine ⟨_, rfl, ?_⟩
  | refine ⟨_, _, rfl, rfl, ?_⟩
  | refine And.intro rfl ?_
  | refine L2.st_ixl (by assumption) (by rfl) ?_
  | refine L2.st_ixt (by assumption) (by rfl) ?_
  | refine L2.st_lenR (L2.lenr_l (by assumption)) ?_
  | refine L2.st_lenR (L2.lenr_t (by assumption)) ?_
  | refine And.intro (by walk_at "side") ?_)
local macro_rules | `(tactic| walk_at "go") => `(tactic| repeat (walk_at "s1"))
namespace K01
open PySem PySem.Spec PyProof.Rows L2
section
variable {P : Program} {w : World} {K : PySem.W.Frag} {mg : Str → Option Value} {base : Heap}
theorem G__law_bag (T : TL K mg) : FX P w K mg base 1 "_law_bag" [] (spBag K) := by
  obtain ⟨fd, F⟩ := F__law_bag T
  refine FX.of F (g__law_bag T) (F.ok0 sc__law_bag (fun vs H Q E h => ?_) (fun cdv A outer s H vs Q E hr h => ?_)) (fun _ _ _ _ _ _ us hl => match us, hl with | [_], _ => rfl)
  · obtain ⟨a, ns, rfl, _⟩ := h
    rfl
  · obtain ⟨a, ns, rfl, hS, hlen, k⟩ := h
    refine ⟨_, (pss_cons (ps_set (i := 1) sc__law_bag.nd rfl (by first | exact Or.inl rfl | exact Or.inr rfl) pe_int)
      (pss_cons (ps_for PassesOwn.never rfl (pi_list (pe_slice sl_list (pv 0) po_none (po_some pe_int))) (pg_name (i := 2) sc__law_bag.nd rfl (by first | exact Or.inl rfl | exact Or.inr rfl))
        (pss_one (ps_set (i := 1) sc__law_bag.nd rfl (by first | exact Or.inl rfl | exact Or.inr rfl) (pe_op op_mod (pe_callTy (T := "int") call_intG (by rfl) (f_int T) (by decide +kernel) (pa_cons (pe_op op_addG (pe_op op_addG (pe_op op_mulI (pv 1) pe_int) (pe_op op_mod (pe_callTy (T := "int") call_intG (by rfl) (f_int T) (by decide +kernel) (pa_cons (pv 2) pa_nil)) pe_int)) pe_int) pa_nil)) pe_int))))
      (pss_one (ps_ret (pe_lst (pa_cons (pe_callTy (T := "list") call_listG (by rfl) (f_list T) (by decide +kernel) (pa_cons (pe_slice sl_list (pv 0) po_none (po_some pe_int)) pa_nil)) (pa_cons pe_int (pa_cons pe_int (pa_cons (pv 1) (pa_cons pe_int pa_nil)))))))))), ?_⟩
    walk_at "go"
    refine st_sll hS fun r H1 n1 a1 s1 => ?_
    obtain ⟨ms, e1⟩ := cutV_map V.int ns none (some 63)
    rw [e1] at a1
    refine ⟨r, rfl, ⟨_, SqL.of a1⟩, for_list (K := K) (a := r) (xs := ms.map V.int) (fun i σ H' => ∃ (m : Int) (iv : Option V), σ = [some (.ref a), some (.int m), iv] ∧ (0 ≤ m ∧ m < 2147483647) ∧ H' = H1)
      ⟨90210547, none, rfl, by decide, rfl⟩ (fun i σ H' _ ⟨_, _, _, _, e⟩ => by rw [e]; exact SqL.of a1) ?_ ?_⟩
    · rintro i x σ H' hi ⟨m, iv, rfl, hm, rfl⟩
      obtain ⟨z, hz, rfl⟩ : ∃ z, ms[i]? = some z ∧ x = V.int z := by
        rw [List.getElem?_map] at hi
        cases e : ms[i]? with
        | none => rw [e] at hi; cases hi
        | some z => rw [e] at hi; exact ⟨z, rfl, (Option.some.inj hi).symm⟩
      walk_at "go"
      refine ⟨_, _, rfl, ?_, rfl⟩
      have h1 := Int.emod_nonneg (m * 48619 + z % 2147483549 + 11) (show (2147483629 : Int) ≠ 0 by decide)
      have h2 := Int.emod_lt_of_pos (m * 48619 + z % 2147483549 + 11) (show (0 : Int) < 2147483629 by decide)
      omega
    · rintro σ H' ⟨m, iv, rfl, hm, rfl⟩
      walk_at "go"
      refine st_sll (s1.seq hS) fun r2 H2 n2 a2 s2 => ?_
      rw [e1] at a2
      walk_at "go"
      refine st_listL (SqL.of a2) fun r3 H3 n3 a3 s3 => ?_
      walk_at "go"
      refine st_lst (by show 5 ≤ _; decide) fun b H4 n4 a4 s4 => ?_
      have sA := ((s1.trans s2).trans s3)
      exact k b r3 H4 (sA.free n4) ⟨ms, 0, 0, m, 0, a4, s4 _ _ a3, ne_of_none a3 n4, Int.le_refl 0, hm, Int.le_refl 0⟩ (sA.trans s4)
theorem G__law_draw (T : TL K mg) : FX P w K mg base 1 "_law_draw" [] spDraw := by
  obtain ⟨fd, F⟩ := F__law_draw T
  refine FX.of F (g__law_draw T) (F.ok0 sc__law_draw (fun vs H Q E h => ?_) (fun cdv A outer s H vs Q E hr h => ?_)) (fun _ _ _ _ _ _ us hl => match us, hl with | [_, _], _ => rfl)
  · obtain ⟨b, l, size, rfl, _⟩ := h
    rfl
  · obtain ⟨b, l, size, rfl, hB, hz, k⟩ := h
    obtain ⟨ns, kk, r, m, n, h1, h2, h3, h4, h5, h6⟩ := id hB
    refine ⟨_, (pss_cons (ps_if (pt_cmpR op_lt (pv 1) pe_int (nomark _))
        (pss_one (ps_ret pe_int))
        pss_nil)
      (pss_cons (ps_asg (pe_op op_addG (pe_ix ix_seq (pv 0) pe_int (fun _ _ => rfl)) pe_int) (pg_sub (pv 0) pe_int set_list))
      (C8.pss_cut (ps_if (PW.pt (pw_and (pt_cmpR op_eq (pe_ix ix_seq (pv 0) pe_int (fun _ _ => rfl)) pe_int (nomark _)) (pw_and1 (pt_cmpR op_lt (pe_ix ix_seq (pv 0) pe_int (fun _ _ => rfl)) (pe_callB call_lenG (by rfl) (f_len T) (by decide +kernel) (pa_cons (pe_ix ix_seq (pv 0) pe_int (fun _ _ => rfl)) pa_nil)) (nomark _)))))
        (pss_cons (ps_set (i := 2) sc__law_draw.nd rfl (by first | exact Or.inl rfl | exact Or.inr rfl) (pe_callTy (T := "int") call_intG (by rfl) (f_int T) (by decide +kernel) (pa_cons (pe_ix ix_seq (pe_ix ix_seq (pv 0) pe_int (fun _ _ => rfl)) (pe_ix ix_seq (pv 0) pe_int (fun _ _ => rfl)) (fun _ _ => rfl)) pa_nil)))
        (pss_cons (ps_asg (pe_op op_addG (pe_ix ix_seq (pv 0) pe_int (fun _ _ => rfl)) pe_int) (pg_sub (pv 0) pe_int set_list))
        (pss_one (ps_if (pt_cmpR op_ge (pv 2) (pe_op op_pow pe_int pe_int) (nomark _))
          (pss_one (ps_asg (pv 2) (pg_sub (pv 0) pe_int set_list)))
          (pss_one (ps_asg (pe_op op_mod (pe_callTy (T := "int") call_intG (by rfl) (f_int T) (by decide +kernel) (pa_cons (pe_op op_addG (pe_op op_addG (pe_op op_mulI (pe_ix ix_seq (pv 0) pe_int (fun _ _ => rfl)) pe_int) (pe_op op_mulI (pe_op op_mod (pe_callTy (T := "int") call_intG (by rfl) (f_int T) (by decide +kernel) (pa_cons (pv 2) pa_nil)) pe_int) pe_int)) pe_int) pa_nil)) pe_int) (pg_sub (pv 0) pe_int set_list)))))))
        pss_nil)
      (pss_cons (ps_if (pt_cmpR op_gt (pe_ix ix_seq (pv 0) pe_int (fun _ _ => rfl)) pe_int (nomark _))
        (pss_cons (ps_set (i := 3) sc__law_draw.nd rfl (by first | exact Or.inl rfl | exact Or.inr rfl) (pe_op op_mod (pe_callTy (T := "int") call_intG (by rfl) (f_int T) (by decide +kernel) (pa_cons (pe_ix ix_seq (pv 0) pe_int (fun _ _ => rfl)) pa_nil)) (pv 1)))
        (pss_cons (ps_asg (pe_op op_fdivW (pe_callTy (T := "int") call_intG (by rfl) (f_int T) (by decide +kernel) (pa_cons (pe_ix ix_seq (pv 0) pe_int (fun _ _ => rfl)) pa_nil)) (pv 1)) (pg_sub (pv 0) pe_int set_list))
        (pss_one (ps_ret (pv 3)))))
        pss_nil)
      (pss_cons (ps_set (i := 4) sc__law_draw.nd rfl (by first | exact Or.inl rfl | exact Or.inr rfl) (pe_callTy (T := "int") call_intG (by rfl) (f_int T) (by decide +kernel) (pa_cons (pe_ix ix_seq (pv 0) pe_int (fun _ _ => rfl)) pa_nil)))
      (pss_cons (ps_asg (pe_op op_mod (pe_callTy (T := "int") call_intG (by rfl) (f_int T) (by decide +kernel) (pa_cons (pe_op op_addG (pe_op op_addG (pe_op op_addG (pe_op op_pow (pv 4) pe_int) (pe_op op_mulI (pv 4) pe_int)) (pe_op op_mulI (pe_ix ix_seq (pv 0) pe_int (fun _ _ => rfl)) pe_int)) pe_int) pa_nil)) pe_int) (pg_sub (pv 0) pe_int set_list))
      (pss_one (ps_ret (pe_op op_mod (pe_callTy (T := "int") call_intG (by rfl) (f_int T) (by decide +kernel) (pa_cons (pe_op op_addG (pe_op op_fdivW (pe_ix ix_seq (pv 0) pe_int (fun _ _ => rfl)) pe_int) (pe_op op_mulI (pe_op op_mod (pe_callTy (T := "int") call_intG (by rfl) (f_int T) (by decide +kernel) (pa_cons (pe_ix ix_seq (pv 0) pe_int (fun _ _ => rfl)) pa_nil)) pe_int) pe_int)) pa_nil)) (pv 1)))))))))), ?_⟩
    walk_at "go"
    refine st_if (fun c => ?_) (fun c => ?_)
    · exact k 0 H (Int.le_refl 0) (.inr rfl) hB (Ext.refl b H)
    · walk_at "go"
      refine st_setX h1 (by rfl) fun H1 a1 x1 => ?_
      have b1 := x1 l _ h3 h2
      have c0 : 0 < size := by omega
      refine ⟨fun σ H' => ∃ (k' : Nat) (r' m' : Int) (iv : Option V), σ = [some (.ref b), some (.int size), iv, none, none] ∧ H' b = some (.lst [.ref l, .int (k' : Int), .int r', .int m', .int (n + 1)]) ∧ 0 ≤ r' ∧ (0 ≤ m' ∧ m' < 2147483647) ∧ Ext b H H', ?_, ?_⟩
      · walk_at "go"
        refine st_if (fun c => ?_) (fun c => ?_)
        · walk_at "go"
          refine st_if (fun c2 => ?_) (fun c2 => ?_)
          · have lk : kk < ns.length := by
              rw [List.length_map] at c2
              omega
            obtain ⟨z, hz2⟩ : ∃ z, ns[kk]? = some z := ⟨ns[kk], List.getElem?_eq_getElem lk⟩
            have hat : atI (ns.map V.int) (kk : Int) = some (.int z) := atI_nat (by rw [List.getElem?_map, hz2]; rfl)
            walk_at "go"
            refine st_ixl b1 hat ?_
            walk_at "go"
            refine st_setX a1 (by rfl) fun H2 a2 x2 => ?_
            walk_at "go"
            refine st_if (fun c3 => ?_) (fun c3 => ?_)
            · walk_at "go"
              refine st_setX a2 (by rfl) fun H3 a3 x3 => ?_
              refine ⟨kk + 1, z, m, _, rfl, ?_, ?_, h5, (x1.trans x2).trans x3⟩
              · exact a3
              · have e18 : ((10 : Int) ^ (18 : Int).toNat) = 1000000000000000000 := by decide
                rw [e18] at c3
                omega
            · walk_at "go"
              have z0 : 0 ≤ z % 2147483549 := Int.emod_nonneg _ (by decide)
              have z1 : z % 2147483549 < 2147483549 := Int.emod_lt_of_pos _ (by decide)
              walk_at "go"
              refine st_setX a2 (by rfl) fun H3 a3 x3 => ?_
              exact ⟨kk + 1, r, _, _, rfl, a3, h4, ⟨Int.emod_nonneg _ (by decide), Int.emod_lt_of_pos _ (by decide)⟩, (x1.trans x2).trans x3⟩
          · exact ⟨kk, r, m, none, rfl, a1, h4, h5, x1⟩
        · refine iteF ?_
          exact ⟨kk, r, m, none, rfl, a1, h4, h5, x1⟩
      · rintro σ H2 ⟨k2, r2, m2, iv, rfl, a2, hr2, hm2, x2⟩
        have b2 := x2 l _ h3 h2
        walk_at "go"
        refine st_if (fun c => ?_) (fun c => ?_)
        · have d1 : CDivW r2 size := wide_div c0 (b := 30) (by omega) (by decide) (by decide)
          walk_at "go"
          refine st_setX a2 (by rfl) fun H3 a3 x3 => ?_
          walk_at "go"
          exact k _ H3 (Int.emod_nonneg _ (by omega)) (.inl (Int.emod_lt_of_pos _ c0)) ⟨ns, k2, r2 / size, m2, n + 1, a3, x3 l _ h3 b2, h3, Int.ediv_nonneg hr2 (by omega), hm2, by omega⟩ (x2.trans x3)
        · have e1 : CPow m2 3 := ⟨by decide, by decide, by omega⟩
          walk_at "go"
          refine st_setX a2 (by rfl) fun H3 a3 x3 => ?_
          walk_at "go"
          refine k _ H3 (Int.emod_nonneg _ (by omega)) (.inl (Int.emod_lt_of_pos _ c0)) ⟨ns, k2, r2, _, n + 1, a3, x3 l _ h3 b2, h3, hr2, ⟨Int.emod_nonneg _ (by decide), Int.emod_lt_of_pos _ (by decide)⟩, by omega⟩ (x2.trans x3)
def spOfL (K : PySem.W.Frag) : Sp := fun vs H Q _ => ∃ (b l a : Addr) (xs : List V), vs = [.ref b, .ref a] ∧ BagAt b l H ∧ (SqL K H a xs ∨ SqT K H a xs) ∧ a ≠ b ∧ xs ≠ [] ∧ xs.length < 1000 ∧
  ∀ (x : V) (H' : Hp), x ∈ xs → BagAt b l H' → Ext b H H' → Q x H'
def spOfS : Sp := fun vs H Q _ => ∃ (b l : Addr) (z : Str), vs = [.ref b, .str z] ∧ BagAt b l H ∧ 0 < z.length ∧ z.length < 1000 ∧ ∀ (c : Nat) (H' : Hp), c ∈ z.cps.toList → BagAt b l H' → Ext b H H' → Q (.str ⟨#[c]⟩) H'
def spOf (K : PySem.W.Frag) : Sp := fun vs H Q E => spOfL K vs H Q E ∨ spOfS vs H Q E
theorem G__law_of (T : TL K mg) : FX P w K mg base 2 "_law_of" [] (spOf K) := by
  obtain ⟨fd, F⟩ := F__law_of T
  refine FX.of F (g__law_of T) (F.ok0 sc__law_of (fun vs H Q E h => ?_) (fun cdv A outer s H vs Q E hr h => ?_)) (fun _ _ _ _ _ _ us hl => match us, hl with | [_, _], _ => rfl)
  · rcases h with ⟨b, l, a, xs, rfl, _⟩ | ⟨b, l, z, rfl, _⟩ <;> rfl
  · refine ⟨_, (pss_one (ps_ret (pe_ix ix_seq (pv 1) (pe_fx (G__law_draw T) (hr.mono (by walk_at "lvl")) passL (pa_cons (pv 0) (pa_cons (pe_callB call_lenG (by rfl) (f_len T) (by decide +kernel) (pa_cons (pv 1) pa_nil)) pa_nil))) (fun _ _ => rfl)))), ?_⟩
    rcases h with ⟨b, l, a, xs, rfl, hB, hS, nab, hne, hl, k⟩ | ⟨b, l, z, rfl, hB, h0, hl, k⟩
    · have l0 : 0 < xs.length := List.length_pos_iff.mpr hne
      have hr : LenR K H a xs.length := by
        rcases hS with h | h
        · exact .inl ⟨_, h, rfl⟩
        · exact .inr ⟨_, h, rfl⟩
      walk_at "go"
      refine st_lenR hr ⟨b, l, _, rfl, hB, by omega, fun d H1 d0 d1 hB1 x1 => ?_⟩
      obtain ⟨j, rfl⟩ : ∃ j : Nat, d = (j : Int) := ⟨d.toNat, by omega⟩
      have hj : j < xs.length := by omega
      have hat : atI xs (j : Int) = some xs[j] := atI_nat (List.getElem?_eq_getElem hj)
      have fin := k xs[j] H1 (List.getElem_mem hj) hB1 x1
      rcases hS with h | h
      · exact st_ixL (x1.seq nab h) hat fin
      · exact .inr (.inl ⟨_, _, _, _, rfl, rfl, x1.seqT nab h, hat, fin⟩)
    · walk_at "go"
      have hz : z.length ≤ sizeLine := Nat.le_trans (Nat.le_of_lt hl) (by decide)
      refine st_lenS hz ⟨b, l, _, rfl, hB, by omega, fun d H1 d0 d1 hB1 x1 => ?_⟩
      obtain ⟨j, rfl⟩ : ∃ j : Nat, d = (j : Int) := ⟨d.toNat, by omega⟩
      have hj : j < z.cps.toList.length := by
        have : z.cps.toList.length = z.length := by simp [PySem.Str.length]
        omega
      exact st_ixs hz (atI_nat (List.getElem?_eq_getElem hj)) (k _ H1 (List.getElem_mem hj) hB1 x1)
end
end K01
end -- a1
section -- a3
set_option Elab.async false
set_option linter.all false
set_option maxRecDepth 100000
set_option maxHeartbeats 4000000
namespace K01
open PySem PySem.Spec PyProof.Rows L2
/-- the Ratio class -/
abbrev RC (K : PySem.W.Frag) : Addr := He.ga K "Ratio"
def tys : List String := ["NoneType", "bool", "int", "str", "list", "tuple", "dict"]
section
variable {P : Program} {w : World} {K : PySem.W.Frag} {mg : Str → Option Value} {base : Heap}
theorem exA (T : TL K mg) : exOx K = true ∧ exO K = true ∧ exS K = true ∧ exR K = true ∧ exR2 K = true ∧ exR3 K = true ∧ exG K = true ∧ exD K = true ∧ exT K = true ∧ exTd K = true := by
  have h : exK K = true := T.more
  unfold exK at h
  simp only [Bool.and_eq_true] at h
  exact h
theorem gGcd (T : TL K mg) : mg "gcd" = some (.builtin "math.gcd") := by
  obtain ⟨hp, X, G⟩ := T.kin
  exact PySem.W.mg_of X G (He.eqO_ok (exA T).2.2.2.2.2.2.1)
theorem digF (T : TL K mg) : PySem.W.nsIn K cStatics "sys.int_max_str_digits" = some none := He.eqO_ok (exA T).2.2.2.2.2.2.2.1
theorem ps_never {X : Cx} {st : Stmt} : PS X st (fun _ _ _ => False) := ⟨fun _ _ _ _ _ _ h => h.elim⟩
theorem kR (T : TL K mg) {t : String} (ht : t ∈ tys) : PySem.W.kitOne K (.type t) (.ref (RC K)) = some false := eq_of_beq (List.all_eq_true.mp (exA T).2.2.2.1 t ht)
theorem kR2 (T : TL K mg) {t : String} (ht : t ∈ ["bool", "int", "str", "list", "tuple", "dict"]) : PySem.W.kitOne K (.ref (RC K)) (.type t) = some false := eq_of_beq (List.all_eq_true.mp (exA T).2.2.2.2.1 t ht)
theorem exB (T : TL K mg) : PySem.W.kitOne K (.ref (RC K)) (.ref (RC K)) = some true ∧ PySem.W.findIn K (.ref (RC K)) "__class__" = some (some (.builtin "object.__class__")) ∧ PySem.W.specialIn K (.builtin "object.__class__") "__get__" = some (some (.builtin "getset_descriptor.__get__")) ∧
    PySem.W.takesIn K (.builtin "object.__class__") = some true ∧ PySem.W.mroIn K (RC K) (.type "object") = some true := by
  have h := (exA T).2.2.2.2.2.1
  unfold exR3 at h
  simp only [Bool.and_eq_true, beq_iff_eq] at h
  obtain ⟨⟨⟨⟨h1, h2⟩, h3⟩, h4⟩, h5⟩ := h
  exact ⟨h1, h2, h3, h4, h5⟩
theorem kR3 (T : TL K mg) : PySem.W.kitOne K (.ref (RC K)) (.ref (RC K)) = some true := (exB T).1
theorem clsR (T : TL K mg) : Cls K (RC K) := He.cls_ok (a_cls_Ratio T)
theorem tyR (T : TL K mg) {H : Hp} {a dx : Addr} {fs : List (Str × V)} (h : H a = some (.ins (RC K) dx fs)) : TyG K w H (.ref a) (.ref (RC K)) :=
  .x (.base (.ins h (clsR T) (exB T).2.1 (exB T).2.2.1 (exB T).2.2.2.1 (exB T).2.2.2.2))
theorem exOs (T : TL K mg) : OwnOp K (RA K) .Add (mR K "__add__") ∧ OwnOp K (RA K) .Sub (mR K "__sub__") ∧ OwnOp K (RA K) .Mult (mR K "__mul__") ∧ OwnEq K (RA K) (mR K "__eq__") ∧ OwnSp K (RA K) "__neg__" (mR K "__neg__") ∧ OwnSp K (RA K) "__str__" (mR K "__str__") ∧ OwnSp K (RA K) "__repr__" (mR K "__repr__") := by
  have h := (exA T).2.1
  unfold exO at h
  simp only [Bool.and_eq_true] at h
  obtain ⟨h1, h2, h3, h4, h5, h6, h7⟩ := h
  exact ⟨ownOp_ok h1, ownOp_ok h2, ownOp_ok h3, ownEq_ok h4, ownSp_ok h5, ownSp_ok h6, ownSp_ok h7⟩
theorem sRead (T : TL K mg) : SMet K (RA K) (.type "type") "read" (mR K "read") (saS K ("Ratio", "read")) := by
  have h := (exA T).2.2.1
  unfold exS at h
  simp only [Bool.and_eq_true] at h
  obtain ⟨h1, h2, h3, h4, h5⟩ := h
  exact ⟨h1, He.eqO_ok h2, isSm_ok h3, headIs_ok h4, h5⟩
theorem xcIR (T : TL K mg) : ExcC K (He.ga K "InvalidRatio") := by
  have h := (exA T).1
  unfold exOx oxB at h
  simp only [Bool.and_eq_true, beq_iff_eq] at h
  obtain ⟨_, ⟨⟨⟨⟨⟨⟨h6, h7⟩, h8⟩, h9⟩, h10⟩, h11⟩, h12⟩, h13⟩ := h
  exact ⟨h6, h7, h8, h9, h10, h11, h12, h13⟩
end
end K01
end -- a3
section -- a4
set_option Elab.async false
set_option linter.all false
set_option maxRecDepth 100000
set_option maxHeartbeats 4000000
local macro_rules | `(tactic| walk_at "lvl") => `(tactic| first
  | decide
  | omega
  | (simp only [Nat.add_eq]; omega))
local macro_rules | `(tactic| walk_at "side") => `(tactic| first
  | decide
  | assumption
  | omega
  | exact ⟨by decide, by decide⟩
  | exact ⟨by decide, by decide, by decide⟩
  | exact Or.inl (Or.inr ⟨by decide, by decide⟩)
  | exact Or.inl (Or.inl ⟨by decide, by decide⟩))
local macro_rules | `(tactic| walk_at "ty") => `(tactic| first
  | assumption
  | exact L2.TyG.x (.base (.int _))
  | exact L2.TyG.x (.base (.str _))
  | exact L2.TyG.x (.base (.bl _))
  | exact L2.TyG.x (.base .non)
  | exact L2.TyG.x (.base (.lst (by assumption)))
  | exact L2.TyG.x (.base (.tup (by assumption)))
  | exact K01.tyR (by assumption) (by assumption)
  | exact L2.TyG.dn (by assumption))
local macro_rules | `(tactic| walk_at "cv") => `(tactic| first
  | exact L2.ClsV.ty _
  | exact L2.ClsV.own _)
local macro_rules | `(tactic| walk_at "kit") => `(tactic| first
  | exact L2.kit_ty (by decide +kernel)
  | exact K01.kR (by assumption) (by decide)
  | exact K01.kR2 (by assumption) (by decide)
  | exact K01.kR3 (by assumption))
local macro_rules | `(tactic| walk_at "s1") => `(tactic| first
  | refine ⟨_, rfl, ?_⟩
  | refine ⟨_, _, rfl, rfl, ?_⟩
  | refine And.intro rfl ?_
  | refine L2.iteT ?_
  | refine L2.iteF ?_
  | refine L2.st_ixl (by assumption) (by rfl) ?_
  | refine L2.st_ixt (by assumption) (by rfl) ?_
  | refine L2.st_lenR (L2.lenr_l (by assumption)) ?_
  | refine L2.st_lenGR (L2.lenr_l (by assumption)) ?_
  | refine L2.st_lenGR (L2.lenr_t (by assumption)) ?_
  | refine L2.st_lenR (L2.lenr_t (by assumption)) ?_
  | refine L2.st_isG (b := false) (by walk_at "ty") (by walk_at "cv") (by walk_at "kit") ?_
  | refine L2.st_isG (b := true) (by walk_at "ty") (by walk_at "cv") (by walk_at "kit") ?_
  | refine And.intro (by walk_at "side") ?_)
local macro_rules | `(tactic| walk_at "go") => `(tactic| repeat (walk_at "s1"))
namespace K01
open PySem PySem.Spec PyProof.Rows L2
section
variable {P : Program} {w : World} {K : PySem.W.Frag} {mg : Str → Option Value} {base : Heap}
@[irreducible] def spInt (K : PySem.W.Frag) (w : World) : Sp := fun vs H Q _ => ∃ (v : V) (t : Value), vs = [v] ∧ TyG K w H v t ∧ ((∃ n ∈ tys, t = .type n ∧ Q (.bl (n == "int")) H) ∨ (t = .ref (RC K) ∧ Q (.bl false) H))
theorem G__law_int (T : TL K mg) : FX P w K mg base 1 "_law_int" [] (spInt K w) := by
  obtain ⟨fd, F⟩ := F__law_int T
  refine FX.of F (g__law_int T) (F.ok0 sc__law_int (fun vs H Q E h => ?_) (fun cdv A outer s H vs Q E hr h => ?_)) (fun _ _ _ _ _ _ us hl => match us, hl with | [_], _ => rfl)
  · unfold spInt at h
    obtain ⟨v, t, rfl, _⟩ := h
    rfl
  · unfold spInt at h
    obtain ⟨v, t, rfl, ty, h⟩ := h
    refine ⟨_, (pss_one (ps_ret (pe_and (pe_callB call_isG (by rfl) (f_isinstance T) (by decide +kernel) (pa_cons (pv 0) (pa_cons (pe_bty (n := "int") (f_int T) (by decide +kernel)) pa_nil))) (pe_one (pe_not (pe_callB call_isG (by rfl) (f_isinstance T) (by decide +kernel) (pa_cons (pv 0) (pa_cons (pe_bty (n := "bool") (f_bool T) (by decide +kernel)) pa_nil)))))))), ?_⟩
    rcases h with ⟨n, hn, rfl, q⟩ | ⟨rfl, q⟩
    · simp only [tys, List.mem_cons, List.not_mem_nil, or_false] at hn
      rcases hn with rfl | rfl | rfl | rfl | rfl | rfl | rfl
      all_goals (walk_at "go"; exact q)
    · walk_at "go"
      exact q
theorem G_is_whole (T : TL K mg) : FX P w K mg base 1 "is_whole" [] (spInt K w) := by
  obtain ⟨fd, F⟩ := F_is_whole T
  refine FX.of F (g_is_whole T) (F.ok0 sc_is_whole (fun vs H Q E h => ?_) (fun cdv A outer s H vs Q E hr h => ?_)) (fun _ _ _ _ _ _ us hl => match us, hl with | [_], _ => rfl)
  · unfold spInt at h
    obtain ⟨v, t, rfl, _⟩ := h
    rfl
  · unfold spInt at h
    obtain ⟨v, t, rfl, ty, h⟩ := h
    refine ⟨_, (pss_one (ps_ret (pe_and (pe_callB call_isG (by rfl) (f_isinstance T) (by decide +kernel) (pa_cons (pv 0) (pa_cons (pe_bty (n := "int") (f_int T) (by decide +kernel)) pa_nil))) (pe_one (pe_not (pe_callB call_isG (by rfl) (f_isinstance T) (by decide +kernel) (pa_cons (pv 0) (pa_cons (pe_bty (n := "bool") (f_bool T) (by decide +kernel)) pa_nil)))))))), ?_⟩
    rcases h with ⟨n, hn, rfl, q⟩ | ⟨rfl, q⟩
    · simp only [tys, List.mem_cons, List.not_mem_nil, or_false] at hn
      rcases hn with rfl | rfl | rfl | rfl | rfl | rfl | rfl
      all_goals (walk_at "go"; exact q)
    · walk_at "go"
      exact q
theorem spInt_i {i : Int} {H : Hp} {Q : VK} {E : XK} (q : Q (.bl true) H) : spInt K w [.int i] H Q E := by
  unfold spInt
  exact ⟨_, _, rfl, .x (.base (.int _)), .inl ⟨"int", by decide, rfl, q⟩⟩
def spDig : Sp := fun vs H Q _ => ∃ (b l : Addr) (cap : Int), vs = [.ref b, .int cap] ∧ BagAt b l H ∧ cap < 1000 ∧ ∀ (m : Int) (H' : Hp), 0 ≤ m → BagAt b l H' → Ext b H H' → Q (.int m) H'
theorem G__law_digits (T : TL K mg) : FX P w K mg base 2 "_law_digits" [] spDig := by
  obtain ⟨fd, F⟩ := F__law_digits T
  refine FX.of F (g__law_digits T) (F.ok0 sc__law_digits (fun vs H Q E h => ?_) (fun cdv A outer s H vs Q E hr h => ?_)) (fun _ _ _ _ _ _ us hl => match us, hl with | [_, _], _ => rfl)
  · obtain ⟨b, l, cap, rfl, _⟩ := h
    rfl
  · obtain ⟨b, l, cap, rfl, hB, hz, k⟩ := h
    refine ⟨_, (pss_cons (ps_set (i := 2) sc__law_digits.nd rfl (by first | exact Or.inl rfl | exact Or.inr rfl) pe_int)
      (pss_cons (ps_for PassesOwn.never rfl (pi_range1 rfl (f_range T) (pa_cons (pe_op op_addG pe_int (pe_fx (G__law_draw T) (hr.mono (by walk_at "lvl")) passL (pa_cons (pv 0) (pa_cons (pv 1) pa_nil)))) pa_nil)) (pg_name (i := 3) sc__law_digits.nd rfl (by first | exact Or.inl rfl | exact Or.inr rfl))
        (pss_one (ps_set (i := 2) sc__law_digits.nd rfl (by first | exact Or.inl rfl | exact Or.inr rfl) (pe_op op_addG (pe_op op_mulI (pv 2) pe_int) (pe_fx (G__law_draw T) (hr.mono (by walk_at "lvl")) passL (pa_cons (pv 0) (pa_cons pe_int pa_nil)))))))
      (pss_one (ps_ret (pv 2))))), ?_⟩
    walk_at "go"
    refine ⟨b, l, cap, rfl, hB, by omega, fun d H1 d0 d1 hB1 x1 => ?_⟩
    walk_at "go"
    refine for_range (lo := 0) (fun i σ H' => ∃ (m : Int) (kv : Option V), σ = [some (.ref b), some (.int cap), some (.int m), kv] ∧ 0 ≤ m ∧ BagAt b l H' ∧ Ext b H H') ⟨0, none, rfl, Int.le_refl 0, hB1, x1⟩ ?_ ?_
    · rintro i σ H' hi ⟨m, kv, rfl, hm, hB2, x2⟩
      walk_at "go"
      refine ⟨b, l, 10, rfl, hB2, by decide, fun d2 H2 e0 e1 hB3 x3 => ?_⟩
      walk_at "go"
      exact ⟨_, _, rfl, by omega, hB3, x2.trans x3⟩
    · rintro σ H' ⟨m, kv, rfl, hm, hB2, x2⟩
      walk_at "go"
      exact k m H' hm hB2 x2
/-- a Ratio made of an int and 2 -/
def spRat (K : PySem.W.Frag) : Sp := fun vs H Q _ => ∃ (x dx : Addr) (t : Int), vs = [.ref x, .int t, .int 2] ∧ H x = some (.ins (RC K) dx []) ∧ H dx = some (.own x) ∧ -10 ≤ t ∧ t ≤ 10 ∧
  ∀ (i j : Int) (H' : Hp), H' x = some (.ins (RC K) dx [("top", .int i), ("bottom", .int j)]) → Ext x H H' → Q .non H'
theorem G_Ratio_init (T : TL K mg) : ∃ fd, FunD K d_Ratio___init__.name d_Ratio___init__.qual d_Ratio___init__.params d_Ratio___init__.body d_Ratio___init__.scope (d_Ratio___init__.dvs K) (d_Ratio___init__.kws K) (He.fAd K d_Ratio___init__.at_) fd ∧ FnOk P w K mg base (L2.CX P w) 2 (He.fAd K d_Ratio___init__.at_) fd ["self", "top", "bottom"] (spRat K) := by
  obtain ⟨fd, F⟩ := F_Ratio___init__ T
  refine ⟨fd, F, F.ok0 sc_Ratio___init__ (fun vs H Q E h => ?_) (fun cdv A outer s H vs Q E hr h => ?_)⟩
  · obtain ⟨x, dx, t, rfl, _⟩ := h
    rfl
  · obtain ⟨x, dx, t, rfl, hx, hd, ht1, ht2, k⟩ := h
    refine ⟨_, (pss_cons (ps_if (pt_not (pt_val (pe_fx (G_is_whole T) (hr.mono (by walk_at "lvl")) passL (pa_cons (pv 1) pa_nil))))
        (pss_one ps_never)
        pss_nil)
      (pss_cons (ps_if (PW.pt (pw_or (pt_not (pt_val (pe_fx (G_is_whole T) (hr.mono (by walk_at "lvl")) passL (pa_cons (pv 2) pa_nil)))) (pw_or1 (pt_cmpR op_eq (pv 2) pe_int (nomark _)))))
        (pss_one ps_never)
        pss_nil)
      (pss_cons (ps_set (i := 3) sc_Ratio___init__.nd rfl (by first | exact Or.inl rfl | exact Or.inr rfl) (pe_callBfun cr_gcd rfl (gGcd T) (pa_cons (pv 1) (pa_cons (pv 2) pa_nil))))
      (pss_cons (ps_if (pt_cmpR op_lt (pv 2) pe_int (nomark _))
        (pss_one (ps_set (i := 3) sc_Ratio___init__.nd rfl (by first | exact Or.inl rfl | exact Or.inr rfl) (pe_un un_neg (pv 3))))
        pss_nil)
      (pss_cons (ps_fld (pv 0) (pe_op op_fdivW (pv 1) (pv 3)) rfl)
      (pss_one (ps_fld (pv 0) (pe_op op_fdivW (pv 2) (pv 3)) rfl))))))), ?_⟩
    walk_at "go"
    refine spInt_i ?_
    walk_at "go"
    refine spInt_i ?_
    walk_at "go"
    refine ⟨t, 2, rfl, ?_⟩
    walk_at "go"
    have hg1 : 0 < t.natAbs.gcd (Int.natAbs 2) := Nat.gcd_pos_of_pos_right _ (by decide)
    have hg2 : t.natAbs.gcd (Int.natAbs 2) ≤ 2 := Nat.gcd_le_right _ (by decide)
    generalize t.natAbs.gcd (Int.natAbs 2) = g at hg1 hg2 ⊢
    have hc : CDivW t (g : Int) := wide_div (b := 30) (by omega) (by omega) (by decide) (by decide)
    have hc2 : CDivW 2 (g : Int) := wide_div (b := 30) (by omega) (by omega) (by decide) (by decide)
    walk_at "go"
    refine ⟨x, _, dx, _, rfl, hx, clsR T, He.noat_ok (a_noat_Ratio_top T), by decide, ?_⟩
    generalize e1 : upd H x _ = H1
    have a1 : H1 x = some (.ins (RC K) dx [("top", .int (t / g))]) := by rw [← e1]; exact upd_same
    have x1 : Ext x H H1 := by rw [← e1]; exact Ext.put
    walk_at "go"
    refine ⟨x, _, dx, _, rfl, a1, clsR T, He.noat_ok (a_noat_Ratio_bottom T), Nat.le_of_ble_eq_true (by rfl), ?_⟩
    generalize e2 : upd H1 x _ = H2
    have a2 : H2 x = some (.ins (RC K) dx [("top", .int (t / g)), ("bottom", .int (2 / g))]) := by rw [← e2]; exact upd_same
    have x2 : Ext x H1 H2 := by rw [← e2]; exact Ext.put
    exact k _ _ H2 a2 (x1.trans x2)
end
end K01
end -- a4
section -- a5
set_option Elab.async false
set_option linter.all false
set_option maxRecDepth 100000
set_option maxHeartbeats 4000000
local macro_rules | `(tactic| walk_at "lvl") => `(tactic| first
  | decide
  | omega
  | (simp only [Nat.add_eq]; omega))
local macro_rules | `(tactic| walk_at "side") => `(tactic| first
  | decide
  | assumption
  | omega
  | exact ⟨by decide, by decide⟩
  | exact ⟨by decide, by decide, by decide⟩
  | exact Or.inl (Or.inr ⟨by decide, by decide⟩)
  | exact Or.inl (Or.inl ⟨by decide, by decide⟩))
local macro_rules | `(tactic| walk_at "ty") => `(tactic| first
  | assumption
  | exact L2.TyG.x (.base (.int _))
  | exact L2.TyG.x (.base (.str _))
  | exact L2.TyG.x (.base (.bl _))
  | exact L2.TyG.x (.base .non)
  | exact L2.TyG.x (.base (.lst (by assumption)))
  | exact L2.TyG.x (.base (.tup (by assumption)))
  | exact K01.tyR (by assumption) (by assumption)
  | exact L2.TyG.dn (by assumption))
local macro_rules | `(tactic| walk_at "cv") => `(tactic| first
  | exact L2.ClsV.ty _
  | exact L2.ClsV.own _)
local macro_rules | `(tactic| walk_at "kit") => `(tactic| first
  | exact L2.kit_ty (by decide +kernel)
  | exact K01.kR (by assumption) (by decide)
  | exact K01.kR2 (by assumption) (by decide)
  | exact K01.kR3 (by assumption))
local macro_rules | `(tactic| walk_at "s1") => `(tactic| first
  | refine ⟨_, rfl, ?_⟩
  | refine ⟨_, _, rfl, rfl, ?_⟩
  | refine And.intro rfl ?_
  | refine L2.iteT ?_
  | refine L2.iteF ?_
  | refine L2.st_ixl (by assumption) (by rfl) ?_
  | refine L2.st_ixt (by assumption) (by rfl) ?_
  | refine L2.st_lenR (L2.lenr_l (by assumption)) ?_
  | refine L2.st_lenGR (L2.lenr_l (by assumption)) ?_
  | refine L2.st_lenGR (L2.lenr_t (by assumption)) ?_
  | refine L2.st_lenR (L2.lenr_t (by assumption)) ?_
  | refine L2.st_isG (b := false) (by walk_at "ty") (by walk_at "cv") (by walk_at "kit") ?_
  | refine L2.st_isG (b := true) (by walk_at "ty") (by walk_at "cv") (by walk_at "kit") ?_
  | refine And.intro (by walk_at "side") ?_)
local macro_rules | `(tactic| walk_at "go") => `(tactic| repeat (walk_at "s1"))
namespace K01
open PySem PySem.Spec PyProof.Rows L2
/-! ### values -/
section
variable (K : PySem.W.Frag) (w : World)
/-- a value without parts -/
def At0 (H : Hp) (v : V) : Prop := v = .non ∨ (∃ x, v = .bl x) ∨ (∃ i : Int, v = .int i ∧ i.natAbs ≤ 1000) ∨ (∃ x, v = .str x ∧ x.length ≤ 5000) ∨ ∃ (a dx : Addr) (i j : Int), v = .ref a ∧ H a = some (.ins (RC K) dx [("top", .int i), ("bottom", .int j)])
/-- a value, at most so deep -/
def Vl : Nat → Hp → V → Prop
  | 0, H, v => At0 K H v
  | n + 1, H, v => At0 K H v ∨ (∃ (a : Addr) (xs : List V), v = .ref a ∧ (H a = some (.lst xs) ∨ H a = some (.tup xs)) ∧ xs.length ≤ 2 ∧ ∀ x ∈ xs, Vl n H x) ∨
    ∃ (a : Addr) (kvs : List NKV), v = .ref a ∧ H a = some (dN w a kvs) ∧ kvs.length ≤ 2 ∧ ∀ p ∈ kvs, KeyH H p.1 p.2.1 ∧ Vl n H p.2.1 ∧ Vl n H p.2.2
end
section
variable {K : PySem.W.Frag} {w : World} {b l : Addr} {H H' : Hp}
theorem Vl.at0 {v : V} (h : At0 K H v) : ∀ n, Vl K w n H v
  | 0 => h
  | _ + 1 => .inl h
theorem Vl.up {v : V} : ∀ {n : Nat} {v : V}, Vl K w n H v → Vl K w (n + 1) H v
  | 0, _, h => .inl h
  | n + 1, _, h => by
    rcases h with h | ⟨a, xs, h1, h2, h3, h4⟩ | ⟨a, kvs, h1, h2, h3, h4⟩
    · exact .inl h
    · exact .inr (.inl ⟨a, xs, h1, h2, h3, fun x hx => Vl.up (v := .non) (h4 x hx)⟩)
    · exact .inr (.inr ⟨a, kvs, h1, h2, h3, fun p hp => ⟨(h4 p hp).1, Vl.up (v := .non) (h4 p hp).2.1, Vl.up (v := .non) (h4 p hp).2.2⟩⟩)
theorem Vl.le {n m : Nat} {v : V} (h : Vl K w n H v) (l : n ≤ m) : Vl K w m H v := by
  obtain ⟨d, rfl⟩ := Nat.le.dest l
  clear l
  induction d with
  | zero => exact h
  | succ d ih => exact Vl.up (v := .non) ih
/-- what is no list of five stays when the bag is drawn from -/
theorem extOff (hB : BagAt b l H) (e : Ext b H H') {a : Addr} {o : HO} (h : H a = some o) (ho : ∀ xs, o = .lst xs → xs.length ≤ 4) : H' a = some o := by
  refine e a o (fun z => ?_) h
  obtain ⟨ns, k, r, m, n, h1, _⟩ := hB
  rw [z, h1] at h
  have h5 := ho _ (Option.some.inj h).symm
  exact absurd h5 (by show ¬ 5 ≤ 4; decide)
theorem KeyH.off (hB : BagAt b l H) (e : Ext b H H') {k : NestedKey} {v : V} (h : KeyH H k v) : KeyH H' k v := h.ext fun a xs q => extOff hB e q (fun ys z => nomatch z)
theorem At0.off (hB : BagAt b l H) (e : Ext b H H') {v : V} (h : At0 K H v) : At0 K H' v := by
  rcases h with h | h | h | h | ⟨a, dx, i, j, h1, h2⟩
  · exact .inl h
  · exact .inr (.inl h)
  · exact .inr (.inr (.inl h))
  · exact .inr (.inr (.inr (.inl h)))
  · exact .inr (.inr (.inr (.inr ⟨a, dx, i, j, h1, extOff hB e h2 (fun ys z => nomatch z)⟩)))
theorem Vl.off (hB : BagAt b l H) (e : Ext b H H') : ∀ {n : Nat} {v : V}, Vl K w n H v → Vl K w n H' v
  | 0, _, h => At0.off hB e h
  | n + 1, _, h => by
    rcases h with h | ⟨a, xs, h1, h2, h3, h4⟩ | ⟨a, kvs, h1, h2, h3, h4⟩
    · exact .inl (At0.off hB e h)
    · refine .inr (.inl ⟨a, xs, h1, ?_, h3, fun x hx => Vl.off hB e (h4 x hx)⟩)
      rcases h2 with h2 | h2
      · exact .inl (extOff hB e h2 (fun ys z => by cases z; omega))
      · exact .inr (extOff hB e h2 (fun ys z => nomatch z))
    · exact .inr (.inr ⟨a, kvs, h1, extOff hB e h2 (fun ys z => by have z' : HO.ext _ = HO.lst ys := z; cases z'), h3, fun p hp => ⟨KeyH.off hB e (h4 p hp).1, Vl.off hB e (h4 p hp).2.1, Vl.off hB e (h4 p hp).2.2⟩⟩)
/-- what is new in H' -/
def Sub (H H' : Hp) : Hp := fun a => match H a with
  | none => H' a
  | some _ => none
theorem Sub.at {H H' : Hp} {a : Addr} {o : HO} (h : Sub H H' a = some o) : H a = none ∧ H' a = some o := by
  unfold Sub at h
  cases e : H a with
  | none => rw [e] at h; exact ⟨rfl, h⟩
  | some u => rw [e] at h; cases h
theorem Sub.of {H H' : Hp} {a : Addr} {o : HO} (h1 : H a = none) (h2 : H' a = some o) : Sub H H' a = some o := by
  unfold Sub
  rw [h1]
  exact h2
theorem At0.same {H H' : Hp} (e : Same H H') {v : V} (h : At0 K H v) : At0 K H' v := by
  rcases h with h | h | h | h | ⟨a, dx, i, j, h1, h2⟩
  · exact .inl h
  · exact .inr (.inl h)
  · exact .inr (.inr (.inl h))
  · exact .inr (.inr (.inr (.inl h)))
  · exact .inr (.inr (.inr (.inr ⟨a, dx, i, j, h1, e _ _ h2⟩)))
theorem Vl.same {H H' : Hp} (e : Same H H') : ∀ {n : Nat} {v : V}, Vl K w n H v → Vl K w n H' v
  | 0, _, h => At0.same e h
  | n + 1, _, h => by
    rcases h with h | ⟨a, xs, h1, h2, h3, h4⟩ | ⟨a, kvs, h1, h2, h3, h4⟩
    · exact .inl (At0.same e h)
    · refine .inr (.inl ⟨a, xs, h1, ?_, h3, fun x hx => Vl.same e (h4 x hx)⟩)
      rcases h2 with h2 | h2
      · exact .inl (e _ _ h2)
      · exact .inr (e _ _ h2)
    · exact .inr (.inr ⟨a, kvs, h1, e _ _ h2, h3, fun p hp => ⟨(h4 p hp).1.ext fun c xs q => e _ _ q, Vl.same e (h4 p hp).2.1, Vl.same e (h4 p hp).2.2⟩⟩)
theorem Vl.sub {H1 H2 H3 H4 : Hp} (f : ∀ a o, H1 a = none → H2 a = some o → H3 a = none ∧ H4 a = some o) {n : Nat} {v : V} (h : Vl K w n (Sub H1 H2) v) : Vl K w n (Sub H3 H4) v :=
  Vl.same (fun a o q => Sub.of (f a o (Sub.at q).1 (Sub.at q).2).1 (f a o (Sub.at q).1 (Sub.at q).2).2) h
theorem Vl.all {H1 H2 : Hp} {n : Nat} {v : V} (h : Vl K w n (Sub H1 H2) v) : Vl K w n H2 v := Vl.same (fun a o q => (Sub.at q).2) h
theorem extDom {H H' : Hp} (hB : BagAt b l H') (e : Ext b H H') {a : Addr} (h : H' a = none) : H a = none := by
  obtain ⟨xs, hb⟩ := hB.isL
  cases q : H a with
  | none => rfl
  | some o =>
    rw [e a o (fun z => by rw [z, hb] at h; cases h) q] at h
    cases h
theorem notB {H : Hp} (hB : BagAt b l H) {a : Addr} (h : H a = none) : a ≠ b := fun z => by
  obtain ⟨xs, hb⟩ := hB.isL
  rw [z, hb] at h
  cases h
end
section
variable {P : Program} {w : World} {K : PySem.W.Frag} {mg : Str → Option Value} {base : Heap}
def lev (d : Nat) : Nat := if d = 0 then 0 else d + 1
/-- a value is drawn, so deep; 0: nothing is promised -/
def spVal (K : PySem.W.Frag) (w : World) : Nat → Sp
  | 0 => fun _ _ _ _ => False
  | d + 1 => fun vs H Q _ => ∃ b l : Addr, vs = [.ref b, .int (d : Int)] ∧ BagAt b l H ∧ ∀ (v : V) (H' : Hp), Vl K w (lev d) (Sub H H') v → BagAt b l H' → Ext b H H' → Q v H'
theorem pickS {zs : List Str} (hz : (zs.all fun z => decide (z.length ≤ 5000)) = true) {x : V} (hx : x ∈ zs.map V.str) : ∃ z, x = .str z ∧ z.length ≤ 5000 := by
  obtain ⟨z, h, rfl⟩ := List.mem_map.mp hx
  exact ⟨z, rfl, of_decide_eq_true (List.all_eq_true.mp hz z h)⟩
/-- a key that is short -/
def KeyN (H : Hp) (k : NestedKey) (v : V) : Prop := (∃ i : Int, i.natAbs ≤ 1000 ∧ k = .num i ∧ v = .int i) ∨ (∃ x, x.length ≤ 5000 ∧ k = .text x ∧ v = .str x) ∨ ∃ (a : Addr) (i : Int) (x : Str), i.natAbs ≤ 1000 ∧ x.length ≤ 5000 ∧ k = .tup [.num i, .text x] ∧ v = .ref a ∧ H a = some (.tup [.int i, .str x])
theorem KeyN.key {H : Hp} {k : NestedKey} {v : V} (h : KeyN H k v) : KeyH H k v := by
  rcases h with ⟨i, _, h⟩ | ⟨x, _, h1, h2⟩ | ⟨a, i, x, _, _, h1, h2, h3⟩
  · exact .inl ⟨i, h⟩
  · exact .inr (.inl ⟨x, h1, h2⟩)
  · exact .inr (.inr ⟨a, i, x, h1, h2, h3⟩)
theorem KeyN.ext {H H' : Hp} {k : NestedKey} {v : V} (h : KeyN H k v) (e : ∀ a xs, H a = some (.tup xs) → H' a = some (.tup xs)) : KeyN H' k v := by
  rcases h with h | h | ⟨a, i, x, hi, h0, h1, h2, h3⟩
  · exact .inl h
  · exact .inr (.inl h)
  · exact .inr (.inr ⟨a, i, x, hi, h0, h1, h2, e _ _ h3⟩)
theorem KeyN.vl {H : Hp} {k : NestedKey} {v : V} (h : KeyN H k v) (n : Nat) : Vl K w (n + 1) H v := by
  rcases h with ⟨i, hi, _, rfl⟩ | ⟨x, h0, _, rfl⟩ | ⟨a, i, x, hi, h0, _, rfl, h3⟩
  · exact .inl (.inr (.inr (.inl ⟨i, rfl, hi⟩)))
  · exact .inl (.inr (.inr (.inr (.inl ⟨x, rfl, h0⟩))))
  · refine .inr (.inl ⟨a, _, rfl, .inr h3, Nat.le_of_ble_eq_true (by rfl), fun y hy => Vl.at0 ?_ n⟩)
    rcases List.mem_cons.mp hy with rfl | hy
    · exact .inr (.inr (.inl ⟨i, rfl, hi⟩))
    · rw [List.mem_singleton.mp hy]
      exact .inr (.inr (.inr (.inl ⟨x, rfl, h0⟩)))
def strs13 : List Str := ["", ".", "a", "b c", "or", "x1", "-1/2", "0", "letters a", "x + 1", "a a", "A", "p"]
theorem mkR (T : TL K mg) : Mk K (RC K) (He.ma K (RC K) "__init__") := He.mkr_ok (a_mkr_Ratio T)
theorem bRat {fd : FuncData} (F : FunD K d_Ratio___init__.name d_Ratio___init__.qual d_Ratio___init__.params d_Ratio___init__.body d_Ratio___init__.scope (d_Ratio___init__.dvs K) (d_Ratio___init__.kws K) (He.fAd K d_Ratio___init__.at_) fd) : Binds K fd ["self", "top", "bottom"] [] := by
  obtain ⟨ds, h1, h2⟩ := F.binds1 (ps := ["self", "top", "bottom"]) 3 1 (fun z => nomatch z) rfl (fun _ _ _ _ _ _ _ us its hu hi => match us, hu, its, hi with | [_, _, _], _, [_], _ => ⟨_, rfl, rfl⟩)
  cases h1
  exact h2
theorem G_value (T : TL K mg) : ∀ d : Nat, FX P w K mg base (d + 4) "_law_value" [] (spVal K w d)
  | 0 => by
    obtain ⟨fd, F⟩ := F__law_value T
    exact FX.of (ps := ["bag", "deep"]) F (g__law_value T) ⟨fun _ _ _ _ h => h.elim, fun _ _ _ _ _ _ _ _ _ _ _ _ _ h => h.elim⟩ (fun _ _ _ _ _ _ us hl => match us, hl with | [_, _], _ => rfl)
  | d + 1 => by
    have R := G_value T d
    obtain ⟨fd, F⟩ := F__law_value T
    obtain ⟨fdR, FR0, FR⟩ := G_Ratio_init (P := P) (w := w) (base := base) T
    have bR := bRat FR0
    refine FX.of F (g__law_value T) (F.ok0 sc__law_value (fun vs H Q E h => ?_) (fun cdv A outer s H vs Q E hr h => ?_)) (fun _ _ _ _ _ _ us hl => match us, hl with | [_, _], _ => rfl)
    · obtain ⟨b, l, rfl, _⟩ := h
      rfl
    · obtain ⟨b, l, rfl, hB, k⟩ := h
      refine ⟨_, (pss_cons (ps_set (i := 2) sc__law_value.nd rfl (by first | exact Or.inl rfl | exact Or.inr rfl) (pe_fx (G__law_draw T) (hr.mono (by walk_at "lvl")) passL (pa_cons (pv 0) (pa_cons (pe_ifExp (pt_cmpR op_gt (pv 1) pe_int (nomark _)) pe_int pe_int) pa_nil))))
      (pss_cons (ps_if (pt_cmpR op_lt (pv 2) pe_int (nomark _))
        (pss_one (ps_ret (pe_ifExp (pt_cmpR op_eq (pv 2) pe_int (nomark _)) pe_non (pe_cmpR op_eq (pe_fx (G__law_draw T) (hr.mono (by walk_at "lvl")) passL (pa_cons (pv 0) (pa_cons pe_int pa_nil))) pe_int (nomark _)))))
        pss_nil)
      (pss_cons (ps_if (pt_cmpR op_eq (pv 2) pe_int (nomark _))
        (pss_one (ps_ret (pe_op op_sub (pe_fx (G__law_draw T) (hr.mono (by walk_at "lvl")) passL (pa_cons (pv 0) (pa_cons pe_int pa_nil))) pe_int)))
        pss_nil)
      (pss_cons (ps_if (pt_cmpR op_eq (pv 2) pe_int (nomark _))
        (pss_one (ps_ret (pe_make (mkR T) FR (hr.mono (by walk_at "lvl")) rfl (g_Ratio T) bR .nil passL (pa_cons (pe_op op_sub (pe_fx (G__law_draw T) (hr.mono (by walk_at "lvl")) passL (pa_cons (pv 0) (pa_cons pe_int pa_nil))) pe_int) (pa_cons pe_int pa_nil)))))
        pss_nil)
      (pss_cons (ps_if (pt_cmpR op_lt (pv 2) pe_int (nomark _))
        (pss_one (ps_ret (pe_fx (G__law_of T) (hr.mono (by walk_at "lvl")) passL (pa_cons (pv 0) (pa_cons (pe_lst (pa_cons pe_str (pa_cons pe_str (pa_cons pe_str (pa_cons pe_str (pa_cons pe_str (pa_cons pe_str (pa_cons pe_str (pa_cons pe_str (pa_cons pe_str (pa_cons pe_str (pa_cons pe_str (pa_cons pe_str (pa_cons pe_str pa_nil)))))))))))))) pa_nil)))))
        pss_nil)
      (pss_cons (ps_setLc (i := 3) (own := [("k", 4)]) (g := gName 4) (tt := tYes) rfl sc__law_value.nd rfl rfl (sw_true rfl rfl rfl (by decide +kernel)) (pi_range1 rfl (f_range T) (pa_cons (pe_fx (G__law_draw T) (hr.mono (by walk_at "lvl")) passL (pa_cons (pv 0) (pa_cons pe_int pa_nil))) pa_nil)) (blkOk_by (N := N__law_value) (sc := defScope s__law_value) (by decide +kernel)) (fun _ _ _ _ _ => pg_name (i := 4) sc__law_value.nd rfl (Or.inl rfl)) (fun _ _ _ _ _ => pts_nil) (fun _ _ _ _ _ => (pe_fx R (hr.mono (by walk_at "lvl")) passL (pa_cons (pv 0) (pa_cons (pe_op op_sub (pv 1) pe_int) pa_nil)))))
      (pss_cons (ps_if (pt_cmpR op_lt (pv 2) pe_int (nomark _))
        (pss_one (ps_ret (pe_ifExp (pt_cmpR op_eq (pv 2) pe_int (nomark _)) (pv 3) (pe_callTy (T := "tuple") call_tupG (by rfl) (f_tuple T) (by decide +kernel) (pa_cons (pv 3) pa_nil)))))
        pss_nil)
      (pss_cons (ps_set (i := 5) sc__law_value.nd rfl (by first | exact Or.inl rfl | exact Or.inr rfl) pe_dnewN)
      (pss_cons (ps_for PassesOwn.never rfl (pi_list (pv 3)) (pg_name (i := 6) sc__law_value.nd rfl (by first | exact Or.inl rfl | exact Or.inr rfl))
        (pss_one (ps_asg (pv 6) (pg_sub (pv 5) (pe_fx (G__law_of T) (hr.mono (by walk_at "lvl")) passL (pa_cons (pv 0) (pa_cons (pe_lst (pa_cons pe_str (pa_cons pe_int (pa_cons (pe_tup (pa_cons pe_int (pa_cons pe_str pa_nil))) (pa_cons pe_str pa_nil))))) pa_nil))) (set_dictN (by have h1 := hr.units; exact Nat.lt_of_le_of_lt (Nat.add_le_add_left (by decide) _) h1))))))
      (pss_one (ps_ret (pv 5)))))))))))), ?_⟩
      walk_at "go"
      refine st_if (fun c => ?_) (fun c => ?_)
      · walk_at "go"
        refine ⟨b, l, _, rfl, hB, by decide, fun pick H1 p0 p1 hB1 x1 => ?_⟩
        have hp : pick < 7 ∨ 0 < d := by omega
        have hp2 : pick < 11 := by omega
        clear p1 c
        walk_at "go"
        refine st_if (fun c1 => ?_) (fun c1 => ?_)
        · walk_at "go"
          refine st_if (fun c2 => ?_) (fun c2 => ?_)
          · walk_at "go"
            exact k _ H1 (Vl.at0 (.inl rfl) _) hB1 x1
          · walk_at "go"
            refine ⟨b, l, 2, rfl, hB1, by decide, fun e H2 e0 e1 hB2 x2 => ?_⟩
            walk_at "go"
            exact k _ H2 (Vl.at0 (.inr (.inl ⟨_, rfl⟩)) _) hB2 (x1.trans x2)
        · walk_at "go"
          refine st_if (fun c2 => ?_) (fun c2 => ?_)
          · walk_at "go"
            refine ⟨b, l, 2001, rfl, hB1, by decide, fun e H2 e0 e1 hB2 x2 => ?_⟩
            walk_at "go"
            exact k _ H2 (Vl.at0 (.inr (.inr (.inl ⟨_, rfl, by omega⟩))) _) hB2 (x1.trans x2)
          · walk_at "go"
            refine st_if (fun c3 => ?_) (fun c3 => ?_)
            · walk_at "go"
              refine ⟨b, l, 7, rfl, hB1, by decide, fun e H2 e0 e1 hB2 x2 => ?_⟩
              walk_at "go"
              refine fun x dx nx nd ne => ⟨x, dx, _, rfl, upd_same, ?_, by omega, by omega, fun i j H4 a4 x4 => ⟨rfl, ?_⟩⟩
              · rw [upd_ne ne, upd_same]
              · have s4 : Same H2 H4 := fun a o h => x4 a o (ne_of_none h nx) (by rw [upd_ne (ne_of_none h nx), upd_ne (ne_of_none h nd)]; exact h)
                exact k _ H4 (Vl.at0 (.inr (.inr (.inr (.inr ⟨x, dx, i, j, rfl, Sub.of (extDom hB2 (x1.trans x2) nx) a4⟩)))) _) (hB2.same s4) ((x1.trans x2).trans (Ext.of s4))
            · walk_at "go"
              refine st_if (fun c4 => ?_) (fun c4 => ?_)
              · walk_at "go"
                refine fun t n2 => ?_
                generalize e2 : upd H1 t _ = H2
                have a2 : H2 t = some (.lst (strs13.map V.str)) := by rw [← e2]; exact upd_same
                have s2 : Same H1 H2 := by rw [← e2]; exact Same.new n2
                refine .inl ⟨b, l, t, _, rfl, hB1.same s2, .inl (SqL.of a2), notB hB1 n2, by decide, by decide, fun x H3 hx hB3 x3 => ?_⟩
                exact k x H3 (Vl.at0 (.inr (.inr (.inr (.inl (pickS (zs := strs13) (by decide) hx))))) _) hB3 ((x1.trans (Ext.of s2)).trans x3)
              · walk_at "go"
                have hd : 0 < d := by omega
                obtain ⟨d', rfl⟩ : ∃ d', d = d' + 1 := ⟨d - 1, by omega⟩
                refine ⟨b, l, 3, rfl, hB1, by decide, fun n H2 n0 n1 hB2 x2 => ?_⟩
                walk_at "go"
                have hn : n.toNat ≤ 2 := by omega
                intro D nD
                have nb : D ≠ b := notB hB2 nD
                obtain ⟨H0, e0⟩ : ∃ H0 : Hp, H0 = upd H2 D (.lst []) := ⟨_, rfl⟩
                have a0 : H0 D = some (.lst []) := by rw [e0]; exact upd_same
                have s0 : Same H2 H0 := by rw [e0]; exact Same.new nD
                have nH : H D = none := extDom hB2 (x1.trans x2) nD
                refine lc_range (lo := 0) (fun i H3 => ∃ acc : List V, H3 D = some (.lst acc) ∧ acc.length = i ∧ (∀ x ∈ acc, Vl K w (lev d') (Sub H0 H3) x) ∧ BagAt b l H3 ∧ (∀ a o, a ≠ b → a ≠ D → H0 a = some o → H3 a = some o)) ?_ ?_ ?_
                · rw [← e0]
                  exact ⟨[], a0, rfl, fun x hx => (nomatch hx), hB2.same s0, fun a o _ _ q => q⟩
                · rintro i H3 hi ⟨acc, f1, f2, f3, hB3, f4⟩
                  have dom3 : ∀ a, H3 a = none → H0 a = none := fun a q => by
                    cases q0 : H0 a with
                    | none => rfl
                    | some o =>
                      rw [f4 a o (notB hB3 q) (fun z => by rw [z, f1] at q; cases q) q0] at q
                      cases q
                  have e9 : ((d' + 1 : Nat) : Int) - 1 = (d' : Int) := by omega
                  walk_at "go"
                  refine ⟨b, l, by show [V.ref b, V.int (((d' + 1 : Nat) : Int) - 1)] = _; rw [e9], hB3, fun v H4 hv hB4 x4 => ?_⟩
                  have g1 := x4 D _ nb f1
                  refine ⟨acc, g1, by have : acc.length ≤ 2 := by omega
                                      exact Nat.lt_of_le_of_lt this (by decide), ?_⟩
                  generalize e5 : upd H4 D _ = H5
                  have a5 : H5 D = some (.lst (acc ++ [v])) := by rw [← e5]; exact upd_same
                  have k5 : ∀ a, a ≠ D → H5 a = H4 a := fun a q => by rw [← e5]; exact upd_ne q
                  have nD0 : ∀ {a : Addr}, H0 a = none → a ≠ D := fun {a} q z => by rw [z, a0] at q; cases q
                  refine ⟨acc ++ [v], a5, by rw [List.length_append, f2]; rfl, fun x hx => ?_, ?_, fun a o q1 q2 q3 => ?_⟩
                  · rcases List.mem_append.mp hx with hx | hx
                    · refine (f3 x hx).sub fun a o q1 q2 => ⟨q1, ?_⟩
                      rw [k5 a (nD0 q1)]
                      exact x4 a o (notB (hB2.same s0) q1) q2
                    · rw [List.mem_singleton.mp hx]
                      refine hv.sub fun a o q1 q2 => ⟨dom3 a q1, ?_⟩
                      rw [k5 a (nD0 (dom3 a q1))]
                      exact q2
                  · obtain ⟨ys, hl⟩ := hB2.isL2
                    exact hB4.two (k5 b (Ne.symm nb)) (k5 l (ne_of_none hl nD))
                  · rw [k5 a q2]
                    exact x4 a o q1 (f4 a o q1 q2 q3)
                · rintro H3 ⟨acc, f1, f2, f3, hB3, f4⟩
                  have l2 : acc.length ≤ 2 := by omega
                  have ll : lev d' ≤ d' + 1 := by unfold lev; split <;> omega
                  have e3 : Ext b H H3 := fun a o q1 q2 => by
                    have q3 := (x1.trans x2) a o q1 q2
                    exact f4 a o q1 (ne_of_none q3 nD) (s0 a o q3)
                  have toH : ∀ a, H0 a = none → H a = none := fun a q => extDom hB2 (x1.trans x2) (s0.free q)
                  have ev : ∀ x ∈ acc, Vl K w (d' + 1) (Sub H H3) x := fun x hx => ((f3 x hx).sub fun a o q1 q2 => ⟨toH a q1, q2⟩).le ll
                  walk_at "go"
                  refine st_if (fun c5 => ?_) (fun c5 => ?_)
                  · walk_at "go"
                    refine st_if (fun c6 => ?_) (fun c6 => ?_)
                    · walk_at "go"
                      exact k _ H3 (.inr (.inl ⟨D, acc, rfl, .inl (Sub.of nH f1), l2, ev⟩)) hB3 e3
                    · walk_at "go"
                      refine st_tupL (SqL.of f1) fun r H4 n4 a4 s4 => ?_
                      exact k _ H4 (.inr (.inl ⟨r, acc, rfl, .inr (Sub.of (extDom hB3 e3 n4) a4), l2, fun x hx => (ev x hx).sub fun a o q1 q2 => ⟨q1, s4 a o q2⟩⟩)) (hB3.same s4) (e3.trans (Ext.of s4))
                  · walk_at "go"
                    refine fun p H4 n4 a4 s4 => ?_
                    walk_at "go"
                    have np : H p = none := extDom hB3 e3 n4
                    have pb : p ≠ b := notB hB3 n4
                    have pD : p ≠ D := fun z => by rw [z, f1] at n4; cases n4
                    refine ⟨⟨_, SqL.of (s4 _ _ f1)⟩, for_list (K := K) (a := D) (xs := acc) (fun i σ H5 => ∃ (kvs : List NKV) (tv : Option V), σ = [some (.ref b), some (.int ((d' + 1 : Nat) : Int)), some (.int pick), some (.ref D), none, some (.ref p), tv] ∧ H5 p = some (dN w p kvs) ∧ kvs.length ≤ i ∧
                      (∀ q ∈ kvs, KeyN (Sub H H5) q.1 q.2.1 ∧ Vl K w (d' + 1) (Sub H H3) q.2.2) ∧ BagAt b l H5 ∧ (∀ a o, a ≠ b → a ≠ p → H4 a = some o → H5 a = some o)) ?_ ?_ ?_ ?_⟩
                    · exact ⟨[], none, rfl, a4, Nat.le_refl _, fun q hq => (nomatch hq), hB3.same s4, fun a o _ _ q => q⟩
                    · rintro i σ H5 hi ⟨kvs, tv, rfl, g1, g2, g3, hB5, g4⟩
                      exact SqL.of (g4 D _ nb (Ne.symm pD) (s4 _ _ f1))
                    · rintro i x σ H5 hi ⟨kvs, tv, rfl, g1, g2, g3, hB5, g4⟩
                      have il : i < acc.length := (List.getElem?_eq_some_iff.mp hi).1
                      have hx : x ∈ acc := List.mem_of_getElem? hi
                      walk_at "go"
                      intro t nt
                      generalize e6 : upd H5 t _ = H6
                      have a6 : H6 t = some (.tup [.int 0, .str "a"]) := by rw [← e6]; exact upd_same
                      have s6 : Same H5 H6 := by rw [← e6]; exact Same.new nt
                      walk_at "go"
                      refine And.intro (by exact Nat.le_of_ble_eq_true (by rfl)) ?_
                      intro ql n7
                      generalize e7 : upd H6 ql _ = H7
                      have a7 : H7 ql = some (.lst [.str "a", .int 1, .ref t, .str "x"]) := by rw [← e7]; exact upd_same
                      have s7 : Same H6 H7 := by rw [← e7]; exact Same.new n7
                      have s57 := s6.trans s7
                      have hB7 := hB5.same s57
                      have tb : t ≠ b := notB hB5 nt
                      have dom5 : ∀ a, H5 a = none → H a = none := fun a q => by
                        cases q0 : H a with
                        | none => rfl
                        | some o =>
                          have q3 := s4 _ _ (e3 a o (notB hB5 q) q0)
                          rw [g4 a o (notB hB5 q) (fun z => by rw [z, g1] at q; cases q) q3] at q
                          cases q
                      refine .inl ⟨b, l, ql, _, rfl, hB7, .inl (SqL.of a7), notB (hB5.same s6) n7, by simp, Nat.lt_of_le_of_lt (Nat.le_of_ble_eq_true (by rfl : Nat.ble _ 4 = true)) (by decide), fun key H8 hk hB8 x8 => ?_⟩
                      have hp8 : H8 p = some (dN w p kvs) := x8 p _ pb (s57 _ _ g1)
                      have kk : ∃ nk, KeyN (Sub H H8) nk key := by
                        simp only [List.mem_cons, List.not_mem_nil, or_false] at hk
                        rcases hk with rfl | rfl | rfl | rfl
                        · exact ⟨_, .inr (.inl ⟨_, by decide, rfl, rfl⟩)⟩
                        · exact ⟨_, .inl ⟨_, by decide, rfl, rfl⟩⟩
                        · exact ⟨_, .inr (.inr ⟨t, 0, "a", by decide, by decide, rfl, rfl, Sub.of (dom5 t nt) (x8 t _ tb (s7 _ _ a6))⟩)⟩
                        · exact ⟨_, .inr (.inl ⟨_, by decide, rfl, rfl⟩)⟩
                      obtain ⟨nk, kn⟩ := kk
                      have k8 : ∀ q ∈ kvs, KeyN (Sub H H8) q.1 q.2.1 := fun q hq => (g3 q hq).1.ext fun a xs z => Sub.of (Sub.at z).1 (x8 a _ (notB hB (Sub.at z).1) (s57 _ _ (Sub.at z).2))
                      have fin : ∀ H9 : Hp, Ext p H8 H9 → (∀ {k : NestedKey} {v : V}, KeyN (Sub H H8) k v → KeyN (Sub H H9) k v) ∧ BagAt b l H9 ∧ (∀ a o, a ≠ b → a ≠ p → H4 a = some o → H9 a = some o) := fun H9 x9 => by
                        refine ⟨fun {k v} z => z.ext fun a xs z => Sub.of (Sub.at z).1 (x9 a _ (fun zz => ?_) (Sub.at z).2), ?_, fun a o q1 q2 q3 => x9 a o q2 (x8 a o q1 (s57 _ _ (g4 a o q1 q2 q3)))⟩
                        · have z2 := (Sub.at z).2
                          rw [zz, hp8] at z2
                          have z3 : HO.ext _ = HO.tup xs := Option.some.inj z2
                          cases z3
                        · obtain ⟨ys, hb8⟩ := hB8.isL
                          obtain ⟨zs, hl8⟩ := hB8.isL2
                          have lp : l ≠ p := fun z => by
                            rw [z, hp8] at hl8
                            have z3 : HO.ext _ = HO.lst zs := Option.some.inj hl8
                            cases z3
                          exact hB8.two ((x9 b _ (Ne.symm pb) hb8).trans hb8.symm) ((x9 l _ lp hl8).trans hl8.symm)
                      walk_at "go"
                      refine ⟨p, nk, rfl, kn.key.ext fun a xs z => (Sub.at z).2, ?_⟩
                      match kvs, g2, g3, hp8, k8 with
                      | [], _, _, hp8, _ =>
                        refine .inl ⟨hp8, fun H9 h9 x9 => ?_⟩
                        obtain ⟨m1, m2, m3⟩ := fin H9 x9
                        exact ⟨_, _, rfl, h9, by show 1 ≤ i + 1; omega, fun q hq => by rw [List.mem_singleton.mp hq]; exact ⟨m1 kn, ev x hx⟩, m2, m3⟩
                      | [(k1, i1, v1)], g2, g3, hp8, k8 =>
                        have l1 : 1 ≤ i := g2
                        refine .inr ⟨k1, i1, v1, hp8, (k8 _ (List.mem_singleton.mpr rfl)).key.ext fun a xs z => (Sub.at z).2, fun H9 kvs' hk' h9 x9 => ?_⟩
                        obtain ⟨m1, m2, m3⟩ := fin H9 x9
                        refine ⟨kvs', _, rfl, h9, ?_, fun q hq => ?_, m2, m3⟩
                        · rcases hk' with rfl | rfl
                          · show 1 ≤ i + 1; omega
                          · show 2 ≤ i + 1; omega
                        · have h1 := m1 (k8 _ (List.mem_singleton.mpr rfl))
                          rcases hk' with rfl | rfl
                          · rw [List.mem_singleton.mp hq]
                            exact ⟨h1, ev x hx⟩
                          · rcases List.mem_cons.mp hq with rfl | hq
                            · exact ⟨h1, (g3 _ (List.mem_singleton.mpr rfl)).2⟩
                            · rw [List.mem_singleton.mp hq]
                              exact ⟨m1 kn, ev x hx⟩
                      | _ :: _ :: _, g2, _, _, _ =>
                        have g2' : 2 ≤ i := Nat.le_trans (Nat.le_add_left 2 _) g2
                        omega
                    · rintro σ H5 ⟨kvs, tv, rfl, g1, g2, g3, hB5, g4⟩
                      walk_at "go"
                      refine k _ H5 (.inr (.inr ⟨p, kvs, rfl, Sub.of np g1, Nat.le_trans g2 l2, fun q hq => ⟨(g3 q hq).1.key, (g3 q hq).1.vl d', (g3 q hq).2.sub fun a o q1 q2 => ⟨q1, ?_⟩⟩⟩)) hB5 fun a o q1 q2 => ?_
                      · exact g4 a o (notB hB q1) (ne_of_none q2 n4) (s4 _ _ q2)
                      · have q3 := e3 a o q1 q2
                        exact g4 a o q1 (ne_of_none q3 n4) (s4 _ _ q3)
      · walk_at "go"
        refine ⟨b, l, _, rfl, hB, by decide, fun pick H1 p0 p1 hB1 x1 => ?_⟩
        have hp : pick < 7 := by omega
        have hp2 : pick < 11 := by omega
        clear p1 c
        walk_at "go"
        refine st_if (fun c1 => ?_) (fun c1 => ?_)
        · walk_at "go"
          refine st_if (fun c2 => ?_) (fun c2 => ?_)
          · walk_at "go"
            exact k _ H1 (Vl.at0 (.inl rfl) _) hB1 x1
          · walk_at "go"
            refine ⟨b, l, 2, rfl, hB1, by decide, fun e H2 e0 e1 hB2 x2 => ?_⟩
            walk_at "go"
            exact k _ H2 (Vl.at0 (.inr (.inl ⟨_, rfl⟩)) _) hB2 (x1.trans x2)
        · walk_at "go"
          refine st_if (fun c2 => ?_) (fun c2 => ?_)
          · walk_at "go"
            refine ⟨b, l, 2001, rfl, hB1, by decide, fun e H2 e0 e1 hB2 x2 => ?_⟩
            walk_at "go"
            exact k _ H2 (Vl.at0 (.inr (.inr (.inl ⟨_, rfl, by omega⟩))) _) hB2 (x1.trans x2)
          · walk_at "go"
            refine st_if (fun c3 => ?_) (fun c3 => ?_)
            · walk_at "go"
              refine ⟨b, l, 7, rfl, hB1, by decide, fun e H2 e0 e1 hB2 x2 => ?_⟩
              walk_at "go"
              refine fun x dx nx nd ne => ⟨x, dx, _, rfl, upd_same, ?_, by omega, by omega, fun i j H4 a4 x4 => ⟨rfl, ?_⟩⟩
              · rw [upd_ne ne, upd_same]
              · have s4 : Same H2 H4 := fun a o h => x4 a o (ne_of_none h nx) (by rw [upd_ne (ne_of_none h nx), upd_ne (ne_of_none h nd)]; exact h)
                exact k _ H4 (Vl.at0 (.inr (.inr (.inr (.inr ⟨x, dx, i, j, rfl, Sub.of (extDom hB2 (x1.trans x2) nx) a4⟩)))) _) (hB2.same s4) ((x1.trans x2).trans (Ext.of s4))
            · walk_at "go"
              refine st_if (fun c4 => ?_) (fun c4 => ?_)
              · walk_at "go"
                refine fun t n2 => ?_
                generalize e2 : upd H1 t _ = H2
                have a2 : H2 t = some (.lst (strs13.map V.str)) := by rw [← e2]; exact upd_same
                have s2 : Same H1 H2 := by rw [← e2]; exact Same.new n2
                refine .inl ⟨b, l, t, _, rfl, hB1.same s2, .inl (SqL.of a2), notB hB1 n2, by decide, by decide, fun x H3 hx hB3 x3 => ?_⟩
                exact k x H3 (Vl.at0 (.inr (.inr (.inr (.inl (pickS (zs := strs13) (by decide) hx))))) _) hB3 ((x1.trans (Ext.of s2)).trans x3)
              · omega
end
end K01
end -- a5
section -- a6
set_option Elab.async false
set_option linter.all false
set_option maxRecDepth 100000
set_option maxHeartbeats 4000000
local macro_rules | `(tactic| walk_at "lvl") => `(tactic| first
  | decide
  | omega
  | (simp only [Nat.add_eq]; omega))
local macro_rules | `(tactic| walk_at "side") => `(tactic| first
  | decide
  | assumption
  | omega
  | exact ⟨by decide, by decide⟩
  | exact ⟨by decide, by decide, by decide⟩
  | exact Or.inl (Or.inr ⟨by decide, by decide⟩)
  | exact Or.inl (Or.inl ⟨by decide, by decide⟩))
local macro_rules | `(tactic| walk_at "ty") => `(tactic| first
  | assumption
  | exact L2.TyG.x (.base (.int _))
  | exact L2.TyG.x (.base (.str _))
  | exact L2.TyG.x (.base (.bl _))
  | exact L2.TyG.x (.base .non)
  | exact L2.TyG.x (.base (.lst (by assumption)))
  | exact L2.TyG.x (.base (.tup (by assumption)))
  | exact K01.tyR (by assumption) (by assumption)
  | exact L2.TyG.dn (by assumption))
local macro_rules | `(tactic| walk_at "cv") => `(tactic| first
  | exact L2.ClsV.ty _
  | exact L2.ClsV.own _)
local macro_rules | `(tactic| walk_at "kit") => `(tactic| first
  | exact L2.kit_ty (by decide +kernel)
  | exact K01.kR (by assumption) (by decide)
  | exact K01.kR2 (by assumption) (by decide)
  | exact K01.kR3 (by assumption))
local macro_rules | `(tactic| walk_at "s1") => `(tactic| first
  | refine ⟨_, rfl, ?_⟩
  | refine ⟨_, _, rfl, rfl, ?_⟩
  | refine ⟨_, _, rfl, ?_⟩
  | refine And.intro rfl ?_
  | refine L2.iteT ?_
  | refine L2.iteF ?_
  | refine L2.st_ixl (by assumption) (by rfl) ?_
  | refine L2.st_ixt (by assumption) (by rfl) ?_
  | refine L2.st_lenR (L2.lenr_l (by assumption)) ?_
  | refine L2.st_lenGR (L2.lenr_l (by assumption)) ?_
  | refine L2.st_lenGR (L2.lenr_t (by assumption)) ?_
  | refine L2.st_lenR (L2.lenr_t (by assumption)) ?_
  | refine L2.st_isG (b := false) (by walk_at "ty") (by walk_at "cv") (by walk_at "kit") ?_
  | refine L2.st_isG (b := true) (by walk_at "ty") (by walk_at "cv") (by walk_at "kit") ?_
  | refine And.intro (by walk_at "side") ?_)
local macro_rules | `(tactic| walk_at "go") => `(tactic| repeat (walk_at "s1"))
namespace K01
open PySem PySem.Spec PyProof.Rows L2
section
variable {P : Program} {w : World} {K : PySem.W.Frag} {mg : Str → Option Value} {base : Heap}
theorem all_rep : ∀ n : Nat, (List.replicate n true).all id = true
  | 0 => rfl
  | n + 1 => all_rep n
theorem st_all {K : PySem.W.Frag} {D : Addr} {n : Nat} {H : Hp} {Q : VK} (h : H D = some (.lst (List.replicate n (.bl true)))) (q : Q (.bl true) H) : rAll K [.ref D] H Q := by
  refine ⟨D, List.replicate n true, rfl, ?_, by rw [all_rep]; exact q⟩
  rw [List.map_replicate]
  exact SqL.of h
theorem rep_step {H H1 H2 H3 : Hp} {D : Addr} {i : Nat} (nD : H D = none) (h : H1 D = some (.lst (List.replicate i (.bl true))) ∧ Same H H1) (s2 : Same H1 H2) (s3 : Same H2 H3) (hi : i < 2 ∨ i < 100) : ∃ acc : List V, H3 D = some (.lst acc) ∧ acc.length < sizeLine ∧
    (upd H3 D (.lst (acc ++ [.bl true])) D = some (.lst (List.replicate (i + 1) (.bl true))) ∧ Same H (upd H3 D (.lst (acc ++ [.bl true])))) := by
  refine ⟨_, (s2.trans s3) _ _ h.1, ?_, ?_, fun a o q => ?_⟩
  · rw [List.length_replicate]
    exact Nat.lt_of_lt_of_le (show i < 100 by omega) (by decide)
  · rw [upd_same, List.replicate_succ']
  · rw [upd_ne (ne_of_none q nD)]
    exact (s2.trans s3) _ _ (h.2 _ _ q)
theorem qd {p : Prop} {i : Decidable p} {Q : VK} {H : Hp} (h : p) (q : Q (.bl true) H) : Q (.bl (decide p)) H := by
  rw [decide_eq_true h]
  exact q
/-- two values of which one is a copy of the other: exact says yes -/
def spEx (K : PySem.W.Frag) (w : World) (r : Nat) : Sp := fun vs H Q _ => ((∃ (x : V) (n : Nat), 2 * n + 1 ≤ r ∧ vs = [x, x] ∧ Vl K w n H x) ∨
    ∃ (a c : Addr) (xs : List V) (n : Nat), 2 * n + 2 ≤ r ∧ vs = [.ref a, .ref c] ∧ H a = some (.lst xs) ∧ H c = some (.lst xs) ∧ xs.length ≤ 2 ∧ ∀ x ∈ xs, Vl K w n H x) ∧ ∀ H', Same H H' → Q (.bl true) H'
theorem G_exact (T : TL K mg) : ∀ r : Nat, FX P w K mg base (r + 2) "_law_exact" [] (spEx K w r)
  | 0 => by
    obtain ⟨fd, F⟩ := F__law_exact T
    refine FX.of (ps := ["told", "due"]) F (g__law_exact T) ⟨fun vs H Q E h => ?_, fun A outer s H args us vs Q E hr e0 hb hv h => ?_⟩ (fun _ _ _ _ _ _ us hl => match us, hl with | [_, _], _ => rfl)
    · obtain ⟨⟨x, n, h, _⟩ | ⟨a, c, xs, n, h, _⟩, _⟩ := h <;> omega
    · obtain ⟨⟨x, n, h, _⟩ | ⟨a, c, xs, n, h, _⟩, _⟩ := h <;> omega
  | r + 1 => by
    have R := G_exact T r
    obtain ⟨fd, F⟩ := F__law_exact T
    refine FX.of F (g__law_exact T) (F.ok0 sc__law_exact (fun vs H Q E h => ?_) (fun cdv A outer s H vs Q E hr h => ?_)) (fun _ _ _ _ _ _ us hl => match us, hl with | [_, _], _ => rfl)
    · obtain ⟨⟨x, n, h, rfl, _⟩ | ⟨a, c, xs, n, h, rfl, _⟩, _⟩ := h <;> rfl
    · refine ⟨_, (pss_cons (ps_if (pt_cmpR op_isN (pv 1) pe_non (nomark _))
        (pss_one (ps_ret (pe_cmpR op_isN (pv 0) pe_non (nomark _))))
        pss_nil)
      (pss_cons (ps_if (pt_val (pe_callB call_isG (by rfl) (f_isinstance T) (by decide +kernel) (pa_cons (pv 1) (pa_cons (pe_bty (n := "bool") (f_bool T) (by decide +kernel)) pa_nil))))
        (pss_one (ps_ret (pe_and (pe_callB call_isG (by rfl) (f_isinstance T) (by decide +kernel) (pa_cons (pv 0) (pa_cons (pe_bty (n := "bool") (f_bool T) (by decide +kernel)) pa_nil))) (pe_one (pe_cmpR op_eq (pv 0) (pv 1) (nomark _))))))
        pss_nil)
      (pss_cons (ps_if (pt_val (pe_callB call_isG (by rfl) (f_isinstance T) (by decide +kernel) (pa_cons (pv 1) (pa_cons (pe_bty (n := "int") (f_int T) (by decide +kernel)) pa_nil))))
        (pss_one (ps_ret (pe_and (pe_fx (G__law_int T) (hr.mono (by walk_at "lvl")) passL (pa_cons (pv 0) pa_nil)) (pe_one (pe_cmpR op_eq (pv 0) (pv 1) (nomark _))))))
        pss_nil)
      (pss_cons (ps_if (pt_val (pe_callB call_isG (by rfl) (f_isinstance T) (by decide +kernel) (pa_cons (pv 1) (pa_cons (pe_bty (n := "str") (f_str T) (by decide +kernel)) pa_nil))))
        (pss_one (ps_ret (pe_and (pe_callB call_isG (by rfl) (f_isinstance T) (by decide +kernel) (pa_cons (pv 0) (pa_cons (pe_bty (n := "str") (f_str T) (by decide +kernel)) pa_nil))) (pe_one (pe_cmpR op_eq (pv 0) (pv 1) (nomark _))))))
        pss_nil)
      (pss_cons (ps_if (pt_val (pe_callB call_isG (by rfl) (f_isinstance T) (by decide +kernel) (pa_cons (pv 1) (pa_cons (pe_gr (g_Ratio T)) pa_nil))))
        (pss_one (ps_ret (pe_and (pe_callB call_isG (by rfl) (f_isinstance T) (by decide +kernel) (pa_cons (pv 0) (pa_cons (pe_gr (g_Ratio T)) pa_nil))) (pe_and (pe_cmpR op_eq (pe_fld (pv 0) rfl) (pe_fld (pv 1) rfl) (nomark _)) (pe_one (pe_cmpR op_eq (pe_fld (pv 0) rfl) (pe_fld (pv 1) rfl) (nomark _)))))))
        pss_nil)
      (pss_cons (ps_if (pt_val (pe_callB call_isG (by rfl) (f_isinstance T) (by decide +kernel) (pa_cons (pv 1) (pa_cons (pe_bty (n := "dict") (f_dict T) (by decide +kernel)) pa_nil))))
        (pss_cons (ps_if (PW.pt (pw_or (pt_not (pt_val (pe_callB call_isG (by rfl) (f_isinstance T) (by decide +kernel) (pa_cons (pv 0) (pa_cons (pe_bty (n := "dict") (f_dict T) (by decide +kernel)) pa_nil))))) (pw_or1 (pt_cmpR op_ne (pe_callB call_lenGN (by rfl) (f_len T) (by decide +kernel) (pa_cons (pv 0) pa_nil)) (pe_callB call_lenGN (by rfl) (f_len T) (by decide +kernel) (pa_cons (pv 1) pa_nil)) (nomark _)))))
          (pss_one (ps_ret pe_bl))
          pss_nil)
        (pss_one (ps_ret (pe_callB (cr_all rfl) (by rfl) (f_all T) (by decide +kernel) (pa_cons (pe_lc (own := [("pair", 2), ("wanted", 3)]) (g := gTup K 2 (gCons (gName 2) (gCons (gName 3) gNil))) (tt := tYes) rfl sc__law_exact.nd (RZ.pi_zipA (by rfl) (f_zip T) (pa_cons (pe_listItemsN rfl (pv 0) rfl (f_list T) (by decide +kernel)) (pa_cons (pe_listItemsN rfl (pv 1) rfl (f_list T) (by decide +kernel)) pa_nil))) (blkOk_by (N := N__law_exact) (sc := defScope s__law_exact) (by decide +kernel)) (fun _ _ _ _ _ => pg_tup rfl (pgs_cons (pg_name (i := 2) sc__law_exact.nd rfl (Or.inl rfl)) (pgs_cons (pg_name (i := 3) sc__law_exact.nd rfl (Or.inl rfl)) pgs_nil))) (fun _ _ _ _ _ => pts_nil) (fun _ _ _ _ _ => (pe_fx R (hr.mono (by walk_at "lvl")) passL (pa_cons (pe_callTy (T := "list") (call_listK (K := K) rfl) (by rfl) (f_list T) (by decide +kernel) (pa_cons (pv 2) pa_nil)) (pa_cons (pe_callTy (T := "list") (call_listK (K := K) rfl) (by rfl) (f_list T) (by decide +kernel) (pa_cons (pv 3) pa_nil)) pa_nil))))) pa_nil)))))
        pss_nil)
      (pss_cons (ps_if (PW.pt (pw_or (PW.pt (pw_and (pt_val (pe_callB call_isG (by rfl) (f_isinstance T) (by decide +kernel) (pa_cons (pv 1) (pa_cons (pe_bty (n := "list") (f_list T) (by decide +kernel)) pa_nil)))) (pw_and1 (pt_not (pt_val (pe_callB call_isG (by rfl) (f_isinstance T) (by decide +kernel) (pa_cons (pv 0) (pa_cons (pe_bty (n := "list") (f_list T) (by decide +kernel)) pa_nil)))))))) (pw_or1 (PW.pt (pw_and (pt_val (pe_callB call_isG (by rfl) (f_isinstance T) (by decide +kernel) (pa_cons (pv 1) (pa_cons (pe_bty (n := "tuple") (f_tuple T) (by decide +kernel)) pa_nil)))) (pw_and1 (pt_not (pt_val (pe_callB call_isG (by rfl) (f_isinstance T) (by decide +kernel) (pa_cons (pv 0) (pa_cons (pe_bty (n := "tuple") (f_tuple T) (by decide +kernel)) pa_nil)))))))))))
        (pss_one (ps_ret pe_bl))
        pss_nil)
      (pss_one (ps_ret (pe_and (pe_cmpR op_eq (pe_callB call_lenGN (by rfl) (f_len T) (by decide +kernel) (pa_cons (pv 0) pa_nil)) (pe_callB call_lenGN (by rfl) (f_len T) (by decide +kernel) (pa_cons (pv 1) pa_nil)) (nomark _)) (pe_one (pe_callB (cr_all rfl) (by rfl) (f_all T) (by decide +kernel) (pa_cons (pe_lc (own := [("a", 4), ("b", 5)]) (g := gTup K 2 (gCons (gName 4) (gCons (gName 5) gNil))) (tt := tYes) rfl sc__law_exact.nd (RZ.pi_zipA (by rfl) (f_zip T) (pa_cons (pv 0) (pa_cons (pv 1) pa_nil))) (blkOk_by (N := N__law_exact) (sc := defScope s__law_exact) (by decide +kernel)) (fun _ _ _ _ _ => pg_tup rfl (pgs_cons (pg_name (i := 4) sc__law_exact.nd rfl (Or.inl rfl)) (pgs_cons (pg_name (i := 5) sc__law_exact.nd rfl (Or.inl rfl)) pgs_nil))) (fun _ _ _ _ _ => pts_nil) (fun _ _ _ _ _ => (pe_fx R (hr.mono (by walk_at "lvl")) passL (pa_cons (pv 4) (pa_cons (pv 5) pa_nil))))) pa_nil))))))))))))), ?_⟩
      obtain ⟨h, k⟩ := h
      have k0 : Q (.bl true) H := k H (Same.refl H)
      rcases h with ⟨x, n, hn, rfl, hv⟩ | ⟨a, c, xs, n, hn, rfl, ha, hc, hl, hx⟩
      · have cases3 : At0 K H x ∨ (∃ (m : Nat) (a : Addr) (xs : List V), 2 * m + 1 ≤ r ∧ x = .ref a ∧ (H a = some (.lst xs) ∨ H a = some (.tup xs)) ∧ xs.length ≤ 2 ∧ ∀ y ∈ xs, Vl K w m H y) ∨
            ∃ (m : Nat) (a : Addr) (kvs : List NKV), 2 * m + 2 ≤ r ∧ x = .ref a ∧ H a = some (dN w a kvs) ∧ kvs.length ≤ 2 ∧ ∀ p ∈ kvs, KeyH H p.1 p.2.1 ∧ Vl K w m H p.2.1 ∧ Vl K w m H p.2.2 := by
          cases n with
          | zero => exact .inl hv
          | succ m =>
            rcases hv with h | ⟨a, xs, h⟩ | ⟨a, kvs, h⟩
            · exact .inl h
            · exact .inr (.inl ⟨m, a, xs, by omega, h⟩)
            · exact .inr (.inr ⟨m, a, kvs, by omega, h⟩)
        rcases cases3 with (rfl | ⟨y, rfl⟩ | ⟨i, rfl, hi⟩ | ⟨z, rfl, hz⟩ | ⟨a, dx, i, j, rfl, ha⟩) | ⟨m, a, xs, hm, rfl, ha | ha, hl, hx⟩ | ⟨m, a, kvs, hm, rfl, ha, hl, hx⟩
        · walk_at "go"
          exact qd rfl k0
        · walk_at "go"
          exact qd rfl k0
        · walk_at "go"
          refine spInt_i ?_
          walk_at "go"
          exact qd rfl k0
        · walk_at "go"
          exact qd rfl k0
        · walk_at "go"
          refine ⟨a, _, dx, _, _, rfl, ha, clsR T, He.noat_ok (a_noat_Ratio_top T), by rfl, ?_⟩
          walk_at "go"
          refine ⟨a, _, dx, _, _, rfl, ha, clsR T, He.noat_ok (a_noat_Ratio_top T), by rfl, ?_⟩
          walk_at "go"
          refine st_if (fun c => ?_) (fun c => absurd rfl c)
          walk_at "go"
          refine ⟨a, _, dx, _, _, rfl, ha, clsR T, He.noat_ok (a_noat_Ratio_bottom T), by rfl, ?_⟩
          walk_at "go"
          refine ⟨a, _, dx, _, _, rfl, ha, clsR T, He.noat_ok (a_noat_Ratio_bottom T), by rfl, ?_⟩
          walk_at "go"
          exact qd rfl k0
        · walk_at "go"
          refine st_if (fun c => ?_) (fun c => absurd rfl c)
          walk_at "go"
          refine ⟨a, a, xs, xs, rfl, .inl ⟨SqL.of ha, SqL.of ha, ?_⟩⟩
          intro D nD
          refine lc_zipL rfl (fun i H1 => H1 D = some (.lst (List.replicate i (.bl true))) ∧ Same H H1) ⟨upd_same, Same.new nD⟩ (fun i H1 h => ⟨SqL.of (h.2 _ _ ha), SqL.of (h.2 _ _ ha)⟩) ?_ ?_
          · intro i y y' t H1 H2 h1 h2 h3 nT hT s2
            obtain rfl : y = y' := Option.some.inj (h1.symm.trans h2)
            refine ⟨t, [y, y], rfl, .inl (.inl hT), rfl, ?_⟩
            walk_at "go"
            refine ⟨.inl ⟨y, m, hm, rfl, (hx y (List.mem_of_getElem? h1)).same (h3.2.trans s2)⟩, fun H3 s3 => ?_⟩
            exact rep_step nD h3 s2 s3 (.inl <| Nat.lt_of_lt_of_le (List.getElem?_eq_some_iff.mp h1).1 hl)
          · rintro H1 ⟨h1, h2⟩
            walk_at "go"
            exact st_all h1 (k H1 h2)
        · walk_at "go"
          refine st_if (fun c => ?_) (fun c => absurd rfl c)
          walk_at "go"
          refine ⟨a, a, xs, xs, rfl, .inr ⟨.inl (.inl ha), .inl (.inl ha), ?_⟩⟩
          intro D nD
          refine lc_zipT rfl (fun i H1 => H1 D = some (.lst (List.replicate i (.bl true))) ∧ Same H H1) ⟨upd_same, Same.new nD⟩ (fun i H1 h => ⟨.inl (.inl (h.2 _ _ ha)), .inl (.inl (h.2 _ _ ha))⟩) ?_ ?_
          · intro i y y' t H1 H2 h1 h2 h3 nT hT s2
            obtain rfl : y = y' := Option.some.inj (h1.symm.trans h2)
            refine ⟨t, [y, y], rfl, .inl (.inl hT), rfl, ?_⟩
            walk_at "go"
            refine ⟨.inl ⟨y, m, hm, rfl, (hx y (List.mem_of_getElem? h1)).same (h3.2.trans s2)⟩, fun H3 s3 => ?_⟩
            exact rep_step nD h3 s2 s3 (.inl <| Nat.lt_of_lt_of_le (List.getElem?_eq_some_iff.mp h1).1 hl)
          · rintro H1 ⟨h1, h2⟩
            walk_at "go"
            exact st_all h1 (k H1 h2)
        · walk_at "go"
          refine st_lenGN ha (by omega) ?_
          walk_at "go"
          refine st_lenGN ha (by omega) ?_
          walk_at "go"
          refine st_ifn (fun z => absurd rfl z) (fun _ => ?_)
          walk_at "go"
          refine ⟨a, kvs, rfl, ha, by omega, fun H1 p1 t1 s1 n1 nt1 a1 e1 => ?_⟩
          walk_at "go"
          refine ⟨a, kvs, rfl, s1 _ _ ha, by omega, fun H2 p2 t2 s2 n2 nt2 a2 e2 => ?_⟩
          walk_at "go"
          have lt1 : t1.length = kvs.length := Paired.length e1
          have lt2 : t2.length = kvs.length := Paired.length e2
          refine ⟨p1, p2, t1.map V.ref, t2.map V.ref, rfl, .inl ⟨SqL.of (s2 _ _ a1), SqL.of a2, ?_⟩⟩
          intro D nD
          have lh : (t1.map V.ref).length ≤ 2 := by rw [List.length_map, lt1]; exact hl
          refine lc_zipL (by rw [List.length_map, List.length_map, lt1, lt2]) (fun i H3 => H3 D = some (.lst (List.replicate i (.bl true))) ∧ Same H2 H3) ⟨upd_same, Same.new nD⟩ (fun i H3 h => ⟨SqL.of (h.2 _ _ (s2 _ _ a1)), SqL.of (h.2 _ _ a2)⟩) ?_ ?_
          · intro i y y' t H3 H4 h1 h2 h3 nT hT s4
            have hi : i < 2 := Nat.lt_of_lt_of_le (List.getElem?_eq_some_iff.mp h1).1 lh
            rw [List.getElem?_map] at h1 h2
            obtain ⟨u1, hu1, rfl⟩ := Option.map_eq_some_iff.mp h1
            obtain ⟨u2, hu2, rfl⟩ := Option.map_eq_some_iff.mp h2
            obtain ⟨q, hq, f1⟩ := LiI.paired_get e1 hu1
            obtain ⟨q', hq', f2⟩ := LiI.paired_get e2 hu2
            obtain rfl : q = q' := Option.some.inj (hq.symm.trans hq')
            have g1 : H4 u1 = some (.tup [q.2.1, q.2.2]) := (h3.2.trans s4) _ _ (s2 _ _ f1)
            have g2 : H4 u2 = some (.tup [q.2.1, q.2.2]) := (h3.2.trans s4) _ _ f2
            refine ⟨t, [.ref u1, .ref u2], rfl, .inl (.inl hT), rfl, ?_⟩
            walk_at "go"
            refine st_listT (.inl (.inl g1)) fun r1 H5 n5 a5 s5 => ?_
            walk_at "go"
            refine st_listT (.inl (.inl (s5 _ _ g2))) fun r2 H6 n6 a6 s6 => ?_
            walk_at "go"
            have sA : Same H H6 := ((((s1.trans s2).trans h3.2).trans s4).trans s5).trans s6
            obtain ⟨v1, v2, v3⟩ := hx q (List.mem_of_getElem? hq)
            refine ⟨.inr ⟨r1, r2, [q.2.1, q.2.2], m, hm, rfl, s6 _ _ a5, a6, Nat.le_refl 2, fun e he => ?_⟩, fun H7 s7 => ?_⟩
            · rcases List.mem_cons.mp he with rfl | he
              · exact v2.same sA
              · rw [List.mem_singleton.mp he]
                exact v3.same sA
            · exact rep_step nD h3 (s4.trans (s5.trans s6)) s7 (.inl hi)
          · rintro H3 ⟨h1, h2⟩
            walk_at "go"
            exact st_all h1 (k H3 ((s1.trans s2).trans h2))
      · walk_at "go"
        refine st_if (fun _ => ?_) (fun z => absurd rfl z)
        walk_at "go"
        refine ⟨a, c, xs, xs, rfl, .inl ⟨SqL.of ha, SqL.of hc, ?_⟩⟩
        intro D nD
        refine lc_zipL rfl (fun i H1 => H1 D = some (.lst (List.replicate i (.bl true))) ∧ Same H H1) ⟨upd_same, Same.new nD⟩ (fun i H1 h => ⟨SqL.of (h.2 _ _ ha), SqL.of (h.2 _ _ hc)⟩) ?_ ?_
        · intro i y y' t H1 H2 h1 h2 h3 nT hT s2
          obtain rfl : y = y' := Option.some.inj (h1.symm.trans h2)
          refine ⟨t, [y, y], rfl, .inl (.inl hT), rfl, ?_⟩
          walk_at "go"
          refine ⟨.inl ⟨y, n, by omega, rfl, (hx y (List.mem_of_getElem? h1)).same (h3.2.trans s2)⟩, fun H3 s3 => ?_⟩
          exact rep_step nD h3 s2 s3 (.inl <| Nat.lt_of_lt_of_le (List.getElem?_eq_some_iff.mp h1).1 hl)
        · rintro H1 ⟨h1, h2⟩
          walk_at "go"
          exact st_all h1 (k H1 h2)
end
end K01
end -- a6
section -- FwLam
set_option Elab.async false
set_option linter.all false
set_option maxRecDepth 100000
set_option maxHeartbeats 4000000
/-! FwLam: a lambda without parameters handed on through defs, called at last in a try. -/
namespace L2
open PySem PySem.Spec PyProof.Rows LamX
theorem Un.trans2 {L : Addr} {fr : List Addr} {H H1 H2 : Hp} {h h1 h2 : Heap} (a : Un fr [] H H1 h h1) (b : Un (L :: fr) [] H1 H2 h1 h2) (hL : h.get? L = none) : Un fr [] H H2 h h2 where
  keep := fun c ob q n hc hx => b.keep c ob (a.keep c ob q n hc hx) (a.free c ob q n hx) (fun z => (List.mem_cons.mp z).elim (fun e => by rw [e, hL] at q; cases q) hc) hx
  slot := fun c ob q n hc hx => by
    obtain ⟨sl, e1⟩ := a.slot c ob q n hc hx
    obtain ⟨sl2, e2⟩ := b.any e1 (a.free c ob q n hx) hx
    exact ⟨sl2, e2⟩
  free := fun c ob q n hx => by
    obtain ⟨sl, e1⟩ := a.any q n hx
    exact b.free c _ e1 (a.free c ob q n hx) hx
  there := fun c ob q hx => by
    obtain ⟨o', e⟩ := a.there c ob q hx
    exact b.there c o' e hx
  tups := fun c xs q => b.tups c xs (a.tups c xs q)
  frzs := fun c o u q => b.frzs c o u (a.frzs c o u q)
  tbls := fun c ps q => by
    obtain ⟨m1, e1⟩ := a.tbls c ps q
    obtain ⟨m2, e2⟩ := b.tbls c _ e1
    exact ⟨m1 ++ m2, by rw [e2, Array.append_assoc]⟩
/-- what the call of the function at f does, from (s, H) on -/
structure Deed (P : Program) (w : World) (K : PySem.W.Frag) (mg : Str → Option Value) (base : Heap) (k : Nat) (fr : List Addr) (f : Addr) (s : Shared) (H : Hp) (tl : XK → Hp → VK → Prop) : Prop where
  fn : ∃ (oc : Value) (od : Option Addr) (fd : FuncData) (sl : Array (Option Value)), s.heap.get? f = some ⟨oc, od, .func fd, sl⟩
  un : H f = none
  nf : f ∉ fr
  run : ∀ (A : Around) (outer : List Env) (s1 : Shared) (H1 : Hp), Un fr [] H H1 s.heap s1.heap → Env0 P w K mg base A outer s1 H1 → Room (k + 1) A → ∀ (E : XK) (Q : VK), tl E H1 Q → codeAny (model P w) A (.call (.ref f) ⟨[], []⟩) (CR (L2.CX P w) outer P w H1 s1 Q E) s1
section
variable {P : Program} {w : World} {K : PySem.W.Frag} {mg : Str → Option Value} {base : Heap} {k : Nat} {fr : List Addr} {f L : Addr} {s s1 : Shared} {H H1 : Hp} {tl : XK → Hp → VK → Prop}
theorem Deed.here (d : Deed P w K mg base k fr f s H tl) (u : Un fr [] H H1 s.heap s1.heap) : Deed P w K mg base k fr f s1 H1 tl := by
  obtain ⟨oc, od, fd, sl, e⟩ := d.fn
  exact ⟨⟨oc, od, fd, sl, u.keep f _ e d.un d.nf (by simp)⟩, u.free f _ e d.un (by simp), d.nf, fun A outer s2 H2 u2 => d.run A outer s2 H2 (u.trans u2)⟩
theorem Deed.deeper (d : Deed P w K mg base k fr f s H tl) (u : Un fr [] H H1 s.heap s1.heap) (hL : s.heap.get? L = none) : Deed P w K mg base k (L :: fr) f s1 H1 tl := by
  obtain ⟨oc, od, fd, sl, e⟩ := d.fn
  exact ⟨⟨oc, od, fd, sl, u.keep f _ e d.un d.nf (by simp)⟩, u.free f _ e d.un (by simp), fun z => (List.mem_cons.mp z).elim (fun q => by rw [← q, e] at hL; cases hL) d.nf, fun A outer s2 H2 u2 => d.run A outer s2 H2 (u.trans2 u2 hL)⟩
/-- the lambda just made is such a deed -/
theorem deed_of {X : Cx} {pins : List (Addr × Obj)} {σ : L2.St} {c' : Addr} {pm ctv : Value} {params : Arguments} {body : Expr} {scope : Scope} {tb : XK → TE} (I : Inv X pins σ H s) (Ls : LamS X.env.scope scope)
    (hf : s.heap.get? f = some (PySem.W.kla_obj "<lambda>" (X.env.qual ++ "<lambda>") params body scope (cloFrom X.env.cells scope.names []) pm c' ctv)) (hfn : H f = none) (hfr : f ∉ frs X.stack) (hco : H c' = some (CodeO c' (X.env.qual ++ "<lambda>")))
    (hbind : bindArgs (PySem.W.kla_fn "<lambda>" (X.env.qual ++ "<lambda>") params body scope (cloFrom X.env.cells scope.names []) pm (.ref c') ctv) ⟨[], []⟩ = pure [])
    (hbody : ∀ (A : Around) (outer : List Env) (s : Shared) (H : Hp) (E : XK), Room k (A.deeper (lamEnv X scope s.heap.objs.size f c')) → PE (lamCx X A outer s H E scope f c') body (tb E)) :
    Deed X.prog X.w X.K X.mg X.base k (frs X.stack) f s H (fun E H' Q' => H' c' = some (CodeO c' (X.env.qual ++ "<lambda>")) ∧ tb E σ H' Q') := by
  refine ⟨⟨_, _, _, _, hf⟩, hfn, hfr, fun A outer s1 HZ un e0 hr E Q hq => ?_⟩
  obtain ⟨hc, ht⟩ := hq
  have of1 : s1.heap.get? f = some (PySem.W.kla_obj "<lambda>" (X.env.qual ++ "<lambda>") params body scope (cloFrom X.env.cells scope.names []) pm c' ctv) := un.keep f _ hf hfn hfr (by simp)
  obtain ⟨⟨oc, vs, t, hoc, hdc, hvc⟩, _, _⟩ := e0.hok c' _ hc
  have nolim : s1.heap.NoLimit := e0.mod.nolimit.keeps fun b o e => (e0.bs b o e).1
  refine PySem.W.kla_callFunE hr.depth of1 rfl Ls.co Ls.gen rfl ⟨c', oc, vs, t, rfl, hoc, hdc, hvc⟩ ?_
  rw [hbind]
  refine wpAny_pure (wpAny_newFunctionEnv (fun y hy => (Ls.own y hy).2) (fun y hy => absurd hy (by simp)) (fun h₁ hns hsb => ⟨nolim.fresh _ hsb, ?_⟩) Ls.kind)
  show codeAny _ _ (.expr body (lamEnv X scope s1.heap.objs.size f c')) _ _
  have kp : ∀ b o, s1.heap.get? b = some o → h₁.get? b = some o := fun b o e => hsb.extBut b o (Nat.ne_of_lt (Heap.lt_size e)) (Heap.get?_push_of_some _ e)
  have J : Inv (lamCx X A outer s1 HZ E scope f c') [] σ HZ { s1 with heap := h₁, toks := s1.toks + ([] : List (Str × Value)).length } := lam_start2 I Ls e0 hr.hd un hns kp
  refine PySem.W.kla_codeExpr (wpAny_mono ((hbody _ _ s1 HZ E (hr.deeper _)).run [] _ _ HZ Q J ht) (fun v s' hq => ?_) fun e s' hq => hq)
  obtain ⟨w', H', J', rv, q⟩ := hq
  exact ⟨w', H', J'.os, J'.bare, J'.base, J'.hok, rv, q⟩
end
/-! ### defs that are handed deeds -/
abbrev Dds : Type := Addr → (XK → Hp → VK → Prop) → Prop
abbrev SpD : Type := Dds → Sp
def deeds (P : Program) (w : World) (K : PySem.W.Frag) (mg : Str → Option Value) (base : Heap) (k : Nat) (outer : List Env) (s : Shared) (H : Hp) : Dds := fun f tl => Deed P w K mg base k (frs outer) f s H tl
structure FnDd (P : Program) (w : World) (K : PySem.W.Frag) (mg : Str → Option Value) (base : Heap) (kd k : Nat) (f : Addr) (fd : FuncData) (ps : List Str) (sp : SpD) : Prop where
  len : ∀ D vs H Q E, sp D vs H Q E → vs.length = ps.length
  mono : ∀ (D D' : Dds) vs H Q E, (∀ f tl, D f tl → D' f tl) → sp D vs H Q E → sp D' vs H Q E
  run : ∀ (A : Around) (outer : List Env) (s : Shared) (H : Hp) (args : Args) (us : List Value) (vs : List V) (Q : VK) (E : XK), Room k A → Env0 P w K mg base A outer s H → BindsTo s fd args (ps.zip us) → Vals vs us → sp (deeds P w K mg base kd outer s H) vs H Q E →
    codeAny (model P w) A (.call (.ref f) args) (CR (L2.CX P w) outer P w H s Q E) s
theorem FunD.okD {P : Program} {w : World} {K : PySem.W.Frag} {mg : Str → Option Value} {base : Heap} {x qual : Str} {params : Arguments} {body : List Stmt} {scope : Scope} {dvs : List V} {kws : List (Str × V)} {f : Addr} {fd : FuncData} {N ps : List Str} {kd k : Nat} {sp : SpD}
    (F : FunD K x qual params body scope dvs kws f fd) (S : FnScope N ps scope) (len : ∀ D vs H Q E, sp D vs H Q E → vs.length = ps.length) (mono : ∀ (D D' : Dds) vs H Q E, (∀ f tl, D f tl → D' f tl) → sp D vs H Q E → sp D' vs H Q E)
    (hbody : ∀ (cdv : Value) (A : Around) (outer : List Env) (s : Shared) (H : Hp) (vs : List V) (Q : VK) (E : XK), Room k (A.deeper (envOfC qual scope s.heap.objs.size f cdv)) → sp (deeds P w K mg base kd outer s H) vs H Q E →
      ∃ t, PSs (cxOf (L2.CX P w) P w K mg base N qual scope f cdv A outer s H E) body t ∧ t { nx := fun _ H' => Q .non H', rt := Q } (start N vs) H) : FnDd P w K mg base kd (k + 1) f fd ps sp := by
  obtain ⟨oc, od, dV, kV, doc, pm, an, cdv, ct, osl, rfl, lk, hcd, _, _⟩ := F.ex
  exact ⟨len, mono, fun A outer s H args us vs Q E hr e0 hb r hsp => run_ofS lk hcd S hr e0 hb r (len _ _ _ _ _ hsp) fun hr' => hbody cdv A outer s H vs Q E hr' hsp⟩
/-- the deeds that a context was entered with, told at its entry -/
def Cx.deeds (X : Cx) (k : Nat) : Dds := L2.deeds X.prog X.w X.K X.mg X.base k X.outer X.s_0 X.H_0
/-- .. are deeds for what is called from it -/
theorem deeds_call {X : Cx} {pins : List (Addr × Obj)} {σ : L2.St} {H : Hp} {s : Shared} {k : Nat} {L : Addr} (I : Inv X pins σ H s) (hs : frs X.stack = L :: frs X.outer) (hex : X.ex = []) (hL : X.s_0.heap.get? L = none) : ∀ f tl, X.deeds k f tl → L2.deeds X.prog X.w X.K X.mg X.base k X.stack s H f tl := by
  intro f tl d
  have u : Un (frs X.outer) [] X.H_0 H X.s_0.heap s.heap := by
    have b := I.base
    rw [hex] at b
    exact b
  show Deed _ _ _ _ _ _ _ _ _ _ _
  rw [hs]
  exact Deed.deeper (show Deed X.prog X.w X.K X.mg X.base k (frs X.outer) f X.s_0 X.H_0 tl from d) u hL
/-- a def is called that is handed a deed -/
theorem pe_dd {X : Cx} {kd k : Nat} {f L : Addr} {fd : FuncData} {ps : List Str} {sp : SpD} {x : Str} {q pos : Pos} {e : Expr} {es : List Expr} {t : TA} {E : XK} (F : FnDd X.prog X.w X.K X.mg X.base kd k f fd ps sp) (hr : Room k X.A) (hm : X.mg x = some (.ref f)) (hk : PySem.W.keepIn X.K (.ref f) = true) (hb : Binds X.K fd ps [])
    (hx : Passes (L2.CX X.prog X.w) X E) (ha : PA X (e :: es) t) (hs : frs X.stack = L :: frs X.outer := by rfl) (hex : X.ex = [] := by rfl) (hL : X.s_0.heap.get? L = none) (hg : Gl X x := by rfl) (hdb : (x == ("__debug__" : Str)) = false := by decide) (he : starEach (e :: es) X.env = (false, eval e X.env) :: starEach es X.env := by rfl) (hpl : (backTo pos (starEach es X.env)).any (·.1) = false := by rfl) :
    PE X (.Call (.Name x q) (e :: es) [] pos) (fun σ H Q => t σ H fun vs H1 => sp (X.deeds kd) vs H1 Q E) := by
  refine ⟨fun pins s σ H Q I h => wpAny_Call_Name_kw (ld_glob I hg hm ?_ hdb)⟩
  refine PySem.W.callWith_K (h₀ := X.base) I.ok.mod.kin hk (thn (ha.run pos pins s σ H _ I h) fun us s1 ⟨vs, H1, I1, r, q1⟩ => ⟨I1.kIn, ?_⟩) he hpl
  show wpAny _ _ (call (.ref f) us) _ _ _
  have hl : us.length = ps.length := by rw [← r.length]; exact F.len _ _ _ _ _ q1
  have b := hb s1 us I1.kIn (by rw [List.append_nil]; exact hl)
  rw [List.append_nil] at b
  refine wpAny_call (codeAny_mono (F.run X.A X.stack s1 H1 ⟨us, []⟩ us vs Q E hr I1.env0 b r (F.mono _ _ _ _ _ _ (deeds_call I1 hs hex hL) q1)) fun r' s' hq => ?_)
  cases r' with
  | error e => exact hx pins σ H1 s1 e s' I1 hq
  | ok fl =>
    cases fl with
    | ret u => exact I1.after hq
    | next => exact False.elim hq
    | brk => exact False.elim hq
    | cont => exact False.elim hq
end L2
end -- FwLam
section -- FwLam2
set_option Elab.async false
set_option linter.all false
set_option maxRecDepth 100000
set_option maxHeartbeats 4000000
/-! FwLam2: the deed called; a lambda handed to a def; several except clauses with a name. -/
namespace L2
open PySem PySem.Spec PyProof.Rows LamX
theorem run_deed {X : Cx} {pins : List (Addr × Obj)} {σ : L2.St} {H : Hp} {s : Shared} {Q : VK} {E : XK} {kd : Nat} {f : Addr} {tl : XK → Hp → VK → Prop} (I : Inv X pins σ H s) (hr : Room (kd + 1) X.A) (hex : X.ex = []) (d : X.deeds kd f tl) (hx : PassesAt (L2.CX X.prog X.w) X σ E) (h : tl E H Q) :
    wpAny (model X.prog X.w) X.A (call (.ref f) []) (EP X pins σ Q) X.xe s := by
  have u : Un (frs X.outer) [] X.H_0 H X.s_0.heap s.heap := by
    have b := I.base
    rw [hex] at b
    exact b
  have d1 : Deed X.prog X.w X.K X.mg X.base kd (frs X.outer) f X.s_0 X.H_0 tl := d
  refine wpAny_call (codeAny_mono (d1.run X.A X.stack s H u I.env0 hr E Q h) fun r s' hq => ?_)
  cases r with
  | error e => exact hx pins _ _ e s' I hq
  | ok fl =>
    cases fl with
    | ret u => exact I.after hq
    | next => exact False.elim hq
    | brk => exact False.elim hq
    | cont => exact False.elim hq
/-- a(), a the deed that slot i holds -/
def tDeed (D : Dds) (i : Nat) (E : St → XK) : TE := fun σ H Q => ∃ f tl, σ[i]? = some (some (.ref f)) ∧ D f tl ∧ tl (E σ) H Q
theorem pe_deed {X : Cx} {D : Dds} {kd i : Nat} {a : Str} {E : St → XK} {p1 p2 : Pos} (hD : ∀ f tl, D f tl → X.deeds kd f tl) (hN : X.N[i]? = some a) (hv : Vis X.env.scope a) (hr : Room (kd + 1) X.A) (hx : ∀ σ, PassesAt (L2.CX X.prog X.w) X σ (E σ)) (hex : X.ex = [] := by rfl) (hd : (a == ("__debug__" : Str)) = false := by decide) (hcd : (a == ("__classdict__" : Str)) = false := by decide) :
    PE X (.Call (.Name a p1) [] [] p2) (tDeed D i E) := by
  refine ⟨fun pins s σ H Q I h => ?_⟩
  obtain ⟨f, tl, hs, d0, ht⟩ := h
  have d := hD _ _ d0
  refine wpAny_Call_Name_kw (thn ((pe_var (pos := p1) (i := i) hN hv hd hcd).run pins s σ H (fun v H1 => v = .ref f ∧ H1 = H) I ⟨.ref f, hs, rfl, rfl⟩) fun u s1 ⟨v, H1, I1, r1, q1⟩ => ?_)
  obtain ⟨ev, eH⟩ := q1
  subst ev
  rw [eH] at I1
  obtain rfl : u = Value.ref f := r1
  have u2 : Un (frs X.outer) [] X.H_0 H X.s_0.heap s1.heap := by
    have b := I1.base
    rw [hex] at b
    exact b
  have d1 : Deed X.prog X.w X.K X.mg X.base kd (frs X.outer) f X.s_0 X.H_0 tl := d
  obtain ⟨oc, od, fd, sl, e⟩ := d1.fn
  exact PySem.W.callWith_F0 ⟨_, _, _, _, u2.keep f _ e d1.un d1.nf (by simp)⟩ (run_deed I1 hr hex d (hx σ) ht)
/-! ### a lambda handed to a def -/
def tLamD (T : List (Addr × Str)) (q : Str) (sp : SpD) (E : XK) (t : TA) (tb : XK → TE) : TE := fun σ H Q => Tabs T H ∧ ∀ (H1 : Hp) (f c' : Addr), ExtN H H1 → Tabs T H1 → H1 c' = some (CodeO c' q) →
  t σ H1 fun vs H2 => (∀ b o, H1 b = some o → H2 b = some o) ∧ sp (fun g tl => g = f ∧ tl = fun E' H' Q' => H' c' = some (CodeO c' q) ∧ tb E' σ H' Q') (.ref f :: vs) H2 Q E
theorem pin_in {X : Cx} {pins : List (Addr × Obj)} {σ : L2.St} {H : Hp} {s : Shared} {f : Addr} {o : Obj} (I : Inv X pins σ H s) (hf : s.heap.get? f = some o) (hn : H f = none) (hfr : f ∉ frs X.stack) (hs : frs X.stack = X.env.locals :: frs X.outer) (hc : ∀ v, o.data ≠ .cell v) : Inv X ((f, o) :: pins) σ H s := by
  rw [hs] at hfr
  refine I.pins_of fun p hp => ?_
  rcases List.mem_cons.mp hp with e | e
  · subst e
    exact ⟨hf, hn, fun z => hfr (by rw [show f = X.env.locals from z]; exact List.mem_cons_self), fun z => hfr (List.mem_cons_of_mem _ z), hc⟩
  · exact I.pin p (List.mem_append_right _ e)
theorem pe_lamD {X : Cx} {T : List (Addr × Str)} {x : Str} {g c P : Addr} {kd k : Nat} {fd : FuncData} {ps : List Str} {sp : SpD} {E : XK} {params : Arguments} {body : Expr} {scope : Scope} {tb : XK → TE} {es : List Expr} {t : TA} {p lpos pos : Pos} (hg : Gl X x) (hm : X.mg x = some (.ref g)) (hk : PySem.W.keepIn X.K (.ref g) = true)
    (F : FnDd X.prog X.w X.K X.mg X.base kd k g fd ps sp) (hb : Binds X.K fd ps []) (hr : Room k X.A) (hx : Passes (L2.CX X.prog X.w) X E)
    (TB : TabB X.base X.mg c P) (hcode : X.env.code = .ref c) (hmT : (P, X.env.qual ++ "<lambda>") ∈ T) (hu : ∀ p ∈ T, p.1 = P → p.2 = X.env.qual ++ "<lambda>") (Ls : LamS X.env.scope scope) (hdef : defaultsOf params X.env = ([], []))
    (hbind : ∀ (q : Str) (cl : List (Str × Addr)) (pm cv ctv : Value), bindArgs (PySem.W.kla_fn "<lambda>" q params body scope cl pm cv ctv) ⟨[], []⟩ = pure [])
    (hbody : ∀ (A : Around) (outer : List Env) (s : Shared) (H : Hp) (E : XK) (f c' : Addr), Room kd (A.deeper (lamEnv X scope s.heap.objs.size f c')) → PE (lamCx X A outer s H E scope f c') body (tb E)) (ha : PA X es t)
    (hs : frs X.stack = X.env.locals :: frs X.outer := by rfl) (he : starEach (.Lambda params body scope lpos :: es) X.env = (false, eval (.Lambda params body scope lpos) X.env) :: starEach es X.env := by rfl) (hpl : (backTo pos (starEach es X.env)).any (·.1) = false := by rfl) (hdb : (x == ("__debug__" : Str)) = false := by decide) :
    PE X (.Call (.Name x p) (.Lambda params body scope lpos :: es) [] pos) (tLamD T (X.env.qual ++ "<lambda>") sp E t tb) := by
  refine ⟨fun pins s σ H Q I h => ?_⟩
  obtain ⟨hT, h⟩ := h
  refine wpAny_Call_Name_kw (ld_glob I hg hm ?_ hdb)
  refine PySem.W.callWith_K (h₀ := X.base) I.ok.mod.kin hk ?_ he hpl
  rw [he]
  show wpAny _ _ (spliced ((false, eval (.Lambda params body scope lpos) X.env) :: backTo pos (starEach es X.env))) _ _ s
  refine Calls.spliced_cons (lam_make2 I TB hcode hmT hu hT hdef (Ls.has I.ok) fun f c' pm' ctv H1 s' I1 eN T1 hf hfn hfr hco => ?_)
  have I2 : Inv X ((f, _) :: pins) σ H1 s' := pin_in I1 hf hfn hfr hs (fun v z => nomatch z)
  refine wpAny_mono (ha.run pos _ s' σ H1 _ I2 (h H1 f c' eN T1 hco)) (fun us s2 hq => ?_) fun _ _ z => z
  obtain ⟨vs, H2, I3, rv, sm, q⟩ := hq
  have P3 := I3.pin (f, _) (List.mem_append_right _ List.mem_cons_self)
  have I4 : Inv X pins σ H2 s2 := ClX.unpin I3
  refine ⟨I4.kIn, ?_⟩
  show wpAny _ _ (call (.ref g) (.ref f :: us)) _ _ _
  have d := deed_of (k := kd) I4 Ls P3.1 P3.2.1 hfr (sm _ _ hco) (hbind _ _ _ _ _) (fun A outer s H E hr2 => hbody A outer s H E f c' hr2)
  have r2 : Vals (.ref f :: vs) (.ref f :: us) := .cons rfl rv
  have hl : (Value.ref f :: us).length = ps.length := by rw [← r2.length]; exact F.len _ _ _ _ _ q
  have b := hb s2 (.ref f :: us) I4.kIn (by rw [List.append_nil]; exact hl)
  rw [List.append_nil] at b
  refine wpAny_call (codeAny_mono (F.run X.A X.stack s2 H2 ⟨.ref f :: us, []⟩ (.ref f :: us) (.ref f :: vs) Q E hr I4.env0 b r2 (F.mono _ _ _ _ _ _ (fun g' tl' hh => ?_) q)) fun r' s3 hq => ?_)
  · obtain ⟨rfl, rfl⟩ := hh
    exact d
  cases r' with
  | error e => exact hx pins σ H2 s2 e s3 I4 hq
  | ok fl =>
    cases fl with
    | ret u => exact I4.after hq
    | next => exact False.elim hq
    | brk => exact False.elim hq
    | cont => exact False.elim hq
end L2
end -- FwLam2
section -- FwTryM
set_option Elab.async false
set_option linter.all false
set_option maxRecDepth 100000
set_option maxHeartbeats 4000000
/-! FwTryM: try .. except A as n .. except B as n .. -/
namespace L2
open PySem PySem.Spec PyProof.Rows
def endsAs (i : Nat) (D : Ends) : Ends := { nx := fun σ' H' => D.nx (σ'.set i none) H', rt := D.rt, bk := fun σ' H' => D.bk (σ'.set i none) H', ct := fun σ' H' => D.ct (σ'.set i none) H' }
/-- what the clauses wish of an exception of the body, one after the other; slot i is the name's -/
def wManyAs (K : PySem.W.Frag) (Wout : WX) (i : Nat) (D : Ends) : List (Value × (Addr → Value → Option Addr → TS)) → WX
  | [] => Wout
  | (c, ts) :: r => fun cls d σ H => ∃ b, PySem.W.exmOne K cls c = some b ∧ (b = true → ∀ a, H a = none → ts a cls d (endsAs i D) (σ.set i (some (.ref a))) H) ∧ (b = false → wManyAs K Wout i D r cls d σ H)
inductive HdsAs (X : Cx) (n : Str) : List ExceptHandler → List (Value × (Addr → Value → Option Addr → TS)) → Prop
  | nil : HdsAs X n [] []
  | cons {x : Str} {c : Value} {ts : Addr → Value → Option Addr → TS} {b₀ : Stmt} {suite : List Stmt} {np pos' : Pos} {hds : List ExceptHandler} {l : List (Value × (Addr → Value → Option Addr → TS))} (hc : Names X x c)
      (hsu : ∀ (a : Addr) (oe : Obj) (cls : Value) (d : Option Addr) (pn : List (Addr × Obj)), Zc cls d oe → (∃ vs, oe.data = .fields vs) → PSs (X.suite a ((a, oe) :: pn)) (b₀ :: suite) (ts a cls d)) (r : HdsAs X n hds l) :
      HdsAs X n (.ExceptHandler (some (.Name x np)) (some n) (b₀ :: suite) pos' :: hds) ((c, ts) :: l)
section
variable {X : Cx} {n : Str} {i : Nat} {body : List Stmt} {h₀ : ExceptHandler} {hds : List ExceptHandler} {l : List (Value × (Addr → Value → Option Addr → TS))} {pos : Pos} {tb : WX → TS} {Wout : WX}
theorem ps_try_manyAs (hs : X.stack = X.env :: X.outer) (hf : X.env.frame = some X.env.locals) (hN : X.N.Nodup) (hi : X.N[i]? = some n) (hln : X.env.kindOf n = some .local) (tk : Takes X Wout)
    (hb : ∀ (W : WX) (pn : List (Addr × Obj)) (xe : Value → Shared → Prop), Takes (X.tr pn xe) W → PassesOwn (model X.prog X.w) X.A X.env xe → PSs (X.tr pn xe) body (tb W))
    (hh : HdsAs X n (h₀ :: hds) l) : PS X (.Try body (h₀ :: hds) [] [] pos) (fun D σ H => tb (wManyAs X.K Wout i D l) D σ H) := by
  refine ⟨fun pins s σ H D I h => ?_⟩
  have ok := I.ok
  have hfr : X.A.frames = some (X.env :: X.outer) := by rw [ok.frames, hs]
  have hloc : Loc X.env.scope n := .inl hln
  refine wpAny_Try_except ?_
  refine wpAny_mono ((hb (wManyAs X.K Wout i D l) (X.pn ++ pins) (fun e s₁ => wpAny (model X.prog X.w) X.A (noteFrame e X.env) (fun _ s₂ => wpAny (model X.prog X.w) X.A (setFlight e none) (fun _ s₃ =>
    wpAny (model X.prog X.w) X.A (handleBy e X.env (h₀ :: hds)) (SP X pins D) X.xe s₃) X.xe s₂) X.xe s₁) (fun u s' xx => ?_) PassesOwn.looking).run [] s σ H D (I.toTry _) h) (fun f s1 hsp => ?_) (fun e s1 he => he)
  · obtain ⟨a, B, sI, pins', σ', H', cls, d, rfl, J', nb, up, sky, na, os, ag, w⟩ := xx
    have J : Inv X pins σ' H' sI := J'.ofTry ok
    have sky' : Sky B (X.env :: X.outer) a (Zc cls d) X.env.locals s'.heap := by rw [← hs]; exact sky
    show wpAny (model X.prog X.w) X.A (noteFrame (.ref a) X.env) _ _ _
    refine Sky.land Zc.steady hfr hf sky' fun h3 fl3 up3 => ?_
    have J3 : Inv X pins σ' H' { s' with heap := h3 } := J.landed nb fl3.1 (up.trans up3) os ag
    obtain ⟨oe3, vs3, he3, hz3, hd3⟩ := fl3.there
    have notFr : ∀ {h : Heap} {o : Obj} {vs : Array Value}, h.FunFrames B (X.env :: X.outer) → h.get? a = some o → o.data = .fields vs → a ∉ frs (X.env :: X.outer) := fun {h o vs} ff e dd hm => by
      obtain ⟨_, o', e', hnf⟩ := ff.mem hm
      rw [e] at e'; cases e'
      exact hnf _ dd
    have nfr := notFr fl3.2.2.1 he3 hd3
    have nL : a ≠ X.env.locals := fun z => nfr (List.mem_filterMap.mpr ⟨X.env, List.mem_cons_self, by rw [hf, z]⟩)
    have nF : a ∉ X.fs := fun hm => by
      obtain ⟨e, he, q⟩ := List.mem_filterMap.mp hm
      exact nfr (List.mem_filterMap.mpr ⟨e, List.mem_cons_of_mem _ he, q⟩)
    have S3 := J3.suite he3 hd3 na nL nF
    have go : ∀ {hds' : List ExceptHandler} {l' : List (Value × (Addr → Value → Option Addr → TS))}, HdsAs X n hds' l' → wManyAs X.K Wout i D l' cls d σ' H' →
        wpAny (model X.prog X.w) X.A (handleBy (.ref a) X.env hds') (SP X pins D) X.xe { s' with heap := h3 } := by
      intro hds' l' hk
      induction hk with
      | nil =>
        intro w
        refine wpAny_handleBy_nil ?_
        obtain ⟨k1, k2, k3, oe, vs, T, oT, ts', he, hz, hd, h1, hr⟩ := id fl3
        unfold PySem.passOn
        refine wpAny_bind (wpAny_field he hd h1 ?_)
        rw [if_neg (show ¬ ((Value.ref T == Value.none) = true) from by simp)]
        have fin : wpAny (model X.prog X.w) X.A (setFlight (.ref a) X.env.frame) (fun _ s4 => wpAny (model X.prog X.w) X.A (throw (.ref a) : Sem Flow) (SP X pins D) X.xe s4) X.xe { s' with heap := h3 } := by
          rw [hf]
          refine HandSPX.setFlight_upZ fl3 fun h4 hh4 up4 => wpAny_throw (tk _ _ ?_)
          exact ⟨a, B, sI, pins, σ', H', cls, d, rfl, J, nb, (up.trans up3).trans up4, .inr (.inr (by rw [hs]; exact hh4)), na, os, ag, w⟩
        first
          | exact wpAny_bind (wpAny_pure (wpAny_bind fin))
          | exact wpAny_bind fin
      | @cons x c ts b₀ suite np pos' hds2 l2 hc hsu r ih =>
        intro w
        obtain ⟨b, hb1, hyes, hno⟩ := w
        refine wpAny_handleBy_cons (codeAny_handlers_test ?_) (by intro q; cases q)
        have LT : PySem.W.Looks (model X.prog X.w) h3 (typeOf (.ref a)) cls := fun A Q E s k q => wpAny_typeOf_ref (k _ _ he3) (by rw [hz3.1]; exact q)
        have LM := PySem.W.exm_one (M := model X.prog X.w) (J3.kIn) LT hb1
        have test : ∀ {Q : Value → Shared → Prop} {E : Value → Shared → Prop}, Q c { s' with heap := h3 } → wpAny (model X.prog X.w) (X.A.mark (some (.ref a))) (eval (.Name x np) X.env) Q E { s' with heap := h3 } := fun {Q E} q => by
          obtain ⟨hg, hdbg, hm | ⟨hm, hv, hnn⟩⟩ := hc
          · exact ld_glob (X := X.suite a ((a, oe3) :: (X.pn ++ pins))) S3 hg hm q hdbg
          · exact ld_blt (X := X.suite a ((a, oe3) :: (X.pn ++ pins))) S3 hg hm hv q hnn hdbg
        refine test (LM.here ?_)
        cases b with
        | true =>
          refine codeAny_handlers_suite_as ?_
          refine HandSPX.lands_againZ fl3 fun h4 fl4 up4 => ?_
          have J4 : Inv X pins σ' H' { s' with heap := h4 } := J.landed nb fl4.1 ((up.trans up3).trans up4) os ag
          obtain ⟨oe4, vs4, he4, hz4, hd4⟩ := fl4.there
          have S4 := J4.suite he4 hd4 na nL nF
          refine store_ok (X := X.suite a ((a, oe4) :: (X.pn ++ pins))) (v := .ref a) S4 hN hi hloc rfl (fun s5 S5 => ?_) (.inr hln)
          refine wpAny_mono ((hsu a oe4 cls d (X.pn ++ pins) hz4 ⟨_, hd4⟩).run [] s5 _ H' _ S5 (hyes rfl a na)) (fun f s6 hsp => ?_) (fun _ _ z => False.elim z)
          have end_ : ∀ {σ6 : St} {H6 : Hp} {Q : Shared → Prop}, Inv (X.suite a ((a, oe4) :: (X.pn ++ pins))) [] σ6 H6 s6 → (∀ s7, Inv X pins (σ6.set i none) H6 s7 → Q s7) →
              wpAny (model X.prog X.w) X.A (do bindName X.env n .none; unbindBehindTheSuite X.env n pos') (fun _ s7 => Q s7) X.xe s6 := fun {σ6 H6 Q} S6 hq => gone_ok (S6.unsuite ok) hN hi hln hq
          cases f with
          | next =>
            obtain ⟨σ6, H6, S6, q6⟩ := hsp
            exact end_ S6 fun s7 J7 => ⟨_, _, J7, q6⟩
          | brk =>
            obtain ⟨σ6, H6, S6, q6⟩ := hsp
            exact end_ S6 fun s7 J7 => ⟨_, _, J7, q6⟩
          | cont =>
            obtain ⟨σ6, H6, S6, q6⟩ := hsp
            exact end_ S6 fun s7 J7 => ⟨_, _, J7, q6⟩
          | ret u =>
            obtain ⟨v6, σ6, H6, S6, r6, q6⟩ := hsp
            exact end_ S6 fun s7 J7 => ⟨_, _, _, J7, r6, q6⟩
        | false =>
          show wpAny _ X.A (handleBy (.ref a) X.env hds2) _ _ _
          exact ih (hno rfl)
    exact go hh w
  · cases f with
    | next =>
      obtain ⟨σ', H', J', q⟩ := hsp
      exact wpAny_execs_nil ⟨σ', H', J'.ofTry ok, q⟩
    | brk =>
      obtain ⟨σ', H', J', q⟩ := hsp
      exact ⟨σ', H', J'.ofTry ok, q⟩
    | cont =>
      obtain ⟨σ', H', J', q⟩ := hsp
      exact ⟨σ', H', J'.ofTry ok, q⟩
    | ret u =>
      obtain ⟨v, σ', H', J', r, q⟩ := hsp
      exact ⟨v, σ', H', J'.ofTry ok, r, q⟩
end
end L2
end -- FwTryM
section -- a7
set_option Elab.async false
set_option linter.all false
set_option maxRecDepth 100000
set_option maxHeartbeats 4000000
local macro_rules | `(tactic| walk_at "lvl") => `(tactic| first
  | decide
  | omega
  | (simp only [Nat.add_eq]; omega))
local macro_rules | `(tactic| walk_at "side") => `(tactic| first
  | decide
  | assumption
  | omega
  | exact Nat.le_of_ble_eq_true (by rfl)
  | exact ⟨by decide, by decide⟩
  | exact ⟨by decide, by decide, by decide⟩
  | exact Or.inl (Or.inr ⟨by decide, by decide⟩)
  | exact Or.inl (Or.inl ⟨by decide, by decide⟩))
local macro_rules | `(tactic| walk_at "ty") => `(tactic| first
  | assumption
  | exact L2.TyG.x (.base (.int _))
  | exact L2.TyG.x (.base (.str _))
  | exact L2.TyG.x (.base (.bl _))
  | exact L2.TyG.x (.base .non)
  | exact L2.TyG.x (.base (.lst (by assumption)))
  | exact L2.TyG.x (.base (.tup (by assumption)))
  | exact K01.tyR (by assumption) (by assumption)
  | exact L2.TyG.dn (by assumption))
local macro_rules | `(tactic| walk_at "cv") => `(tactic| first
  | exact L2.ClsV.ty _
  | exact L2.ClsV.own _)
local macro_rules | `(tactic| walk_at "kit") => `(tactic| first
  | exact L2.kit_ty (by decide +kernel)
  | exact K01.kR (by assumption) (by decide)
  | exact K01.kR2 (by assumption) (by decide)
  | exact K01.kR3 (by assumption))
local macro_rules | `(tactic| walk_at "s1") => `(tactic| first
  | refine ⟨_, rfl, ?_⟩
  | refine ⟨_, _, rfl, rfl, ?_⟩
  | refine ⟨_, _, rfl, ?_⟩
  | refine And.intro rfl ?_
  | refine L2.iteT ?_
  | refine L2.iteF ?_
  | refine L2.st_ixl (by assumption) (by rfl) ?_
  | refine L2.st_ixt (by assumption) (by rfl) ?_
  | refine L2.st_lenR (L2.lenr_l (by assumption)) ?_
  | refine L2.st_lenGR (L2.lenr_l (by assumption)) ?_
  | refine L2.st_lenGR (L2.lenr_t (by assumption)) ?_
  | refine L2.st_lenR (L2.lenr_t (by assumption)) ?_
  | refine L2.st_isG (b := false) (by walk_at "ty") (by walk_at "cv") (by walk_at "kit") ?_
  | refine L2.st_isG (b := true) (by walk_at "ty") (by walk_at "cv") (by walk_at "kit") ?_
  | refine And.intro (by walk_at "side") ?_)
local macro_rules | `(tactic| walk_at "go") => `(tactic| repeat (walk_at "s1"))
namespace K01
open PySem PySem.Spec PyProof.Rows L2 LamX
section
variable {P : Program} {w : World} {K : PySem.W.Frag} {mg : Str → Option Value} {base : Heap}
abbrev IR (K : PySem.W.Frag) : Addr := He.ga K "InvalidRatio"
theorem pss_never {X : Cx} {ss : List Stmt} : PSs X ss (fun _ _ _ => False) := ⟨fun _ _ _ _ _ _ h => h.elim⟩
theorem xfIR (T : TL K mg) : XfC K (IR K) := ⟨(xcIR T).hg, (xcIR T).hk, (xcIR T).hs, (xcIR T).hd⟩
/-- the deed's fate: what it gave, or the value that InvalidRatio has -/
def spFate (K : PySem.W.Frag) : SpD := fun D vs H Q _ => ∃ (f : Addr) (tl : XK → Hp → VK → Prop), vs = [.ref f] ∧ D f tl ∧ ∀ (E' : XK) (Q' : VK),
  (∀ cls d H', (∃ (dd : Addr) (fs : List (Str × V)) (v : V), cls = .ref (IR K) ∧ d = some dd ∧ H' dd = some (.xd fs) ∧ fs.lookup ("value" : Str) = some v ∧ ∀ r, H' r = none → Q (.ref r) (upd H' r (.tup [.str "InvalidRatio", v]))) → E' cls d H') →
  (∀ v H', (∀ r, H' r = none → Q (.ref r) (upd H' r (.tup [.str "told", v]))) → Q' v H') → tl E' H Q'
theorem ok_fate (T : TL K mg) (kd : Nat) : ∃ fd, FunD K d__law_fate.name d__law_fate.qual d__law_fate.params d__law_fate.body d__law_fate.scope (d__law_fate.dvs K) (d__law_fate.kws K) (He.fAd K d__law_fate.at_) fd ∧ FnDd P w K mg base kd (kd + 2) (He.fAd K d__law_fate.at_) fd ["deed"] (spFate K) := by
  obtain ⟨fd, F⟩ := F__law_fate T
  refine ⟨fd, F, F.okD sc__law_fate (fun D vs H Q E h => ?_) (fun D D' vs H Q E hD h => ?_) (fun cdv A outer s H vs Q E hr h => ?_)⟩
  · obtain ⟨f, tl, rfl, _⟩ := h
    rfl
  · obtain ⟨f, tl, rfl, h1, h2⟩ := h
    exact ⟨f, tl, rfl, hD _ _ h1, h2⟩
  · obtain ⟨f, tl, rfl, hd, ht⟩ := h
    refine ⟨_, (pss_one (ps_try_manyAs (i := 1) rfl rfl sc__law_fate.nd rfl rfl (takes_of rfl rfl rfl rfl)
        (fun W pn xe tk _ => pss_one (ps_ret (pe_tup (pa_cons pe_str (pa_cons (pe_deed (D := deeds P w K mg base kd outer s H) (kd := kd) (i := 0) (fun _ _ z => z) rfl (Or.inl rfl) (hr.mono (by omega)) (fun σ => passAt tk σ)) pa_nil)))))
        (HdsAs.cons ⟨rfl, by decide, Or.inl (g_InvalidRatio T)⟩ (fun a oe cls d pn hz hf => pss_one (ps_ret (pe_tup (pa_cons pe_str (pa_cons (pe_xf (xfIR T) (He.noat_ok (a_noat_InvalidRatio_value T)) hz hf (pv 1)) pa_nil))))) (HdsAs.cons ⟨rfl, by decide, Or.inl (g_InvalidGround T)⟩ (fun _ _ _ _ _ _ _ => pss_never) (HdsAs.cons ⟨rfl, by decide, Or.inl (g_BadWord T)⟩ (fun _ _ _ _ _ _ _ => pss_never) (HdsAs.cons ⟨rfl, by decide, Or.inl (g_BadSum T)⟩ (fun _ _ _ _ _ _ _ => pss_never) (HdsAs.cons ⟨rfl, by decide, Or.inl (g_BadStanding T)⟩ (fun _ _ _ _ _ _ _ => pss_never) (HdsAs.cons ⟨rfl, by decide, Or.inl (g_BadDevice T)⟩ (fun _ _ _ _ _ _ _ => pss_never) (HdsAs.cons ⟨rfl, by decide, Or.inl (g_BadBook T)⟩ (fun _ _ _ _ _ _ _ => pss_never) (HdsAs.cons ⟨rfl, by decide, Or.inl (g_Unlike T)⟩ (fun _ _ _ _ _ _ _ => pss_never) (HdsAs.cons ⟨rfl, by decide, Or.inl (g_Unknown T)⟩ (fun _ _ _ _ _ _ _ => pss_never) HdsAs.nil))))))))))), ?_⟩
    refine ⟨f, tl, rfl, hd, ht _ _ (fun cls d H' h => ?_) (fun v H' h => ?_)⟩
    · obtain ⟨dd, fs, v, rfl, rfl, hx, hl, k⟩ := h
      refine ⟨true, He.exm_ok (a_exm_InvalidRatio_InvalidRatio_true T), fun _ a na => ?_, fun z => nomatch z⟩
      walk_at "go"
      refine ⟨dd, fs, v, rfl, hx, hl, ?_⟩
      exact ⟨Nat.le_of_ble_eq_true (by rfl), fun r nr => k r nr⟩
    · exact ⟨Nat.le_of_ble_eq_true (by rfl), fun r nr => h r nr⟩
/-- a deed that raises InvalidRatio with this value -/
def spRaises (K : PySem.W.Frag) (w : World) : SpD := fun D vs H Q _ => ∃ (f : Addr) (tl : XK → Hp → VK → Prop) (kept : V), vs = [.ref f, .str "InvalidRatio", kept] ∧ D f tl ∧ ∀ (E' : XK) (Q' : VK),
  (∀ cls d H', (∃ (dd : Addr) (fs : List (Str × V)) (n : Nat), cls = .ref (IR K) ∧ d = some dd ∧ H' dd = some (.xd fs) ∧ fs.lookup ("value" : Str) = some kept ∧ n ≤ 3 ∧ Vl K w n H' kept ∧ ∀ H'', Same H' H'' → Q (.bl true) H'') → E' cls d H') → tl E' H Q'
theorem ok_raises (T : TL K mg) (kd : Nat) : ∃ fd, FunD K d__law_raises.name d__law_raises.qual d__law_raises.params d__law_raises.body d__law_raises.scope (d__law_raises.dvs K) (d__law_raises.kws K) (He.fAd K d__law_raises.at_) fd ∧ FnDd P w K mg base kd (kd + 11) (He.fAd K d__law_raises.at_) fd ["deed", "code", "kept"] (spRaises K w) := by
  obtain ⟨fdF, FF0, FF⟩ := ok_fate (P := P) (w := w) (base := base) T kd
  have bF : Binds K fdF ["deed"] [] := FF0.bindsN (fun _ _ _ _ _ _ us hl => match us, hl with | [_], _ => rfl)
  have GX := G_exact (P := P) (w := w) (base := base) T 8
  obtain ⟨fd, F⟩ := F__law_raises T
  refine ⟨fd, F, F.okD sc__law_raises (fun D vs H Q E h => ?_) (fun D D' vs H Q E hD h => ?_) (fun cdv A outer s H vs Q E hr h => ?_)⟩
  · obtain ⟨f, tl, kept, rfl, _⟩ := h
    rfl
  · obtain ⟨f, tl, kept, rfl, h1, h2⟩ := h
    exact ⟨f, tl, kept, rfl, hD _ _ h1, h2⟩
  · obtain ⟨f, tl, kept, rfl, hd, ht⟩ := h
    refine ⟨_, (pss_cons (ps_set (i := 3) sc__law_raises.nd rfl (by first | exact Or.inl rfl | exact Or.inr rfl) (pe_dd FF (hr.mono (by omega)) (g__law_fate T) FF0.kp bF passL (pa_cons (pv 0) pa_nil) rfl rfl (Heap.get?_none_of_le (Nat.le_refl _))))
      (pss_one (ps_ret (pe_and (pe_cmpR op_eq (pe_ix ix_seq (pv 3) pe_int (fun _ _ => rfl)) (pv 1) (nomark _)) (pe_one (pe_fx GX (hr.mono (by omega)) passL (pa_cons (pe_ix ix_seq (pv 3) pe_int (fun _ _ => rfl)) (pa_cons (pv 2) pa_nil)))))))), ?_⟩
    walk_at "go"
    refine ⟨f, tl, rfl, hd, fun E' Q' hE hQ => ht E' Q' fun cls d H' h => hE cls d H' ?_⟩
    obtain ⟨dd, fs, n, rfl, rfl, hx, hl, hn, hv, k⟩ := h
    refine ⟨dd, fs, kept, rfl, rfl, hx, hl, fun r nr => ?_⟩
    generalize e1 : upd H' r _ = H1
    have a1 : H1 r = some (.tup [.str "InvalidRatio", kept]) := by rw [← e1]; exact upd_same
    have s1 : Same H' H1 := by rw [← e1]; exact Same.new nr
    walk_at "go"
    exact ⟨.inl ⟨kept, n, by omega, rfl, Vl.same s1 hv⟩, fun H'' s2 => k H'' (s1.trans s2)⟩
end
end K01
end -- a7
section -- a2
set_option Elab.async false
set_option linter.all false
set_option maxRecDepth 100000
set_option maxHeartbeats 4000000
local macro_rules | `(tactic| walk_at "lvl") => `(tactic| first
  | decide
  | omega
  | (simp only [Nat.add_eq]; omega))
local macro_rules | `(tactic| walk_at "side") => `(tactic| first
  | decide
  | assumption
  | omega
  | exact ⟨by decide, by decide⟩
  | exact ⟨by decide, by decide, by decide⟩
  | exact Or.inl (Or.inr ⟨by decide, by decide⟩)
  | exact Or.inl (Or.inl ⟨by decide, by decide⟩))
local macro_rules | `(tactic| walk_at "s1") => `(tactic| first
  | refine ⟨_, rfl, ?_⟩
  | refine ⟨_, _, rfl, rfl, ?_⟩
  | refine And.intro rfl ?_
  | refine L2.st_ixl (by assumption) (by rfl) ?_
  | refine L2.st_ixt (by assumption) (by rfl) ?_
  | refine L2.st_lenR (L2.lenr_l (by assumption)) ?_
  | refine L2.st_lenR (L2.lenr_t (by assumption)) ?_
  | refine And.intro (by walk_at "side") ?_)
local macro_rules | `(tactic| walk_at "go") => `(tactic| repeat (walk_at "s1"))
namespace K01
open PySem PySem.Spec PyProof.Rows L2
theorem bindsAny {K : PySem.W.Frag} {x qual : Str} {params : Arguments} {body : List Stmt} {scope : Scope} {kws : List (Str × V)} {f : Addr} {fd : FuncData} (F : FunD K x qual params body scope [] kws f fd) {args : Args} {b : List (Str × Value)}
    (h : ∀ (kV doc pm : Value) (an : Option Addr) (cdv ct : Value), bindArgs (PySem.W.fnOf x qual params body scope .none kV doc pm an cdv ct) args = pure b) (s : Shared) : BindsTo s fd args b := by
  obtain ⟨oc, od, dV, kV, doc, pm, an, cdv, ct, osl, rfl, lk, hcd, hD, hK⟩ := F.ex
  rcases hD with ⟨_, rfl⟩ | ⟨e, _⟩
  · exact .of_eq (h kV doc pm an cdv ct)
  · exact absurd rfl e
/-- an __init__ that stores: the fields that stand behind it -/
def spIn (C : Addr) (n : Nat) (fsV : List V → List (Str × V)) : Sp := fun vs H Q _ => ∃ (a : Addr) (ws : List V), vs = .ref a :: ws ∧ ws.length = n ∧ H a = some (exo a C none) ∧
  ∀ (d : Addr) (H' : Hp), H d = none → H' a = some (exo a C (some d)) → H' d = some (exd d (fsV ws)) → (∀ b o, b ≠ a → H b = some o → H' b = some o) → Q .non H'
def fs1 (code f : Str) : List V → List (Str × V) := fun ws => [(f, ws.getD 0 .non), ("code", .str code)]
def fs2 (code f g : Str) : List V → List (Str × V) := fun ws => [(g, ws.getD 1 .non), (f, ws.getD 0 .non), ("code", .str code)]
def fs0 (code : Str) : List V → List (Str × V) := fun _ => [("code", .str code)]
theorem meth_ok {K : PySem.W.Frag} {x m : Str} (h : (He.Fa.meth x m).ok K = true) : PySem.W.findIn K (.ref (He.ga K x)) m = some (some (.ref (He.ma K (He.ga K x) m))) ∧ PySem.W.typeIn K (.ref (He.ma K (He.ga K x) m)) = some (.type "function") := by
  obtain ⟨h1, h2⟩ := He.ba h
  obtain ⟨h3, h4⟩ := He.ba h2
  exact ⟨He.eqO_ok h1, beq_iff_eq.mp h3⟩
section
variable {P : Program} {w : World} {K : PySem.W.Frag} {mg : Str → Option Value} {base : Heap}

theorem o_InvalidRatio {K : PySem.W.Frag} {mg : Str → Option Value} (T : TL K mg) : OxC K (He.ga K "InvalidRatio") "ValueError" "ValueError.__new__" "ValueError.__init__" [.type "ValueError", .type "Exception", .type "BaseException", .type "object"] :=
  oxB_ok PySem.F.excBase_ValueError PySem.F.store_ValueError (exA T).1
theorem X_InvalidRatio (T : TL K mg) : OxX P w K mg base 1 "InvalidRatio" (He.ga K "InvalidRatio") ["self", "value"] (spIn (He.ga K "InvalidRatio") 1 (fs1 "InvalidRatio" "value")) := by
  obtain ⟨fd, F⟩ := F_InvalidRatio___init__ T
  have M := meth_ok (a_meth_InvalidRatio___init__ T)
  refine ⟨_, _, _, _, _, fd, o_InvalidRatio T, g_InvalidRatio T, M.1, M.2, F.ok0 sc_InvalidRatio___init__ (fun vs H Q E h => ?_) (fun cdv A outer s H vs Q E hr h => ?_), FunD.bindsA (ps := ["self", "value"]) F (fun _ _ _ _ _ _ us hl => match us, hl with | [_, _], _ => rfl), (fun s y u n m e => by cases e; exact bindsAny F (fun _ _ _ _ _ _ => rfl) s), (fun s y u v n m l e => by cases e)⟩
  · obtain ⟨a, ws, rfl, hl, _⟩ := h
    rw [List.length_cons, hl] <;> rfl
  · obtain ⟨a, ws, rfl, hl, ha, k⟩ := h
    obtain ⟨v, rfl⟩ : ∃ v : V, ws = [v] := by
      match ws, hl with
      | [v], _ => exact ⟨_, rfl⟩
    refine ⟨_, (pss_cons (ps_oxs (pv 0) pe_str rfl)
      (pss_one (ps_oxs (pv 0) (pv 1) rfl))), ?_⟩
    walk_at "go"
    refine ⟨a, _, _, _, _, _, rfl, o_InvalidRatio T, He.eqO_ok (a_noat_InvalidRatio_code T), .inl ⟨ha, fun d H1 nd ne d1 a1 e1 => ?_⟩⟩
    walk_at "go"
    refine ⟨a, _, _, _, _, _, rfl, o_InvalidRatio T, He.eqO_ok (a_noat_InvalidRatio_value T), .inr ⟨d, _, a1, d1, Nat.le_of_ble_eq_true (by rfl), fun H2 d2 a2 e2 => ?_⟩⟩
    exact k d H2 nd a2 d2 fun b u hb hbu => e2 b u (ne_of_none hbu nd) (e1 b u hb hbu)
end
end K01
end -- a2
section -- FwRat
/-! FwRat: lowest terms, in core Lean. -/
namespace L2R
/-- lowest terms -/
def Low (p : Int × Int) : Prop := 0 < p.2 ∧ Nat.gcd p.1.natAbs p.2.natAbs = 1
def rg (t b : Int) : Int := ((Nat.gcd t.natAbs b.natAbs : Nat) : Int)
def rlow (t b : Int) : Int × Int := if b < 0 then ((-t) / rg t b, (-b) / rg t b) else (t / rg t b, b / rg t b)
theorem rg_pos {t b : Int} (hb : b ≠ 0) : 0 < rg t b := by
  unfold rg
  have : 0 < Nat.gcd t.natAbs b.natAbs := Nat.gcd_pos_of_pos_right _ (by omega)
  omega
theorem rg_dt (t b : Int) : rg t b ∣ t := by
  unfold rg
  rw [← Int.natAbs_dvd_natAbs]
  exact Nat.gcd_dvd_left _ _
theorem rg_db (t b : Int) : rg t b ∣ b := by
  unfold rg
  rw [← Int.natAbs_dvd_natAbs]
  exact Nat.gcd_dvd_right _ _
theorem rg_neg (t b : Int) : rg (-t) (-b) = rg t b := by
  unfold rg
  rw [Int.natAbs_neg, Int.natAbs_neg]
theorem rlow_of_neg {t b : Int} (h : b < 0) : rlow t b = rlow (-t) (-b) := by
  unfold rlow
  rw [if_pos h, if_neg (by omega), rg_neg]
/-- for a bottom above 0 -/
theorem rlow_pos1 {t b : Int} (h : 0 < b) : rlow t b = (t / rg t b, b / rg t b) := by
  unfold rlow
  rw [if_neg (by omega)]
theorem low_pos {t b : Int} (h : 0 < b) : Low (rlow t b) ∧ (rlow t b).1 * b = t * (rlow t b).2 := by
  rw [rlow_pos1 h]
  have g0 := rg_pos (t := t) (b := b) (by omega)
  obtain ⟨x, hx⟩ := rg_dt t b
  obtain ⟨y, hy⟩ := rg_db t b
  have ex : t / rg t b = x := Int.ediv_eq_of_eq_mul_right (by omega) hx
  have ey : b / rg t b = y := Int.ediv_eq_of_eq_mul_right (by omega) hy
  have hy0 : 0 < y := by
    rcases Int.lt_or_le 0 y with q | q
    · exact q
    · exfalso
      have : rg t b * y ≤ 0 := Int.mul_nonpos_of_nonneg_of_nonpos (by omega) q
      omega
  refine ⟨⟨?_, ?_⟩, ?_⟩
  · show 0 < b / rg t b
    rw [ey]
    exact hy0
  · show Nat.gcd (t / rg t b).natAbs (b / rg t b).natAbs = 1
    have hg : 0 < Int.gcd t b := by
      have : 0 < Nat.gcd t.natAbs b.natAbs := Nat.gcd_pos_of_pos_right _ (by omega)
      exact this
    exact Int.gcd_ediv_gcd_ediv_gcd hg
  · show t / rg t b * b = t * (b / rg t b)
    rw [ex, ey]
    generalize rg t b = g at hx hy
    rw [hx, hy, Int.mul_comm x, Int.mul_assoc, Int.mul_comm y x, ← Int.mul_assoc]
theorem low_cross {t b : Int} (hb : b ≠ 0) : Low (rlow t b) ∧ (rlow t b).1 * b = t * (rlow t b).2 := by
  rcases Int.lt_or_le b 0 with h | h
  · rw [rlow_of_neg h]
    obtain ⟨h1, h2⟩ := low_pos (t := -t) (b := -b) (by omega)
    refine ⟨h1, ?_⟩
    rw [Int.mul_neg, Int.neg_mul] at h2
    omega
  · exact low_pos (by omega)
/-- lowest terms are one -/
theorem low_one {p q : Int × Int} (hp : Low p) (hq : Low q) (h : p.1 * q.2 = q.1 * p.2) : p = q := by
  obtain ⟨a, b⟩ := p
  obtain ⟨c, d⟩ := q
  obtain ⟨b0, g1⟩ := hp
  obtain ⟨d0, g2⟩ := hq
  have b0 : 0 < b := b0
  have d0 : 0 < d := d0
  have g1 : Nat.gcd a.natAbs b.natAbs = 1 := g1
  have g2 : Nat.gcd c.natAbs d.natAbs = 1 := g2
  have h : a * d = c * b := h
  have hn : a.natAbs * d.natAbs = c.natAbs * b.natAbs := by rw [← Int.natAbs_mul, ← Int.natAbs_mul, h]
  have e1 : b.natAbs ∣ d.natAbs := Nat.Coprime.dvd_of_dvd_mul_left (k := b.natAbs) (m := a.natAbs) (by rw [Nat.Coprime, Nat.gcd_comm]; exact g1) ⟨c.natAbs, by rw [hn, Nat.mul_comm]⟩
  have e2 : d.natAbs ∣ b.natAbs := Nat.Coprime.dvd_of_dvd_mul_left (k := d.natAbs) (m := c.natAbs) (by rw [Nat.Coprime, Nat.gcd_comm]; exact g2) ⟨a.natAbs, by rw [← hn, Nat.mul_comm]⟩
  have e3 : b.natAbs = d.natAbs := Nat.dvd_antisymm e1 e2
  have e4 : b = d := by omega
  subst e4
  have e5 : a = c := Int.eq_of_mul_eq_mul_right (by omega) h
  rw [e5]
theorem rlow_eq {p : Int × Int} {t b : Int} (hp : Low p) (hb : b ≠ 0) (h : p.1 * b = t * p.2) : rlow t b = p := by
  obtain ⟨h1, h2⟩ := low_cross (t := t) hb
  refine low_one h1 hp ?_
  have e : ((rlow t b).1 * p.2) * b = (p.1 * (rlow t b).2) * b := by
    rw [Int.mul_right_comm, h2, Int.mul_right_comm p.1, h, Int.mul_right_comm, Int.mul_right_comm t]
  exact Int.eq_of_mul_eq_mul_right hb e
theorem rlow_low {p : Int × Int} (hp : Low p) : rlow p.1 p.2 = p := rlow_eq hp (by have := hp.1; omega) rfl
theorem rlow_mul {t b k : Int} (hb : b ≠ 0) (hk : k ≠ 0) : rlow (t * k) (b * k) = rlow t b := by
  obtain ⟨h1, h2⟩ := low_cross (t := t) hb
  refine rlow_eq h1 (Int.mul_ne_zero hb hk) ?_
  rw [← Int.mul_assoc, h2, Int.mul_right_comm]
theorem rlow_int (n : Int) : rlow n 1 = (n, 1) := rlow_eq (p := (n, 1)) ⟨(show (0 : Int) < 1 by decide), by simp⟩ (by decide) rfl
/-- equal terms say equal numbers -/
theorem rlow_cross {t b u c : Int} (hb : b ≠ 0) (hc : c ≠ 0) (h : rlow t b = rlow u c) : t * c = u * b := by
  obtain ⟨h1, h2⟩ := low_cross (t := t) hb
  obtain ⟨h3, h4⟩ := low_cross (t := u) hc
  rw [← h] at h4
  have n0 : (rlow t b).2 ≠ 0 := by have := h1.1; omega
  have e : (t * c) * (rlow t b).2 = (u * b) * (rlow t b).2 := by
    rw [Int.mul_right_comm, ← h2, Int.mul_right_comm u, ← h4, Int.mul_right_comm]
  exact Int.eq_of_mul_eq_mul_right n0 e
/-- what Ratio's own __init__ reckons -/
theorem rlow_init {t b : Int} (hb : b ≠ 0) : (t.fdiv (if b < 0 then -rg t b else rg t b), b.fdiv (if b < 0 then -rg t b else rg t b)) = rlow t b := by
  have d1 := rg_dt t b
  have d2 := rg_db t b
  unfold rlow
  split
  · rw [Int.fdiv_eq_ediv_of_dvd (Int.neg_dvd.mpr d1), Int.fdiv_eq_ediv_of_dvd (Int.neg_dvd.mpr d2), Int.ediv_neg, Int.ediv_neg, Int.neg_ediv_of_dvd d1, Int.neg_ediv_of_dvd d2]
  · rw [Int.fdiv_eq_ediv_of_dvd d1, Int.fdiv_eq_ediv_of_dvd d2]
theorem div_le {t g : Int} (h : 0 < g) (d : g ∣ t) : (t / g).natAbs ≤ t.natAbs := by
  rw [Int.natAbs_ediv_of_dvd d]
  exact Nat.div_le_self _ _
theorem rlow_le {t b : Int} (hb : b ≠ 0) : (rlow t b).1.natAbs ≤ t.natAbs ∧ (rlow t b).2.natAbs ≤ b.natAbs := by
  have d1 := rg_dt t b
  have d2 := rg_db t b
  have g0 := rg_pos (t := t) hb
  unfold rlow
  split
  · have h1 := div_le g0 (Int.dvd_neg.mpr d1)
    have h2 := div_le g0 (Int.dvd_neg.mpr d2)
    rw [Int.natAbs_neg] at h1 h2
    exact ⟨h1, h2⟩
  · exact ⟨div_le g0 d1, div_le g0 d2⟩
/-! ### sums, products, quotients -/
theorem low_two {p : Int × Int} (h : Low p) : p.2 ≠ 0 := by have := h.1; omega
def radd (a b : Int × Int) : Int × Int := rlow (a.1 * b.2 + b.1 * a.2) (a.2 * b.2)
def rsub (a b : Int × Int) : Int × Int := rlow (a.1 * b.2 - b.1 * a.2) (a.2 * b.2)
def rmul (a b : Int × Int) : Int × Int := rlow (a.1 * b.1) (a.2 * b.2)
def rneg (a : Int × Int) : Int × Int := (-a.1, a.2)
theorem neg_low {a : Int × Int} (h : Low a) : Low (rneg a) := ⟨h.1, by show Nat.gcd (-a.1).natAbs a.2.natAbs = 1; rw [Int.natAbs_neg]; exact h.2⟩
theorem radd_int {a b : Int × Int} (ha : a.2 = 1) (hb : b.2 = 1) : radd a b = (a.1 + b.1, 1) := by
  unfold radd
  rw [ha, hb, Int.mul_one, Int.mul_one]
  exact rlow_int _
theorem rmul_int {a b : Int × Int} (ha : a.2 = 1) (hb : b.2 = 1) : rmul a b = (a.1 * b.1, 1) := by
  unfold rmul
  rw [ha, hb]
  exact rlow_int _
theorem rsub_eq (a b : Int × Int) : radd a (rneg b) = rsub a b := by
  unfold radd rsub rneg
  show rlow (a.1 * b.2 + -b.1 * a.2) _ = _
  rw [Int.neg_mul, Int.sub_eq_add_neg]
/-- over: the own quotient -/
theorem rover {a b : Int × Int} (ha : Low a) (hb : Low b) (h0 : b.1 ≠ 0) : rlow (a.1 * b.2) (a.2 * b.1) = rmul a (rlow b.2 b.1) := by
  obtain ⟨h1, h2⟩ := low_cross (t := b.2) h0
  have n2 := low_two h1
  have na := low_two ha
  unfold rmul
  obtain ⟨h3, h4⟩ := low_cross (t := a.1 * (rlow b.2 b.1).1) (b := a.2 * (rlow b.2 b.1).2) (Int.mul_ne_zero na n2)
  refine rlow_eq h3 (Int.mul_ne_zero na h0) ?_
  refine Int.eq_of_mul_eq_mul_right n2 ?_
  have e : (rlow (a.1 * (rlow b.2 b.1).1) (a.2 * (rlow b.2 b.1).2)).1 * (a.2 * b.1) * (rlow b.2 b.1).2 = (rlow (a.1 * (rlow b.2 b.1).1) (a.2 * (rlow b.2 b.1).2)).1 * (a.2 * (rlow b.2 b.1).2) * b.1 := by
    simp only [Int.mul_assoc]
    rw [Int.mul_comm b.1]
  rw [e, h4]
  generalize (rlow (a.1 * (rlow b.2 b.1).1) (a.2 * (rlow b.2 b.1).2)).2 = z
  rw [Int.mul_right_comm (a.1 * (rlow b.2 b.1).1), Int.mul_assoc a.1, h2]
  simp only [Int.mul_assoc]
  rw [Int.mul_comm z]
end L2R
end -- FwRat
section -- FwNum
set_option Elab.async false
set_option linter.all false
set_option maxRecDepth 100000
set_option maxHeartbeats 4000000
/-! FwNum: // by any divisor, great ints as texts. -/
namespace L2
open PySem PySem.Spec PyProof.Rows
/-- // by a divisor that is not 0, below 2 ^ 9000 -/
def CDivX (_ j : Int) : Prop := j ≠ 0 ∧ j.natAbs.log2 < 9000
section
variable {X : Cx}
theorem op_fdivX : OpR X (binaryOp .FloorDiv) (rI CDivX fun i j => .int (i.fdiv j)) := opI fun i j _ _ _ _ _ hc q => floordiv_int hc.1 q (.inl (PyProof.noPylong_of_log2 hc.2))
theorem noDig {pins : List (Addr × Obj)} {σ : St} {H : Hp} {s : Shared} (I : Inv X pins σ H s) (hD : PySem.W.nsIn X.K cStatics "sys.int_max_str_digits" = some none) : s.heap.NoDigits := by
  obtain ⟨mc, hns, _⟩ := I.nolimit
  exact ⟨mc, hns, PySem.W.ns_none_of I.kIn hns hD⟩
/-- str(i), i of at most 4300 digits -/
theorem call_strX (hr : X.A.handled = none) (hD : PySem.W.nsIn X.K cStatics "sys.int_max_str_digits" = some none) : CallR X (.type "str") (fun xs H Q => ∃ i, xs = [.int i] ∧ i.natAbs < 10 ^ 4300 ∧ Q (.str (toString i)) H) := by
  intro pins s σ H xs us Q I r h
  obtain ⟨i, rfl, hz, q⟩ := h
  obtain ⟨u, rfl, t, rfl⟩ := vals1 r
  exact PyProof.Rows.str_of_int_or hr (noDig I hD) (fun _ => ⟨.str _, H, I.tok _, ⟨_, rfl⟩, q⟩) fun hge => absurd hz (Nat.not_lt.mpr hge)
end
end L2
end -- FwNum
section -- a8
set_option Elab.async false
set_option linter.all false
set_option maxRecDepth 100000
set_option maxHeartbeats 4000000
local macro_rules | `(tactic| walk_at "lvl") => `(tactic| first
  | decide
  | omega
  | (simp only [Nat.add_eq]; omega))
local macro_rules | `(tactic| walk_at "side") => `(tactic| first
  | decide
  | assumption
  | omega
  | exact Nat.le_of_ble_eq_true (by rfl)
  | exact ⟨by decide, by decide⟩
  | exact ⟨by decide, by decide, by decide⟩
  | exact Or.inl (Or.inr ⟨by decide, by decide⟩)
  | exact Or.inl (Or.inl ⟨by decide, by decide⟩))
local macro_rules | `(tactic| walk_at "ty") => `(tactic| first
  | assumption
  | exact L2.TyG.x (.base (.int _))
  | exact L2.TyG.x (.base (.str _))
  | exact L2.TyG.x (.base (.bl _))
  | exact L2.TyG.x (.base .non)
  | exact L2.TyG.x (.base (.lst (by assumption)))
  | exact L2.TyG.x (.base (.tup (by assumption)))
  | exact K01.tyR (by assumption) (by assumption)
  | exact L2.TyG.dn (by assumption))
local macro_rules | `(tactic| walk_at "cv") => `(tactic| first
  | exact L2.ClsV.ty _
  | exact L2.ClsV.own _)
local macro_rules | `(tactic| walk_at "kit") => `(tactic| first
  | exact L2.kit_ty (by decide +kernel)
  | exact K01.kR (by assumption) (by decide)
  | exact K01.kR2 (by assumption) (by decide)
  | exact K01.kR3 (by assumption))
local macro_rules | `(tactic| walk_at "s1") => `(tactic| first
  | refine ⟨_, rfl, ?_⟩
  | refine ⟨_, _, rfl, rfl, ?_⟩
  | refine ⟨_, _, rfl, ?_⟩
  | refine And.intro rfl ?_
  | refine L2.iteT ?_
  | refine L2.iteF ?_
  | refine L2.st_ixl (by assumption) (by rfl) ?_
  | refine L2.st_ixt (by assumption) (by rfl) ?_
  | refine L2.st_lenR (L2.lenr_l (by assumption)) ?_
  | refine L2.st_lenGR (L2.lenr_l (by assumption)) ?_
  | refine L2.st_lenGR (L2.lenr_t (by assumption)) ?_
  | refine L2.st_lenR (L2.lenr_t (by assumption)) ?_
  | refine L2.st_isG (b := false) (by walk_at "ty") (by walk_at "cv") (by walk_at "kit") ?_
  | refine L2.st_isG (b := true) (by walk_at "ty") (by walk_at "cv") (by walk_at "kit") ?_
  | refine And.intro (by walk_at "side") ?_)
local macro_rules | `(tactic| walk_at "go") => `(tactic| repeat (walk_at "s1"))
namespace K01
open PySem PySem.Spec PyProof.Rows L2 L2R
section
variable {P : Program} {w : World} {K : PySem.W.Frag} {mg : Str → Option Value} {base : Heap}
/-- raising such an error -/
theorem oxr_of {C : Addr} {n : Nat} {fsV : List V → List (Str × V)} {vs : List V} {H : Hp} {Q : XK} (hl : vs.length = n) (hn : n ≤ 1000) (q : ∀ (d : Addr) (H' : Hp), H' d = some (.xd (fsV vs)) → Same H H' → Q (.ref C) (some d) H') : OxRaise C (spIn C n fsV) vs H Q := by
  refine ⟨hl ▸ hn, fun a na => ⟨a, vs, rfl, hl, upd_same, fun d H2 nd a2 d2 e2 => ⟨rfl, d, fsV vs, a2, d2, ?_, q d _ upd_same fun b o hb => ?_⟩⟩⟩
  · by_cases z : d = a
    · rw [z]; exact na
    · rw [← upd_ne (H := H) (o := exo a C none) z]
      exact nd
  · have ba := ne_of_none hb na
    have h2 : H2 b = some o := e2 b o ba (by rw [upd_ne ba]; exact hb)
    have bd : b ≠ d := fun z => by
      rw [z, d2] at h2
      have nd' := nd
      rw [upd_ne (show d ≠ a from z ▸ ba), ← z, hb] at nd'
      cases nd'
    rw [upd_ne bd, del_ne ba]
    exact h2
/-- the number that an instance holds -/
def RIn (K : PySem.W.Frag) (dx : Addr) (p : Int × Int) : HO := .ins (RC K) dx [("top", .int p.1), ("bottom", .int p.2)]
def RAt (K : PySem.W.Frag) (H : Hp) (a : Addr) (p : Int × Int) : Prop := ∃ dx, H a = some (RIn K dx p)
theorem RAt.same {H H' : Hp} {a : Addr} {p : Int × Int} (h : RAt K H a p) (e : Same H H') : RAt K H' a p := by
  obtain ⟨dx, h⟩ := h
  exact ⟨dx, e _ _ h⟩
theorem fTop (T : TL K mg) {H : Hp} {a dx : Addr} {p : Int × Int} {Q : VK} (h : H a = some (RIn K dx p)) (q : Q (.int p.1) H) : ∃ (a1 C dx1 : Addr) (fs : List (Str × V)) (v : V), V.ref a = V.ref a1 ∧ H a1 = some (.ins C dx1 fs) ∧ Cls K C ∧ NoAttr K C "top" ∧ fs.lookup ("top" : Str) = some v ∧ Q v H :=
  ⟨a, _, dx, _, _, rfl, h, clsR T, He.noat_ok (a_noat_Ratio_top T), rfl, q⟩
theorem fBot (T : TL K mg) {H : Hp} {a dx : Addr} {p : Int × Int} {Q : VK} (h : H a = some (RIn K dx p)) (q : Q (.int p.2) H) : ∃ (a1 C dx1 : Addr) (fs : List (Str × V)) (v : V), V.ref a = V.ref a1 ∧ H a1 = some (.ins C dx1 fs) ∧ Cls K C ∧ NoAttr K C "bottom" ∧ fs.lookup ("bottom" : Str) = some v ∧ Q v H :=
  ⟨a, _, dx, _, _, rfl, h, clsR T, He.noat_ok (a_noat_Ratio_bottom T), rfl, q⟩
theorem st_tup2 {r : Addr} {x y : V} {i j n : Nat} {σ : L2.St} {H : Hp} {D : L2.St → Hp → Prop} (h : H r = some (.tup [x, y])) (q : D ((σ.set i (some x)).set j (some y)) H) (hn : 2 = n := by rfl) : gTup K n (gCons (gName i) (gCons (gName j) gNil)) (.ref r) σ H D :=
  ⟨r, _, rfl, SqT.of h, hn, _, _, rfl, _, _, rfl, rfl, q⟩
def Bn (n : Nat) (p : Int × Int) : Prop := p.1.natAbs < 2 ^ n ∧ p.2.natAbs < 2 ^ n
theorem mulG {i j : Int} {a b : Nat} (ha : i.natAbs < 2 ^ a) (hb : j.natAbs < 2 ^ b) (h : a + b ≤ 900000 := by decide) : CMulG i j :=
  .inr (wide_mul (a := a + 1) (b := b + 1) (Nat.lt_of_lt_of_le ha (Nat.pow_le_pow_right (by decide) (by omega))) (Nat.lt_of_lt_of_le hb (Nat.pow_le_pow_right (by decide) (by omega))) (by omega) (by omega) (by omega))
/-- raising InvalidRatio with this value -/
def ErV (K : PySem.W.Frag) (v : V) (H : Hp) (E : XK) : Prop := ∀ (d : Addr) (fs : List (Str × V)) (H' : Hp), H' d = some (.xd fs) → fs.lookup ("value" : Str) = some v → Same H H' → E (.ref (IR K)) (some d) H'
def NotInt (K : PySem.W.Frag) (t : Value) : Prop := (∃ n ∈ tys, t = .type n ∧ (n == "int") = false) ∨ t = .ref (RC K)
theorem spInt_n {v : V} {t : Value} {H : Hp} {Q : VK} {E : XK} (ty : TyG K w H v t) (h : NotInt K t) (q : Q (.bl false) H) : spInt K w [v] H Q E := by
  unfold spInt
  rcases h with ⟨n, hn, rfl, e⟩ | rfl
  · exact ⟨v, _, rfl, ty, .inl ⟨n, hn, rfl, by rw [e]; exact q⟩⟩
  · exact ⟨v, _, rfl, ty, .inr ⟨rfl, q⟩⟩
def spRI (K : PySem.W.Frag) (w : World) : Sp := fun vs H Q E => ∃ (x dx : Addr) (v1 v2 : V), vs = [.ref x, v1, v2] ∧ H x = some (.ins (RC K) dx []) ∧
  ((∃ t b : Int, v1 = .int t ∧ v2 = .int b ∧ b ≠ 0 ∧ b.natAbs < 2 ^ 8000 ∧ ∀ H', H' x = some (RIn K dx (rlow t b)) → Ext x H H' → Q .non H') ∨ (∃ t, TyG K w H v1 t ∧ NotInt K t ∧ ErV K v1 H E) ∨
    (∃ (i : Int) (t : Value), v1 = .int i ∧ TyG K w H v2 t ∧ NotInt K t ∧ ErV K v2 H E) ∨ ∃ i : Int, v1 = .int i ∧ v2 = .int 0 ∧ ErV K (.int 0) H E)
theorem raiseIR {v : V} {H : Hp} {E : XK} (h : ErV K v H E) : OxRaise (IR K) (spIn (IR K) 1 (fs1 "InvalidRatio" "value")) [v] H E :=
  oxr_of (C := IR K) (n := 1) (fsV := fs1 "InvalidRatio" "value") rfl (by decide) fun d H' hd s => h d _ H' hd rfl s
theorem cdX {i j : Int} {b : Nat} (h : j ≠ 0) (hb : j.natAbs < 2 ^ b) (h9 : b ≤ 8999 := by decide) : CDivX i j :=
  ⟨h, Nat.lt_of_lt_of_le (PySem.Flt.log2_lt_of (k := b + 1) (by omega) (Nat.lt_of_lt_of_le hb (Nat.pow_le_pow_right (by decide) (by omega)))) (by omega)⟩
theorem ok_RatioI (T : TL K mg) : ∃ fd, FunD K d_Ratio___init__.name d_Ratio___init__.qual d_Ratio___init__.params d_Ratio___init__.body d_Ratio___init__.scope (d_Ratio___init__.dvs K) (d_Ratio___init__.kws K) (He.fAd K d_Ratio___init__.at_) fd ∧ FnOk P w K mg base (L2.CX P w) 3 (He.fAd K d_Ratio___init__.at_) fd ["self", "top", "bottom"] (spRI K w) := by
  obtain ⟨fd, F⟩ := F_Ratio___init__ T
  refine ⟨fd, F, FunD.ok F sc_Ratio___init__ (fun vs H Q E h => ?_) (fun cdv A outer s H vs Q E hr h => ?_)⟩
  · obtain ⟨x, dx, v1, v2, rfl, _⟩ := h
    rfl
  · obtain ⟨x, dx, v1, v2, rfl, hx, h⟩ := h
    refine ⟨_, (pss_cons (ps_if (pt_not (pt_val (pe_fx (G_is_whole T) (hr.mono (by walk_at "lvl")) passL (pa_cons (pv 1) pa_nil))))
        (pss_one (ps_raise rfl (takes_of rfl rfl rfl rfl) (pmk_ox (X_InvalidRatio T) (hr.mono (by walk_at "lvl")) passL (pa_cons (pv 1) pa_nil))))
        pss_nil)
      (pss_cons (ps_if (PW.pt (pw_or (pt_not (pt_val (pe_fx (G_is_whole T) (hr.mono (by walk_at "lvl")) passL (pa_cons (pv 2) pa_nil)))) (pw_or1 (pt_cmpR op_eq (pv 2) pe_int (nomark _)))))
        (pss_one (ps_raise rfl (takes_of rfl rfl rfl rfl) (pmk_ox (X_InvalidRatio T) (hr.mono (by walk_at "lvl")) passL (pa_cons (pv 2) pa_nil))))
        pss_nil)
      (pss_cons (ps_set (i := 3) sc_Ratio___init__.nd rfl (by first | exact Or.inl rfl | exact Or.inr rfl) (pe_callBfun cr_gcd rfl (gGcd T) (pa_cons (pv 1) (pa_cons (pv 2) pa_nil))))
      (pss_cons (ps_if (pt_cmpR op_lt (pv 2) pe_int (nomark _))
        (pss_one (ps_set (i := 3) sc_Ratio___init__.nd rfl (by first | exact Or.inl rfl | exact Or.inr rfl) (pe_un un_neg (pv 3))))
        pss_nil)
      (pss_cons (ps_fld (pv 0) (pe_op op_fdivX (pv 1) (pv 3)) rfl)
      (pss_one (ps_fld (pv 0) (pe_op op_fdivX (pv 2) (pv 3)) rfl))))))), ?_⟩
    rcases h with ⟨t, b, rfl, rfl, hb, hB, k⟩ | ⟨t, ty, nt, k⟩ | ⟨i, t, rfl, ty, nt, k⟩ | ⟨i, rfl, rfl, k⟩
    · walk_at "go"
      refine spInt_i ?_
      walk_at "go"
      refine spInt_i ?_
      walk_at "go"
      rw [show decide (V.int b = V.int 0) = false from decide_eq_false fun z => hb (V.int.inj z)]
      walk_at "go"
      have hg : rg t b ≠ 0 := by have := rg_pos (t := t) hb; omega
      have hgl : (rg t b).natAbs < 2 ^ 8000 := by
        refine Nat.lt_of_le_of_lt ?_ hB
        exact Nat.le_of_dvd (by omega) (Int.natAbs_dvd_natAbs.mpr (rg_db t b))
      have fin : ∀ (g : Int), g = (if b < 0 then -rg t b else rg t b) → ∀ H', H' x = some (.ins (RC K) dx [("top", .int (t.fdiv g)), ("bottom", .int (b.fdiv g))]) → Ext x H H' → Q .non H' := fun g hg H' h e => by
        refine k H' ?_ e
        unfold RIn
        rw [← rlow_init hb, ← hg]
        exact h
      refine st_if (fun c => ?_) (fun c => ?_)
      · have cb : b < 0 := by simpa using c
        walk_at "go"
        refine ⟨cdX (b := 8000) (show -rg t b ≠ 0 by omega) (by show (-rg t b).natAbs < _; rw [Int.natAbs_neg]; exact hgl), ?_⟩
        walk_at "go"
        refine ⟨x, _, dx, _, rfl, hx, clsR T, He.noat_ok (a_noat_Ratio_top T), by decide, ?_⟩
        generalize e1 : upd H x _ = H1
        have a1 : H1 x = some (.ins (RC K) dx [("top", .int (t.fdiv (-rg t b)))]) := by rw [← e1]; exact upd_same
        have x1 : Ext x H H1 := by rw [← e1]; exact Ext.put
        walk_at "go"
        refine ⟨cdX (b := 8000) (show -rg t b ≠ 0 by omega) (by show (-rg t b).natAbs < _; rw [Int.natAbs_neg]; exact hgl), ?_⟩
        walk_at "go"
        refine ⟨x, _, dx, _, rfl, a1, clsR T, He.noat_ok (a_noat_Ratio_bottom T), Nat.le_of_ble_eq_true (by rfl), ?_⟩
        generalize e2 : upd H1 x _ = H2
        have a2 : H2 x = some (.ins (RC K) dx [("top", .int (t.fdiv (-rg t b))), ("bottom", .int (b.fdiv (-rg t b)))]) := by rw [← e2]; exact upd_same
        have x2 : Ext x H1 H2 := by rw [← e2]; exact Ext.put
        exact fin _ (by rw [if_pos cb]) H2 a2 (x1.trans x2)
      · have cb : ¬ b < 0 := by simpa using c
        walk_at "go"
        refine ⟨cdX (b := 8000) hg hgl, ?_⟩
        walk_at "go"
        refine ⟨x, _, dx, _, rfl, hx, clsR T, He.noat_ok (a_noat_Ratio_top T), by decide, ?_⟩
        generalize e1 : upd H x _ = H1
        have a1 : H1 x = some (.ins (RC K) dx [("top", .int (t.fdiv (rg t b)))]) := by rw [← e1]; exact upd_same
        have x1 : Ext x H H1 := by rw [← e1]; exact Ext.put
        walk_at "go"
        refine ⟨cdX (b := 8000) hg hgl, ?_⟩
        walk_at "go"
        refine ⟨x, _, dx, _, rfl, a1, clsR T, He.noat_ok (a_noat_Ratio_bottom T), Nat.le_of_ble_eq_true (by rfl), ?_⟩
        generalize e2 : upd H1 x _ = H2
        have a2 : H2 x = some (.ins (RC K) dx [("top", .int (t.fdiv (rg t b))), ("bottom", .int (b.fdiv (rg t b)))]) := by rw [← e2]; exact upd_same
        have x2 : Ext x H1 H2 := by rw [← e2]; exact Ext.put
        exact fin _ (by rw [if_neg cb]) H2 a2 (x1.trans x2)
    · walk_at "go"
      refine spInt_n ty nt ?_
      walk_at "go"
      exact (raiseIR k).2
    · walk_at "go"
      refine spInt_i ?_
      walk_at "go"
      refine spInt_n ty nt ?_
      walk_at "go"
      exact (raiseIR k).2
    · walk_at "go"
      refine spInt_i ?_
      walk_at "go"
      refine spInt_i ?_
      walk_at "go"
      exact (raiseIR k).2
end
end K01
end -- a8
section -- a9
set_option Elab.async false
set_option linter.all false
set_option maxRecDepth 100000
set_option maxHeartbeats 4000000
local macro_rules | `(tactic| walk_at "lvl") => `(tactic| first
  | decide
  | omega
  | (simp only [Nat.add_eq]; omega))
local macro_rules | `(tactic| walk_at "side") => `(tactic| first
  | decide
  | assumption
  | omega
  | exact Nat.le_of_ble_eq_true (by rfl)
  | exact ⟨by decide, by decide⟩
  | exact ⟨by decide, by decide, by decide⟩
  | exact Or.inl (Or.inr ⟨by decide, by decide⟩)
  | exact Or.inl (Or.inl ⟨by decide, by decide⟩))
local macro_rules | `(tactic| walk_at "ty") => `(tactic| first
  | assumption
  | exact L2.TyG.x (.base (.int _))
  | exact L2.TyG.x (.base (.str _))
  | exact L2.TyG.x (.base (.bl _))
  | exact L2.TyG.x (.base .non)
  | exact L2.TyG.x (.base (.lst (by assumption)))
  | exact L2.TyG.x (.base (.tup (by assumption)))
  | exact K01.tyR (by assumption) (by assumption)
  | exact L2.TyG.dn (by assumption))
local macro_rules | `(tactic| walk_at "cv") => `(tactic| first
  | exact L2.ClsV.ty _
  | exact L2.ClsV.own _)
local macro_rules | `(tactic| walk_at "kit") => `(tactic| first
  | exact L2.kit_ty (by decide +kernel)
  | exact K01.kR (by assumption) (by decide)
  | exact K01.kR2 (by assumption) (by decide)
  | exact K01.kR3 (by assumption))
local macro_rules | `(tactic| walk_at "s1") => `(tactic| first
  | refine ⟨_, rfl, ?_⟩
  | refine ⟨_, _, _, _, _, rfl, (by assumption), K01.clsR (by assumption), He.noat_ok (K01.a_noat_Ratio_top (by assumption)), rfl, ?_⟩
  | refine ⟨_, _, _, _, _, rfl, (by assumption), K01.clsR (by assumption), He.noat_ok (K01.a_noat_Ratio_bottom (by assumption)), rfl, ?_⟩
  | refine ⟨_, _, rfl, rfl, ?_⟩
  | refine ⟨_, _, rfl, ?_⟩
  | refine And.intro rfl ?_
  | refine L2.iteT ?_
  | refine L2.iteF ?_
  | refine L2.st_ixl (by assumption) (by rfl) ?_
  | refine L2.st_ixt (by assumption) (by rfl) ?_
  | refine L2.st_lenR (L2.lenr_l (by assumption)) ?_
  | refine L2.st_lenGR (L2.lenr_l (by assumption)) ?_
  | refine L2.st_lenGR (L2.lenr_t (by assumption)) ?_
  | refine L2.st_lenR (L2.lenr_t (by assumption)) ?_
  | refine L2.st_isG (b := false) (by walk_at "ty") (by walk_at "cv") (by walk_at "kit") ?_
  | refine L2.st_isG (b := true) (by walk_at "ty") (by walk_at "cv") (by walk_at "kit") ?_
  | refine And.intro (by walk_at "side") ?_)
local macro_rules | `(tactic| walk_at "go") => `(tactic| repeat (walk_at "s1"))
local macro_rules | `(tactic| walk_at "s2") => `(tactic| first
  | refine ⟨_, rfl, ?_⟩
  | refine ⟨_, _, _, _, _, rfl, (by assumption), K01.clsR (by assumption), He.noat_ok (K01.a_noat_Ratio_top (by assumption)), rfl, ?_⟩
  | refine ⟨_, _, _, _, _, rfl, (by assumption), K01.clsR (by assumption), He.noat_ok (K01.a_noat_Ratio_bottom (by assumption)), rfl, ?_⟩
  | refine ⟨_, _, rfl, rfl, ?_⟩
  | refine ⟨_, _, rfl, ?_⟩
  | refine And.intro rfl ?_
  | refine L2.iteT ?_
  | refine L2.iteF ?_
  | refine L2.st_ixl (by assumption) (by rfl) ?_
  | refine L2.st_ixt (by assumption) (by rfl) ?_
  | refine L2.st_lenR (L2.lenr_l (by assumption)) ?_
  | refine L2.st_lenGR (L2.lenr_l (by assumption)) ?_
  | refine L2.st_lenGR (L2.lenr_t (by assumption)) ?_
  | refine L2.st_lenR (L2.lenr_t (by assumption)) ?_
  | refine And.intro (by walk_at "side") ?_)
local macro_rules | `(tactic| walk_at "gs") => `(tactic| repeat (walk_at "s2"))
namespace K01
open PySem PySem.Spec PyProof.Rows L2 L2R
section
variable {P : Program} {w : World} {K : PySem.W.Frag} {mg : Str → Option Value} {base : Heap}
/-- a Ratio or an int -/
def NumV (K : PySem.W.Frag) (H : Hp) (v : V) (p : Int × Int) : Prop := (∃ a, v = .ref a ∧ RAt K H a p) ∨ (v = .int p.1 ∧ p.2 = 1)
theorem NumV.same {H H' : Hp} {v : V} {p : Int × Int} (h : NumV K H v p) (e : Same H H') : NumV K H' v p := by
  rcases h with ⟨a, rfl, h⟩ | h
  · exact .inl ⟨a, rfl, h.same e⟩
  · exact .inr h
/-- a new Ratio -/
theorem st_ratio {H1 : Hp} {t b : Int} {Q : VK} (hb : b ≠ 0) (hB : b.natAbs < 2 ^ 8000) (k : ∀ r H', RAt K H' r (rlow t b) → Same H1 H' → Q (.ref r) H') :
    ∀ x dx, H1 x = none → H1 dx = none → dx ≠ x → spRI K w (.ref x :: ([.int t, .int b] ++ [])) (upd (upd H1 dx (.own x)) x (.ins (RC K) dx [])) (fun v H2 => v = .non ∧ Q (.ref x) H2) E0 := by
  intro x dx nx nd ne
  refine ⟨x, dx, .int t, .int b, rfl, upd_same, .inl ⟨t, b, rfl, rfl, hb, hB, fun H' h e => ⟨rfl, k x H' ⟨dx, h⟩ fun c o hc => ?_⟩⟩⟩
  exact e c o (ne_of_none hc nx) (by rw [upd_ne (ne_of_none hc nx), upd_ne (ne_of_none hc nd)]; exact hc)
def spIsN (K : PySem.W.Frag) : Sp := fun vs H Q _ => ∃ (v : V) (p : Int × Int), vs = [v] ∧ NumV K H v p ∧ Q (.bl true) H
theorem G_is_number (T : TL K mg) : FX P w K mg base 2 "is_number" [] (spIsN K) := by
  obtain ⟨fd, F⟩ := F_is_number T
  refine FX.of F (g_is_number T) (F.ok0 sc_is_number (fun vs H Q E h => ?_) (fun cdv A outer s H vs Q E hr h => ?_)) (fun _ _ _ _ _ _ us hl => match us, hl with | [_], _ => rfl)
  · obtain ⟨v, p, rfl, _⟩ := h
    rfl
  · obtain ⟨v, p, rfl, h, q⟩ := h
    refine ⟨_, (pss_one (ps_ret (pe_or (pe_callB call_isG (by rfl) (f_isinstance T) (by decide +kernel) (pa_cons (pv 0) (pa_cons (pe_gr (g_Ratio T)) pa_nil))) (pe_one (pe_fx (G_is_whole T) (hr.mono (by walk_at "lvl")) passL (pa_cons (pv 0) pa_nil)))))), ?_⟩
    rcases h with ⟨a, rfl, dx, h⟩ | ⟨rfl, h⟩
    · have ty := tyR (w := w) T h
      have k3 := kR3 T
      walk_at "go"
      exact q
    · walk_at "go"
      refine spInt_i ?_
      walk_at "go"
      exact q
def spPt (K : PySem.W.Frag) : Sp := fun vs H Q _ => ∃ (v : V) (p : Int × Int), vs = [v] ∧ NumV K H v p ∧ ∀ r H', H' r = some (.tup [.int p.1, .int p.2]) → Same H H' → Q (.ref r) H'
theorem G_parts_of (T : TL K mg) : FX P w K mg base 1 "parts_of" [] (spPt K) := by
  obtain ⟨fd, F⟩ := F_parts_of T
  refine FX.of F (g_parts_of T) (F.ok0 sc_parts_of (fun vs H Q E h => ?_) (fun cdv A outer s H vs Q E hr h => ?_)) (fun _ _ _ _ _ _ us hl => match us, hl with | [_], _ => rfl)
  · obtain ⟨v, p, rfl, _⟩ := h
    rfl
  · obtain ⟨v, p, rfl, h, k⟩ := h
    refine ⟨_, (pss_cons (ps_if (pt_val (pe_callB call_isG (by rfl) (f_isinstance T) (by decide +kernel) (pa_cons (pv 0) (pa_cons (pe_gr (g_Ratio T)) pa_nil))))
        (pss_one (ps_ret (pe_tup (pa_cons (pe_fld (pv 0) rfl) (pa_cons (pe_fld (pv 0) rfl) pa_nil)))))
        pss_nil)
      (pss_one (ps_ret (pe_tup (pa_cons (pv 0) (pa_cons pe_int pa_nil)))))), ?_⟩
    rcases h with ⟨a, rfl, dx, h⟩ | ⟨rfl, h⟩
    · have ty := tyR (w := w) T h
      have k3 := kR3 T
      walk_at "go"
      intro r nr
      exact k r _ upd_same (Same.new nr)
    · walk_at "go"
      intro r nr
      exact k r _ (by rw [h]; exact upd_same) (Same.new nr)
/-- a + b, a - b, a * b -/
def spOp (K : PySem.W.Frag) (f : Int × Int → Int × Int → Int × Int) : Sp := fun vs H Q _ => ∃ (a : Addr) (v : V) (p q : Int × Int), vs = [.ref a, v] ∧ RAt K H a p ∧ NumV K H v q ∧ p.2 ≠ 0 ∧ q.2 ≠ 0 ∧ Bn 3000 p ∧ Bn 3000 q ∧ ∀ r H', RAt K H' r (f p q) → Same H H' → Q (.ref r) H'
theorem natAbs_mul_lt {i j : Int} {a b : Nat} (h : i.natAbs < 2 ^ a) (h2 : j.natAbs < 2 ^ b) (h3 : a + b ≤ 8000 := by decide) : (i * j).natAbs < 2 ^ 8000 := Nat.lt_of_lt_of_le (wide_lt h h2) (Nat.pow_le_pow_right (by decide) h3)
theorem ok__add (T : TL K mg) : ∃ fd, FunD K d_Ratio___add__.name d_Ratio___add__.qual d_Ratio___add__.params d_Ratio___add__.body d_Ratio___add__.scope (d_Ratio___add__.dvs K) (d_Ratio___add__.kws K) (He.fAd K d_Ratio___add__.at_) fd ∧ FnOk P w K mg base (L2.CX P w) 5 (He.fAd K d_Ratio___add__.at_) fd ["self", "other"] (spOp K radd) := by
  obtain ⟨fdR, FR0, FR⟩ := ok_RatioI (P := P) (w := w) (base := base) T
  have bR := bRat FR0
  obtain ⟨fd, F⟩ := F_Ratio___add__ T
  refine ⟨fd, F, F.ok0 sc_Ratio___add__ (fun vs H Q E h => ?_) (fun cdv A outer s H vs Q E hr h => ?_)⟩
  · obtain ⟨a, v, p, q, rfl, _⟩ := h
    rfl
  · obtain ⟨a, v, p, q, rfl, ⟨dx, ha⟩, hv, hp, hq, bp, bq, k⟩ := h
    refine ⟨_, (pss_cons (ps_if (pt_not (pt_val (pe_fx (G_is_number T) (hr.mono (by walk_at "lvl")) passL (pa_cons (pv 1) pa_nil))))
        (pss_one ps_never)
        pss_nil)
      (pss_cons (ps_asg (pe_fx (G_parts_of T) (hr.mono (by walk_at "lvl")) passL (pa_cons (pv 1) pa_nil)) (pg_tup rfl (pgs_cons (pg_name (i := 2) sc_Ratio___add__.nd rfl (by first | exact Or.inl rfl | exact Or.inr rfl)) (pgs_cons (pg_name (i := 3) sc_Ratio___add__.nd rfl (by first | exact Or.inl rfl | exact Or.inr rfl)) pgs_nil))))
      (pss_one (ps_ret (pe_make (mkR T) FR (hr.mono (by walk_at "lvl")) rfl (g_Ratio T) bR .nil passL (pa_cons (pe_op op_addG (pe_op op_mulI (pe_fld (pv 0) rfl) (pv 3)) (pe_op op_mulI (pv 2) (pe_fld (pv 0) rfl))) (pa_cons (pe_op op_mulI (pe_fld (pv 0) rfl) (pv 3)) pa_nil))))))), ?_⟩
    walk_at "go"
    refine ⟨v, q, rfl, hv, ?_⟩
    walk_at "go"
    refine ⟨v, q, rfl, hv, fun r1 H1 a1 s1 => ?_⟩
    walk_at "go"
    refine st_tup2 a1 ?_
    have ha1 := s1 _ _ ha
    have m0 : CMulG p.1 q.2 := mulG bp.1 bq.2
    have m1 : CMulG q.1 p.2 := mulG bq.1 bp.2
    have m2 : CMulG p.2 q.2 := mulG bp.2 bq.2
    walk_at "go"
    exact st_ratio (Int.mul_ne_zero hp hq) (natAbs_mul_lt bp.2 bq.2) fun r H' hr s => k r H' hr (s1.trans s)
theorem ok__sub (T : TL K mg) : ∃ fd, FunD K d_Ratio___sub__.name d_Ratio___sub__.qual d_Ratio___sub__.params d_Ratio___sub__.body d_Ratio___sub__.scope (d_Ratio___sub__.dvs K) (d_Ratio___sub__.kws K) (He.fAd K d_Ratio___sub__.at_) fd ∧ FnOk P w K mg base (L2.CX P w) 5 (He.fAd K d_Ratio___sub__.at_) fd ["self", "other"] (spOp K rsub) := by
  obtain ⟨fdR, FR0, FR⟩ := ok_RatioI (P := P) (w := w) (base := base) T
  have bR := bRat FR0
  obtain ⟨fd, F⟩ := F_Ratio___sub__ T
  refine ⟨fd, F, F.ok0 sc_Ratio___sub__ (fun vs H Q E h => ?_) (fun cdv A outer s H vs Q E hr h => ?_)⟩
  · obtain ⟨a, v, p, q, rfl, _⟩ := h
    rfl
  · obtain ⟨a, v, p, q, rfl, ⟨dx, ha⟩, hv, hp, hq, bp, bq, k⟩ := h
    refine ⟨_, (pss_cons (ps_if (pt_not (pt_val (pe_fx (G_is_number T) (hr.mono (by walk_at "lvl")) passL (pa_cons (pv 1) pa_nil))))
        (pss_one ps_never)
        pss_nil)
      (pss_cons (ps_asg (pe_fx (G_parts_of T) (hr.mono (by walk_at "lvl")) passL (pa_cons (pv 1) pa_nil)) (pg_tup rfl (pgs_cons (pg_name (i := 2) sc_Ratio___sub__.nd rfl (by first | exact Or.inl rfl | exact Or.inr rfl)) (pgs_cons (pg_name (i := 3) sc_Ratio___sub__.nd rfl (by first | exact Or.inl rfl | exact Or.inr rfl)) pgs_nil))))
      (pss_one (ps_ret (pe_make (mkR T) FR (hr.mono (by walk_at "lvl")) rfl (g_Ratio T) bR .nil passL (pa_cons (pe_op op_sub (pe_op op_mulI (pe_fld (pv 0) rfl) (pv 3)) (pe_op op_mulI (pv 2) (pe_fld (pv 0) rfl))) (pa_cons (pe_op op_mulI (pe_fld (pv 0) rfl) (pv 3)) pa_nil))))))), ?_⟩
    walk_at "go"
    refine ⟨v, q, rfl, hv, ?_⟩
    walk_at "go"
    refine ⟨v, q, rfl, hv, fun r1 H1 a1 s1 => ?_⟩
    walk_at "go"
    refine st_tup2 a1 ?_
    have ha1 := s1 _ _ ha
    have m0 : CMulG p.1 q.2 := mulG bp.1 bq.2
    have m1 : CMulG q.1 p.2 := mulG bq.1 bp.2
    have m2 : CMulG p.2 q.2 := mulG bp.2 bq.2
    walk_at "go"
    exact st_ratio (Int.mul_ne_zero hp hq) (natAbs_mul_lt bp.2 bq.2) fun r H' hr s => k r H' hr (s1.trans s)
theorem ok__mul (T : TL K mg) : ∃ fd, FunD K d_Ratio___mul__.name d_Ratio___mul__.qual d_Ratio___mul__.params d_Ratio___mul__.body d_Ratio___mul__.scope (d_Ratio___mul__.dvs K) (d_Ratio___mul__.kws K) (He.fAd K d_Ratio___mul__.at_) fd ∧ FnOk P w K mg base (L2.CX P w) 5 (He.fAd K d_Ratio___mul__.at_) fd ["self", "other"] (spOp K rmul) := by
  obtain ⟨fdR, FR0, FR⟩ := ok_RatioI (P := P) (w := w) (base := base) T
  have bR := bRat FR0
  obtain ⟨fd, F⟩ := F_Ratio___mul__ T
  refine ⟨fd, F, F.ok0 sc_Ratio___mul__ (fun vs H Q E h => ?_) (fun cdv A outer s H vs Q E hr h => ?_)⟩
  · obtain ⟨a, v, p, q, rfl, _⟩ := h
    rfl
  · obtain ⟨a, v, p, q, rfl, ⟨dx, ha⟩, hv, hp, hq, bp, bq, k⟩ := h
    refine ⟨_, (pss_cons (ps_if (pt_not (pt_val (pe_fx (G_is_number T) (hr.mono (by walk_at "lvl")) passL (pa_cons (pv 1) pa_nil))))
        (pss_one ps_never)
        pss_nil)
      (pss_cons (ps_asg (pe_fx (G_parts_of T) (hr.mono (by walk_at "lvl")) passL (pa_cons (pv 1) pa_nil)) (pg_tup rfl (pgs_cons (pg_name (i := 2) sc_Ratio___mul__.nd rfl (by first | exact Or.inl rfl | exact Or.inr rfl)) (pgs_cons (pg_name (i := 3) sc_Ratio___mul__.nd rfl (by first | exact Or.inl rfl | exact Or.inr rfl)) pgs_nil))))
      (pss_one (ps_ret (pe_make (mkR T) FR (hr.mono (by walk_at "lvl")) rfl (g_Ratio T) bR .nil passL (pa_cons (pe_op op_mulI (pe_fld (pv 0) rfl) (pv 2)) (pa_cons (pe_op op_mulI (pe_fld (pv 0) rfl) (pv 3)) pa_nil))))))), ?_⟩
    walk_at "go"
    refine ⟨v, q, rfl, hv, ?_⟩
    walk_at "go"
    refine ⟨v, q, rfl, hv, fun r1 H1 a1 s1 => ?_⟩
    walk_at "go"
    refine st_tup2 a1 ?_
    have ha1 := s1 _ _ ha
    have m0 : CMulG p.1 q.1 := mulG bp.1 bq.1
    have m1 : CMulG p.2 q.2 := mulG bp.2 bq.2
    walk_at "go"
    exact st_ratio (Int.mul_ne_zero hp hq) (natAbs_mul_lt bp.2 bq.2) fun r H' hr s => k r H' hr (s1.trans s)
def spNeg (K : PySem.W.Frag) : Sp := fun vs H Q _ => ∃ (a : Addr) (p : Int × Int), vs = [.ref a] ∧ RAt K H a p ∧ Low p ∧ Bn 3000 p ∧ ∀ r H', RAt K H' r (rneg p) → Same H H' → Q (.ref r) H'
theorem ok__neg (T : TL K mg) : ∃ fd, FunD K d_Ratio___neg__.name d_Ratio___neg__.qual d_Ratio___neg__.params d_Ratio___neg__.body d_Ratio___neg__.scope (d_Ratio___neg__.dvs K) (d_Ratio___neg__.kws K) (He.fAd K d_Ratio___neg__.at_) fd ∧ FnOk P w K mg base (L2.CX P w) 5 (He.fAd K d_Ratio___neg__.at_) fd ["self"] (spNeg K) := by
  obtain ⟨fdR, FR0, FR⟩ := ok_RatioI (P := P) (w := w) (base := base) T
  have bR := bRat FR0
  obtain ⟨fd, F⟩ := F_Ratio___neg__ T
  refine ⟨fd, F, F.ok0 sc_Ratio___neg__ (fun vs H Q E h => ?_) (fun cdv A outer s H vs Q E hr h => ?_)⟩
  · obtain ⟨a, p, rfl, _⟩ := h
    rfl
  · obtain ⟨a, p, rfl, ⟨dx, ha⟩, lp, bp, k⟩ := h
    refine ⟨_, (pss_one (ps_ret (pe_make (mkR T) FR (hr.mono (by walk_at "lvl")) rfl (g_Ratio T) bR .nil passL (pa_cons (pe_un un_neg (pe_fld (pv 0) rfl)) (pa_cons (pe_fld (pv 0) rfl) pa_nil))))), ?_⟩
    walk_at "go"
    refine st_ratio (low_two lp) (Nat.lt_of_lt_of_le bp.2 (Nat.pow_le_pow_right (by decide) (by decide))) fun r H' hr s => k r H' ?_ s
    rw [← rlow_low (neg_low lp)]
    exact hr
/-- a < b by the parts -/
def spBelow (K : PySem.W.Frag) : Sp := fun vs H Q _ => ∃ (a : Addr) (v : V) (p q : Int × Int), vs = [.ref a, v] ∧ RAt K H a p ∧ NumV K H v q ∧ Bn 3000 p ∧ Bn 3000 q ∧ ∀ H', Same H H' → Q (.bl (decide (p.1 * q.2 < q.1 * p.2))) H'
theorem ok_below (T : TL K mg) : ∃ fd, FunD K d_Ratio_below.name d_Ratio_below.qual d_Ratio_below.params d_Ratio_below.body d_Ratio_below.scope (d_Ratio_below.dvs K) (d_Ratio_below.kws K) (He.fAd K d_Ratio_below.at_) fd ∧ FnOk P w K mg base (L2.CX P w) 3 (He.fAd K d_Ratio_below.at_) fd ["self", "other"] (spBelow K) := by
  obtain ⟨fd, F⟩ := F_Ratio_below T
  refine ⟨fd, F, F.ok0 sc_Ratio_below (fun vs H Q E h => ?_) (fun cdv A outer s H vs Q E hr h => ?_)⟩
  · obtain ⟨a, v, p, q, rfl, _⟩ := h
    rfl
  · obtain ⟨a, v, p, q, rfl, ⟨dx, ha⟩, hv, bp, bq, k⟩ := h
    refine ⟨_, (pss_cons (ps_asg (pe_fx (G_parts_of T) (hr.mono (by walk_at "lvl")) passL (pa_cons (pv 1) pa_nil)) (pg_tup rfl (pgs_cons (pg_name (i := 2) sc_Ratio_below.nd rfl (by first | exact Or.inl rfl | exact Or.inr rfl)) (pgs_cons (pg_name (i := 3) sc_Ratio_below.nd rfl (by first | exact Or.inl rfl | exact Or.inr rfl)) pgs_nil))))
      (pss_one (ps_ret (pe_cmpR op_lt (pe_op op_mulI (pe_fld (pv 0) rfl) (pv 3)) (pe_op op_mulI (pv 2) (pe_fld (pv 0) rfl)) (nomark _))))), ?_⟩
    walk_at "go"
    refine ⟨v, q, rfl, hv, fun r1 H1 a1 s1 => ?_⟩
    walk_at "go"
    refine st_tup2 a1 ?_
    have ha1 := s1 _ _ ha
    have m0 : CMulG p.1 q.2 := mulG bp.1 bq.2
    have m1 : CMulG q.1 p.2 := mulG bq.1 bp.2
    walk_at "go"
    exact k H1 s1
def spOver (K : PySem.W.Frag) : Sp := fun vs H Q E => ∃ (a : Addr) (v : V) (p q : Int × Int), vs = [.ref a, v] ∧ RAt K H a p ∧ NumV K H v q ∧ p.2 ≠ 0 ∧ Bn 3000 p ∧ Bn 3000 q ∧
  ((q.1 ≠ 0 ∧ ∀ r H', RAt K H' r (rlow (p.1 * q.2) (p.2 * q.1)) → Same H H' → Q (.ref r) H') ∨ (q.1 = 0 ∧ ∀ H1, Same H H1 → ErV K v H1 E))
theorem ok_over (T : TL K mg) : ∃ fd, FunD K d_Ratio_over.name d_Ratio_over.qual d_Ratio_over.params d_Ratio_over.body d_Ratio_over.scope (d_Ratio_over.dvs K) (d_Ratio_over.kws K) (He.fAd K d_Ratio_over.at_) fd ∧ FnOk P w K mg base (L2.CX P w) 5 (He.fAd K d_Ratio_over.at_) fd ["self", "other"] (spOver K) := by
  obtain ⟨fdR, FR0, FR⟩ := ok_RatioI (P := P) (w := w) (base := base) T
  have bR := bRat FR0
  obtain ⟨fd, F⟩ := F_Ratio_over T
  refine ⟨fd, F, FunD.ok F sc_Ratio_over (fun vs H Q E h => ?_) (fun cdv A outer s H vs Q E hr h => ?_)⟩
  · obtain ⟨a, v, p, q, rfl, _⟩ := h
    rfl
  · obtain ⟨a, v, p, q, rfl, ⟨dx, ha⟩, hv, hp, bp, bq, k⟩ := h
    refine ⟨_, (pss_cons (ps_asg (pe_fx (G_parts_of T) (hr.mono (by walk_at "lvl")) passL (pa_cons (pv 1) pa_nil)) (pg_tup rfl (pgs_cons (pg_name (i := 2) sc_Ratio_over.nd rfl (by first | exact Or.inl rfl | exact Or.inr rfl)) (pgs_cons (pg_name (i := 3) sc_Ratio_over.nd rfl (by first | exact Or.inl rfl | exact Or.inr rfl)) pgs_nil))))
      (pss_cons (ps_if (pt_cmpR op_eq (pv 2) pe_int (nomark _))
        (pss_one (ps_raise rfl (takes_of rfl rfl rfl rfl) (pmk_ox (X_InvalidRatio T) (hr.mono (by walk_at "lvl")) passL (pa_cons (pv 1) pa_nil))))
        pss_nil)
      (pss_one (ps_ret (pe_make (mkR T) FR (hr.mono (by walk_at "lvl")) rfl (g_Ratio T) bR .nil passL (pa_cons (pe_op op_mulI (pe_fld (pv 0) rfl) (pv 3)) (pa_cons (pe_op op_mulI (pe_fld (pv 0) rfl) (pv 2)) pa_nil))))))), ?_⟩
    walk_at "go"
    refine ⟨v, q, rfl, hv, fun r1 H1 a1 s1 => ?_⟩
    walk_at "go"
    refine st_tup2 a1 ?_
    have ha1 := s1 _ _ ha
    have m0 : CMulG p.1 q.2 := mulG bp.1 bq.2
    have m1 : CMulG p.2 q.1 := mulG bp.2 bq.1
    rcases k with ⟨h0, k⟩ | ⟨h0, k⟩
    · walk_at "go"
      rw [show decide (V.int q.1 = V.int 0) = false from decide_eq_false fun z => h0 (V.int.inj z)]
      walk_at "go"
      exact st_ratio (Int.mul_ne_zero hp h0) (natAbs_mul_lt bp.2 bq.1) fun r H' hr s => k r H' hr (s1.trans s)
    · walk_at "go"
      rw [show decide (V.int q.1 = V.int 0) = true from decide_eq_true (by rw [h0])]
      walk_at "go"
      exact (raiseIR (k H1 s1)).2
end
end K01
end -- a9
section -- FwTxt
set_option Elab.async false
set_option linter.all false
set_option maxRecDepth 100000
set_option maxHeartbeats 4000000
/-! FwTxt: texts of numbers, read and written. -/
namespace L2R
open PySem PySem.Spec PyProof.Rows L2 TL
def dg (c : Nat) : Bool := decide (48 ≤ c) && decide (c ≤ 57)
def okW (l : List Nat) : Bool := !l.isEmpty && (decide (l.length ≤ 4000) && (l.all dg && !(l.head? == some 48 && decide (1 < l.length))))
def rdW (l : List Nat) : Option Nat := if okW l = true then some (NumText.digitsVal l) else none
def sgn (b : Bool) (u : Nat) : Int := if b = true then -(u : Int) else u
def rdS (l : List Nat) : Bool × List Nat := match l with
  | 45 :: r => (true, r)
  | _ => (false, l)
def rdP (b : Bool) (d : List Nat) : Option (Int × Int) := match rdW (d.takeWhile (· != 47)), d.dropWhile (· != 47) with
  | some u, [] => some (sgn b u, 1)
  | some u, _ :: e => (match rdW e with
    | some v => if v = 0 then none else some (sgn b u, (v : Int))
    | none => none)
  | none, _ => none
/-- the parts that a text writes -/
def rdN (l : List Nat) : Option (Int × Int) := rdP (rdS l).1 (rdS l).2
theorem all_dg {l : List Nat} (h : l.all dg = true) : NumText.AllDigits l := fun c hc => by
  have := List.all_eq_true.mp h c hc
  unfold dg at this
  simpa using this
theorem dg_all {l : List Nat} (h : NumText.AllDigits l) : l.all dg = true := List.all_eq_true.mpr fun c hc => by
  have := h c hc
  unfold dg
  simpa using this
theorem okW_int {x : Str} (h : okW (tl x) = true) : intText? x = some ((NumText.digitsVal (tl x) : Nat) : Int) := by
  unfold okW at h
  simp only [Bool.and_eq_true, Bool.not_eq_true', decide_eq_true_eq] at h
  obtain ⟨h1, h2, h3, _⟩ := h
  exact intText_digits (all_dg h3) (by intro z; rw [show tl x = [] from z] at h1; cases h1) (by rw [len_tl]; omega)
theorem numL_head : ∀ n : Nat, 1 ≤ n → ∃ c r, numL n = c :: r ∧ c ≠ 48 := fun n => by
  induction n using Nat.strongRecOn with
  | _ n ih =>
    intro h1
    by_cases h : n < 10
    · exact ⟨48 + n, [], numL_lt h, by omega⟩
    · obtain ⟨c, r, e, hc⟩ := ih (n / 10) (by omega) (by omega)
      exact ⟨c, r ++ [48 + n % 10], by rw [numL_step (by omega), e] <;> rfl, hc⟩
theorem okW_num {n : Nat} (h : (numL n).length ≤ 4000) : okW (numL n) = true := by
  unfold okW
  simp only [Bool.and_eq_true, Bool.not_eq_true', decide_eq_true_eq]
  refine ⟨?_, h, dg_all (numL_digits n), ?_⟩
  · cases e : numL n with
    | nil => exact absurd e (numL_ne n)
    | cons a r => rfl
  · rcases Nat.eq_zero_or_pos n with rfl | hp
    · rw [numL_lt (by decide)] <;> rfl
    · obtain ⟨c, r, e, hc⟩ := numL_head n hp
      rw [e]
      have : (some c == some 48) = false := by simpa using hc
      show (((some c == some 48) && _) = false)
      rw [this] <;> rfl
theorem rdW_num {n : Nat} (h : (numL n).length ≤ 4000) : rdW (numL n) = some n := by
  unfold rdW
  rw [if_pos (okW_num h), numL_val]
/-- the signs of an int -/
def intL (i : Int) : List Nat := if i < 0 then 45 :: numL i.natAbs else numL i.natAbs
theorem tl_int (i : Int) : tl (Str.ofString (toString i)) = intL i := by
  unfold intL
  split
  · rename_i h
    obtain ⟨n, hn⟩ : ∃ n : Nat, i = -((n + 1 : Nat) : Int) := ⟨i.natAbs - 1, by omega⟩
    subst hn
    have e : toString (-((n + 1 : Nat) : Int)) = "-" ++ toString ((n + 1 : Nat) : Int) := rfl
    have e2 : tl (Str.ofString ("-" ++ toString ((n + 1 : Nat) : Int))) = 45 :: tl (Str.ofString (toString ((n + 1 : Nat) : Int))) := by
      show (Str.ofString _).cps.toList = 45 :: (Str.ofString _).cps.toList
      rw [signs_ofString, signs_ofString, String.toList_append, List.map_append] <;> rfl
    rw [e, e2, tl_num, Int.natAbs_neg] <;> rfl
  · rename_i h
    obtain ⟨n, rfl⟩ : ∃ n : Nat, i = (n : Int) := ⟨i.natAbs, by omega⟩
    rw [tl_num] <;> rfl
theorem takeWhile_no {l : List Nat} (h : 47 ∉ l) : l.takeWhile (· != 47) = l := by
  induction l with
  | nil => rfl
  | cons a r ih =>
    have ha : (a != 47) = true := by
      have : a ≠ 47 := fun z => h (by rw [z]; exact List.mem_cons_self)
      simpa using this
    rw [List.takeWhile_cons, if_pos ha, ih fun z => h (List.mem_cons_of_mem _ z)]
theorem dropWhile_no {l r : List Nat} (h : 47 ∉ l) : (l ++ r).dropWhile (· != 47) = r.dropWhile (· != 47) := by
  induction l with
  | nil => rfl
  | cons a l ih =>
    have ha : (a != 47) = true := by
      have : a ≠ 47 := fun z => h (by rw [z]; exact List.mem_cons_self)
      simpa using this
    rw [List.cons_append, List.dropWhile_cons, if_pos ha, ih fun z => h (List.mem_cons_of_mem _ z)]
theorem takeWhile_app {l r : List Nat} (h : 47 ∉ l) : (l ++ 47 :: r).takeWhile (· != 47) = l := by
  induction l with
  | nil => rfl
  | cons a l ih =>
    have ha : (a != 47) = true := by
      have : a ≠ 47 := fun z => h (by rw [z]; exact List.mem_cons_self)
      simpa using this
    rw [List.cons_append, List.takeWhile_cons, if_pos ha, ih fun z => h (List.mem_cons_of_mem _ z)]
theorem rdS_int (i : Int) (r : List Nat) : rdS (intL i ++ r) = (decide (i < 0), numL i.natAbs ++ r) := by
  unfold intL
  split
  · rename_i h
    rw [decide_eq_true h] <;> rfl
  · rename_i h
    rw [decide_eq_false h]
    cases e : numL i.natAbs with
    | nil => exact absurd e (numL_ne _)
    | cons a t =>
      have ha : a ≠ 45 := fun z => numL_free (n := i.natAbs) (s := 45) (by omega) (by rw [e, z]; exact List.mem_cons_self)
      unfold rdS
      split
      · rename_i q
        cases q
        exact absurd rfl ha
      · rfl
theorem sgn_int (i : Int) : sgn (decide (i < 0)) i.natAbs = i := by
  unfold sgn
  by_cases h : i < 0
  · rw [decide_eq_true h, if_pos rfl]
    omega
  · rw [decide_eq_false h, if_neg (by decide)]
    omega
theorem no47 (n : Nat) : 47 ∉ numL n := numL_free (by omega)
theorem rdN_int {i : Int} (h : (numL i.natAbs).length ≤ 4000) : rdN (intL i) = some (i, 1) := by
  have e := rdS_int i []
  rw [List.append_nil, List.append_nil] at e
  unfold rdN
  rw [e]
  unfold rdP
  dsimp only
  have d := dropWhile_no (l := numL i.natAbs) (r := []) (no47 _)
  rw [List.append_nil] at d
  rw [takeWhile_no (no47 _), d, rdW_num h]
  show some (sgn _ _, (1 : Int)) = _
  rw [sgn_int]
theorem rdN_two {i : Int} {n : Nat} (h : (numL i.natAbs).length ≤ 4000) (hn : (numL n).length ≤ 4000) (h0 : n ≠ 0) : rdN (intL i ++ 47 :: numL n) = some (i, (n : Int)) := by
  unfold rdN
  rw [rdS_int]
  unfold rdP
  dsimp only
  rw [takeWhile_app (no47 _), dropWhile_no (no47 _), rdW_num h]
  show (match rdW (numL n) with | some v => if v = 0 then none else some (sgn _ _, (v : Int)) | none => none) = _
  rw [rdW_num hn]
  show (if n = 0 then none else some (sgn _ _, (n : Int))) = _
  rw [if_neg h0, sgn_int]
end L2R
end -- FwTxt
section -- FwInt
set_option Elab.async false
set_option linter.all false
set_option maxRecDepth 100000
set_option maxHeartbeats 4000000
/-! FwInt: int(text), texts of up to 4300 digits. -/
namespace PySem.W
open PySem PySem.Calls PySem.NumText PyProof.Rows KIN
theorem wp_textL {M : Model} {A : Around} {E : Value → Shared → Prop} {s : Shared} {Q : Value → Shared → Prop} {v : Value} {text : List Nat} {n : Int} (hn : s.heap.NoDigits)
    (hs : ¬ (text.takeWhile (· != 0)).length ≤ 640) (hr : (int_private% "readNumeral") 4300 10 (text.takeWhile (· != 0)) = (int_private% "Numeral.value") n)
    (ha : ((text.takeWhile (· != 0)).length == text.length) = true) (h : Q (.int n s.toks) { s with toks := s.toks + 1 }) :
    wpAny M A ((int_private% "intFromText") v text 10) Q E s := by
  obtain ⟨mc, hns, hnone⟩ := hn
  obtain ⟨hp, g, d, tk, os⟩ := s
  have mx : ∀ {Q' : Nat → Shared → Prop}, Q' 4300 ⟨hp, g, d, tk, os⟩ → wpAny M A Builtin.intMaxStrDigits Q' E ⟨hp, g, d, tk, os⟩ := fun {Q'} q => by
    unfold Builtin.intMaxStrDigits
    refine wpAny_bind (wpAny_nsGet hns ?_)
    rw [hnone]
    exact wpAny_pure q
  repeat (any_goals (first
    | assumption
    | (with_reducible refine mx ?_)
    | (with_reducible refine wpAny_ite_false (decide_eq_false hs) ?_)
    | (with_reducible refine wpAny_ite_true (decide_eq_true ha) ?_)
    | wp_step))
  all_goals (try rw [hr])
  all_goals (try dsimp only)
  repeat (any_goals (first
    | assumption
    | (with_reducible refine wpAny_ite_true (decide_eq_true ha) ?_)
    | wp_step))
theorem meets_textL {x : PySem.Str} {u : Tok} {n : Int} (hl : x.length ≤ sizeLine) (hn : PySem.intText? x = some n) : Meets (Builtin.«int.__new__» ⟨[.type "int", .str x u], []⟩) (fun _ R s => s.heap.NoDigits ∧ R (.ok (.ret (.int n s.toks))) { s with toks := s.toks + 1 }) :=
  Meets.of_wp fun prog w A R s h => by
    obtain ⟨nd, q⟩ := h
    obtain ⟨hp, g, d, tk, os⟩ := s
    have f1 := F.conv_sub_int
    have f2 := F.madeHere_int
    have f3 := str_int
    have f4 := str_idx
    have f5 := str_trunc
    have f6 : typeOf (.str x u) = pure (.type "str") := rfl
    have hr : (int_private% "readNumeral") (numLimitOf x) 10 (numSeenOf x) = (int_private% "Numeral.value") n ∧ ((numSeenOf x).length == (numTextOf x).length) = true := by
      rcases readAny x hl with ⟨m, h1, h2, h3⟩ | ⟨h1, _⟩
      · rw [hn] at h1
        injection h1 with h1
        subst h1
        exact ⟨h3, h2⟩
      · rw [hn] at h1
        cases h1
    have go : ∀ {A' : Around} {E' : Value → Shared → Prop} {v : Value} {Q' : Value → Shared → Prop}, Q' (.int n tk) ⟨hp, g, d, tk + 1, os⟩ → wpAny (model prog w) A' ((int_private% "intFromText") v (numTextOf x) 10) Q' E' ⟨hp, g, d, tk, os⟩ := fun {A' E' v Q'} q' => by
      by_cases hs : (numSeenOf x).length ≤ 640
      · have e : numLimitOf x = 0 := if_pos hs
        rw [e] at hr
        exact wp_text hs hr.1 hr.2 q'
      · have e : numLimitOf x = 4300 := if_neg hs
        rw [e] at hr
        exact wp_textL nd hs hr.1 hr.2 q'
    have hk := Hid.mk (And.intro hr nd)
    clear hr hl hn
    repeat (any_goals (first
      | assumption
      | ((with_reducible show wpAny _ _ ((int_private% "intFromText") _ _ _) _ _ _); refine go ?_)
      | wp_step))
    all_goals first | exact ⟨_, rfl, q⟩ | skip
end PySem.W
namespace L2
open PySem PySem.Spec PyProof.Rows
theorem call_intX {X : Cx} (hD : PySem.W.nsIn X.K cStatics "sys.int_max_str_digits" = some none) : CallR X (.type "int") (fun xs H Q => ∃ a n, xs = [.str a] ∧ PySem.intText? a = some n ∧ a.length ≤ sizeLine ∧ Q (.int n) H) := by
  intro pins s σ H xs us Q I rs h
  obtain ⟨a, n, rfl, hn, hl, h⟩ := h
  obtain ⟨u, rfl, t, rfl⟩ := vals1 rs
  exact call_int_1 (PySem.W.meets_textL hl hn) ⟨noDig I hD, rfl, .int n, H, I.tok _, ⟨_, rfl⟩, h⟩
end L2
end -- FwInt
section -- FwTxt2
set_option Elab.async false
set_option linter.all false
set_option maxRecDepth 100000
set_option maxHeartbeats 4000000
/-! FwTxt2: the own readers' tests over texts. -/
namespace L2R
open PySem PySem.Spec PyProof.Rows L2 TL
theorem mem_dg (c : Nat) : c ∈ (Str.ofString "0123456789").cps.toList ↔ dg c = true := by
  show c ∈ [48, 49, 50, 51, 52, 53, 54, 55, 56, 57] ↔ _
  unfold dg
  simp only [List.mem_cons, List.not_mem_nil, or_false, Bool.and_eq_true, decide_eq_true_eq]
  omega
theorem starts1 (x : Str) (c : Nat) : Txt.startswith x ⟨#[c]⟩ = ((tl x).head? == some c) := by
  unfold Txt.startswith
  have e : Builtin.Str.subAt x ⟨#[c]⟩ 0 = ((tl x).take 1 == [c]) := PySem.StrLaws.subAt_eq x ⟨#[c]⟩ 0
  rw [e, len_tl x]
  show (decide (0 + 1 ≤ (tl x).length) && ((tl x).take 1 == [c])) = _
  cases tl x with
  | nil => rfl
  | cons a r =>
    show (decide (0 + 1 ≤ r.length + 1) && ([a] == [c])) = (some a == some c)
    rw [decide_eq_true (by omega)]
    by_cases h : a = c
    · subst h
      simp
    · have h1 : ([a] == [c]) = false := by simpa using h
      have h2 : (some a == some c) = false := by simpa using h
      rw [h1, h2] <;> rfl
theorem rdW_no {l : List Nat} (h : okW l = false) : rdW l = none := by
  unfold rdW
  rw [h] <;> rfl
theorem okW_nil : okW [] = false := rfl
theorem okW_long {l : List Nat} (h : 4000 < l.length) : okW l = false := by
  unfold okW
  rw [decide_eq_false (show ¬ l.length ≤ 4000 by omega)]
  simp
theorem okW_sign {l : List Nat} {c : Nat} (h : c ∈ l) (hc : dg c = false) : okW l = false := by
  have : l.all dg = false := by
    rw [List.all_eq_false]
    exact ⟨c, h, by rw [hc]; decide⟩
  unfold okW
  rw [this]
  simp
theorem okW_zero {l : List Nat} (h : l.head? = some 48) (h1 : 1 < l.length) : okW l = false := by
  unfold okW
  rw [h, decide_eq_true h1]
  simp
theorem okW_yes {l : List Nat} (h0 : l ≠ []) (h1 : l.length ≤ 4000) (h2 : ∀ c ∈ l, dg c = true) (h3 : ¬ (l.head? = some 48 ∧ 1 < l.length)) : okW l = true := by
  unfold okW
  simp only [Bool.and_eq_true, Bool.not_eq_true', decide_eq_true_eq]
  refine ⟨?_, h1, List.all_eq_true.mpr h2, ?_⟩
  · cases l with
    | nil => exact absurd rfl h0
    | cons a r => rfl
  · rw [← Bool.not_eq_true]
    intro z
    simp only [Bool.and_eq_true, decide_eq_true_eq, beq_iff_eq] at z
    exact h3 z
theorem rdW_yes {l : List Nat} (h : okW l = true) : rdW l = some (NumText.digitsVal l) := by
  unfold rdW
  rw [if_pos h]
end L2R
end -- FwTxt2
section -- FwStr
set_option Elab.async false
set_option linter.all false
set_option maxRecDepth 100000
set_option maxHeartbeats 4000000
/-! FwStr: loops and comprehensions over a text; a def called by one keyword. -/
namespace L2
open PySem PySem.Spec PyProof.Rows
theorem for_strL {z : Str} {g : TG} {tb : TS} {D : Ends} {σ : St} {H : Hp} (Pv : Nat → St → Hp → Prop) (h0 : Pv 0 σ H)
    (hs : ∀ i c σ H, z.cps[i]? = some c → Pv i σ H → g (.str ⟨#[c]⟩) σ H fun σ2 H2 => tb { D with nx := Pv (i + 1), ct := Pv (i + 1), bk := D.nx } σ2 H2) (hd : ∀ σ H, Pv z.cps.size σ H → D.nx σ H) :
    ∃ W : Nat → Nat → St → Hp → Prop, (∃ m, W 0 m σ H) ∧ ∀ i m σ H, W i m σ H →
      ((Its z).stop i H ∧ D.nx σ H) ∨ ((Its z).go i H ∧ ∃ N : St → Hp → Prop, (∀ σ' H', N σ' H' → ∃ m', m' < m ∧ W (i + 1) m' σ' H') ∧ ∀ x H', (Its z).yld i H x H' → g x σ H' fun σ2 H2 => tb { D with nx := N, ct := N, bk := D.nx } σ2 H2) := by
  refine ⟨fun i m σ H => m = z.cps.size - i ∧ i ≤ z.cps.size ∧ Pv i σ H, ⟨z.cps.size, rfl, Nat.zero_le _, h0⟩, ?_⟩
  rintro i m σ H ⟨rfl, hi, p⟩
  by_cases hlt : i < z.cps.size
  · refine .inr ⟨hlt, Pv (i + 1), fun σ' H' p' => ⟨z.cps.size - (i + 1), by omega, rfl, hlt, p'⟩, ?_⟩
    rintro x H' ⟨rfl, c, hc, rfl⟩
    exact hs i c σ H' hc p
  · obtain rfl : i = z.cps.size := by omega
    exact .inl ⟨Nat.le_refl _, hd σ H p⟩
theorem lc_strL {z : Str} {g : TG} {tt : TT} {te : TE} {vs : List Nat} {σ : St} {H1 : Hp} {D : Addr} {Qd : Hp → Prop} (Pv : Nat → Hp → Prop) (h0 : Pv 0 (upd H1 D (.lst [])))
    (hs : ∀ i c H, z.cps[i]? = some c → Pv i H → g (.str ⟨#[c]⟩) (wipe σ vs) H fun σ2 H2 => wipe σ2 vs = wipe σ vs ∧ tt σ2 H2 fun b H3 =>
      if b = true then te σ2 H3 fun y H4 => ∃ acc, H4 D = some (.lst acc) ∧ acc.length < sizeLine ∧ Pv (i + 1) (upd H4 D (.lst (acc ++ [y]))) else Pv (i + 1) H3) (hd : ∀ H, Pv z.cps.size H → Qd H) :
    ∃ W : Nat → Nat → Hp → Prop, (∃ m, W 0 m (upd H1 D (.lst []))) ∧ ∀ i m H, W i m H →
      ((Its z).stop i H ∧ Qd H) ∨ ((Its z).go i H ∧ ∃ Nx : Hp → Prop, (∀ H', Nx H' → ∃ m', m' < m ∧ W (i + 1) m' H') ∧ ∀ x H', (Its z).yld i H x H' → g x (wipe σ vs) H' fun σ2 H2 => wipe σ2 vs = wipe σ vs ∧ tt σ2 H2 fun b H3 =>
        if b = true then te σ2 H3 fun y H4 => ∃ acc, H4 D = some (.lst acc) ∧ acc.length < sizeLine ∧ Nx (upd H4 D (.lst (acc ++ [y]))) else Nx H3) := by
  refine ⟨fun i m H => m = z.cps.size - i ∧ i ≤ z.cps.size ∧ Pv i H, ⟨z.cps.size, rfl, Nat.zero_le _, h0⟩, ?_⟩
  rintro i m H ⟨rfl, hi, p⟩
  by_cases hlt : i < z.cps.size
  · refine .inr ⟨hlt, Pv (i + 1), fun H' p' => ⟨z.cps.size - (i + 1), by omega, rfl, hlt, p'⟩, ?_⟩
    rintro x H' ⟨rfl, c, hc, rfl⟩
    exact hs i c H' hc p
  · obtain rfl : i = z.cps.size := by omega
    exact .inl ⟨Nat.le_refl _, hd H p⟩
theorem op_notInK {X : Cx} {K : PySem.W.Frag} (h : X.K = K) : OpR X (compareOp .NotIn) (rIn K true) := h ▸ op_notIn_seq
/-- a def of one parameter that is called by its name -/
structure FX1 (P : Program) (w : World) (K : PySem.W.Frag) (mg : Str → Option Value) (base : Heap) (k : Nat) (x m : Str) (sp : Sp) : Prop where
  ex : ∃ (f : Addr) (fd : FuncData), FnOk P w K mg base (L2.CX P w) k f fd [m] sp ∧ mg x = some (.ref f) ∧ PySem.W.keepIn K (.ref f) = true ∧ ∀ (s : Shared) (u : Value), BindsTo s fd ⟨[], [(m, u)]⟩ [(m, u)]
theorem pe_fx1 {X : Cx} {k : Nat} {sp : Sp} {x m : Str} {p pos kp : Pos} {e : Expr} {te : TE} (F : FX1 X.prog X.w X.K X.mg X.base k x m sp) (hr : Room k X.A) (hx : Passes (L2.CX X.prog X.w) X E0) (he : PE X e te) (hg : Gl X x := by rfl) (hdb : (x == ("__debug__" : Str)) = false := by decide) :
    PE X (.Call (.Name x p) [] [⟨some m, e, kp⟩] pos) (fun σ H Q => te σ H fun v H1 => sp [v] H1 Q E0) := by
  obtain ⟨f, fd, F1, gf, kf, b1⟩ := F.ex
  refine ⟨fun pins s σ H Q I h => wpAny_Call_Name_kw (ld_glob I hg gf ?_ hdb)⟩
  refine PySem.W.callWith_KW0 (h₀ := X.base) I.ok.mod.kin kf rfl (thn ((pk_cons he pk_nil).run pos pins s σ H (fun vs H1 => match vs with | [v] => sp [v] H1 Q E0 | _ => False) I h) fun us s1 ⟨vs, H1, I1, r1, q1⟩ => ⟨I1.kIn, ?_⟩) rfl
  match vs, q1 with
  | [v], q1 =>
    obtain ⟨u, rfl, ru⟩ := vals1 r1
    show wpAny _ _ (call (.ref f) [] [(m, u)]) _ _ _
    refine wpAny_call (codeAny_mono (F1.run X.A X.stack s1 H1 ⟨[], [(m, u)]⟩ [u] [v] Q E0 hr I1.env0 (b1 s1 u) (.cons ru .nil) q1) fun r s' hq => ?_)
    cases r with
    | error e => exact hx pins σ H1 s1 e s' I1 hq
    | ok fl =>
      cases fl with
      | ret u => exact I1.after hq
      | next => exact False.elim hq
      | brk => exact False.elim hq
      | cont => exact False.elim hq
end L2
end -- FwStr
section -- a10
set_option Elab.async false
set_option linter.all false
set_option maxRecDepth 100000
set_option maxHeartbeats 4000000
local macro_rules | `(tactic| walk_at "lvl") => `(tactic| first
  | decide
  | omega
  | (simp only [Nat.add_eq]; omega))
local macro_rules | `(tactic| walk_at "side") => `(tactic| first
  | decide
  | assumption
  | omega
  | exact Nat.le_of_ble_eq_true (by rfl)
  | exact ⟨by decide, by decide⟩
  | exact ⟨by decide, by decide, by decide⟩
  | exact Or.inl (Or.inr ⟨by decide, by decide⟩)
  | exact Or.inl (Or.inl ⟨by decide, by decide⟩))
local macro_rules | `(tactic| walk_at "ty") => `(tactic| first
  | assumption
  | exact L2.TyG.x (.base (.int _))
  | exact L2.TyG.x (.base (.str _))
  | exact L2.TyG.x (.base (.bl _))
  | exact L2.TyG.x (.base .non)
  | exact L2.TyG.x (.base (.lst (by assumption)))
  | exact L2.TyG.x (.base (.tup (by assumption)))
  | exact K01.tyR (by assumption) (by assumption)
  | exact L2.TyG.dn (by assumption))
local macro_rules | `(tactic| walk_at "cv") => `(tactic| first
  | exact L2.ClsV.ty _
  | exact L2.ClsV.own _)
local macro_rules | `(tactic| walk_at "kit") => `(tactic| first
  | exact L2.kit_ty (by decide +kernel)
  | exact K01.kR (by assumption) (by decide)
  | exact K01.kR2 (by assumption) (by decide)
  | exact K01.kR3 (by assumption))
local macro_rules | `(tactic| walk_at "s1") => `(tactic| first
  | refine ⟨_, rfl, ?_⟩
  | refine ⟨_, _, _, _, _, rfl, (by assumption), K01.clsR (by assumption), He.noat_ok (K01.a_noat_Ratio_top (by assumption)), rfl, ?_⟩
  | refine ⟨_, _, _, _, _, rfl, (by assumption), K01.clsR (by assumption), He.noat_ok (K01.a_noat_Ratio_bottom (by assumption)), rfl, ?_⟩
  | refine ⟨_, _, rfl, rfl, ?_⟩
  | refine ⟨_, _, rfl, ?_⟩
  | refine And.intro rfl ?_
  | refine L2.iteT ?_
  | refine L2.iteF ?_
  | refine L2.st_ixl (by assumption) (by rfl) ?_
  | refine L2.st_ixt (by assumption) (by rfl) ?_
  | refine L2.st_lenR (L2.lenr_l (by assumption)) ?_
  | refine L2.st_lenGR (L2.lenr_l (by assumption)) ?_
  | refine L2.st_lenGR (L2.lenr_t (by assumption)) ?_
  | refine L2.st_lenR (L2.lenr_t (by assumption)) ?_
  | refine L2.st_isG (b := false) (by walk_at "ty") (by walk_at "cv") (by walk_at "kit") ?_
  | refine L2.st_isG (b := true) (by walk_at "ty") (by walk_at "cv") (by walk_at "kit") ?_
  | refine And.intro (by walk_at "side") ?_)
local macro_rules | `(tactic| walk_at "go") => `(tactic| repeat (walk_at "s1"))
local macro_rules | `(tactic| walk_at "s2") => `(tactic| first
  | refine ⟨_, rfl, ?_⟩
  | refine ⟨_, _, _, _, _, rfl, (by assumption), K01.clsR (by assumption), He.noat_ok (K01.a_noat_Ratio_top (by assumption)), rfl, ?_⟩
  | refine ⟨_, _, _, _, _, rfl, (by assumption), K01.clsR (by assumption), He.noat_ok (K01.a_noat_Ratio_bottom (by assumption)), rfl, ?_⟩
  | refine ⟨_, _, rfl, rfl, ?_⟩
  | refine ⟨_, _, rfl, ?_⟩
  | refine And.intro rfl ?_
  | refine L2.iteT ?_
  | refine L2.iteF ?_
  | refine L2.st_ixl (by assumption) (by rfl) ?_
  | refine L2.st_ixt (by assumption) (by rfl) ?_
  | refine L2.st_lenR (L2.lenr_l (by assumption)) ?_
  | refine L2.st_lenGR (L2.lenr_l (by assumption)) ?_
  | refine L2.st_lenGR (L2.lenr_t (by assumption)) ?_
  | refine L2.st_lenR (L2.lenr_t (by assumption)) ?_
  | refine And.intro (by walk_at "side") ?_)
local macro_rules | `(tactic| walk_at "gs") => `(tactic| repeat (walk_at "s2"))
namespace K01
open PySem PySem.Spec PyProof.Rows L2 L2R TL
section
variable {P : Program} {w : World} {K : PySem.W.Frag} {mg : Str → Option Value} {base : Heap}
def spEq (K : PySem.W.Frag) (w : World) : Sp := fun vs H Q _ => ∃ (a : Addr) (v : V) (p : Int × Int), vs = [.ref a, v] ∧ RAt K H a p ∧ ((∃ (c : Addr) (q : Int × Int), v = .ref c ∧ RAt K H c q ∧ Q (.bl (decide (p = q))) H) ∨ (∃ n ∈ tys, TyG K w H v (.type n) ∧ Q (.bl false) H))
theorem ok__eq (T : TL K mg) : ∃ fd, FunD K d_Ratio___eq__.name d_Ratio___eq__.qual d_Ratio___eq__.params d_Ratio___eq__.body d_Ratio___eq__.scope (d_Ratio___eq__.dvs K) (d_Ratio___eq__.kws K) (He.fAd K d_Ratio___eq__.at_) fd ∧ FnOk P w K mg base (L2.CX P w) 1 (He.fAd K d_Ratio___eq__.at_) fd ["self", "other"] (spEq K w) := by
  obtain ⟨fd, F⟩ := F_Ratio___eq__ T
  refine ⟨fd, F, F.ok0 sc_Ratio___eq__ (fun vs H Q E h => ?_) (fun cdv A outer s H vs Q E hr h => ?_)⟩
  · obtain ⟨a, v, p, rfl, _⟩ := h
    rfl
  · obtain ⟨a, v, p, rfl, ⟨dx, ha⟩, h⟩ := h
    refine ⟨_, (pss_one (ps_ret (pe_and (pe_callB call_isG (by rfl) (f_isinstance T) (by decide +kernel) (pa_cons (pv 1) (pa_cons (pe_gr (g_Ratio T)) pa_nil))) (pe_and (pe_cmpR op_eq (pe_fld (pv 0) rfl) (pe_fld (pv 1) rfl) (nomark _)) (pe_one (pe_cmpR op_eq (pe_fld (pv 0) rfl) (pe_fld (pv 1) rfl) (nomark _))))))), ?_⟩
    rcases h with ⟨c, q, rfl, ⟨dc, hc⟩, k⟩ | ⟨n, hn, ty, k⟩
    · have ty := tyR (w := w) T hc
      have k3 := kR3 T
      walk_at "go"
      refine st_if (fun c1 => ?_) (fun c1 => ?_)
      · have e1 : p.1 = q.1 := V.int.inj c1
        walk_at "go"
        have e2 : decide (V.int p.2 = V.int q.2) = decide (p = q) := by
          by_cases z : p.2 = q.2
          · rw [decide_eq_true (by rw [z]), decide_eq_true (Prod.ext e1 z)]
          · rw [decide_eq_false (fun y => z (V.int.inj y)), decide_eq_false (fun y => z (by rw [y]))]
        rw [← e2] at k
        exact k
      · rw [decide_eq_false (fun y => c1 (by rw [y]))] at k
        exact k
    · walk_at "go"
      refine st_isG ty (.own _) (kR T hn) ?_
      walk_at "go"
      exact k
def rtext (p : Int × Int) : Str := if p.2 = 1 then Str.ofString (toString p.1) else ((Str.empty ++ Str.ofString (toString p.1)) ++ "/") ++ Str.ofString (toString p.2)
/-- a number whose text can be made -/
def TxtOk (p : Int × Int) : Prop := (rtext p).length ≤ 5000 ∧ p.1.natAbs < 10 ^ 4300 ∧ (p.2 = 1 ∨ (p.1.natAbs.log2 < 1920 ∧ p.2.natAbs.log2 < 1920))
theorem lenA (x y : Str) : (x ++ y).length = x.length + y.length := by rw [len_tl, tl_append, List.length_append, ← len_tl, ← len_tl]
def spText (K : PySem.W.Frag) : Sp := fun vs H Q _ => ∃ (a : Addr) (p : Int × Int), vs = [.ref a] ∧ RAt K H a p ∧ TxtOk p ∧ Q (.str (rtext p)) H
theorem ok_text (T : TL K mg) : ∃ fd, FunD K d_Ratio_text.name d_Ratio_text.qual d_Ratio_text.params d_Ratio_text.body d_Ratio_text.scope (d_Ratio_text.dvs K) (d_Ratio_text.kws K) (He.fAd K d_Ratio_text.at_) fd ∧ FnOk P w K mg base (L2.CX P w) 1 (He.fAd K d_Ratio_text.at_) fd ["self"] (spText K) := by
  obtain ⟨fd, F⟩ := F_Ratio_text T
  refine ⟨fd, F, F.ok0 sc_Ratio_text (fun vs H Q E h => ?_) (fun cdv A outer s H vs Q E hr h => ?_)⟩
  · obtain ⟨a, p, rfl, _⟩ := h
    rfl
  · obtain ⟨a, p, rfl, ⟨dx, ha⟩, ⟨z1, z2, z3⟩, q⟩ := h
    refine ⟨_, (pss_cons (ps_if (pt_cmpR op_eq (pe_fld (pv 0) rfl) pe_int (nomark _))
        (pss_one (ps_ret (pe_callTy (T := "str") (call_strX hr.hd (digF T)) rfl (f_str T) (by decide +kernel) (pa_cons (pe_fld (pv 0) rfl) pa_nil))))
        pss_nil)
      (pss_one (ps_ret (pe_joined (PJ.cons (pe_fmt (pe_fld (pv 0) rfl)) (PJ.cons pe_str (PJ.cons (pe_fmt (pe_fld (pv 0) rfl)) PJ.nil))))))), ?_⟩
    walk_at "go"
    refine st_if (fun c => ?_) (fun c => ?_)
    · have e1 : p.2 = 1 := V.int.inj c
      have er : rtext p = Str.ofString (toString p.1) := if_pos e1
      rw [er] at q
      walk_at "go"
      exact q
    · have e1 : p.2 ≠ 1 := fun z => c (by rw [z])
      have er : rtext p = ((Str.empty ++ Str.ofString (toString p.1)) ++ "/") ++ Str.ofString (toString p.2) := if_neg e1
      rw [er] at q z1
      have zz := z3.resolve_left e1
      rw [lenA, lenA] at z1
      have hs : 5000 ≤ sizeLine := by decide
      walk_at "go"
      refine .inr ⟨p.1, rfl, zz.1, _, rfl, by omega, ?_⟩
      refine ⟨_, rfl, by rw [lenA]; omega, ?_⟩
      walk_at "go"
      exact .inr ⟨p.2, rfl, zz.2, _, rfl, by rw [lenA, lenA]; omega, q⟩
theorem ok__str (T : TL K mg) : ∃ fd, FunD K d_Ratio___str__.name d_Ratio___str__.qual d_Ratio___str__.params d_Ratio___str__.body d_Ratio___str__.scope (d_Ratio___str__.dvs K) (d_Ratio___str__.kws K) (He.fAd K d_Ratio___str__.at_) fd ∧ FnOk P w K mg base (L2.CX P w) 2 (He.fAd K d_Ratio___str__.at_) fd ["self"] (spText K) := by
  obtain ⟨fdT, FT0, FT⟩ := ok_text (P := P) (w := w) (base := base) T
  have bT : Binds K fdT ["self"] [] := FT0.bindsN (fun _ _ _ _ _ _ us hl => match us, hl with | [_], _ => rfl)
  obtain ⟨fd, F⟩ := F_Ratio___str__ T
  refine ⟨fd, F, F.ok0 sc_Ratio___str__ (fun vs H Q E h => ?_) (fun cdv A outer s H vs Q E hr h => ?_)⟩
  · obtain ⟨a, p, rfl, _⟩ := h
    rfl
  · obtain ⟨a, p, rfl, ⟨dx, ha⟩, z, q⟩ := h
    refine ⟨_, (pss_one (ps_ret (pe_joined1 (pe_fmt (pe_meth0 (pv 0) (clsR T) (He.meth_ok (a_meth_Ratio_text T)) FT (hr.mono (by walk_at "lvl")) bT .nil passL))))), ?_⟩
    walk_at "go"
    refine ⟨a, dx, _, rfl, ha, rfl, ?_⟩
    have hs : 5000 ≤ sizeLine := by decide
    exact ⟨a, p, rfl, ⟨dx, ha⟩, z, .inl ⟨_, rfl, by have := z.1; omega, q⟩⟩
def spRepr (K : PySem.W.Frag) : Sp := fun vs H Q _ => ∃ (a : Addr) (p : Int × Int), vs = [.ref a] ∧ RAt K H a p ∧ TxtOk p ∧ Q (.str (((Str.empty ++ "Ratio(") ++ rtext p) ++ ")")) H
theorem ok__repr (T : TL K mg) : ∃ fd, FunD K d_Ratio___repr__.name d_Ratio___repr__.qual d_Ratio___repr__.params d_Ratio___repr__.body d_Ratio___repr__.scope (d_Ratio___repr__.dvs K) (d_Ratio___repr__.kws K) (He.fAd K d_Ratio___repr__.at_) fd ∧ FnOk P w K mg base (L2.CX P w) 2 (He.fAd K d_Ratio___repr__.at_) fd ["self"] (spRepr K) := by
  obtain ⟨fdT, FT0, FT⟩ := ok_text (P := P) (w := w) (base := base) T
  have bT : Binds K fdT ["self"] [] := FT0.bindsN (fun _ _ _ _ _ _ us hl => match us, hl with | [_], _ => rfl)
  obtain ⟨fd, F⟩ := F_Ratio___repr__ T
  refine ⟨fd, F, F.ok0 sc_Ratio___repr__ (fun vs H Q E h => ?_) (fun cdv A outer s H vs Q E hr h => ?_)⟩
  · obtain ⟨a, p, rfl, _⟩ := h
    rfl
  · obtain ⟨a, p, rfl, ⟨dx, ha⟩, z, q⟩ := h
    refine ⟨_, (pss_one (ps_ret (pe_joined (PJ.cons pe_str (PJ.cons (pe_fmt (pe_meth0 (pv 0) (clsR T) (He.meth_ok (a_meth_Ratio_text T)) FT (hr.mono (by walk_at "lvl")) bT .nil passL)) (PJ.cons pe_str PJ.nil)))))), ?_⟩
    have hs : 6000 ≤ sizeLine := by decide
    have z1 := z.1
    have l1 : (Str.ofString "Ratio(").length = 6 := by rfl
    have l2 : (Str.ofString ")").length = 1 := by rfl
    have l0 : Str.empty.length = 0 := by rfl
    refine ⟨_, rfl, by rw [lenA]; omega, ?_⟩
    walk_at "go"
    refine ⟨a, dx, _, rfl, ha, rfl, ?_⟩
    refine ⟨a, p, rfl, ⟨dx, ha⟩, z, .inl ⟨_, rfl, by omega, _, rfl, by rw [lenA, lenA]; omega, ?_⟩⟩
    exact ⟨_, rfl, by rw [lenA, lenA, lenA]; omega, q⟩
/-- a text of digits -/
def spRdW : Sp := fun vs H Q _ => ∃ x : Str, vs = [.str x] ∧ x.length ≤ 100000 ∧ (match rdW (tl x) with | some n => Q (.int (n : Nat)) H | none => Q .non H)
theorem G_read_whole (T : TL K mg) : FX P w K mg base 1 "read_whole" [] spRdW := by
  obtain ⟨fd, F⟩ := F_read_whole T
  refine FX.of F (g_read_whole T) (F.ok0 sc_read_whole (fun vs H Q E h => ?_) (fun cdv A outer s H vs Q E hr h => ?_)) (fun _ _ _ _ _ _ us hl => match us, hl with | [_], _ => rfl)
  · obtain ⟨x, rfl, _⟩ := h
    rfl
  · obtain ⟨x, rfl, hl, h⟩ := h
    refine ⟨_, (pss_cons (ps_if (PW.pt (pw_or (pt_cmpR op_eq (pv 0) pe_str (nomark _)) (pw_or1 (pt_cmpR op_gt (pe_callB call_lenG (by rfl) (f_len T) (by decide +kernel) (pa_cons (pv 0) pa_nil)) (pe_gi (c_MOST_DIGITS T)) (nomark _)))))
        (pss_one (ps_ret pe_non))
        pss_nil)
      (pss_cons (ps_for PassesOwn.never rfl (pi_str (pv 0)) (pg_name (i := 1) sc_read_whole.nd rfl (by first | exact Or.inl rfl | exact Or.inr rfl))
        (pss_one (ps_if (pt_cmpR op_notIn_sign (pv 1) (pe_gs (c_DIGITS T)) rfl)
          (pss_one (ps_ret pe_non))
          pss_nil)))
      (pss_cons (ps_if (PW.pt (pw_and (pt_val (pe_m1 PySem.F.slot_str_startswith PySem.F.type_str_startswith mt_startswith (pv 0) pe_str)) (pw_and1 (pt_cmpR op_gt (pe_callB call_lenG (by rfl) (f_len T) (by decide +kernel) (pa_cons (pv 0) pa_nil)) pe_int (nomark _)))))
        (pss_one (ps_ret pe_non))
        pss_nil)
      (pss_one (ps_ret (pe_callTy (T := "int") (call_intX (digF T)) rfl (f_int T) (by decide +kernel) (pa_cons (pv 0) pa_nil))))))), ?_⟩
    have hs : 100000 ≤ sizeLine := by decide
    walk_at "go"
    refine st_if (fun c1 => ?_) (fun c1 => ?_)
    · have e := V.str.inj c1
      subst e
      walk_at "go"
      exact h
    · walk_at "go"
      refine st_lenS (by omega) ?_
      walk_at "go"
      refine st_if (fun c2 => ?_) (fun c2 => ?_)
      · rw [rdW_no (okW_long (by rw [← len_tl]; omega))] at h
        walk_at "go"
        exact h
      · have hne : tl x ≠ [] := fun q => c1 (by rw [show x = Str.ofString "" from ext_tl (q.trans rfl)])
        have h4 : (tl x).length ≤ 4000 := by rw [← len_tl]; omega
        walk_at "go"
        refine for_strL (fun i σ H' => ∃ sv : Option V, σ = [some (.str x), sv] ∧ H' = H ∧ ∀ j y, j < i → x.cps[j]? = some y → dg y = true) ⟨none, rfl, rfl, fun j y hj => absurd hj (Nat.not_lt_zero _)⟩ ?_ ?_
        · rintro i y σ H' hx ⟨sv, rfl, rfl, q⟩
          walk_at "go"
          refine st_ifn (fun c5 => ?_) (fun c5 => ?_)
          · have hd : dg y = false := by
              cases e : dg y with
              | false => rfl
              | true => exact absurd ((mem_dg y).mpr e) c5
            rw [rdW_no (okW_sign (List.mem_of_getElem? (by rw [Array.getElem?_toList]; exact hx)) hd)] at h
            walk_at "go"
            exact h
          · walk_at "go"
            refine fun j z hj hy => ?_
            by_cases e : j = i
            · subst e
              rw [hx] at hy
              rw [← Option.some.inj hy]
              exact (mem_dg y).mp c5
            · exact q j z (by omega) hy
        · rintro σ H' ⟨sv, rfl, rfl, q⟩
          have hall : ∀ c ∈ tl x, dg c = true := fun c hc => by
            obtain ⟨j, hj⟩ := List.mem_iff_getElem?.mp hc
            rw [Array.getElem?_toList] at hj
            exact q j c (Array.getElem?_eq_some_iff.mp hj).1 hj
          have fin : ¬ ((tl x).head? = some 48 ∧ 1 < (tl x).length) → Q (.int ((NumText.digitsVal (tl x) : Nat) : Int)) H' ∧ intText? x = some ((NumText.digitsVal (tl x) : Nat) : Int) := fun hz => by
            have ok := okW_yes hne h4 hall hz
            rw [rdW_yes ok] at h
            exact ⟨h, okW_int ok⟩
          walk_at "go"
          refine ⟨⟨_, rfl⟩, _, _, rfl, rfl, _, rfl, ?_⟩
          rw [show Txt.startswith x (Str.ofString "0") = ((tl x).head? == some 48) from starts1 x 48]
          by_cases hh : (tl x).head? = some 48
          · rw [show ((tl x).head? == some 48) = true by rw [hh]; rfl]
            walk_at "go"
            refine st_lenS (by omega) ?_
            walk_at "go"
            refine st_if (fun c6 => ?_) (fun c6 => ?_)
            · rw [rdW_no (okW_zero hh (by rw [← len_tl]; omega))] at h
              walk_at "go"
              exact h
            · obtain ⟨f1, f2⟩ := fin fun z => by have := z.2; rw [← len_tl] at this; omega
              walk_at "go"
              exact ⟨x, _, rfl, f2, by omega, f1⟩
          · rw [show ((tl x).head? == some 48) = false by simpa using hh]
            obtain ⟨f1, f2⟩ := fin fun z => hh z.1
            walk_at "go"
            exact ⟨x, _, rfl, f2, by omega, f1⟩
end
end K01
end -- a10
section -- FwTxt3
set_option Elab.async false
set_option linter.all false
set_option maxRecDepth 100000
set_option maxHeartbeats 4000000
/-! FwTxt3: slices, split and partition by one sign. -/
namespace L2R
open PySem PySem.Spec PyProof.Rows L2 TL
theorem cut_from (z : Str) (n : Nat) : tl (cutS z (some (n : Int)) none) = (tl z).drop n := by
  show ((tl z).drop (HT.sIx z.length 0 (some (n : Int)))).take (z.length - HT.sIx z.length 0 (some (n : Int))) = _
  rw [HT.sIx_nat, len_tl z]
  by_cases h : n ≤ (tl z).length
  · rw [Nat.min_eq_left h]
    exact List.take_of_length_le (by rw [List.length_drop] <;> omega)
  · rw [Nat.min_eq_right (by omega), List.drop_length, List.drop_of_length_le (show (tl z).length ≤ n by omega)]
    simp
theorem cut_to (z : Str) (n : Nat) : tl (cutS z none (some (n : Int))) = (tl z).take n := by
  show ((tl z).drop 0).take (HT.sIx z.length z.length (some (n : Int)) - 0) = _
  rw [HT.sIx_nat, len_tl z, List.drop_zero, Nat.sub_zero]
  by_cases h : n ≤ (tl z).length
  · rw [Nat.min_eq_left h]
  · rw [Nat.min_eq_right (by omega), List.take_length, List.take_of_length_le (show (tl z).length ≤ n by omega)]
theorem cut_at (l : List Nat) (s : Nat) : s ∉ l ∨ ∃ a b, l = a ++ s :: b ∧ s ∉ a := by
  induction l with
  | nil => exact .inl (by simp)
  | cons c r ih =>
    by_cases h : c = s
    · exact .inr ⟨[], r, by rw [h] <;> rfl, by simp⟩
    · rcases ih with ih | ⟨a, b, e, ha⟩
      · exact .inl (by simpa using ⟨fun z => h z.symm, ih⟩)
      · exact .inr ⟨c :: a, b, by rw [e] <;> rfl, by simpa using ⟨fun z => h z.symm, ha⟩⟩
theorem part_cases (x : Str) (s : Nat) : (s ∉ tl x ∧ Txt.partition x ⟨#[s]⟩ = (x, Str.empty, Str.empty)) ∨ ∃ A B : Str, tl x = tl A ++ s :: tl B ∧ s ∉ tl A ∧ Txt.partition x ⟨#[s]⟩ = (A, ⟨#[s]⟩, B) := by
  rcases cut_at (tl x) s with h | ⟨a, b, e, ha⟩
  · exact .inl ⟨h, partition_none (y := ⟨#[s]⟩) (s := s) (S := []) rfl h⟩
  · refine .inr ⟨⟨a.toArray⟩, ⟨b.toArray⟩, e, ha, ?_⟩
    have ex : x = (⟨a.toArray⟩ : Str) ++ ⟨#[s]⟩ ++ ⟨b.toArray⟩ := ext_tl (by
      rw [tl_append, tl_append, e, List.append_assoc]
      rfl)
    rw [ex]
    exact partition_app (y := ⟨#[s]⟩) (s := s) (S := []) rfl ha
theorem split_one (x : Str) (s : Nat) (hs : s < 256) : (Txt.split x ⟨#[s]⟩).map tl = spl [s] 0 [] (tl x) :=
  split_spl x ⟨#[s]⟩ (by show [s] ≠ []; simp) (kind_ok (by simp [hs]))
theorem split_none {x : Str} {s : Nat} (hs : s < 256) (h : s ∉ tl x) : Txt.split x ⟨#[s]⟩ = [x] := by
  refine map_tl_inj ?_
  rw [split_one x s hs, spl_last1 h] <;> rfl
theorem split_cons {x A B : Str} {s : Nat} (hs : s < 256) (e : tl x = tl A ++ s :: tl B) (h : s ∉ tl A) : Txt.split x ⟨#[s]⟩ = A :: Txt.split B ⟨#[s]⟩ := by
  refine map_tl_inj ?_
  rw [split_one x s hs, e]
  have := spl_part1 (s := s) (S := []) (p := tl A) (rest := tl B) (acc := []) h
  rw [show tl A ++ s :: tl B = tl A ++ ([s] ++ tl B) from rfl, this, List.map_cons, split_one B s hs] <;> rfl
theorem rdS_head (l : List Nat) : rdS l = ((l.head? == some 45), if l.head? = some 45 then l.drop 1 else l) := by
  cases l with
  | nil => rfl
  | cons a r =>
    by_cases h : a = 45
    · subst h
      rfl
    · have e : (some a == some 45) = false := by simpa using h
      show rdS (a :: r) = ((some a == some 45), if some a = some 45 then r else a :: r)
      rw [e, if_neg (by simpa using h)]
      unfold rdS
      split
      · rename_i q
        cases q
        exact absurd rfl h
      · rfl
theorem rdP_one {b : Bool} {d : List Nat} (h : 47 ∉ d) : rdP b d = (match rdW d with | some u => some (sgn b u, 1) | none => none) := by
  unfold rdP
  have e := dropWhile_no (l := d) (r := []) h
  rw [List.append_nil] at e
  rw [takeWhile_no h, e]
  cases rdW d <;> rfl
theorem rdP_two {b : Bool} {a e : List Nat} (h : 47 ∉ a) : rdP b (a ++ 47 :: e) = (match rdW a, rdW e with | some u, some v => if v = 0 then none else some (sgn b u, (v : Int)) | _, _ => none) := by
  unfold rdP
  rw [takeWhile_app h, dropWhile_no h]
  show (match rdW a, (47 :: e) with
    | some u, [] => some (sgn b u, 1)
    | some u, _ :: e => (match rdW e with
      | some v => if v = 0 then none else some (sgn b u, (v : Int))
      | none => none)
    | none, _ => none) = _
  cases rdW a with
  | none => rfl
  | some u =>
    show (match rdW e with
      | some v => if v = 0 then none else some (sgn b u, (v : Int))
      | none => none) = _
    cases rdW e <;> rfl
theorem digitsVal_lt : ∀ (l : List Nat), NumText.AllDigits l → NumText.digitsVal l < 10 ^ l.length := fun l => by
  have key : ∀ (l : List Nat) (a n : Nat), NumText.AllDigits l → a < 10 ^ n → l.foldl (fun acc c => acc * 10 + (c - 48)) a < 10 ^ (n + l.length) := by
    intro l
    induction l with
    | nil => intro a n _ h; exact h
    | cons c r ih =>
      intro a n h ha
      have hc := h.head
      rw [List.foldl_cons, List.length_cons, show n + (r.length + 1) = (n + 1) + r.length by omega]
      refine ih _ _ h.tail ?_
      rw [Nat.pow_succ]
      omega
  intro h
  have := key l 0 0 h (by decide)
  rw [Nat.zero_add] at this
  exact this
theorem rdW_lt {l : List Nat} {n : Nat} (h : rdW l = some n) : n < 10 ^ l.length ∧ l.length ≤ 4000 := by
  unfold rdW at h
  split at h
  · rename_i ok
    unfold okW at ok
    simp only [Bool.and_eq_true, decide_eq_true_eq] at ok
    have e := Option.some.inj h
    rw [← e]
    exact ⟨digitsVal_lt l (all_dg ok.2.2.1), ok.2.1⟩
  · cases h
end L2R
end -- FwTxt3
section -- a11
set_option Elab.async false
set_option linter.all false
set_option maxRecDepth 100000
set_option maxHeartbeats 4000000
local macro_rules | `(tactic| walk_at "lvl") => `(tactic| first
  | decide
  | omega
  | (simp only [Nat.add_eq]; omega))
local macro_rules | `(tactic| walk_at "side") => `(tactic| first
  | decide
  | assumption
  | omega
  | exact Nat.le_of_ble_eq_true (by rfl)
  | exact ⟨by decide, by decide⟩
  | exact ⟨by decide, by decide, by decide⟩
  | exact Or.inl (Or.inr ⟨by decide, by decide⟩)
  | exact Or.inl (Or.inl ⟨by decide, by decide⟩))
local macro_rules | `(tactic| walk_at "ty") => `(tactic| first
  | assumption
  | exact L2.TyG.x (.base (.int _))
  | exact L2.TyG.x (.base (.str _))
  | exact L2.TyG.x (.base (.bl _))
  | exact L2.TyG.x (.base .non)
  | exact L2.TyG.x (.base (.lst (by assumption)))
  | exact L2.TyG.x (.base (.tup (by assumption)))
  | exact K01.tyR (by assumption) (by assumption)
  | exact L2.TyG.dn (by assumption))
local macro_rules | `(tactic| walk_at "cv") => `(tactic| first
  | exact L2.ClsV.ty _
  | exact L2.ClsV.own _)
local macro_rules | `(tactic| walk_at "kit") => `(tactic| first
  | exact L2.kit_ty (by decide +kernel)
  | exact K01.kR (by assumption) (by decide)
  | exact K01.kR2 (by assumption) (by decide)
  | exact K01.kR3 (by assumption))
local macro_rules | `(tactic| walk_at "s1") => `(tactic| first
  | refine ⟨_, rfl, ?_⟩
  | refine ⟨_, _, _, _, _, rfl, (by assumption), K01.clsR (by assumption), He.noat_ok (K01.a_noat_Ratio_top (by assumption)), rfl, ?_⟩
  | refine ⟨_, _, _, _, _, rfl, (by assumption), K01.clsR (by assumption), He.noat_ok (K01.a_noat_Ratio_bottom (by assumption)), rfl, ?_⟩
  | refine ⟨_, _, rfl, rfl, ?_⟩
  | refine ⟨_, _, rfl, ?_⟩
  | refine And.intro rfl ?_
  | refine L2.iteT ?_
  | refine L2.iteF ?_
  | refine L2.st_ixl (by assumption) (by rfl) ?_
  | refine L2.st_ixt (by assumption) (by rfl) ?_
  | refine L2.st_lenR (L2.lenr_l (by assumption)) ?_
  | refine L2.st_lenGR (L2.lenr_l (by assumption)) ?_
  | refine L2.st_lenGR (L2.lenr_t (by assumption)) ?_
  | refine L2.st_lenR (L2.lenr_t (by assumption)) ?_
  | refine L2.st_isG (b := false) (by walk_at "ty") (by walk_at "cv") (by walk_at "kit") ?_
  | refine L2.st_isG (b := true) (by walk_at "ty") (by walk_at "cv") (by walk_at "kit") ?_
  | refine And.intro (by walk_at "side") ?_)
local macro_rules | `(tactic| walk_at "go") => `(tactic| repeat (walk_at "s1"))
local macro_rules | `(tactic| walk_at "s2") => `(tactic| first
  | refine ⟨_, rfl, ?_⟩
  | refine ⟨_, _, _, _, _, rfl, (by assumption), K01.clsR (by assumption), He.noat_ok (K01.a_noat_Ratio_top (by assumption)), rfl, ?_⟩
  | refine ⟨_, _, _, _, _, rfl, (by assumption), K01.clsR (by assumption), He.noat_ok (K01.a_noat_Ratio_bottom (by assumption)), rfl, ?_⟩
  | refine ⟨_, _, rfl, rfl, ?_⟩
  | refine ⟨_, _, rfl, ?_⟩
  | refine And.intro rfl ?_
  | refine L2.iteT ?_
  | refine L2.iteF ?_
  | refine L2.st_ixl (by assumption) (by rfl) ?_
  | refine L2.st_ixt (by assumption) (by rfl) ?_
  | refine L2.st_lenR (L2.lenr_l (by assumption)) ?_
  | refine L2.st_lenGR (L2.lenr_l (by assumption)) ?_
  | refine L2.st_lenGR (L2.lenr_t (by assumption)) ?_
  | refine L2.st_lenR (L2.lenr_t (by assumption)) ?_
  | refine And.intro (by walk_at "side") ?_)
local macro_rules | `(tactic| walk_at "gs") => `(tactic| repeat (walk_at "s2"))
namespace K01
open PySem PySem.Spec PyProof.Rows L2 L2R TL
section
variable {P : Program} {w : World} {K : PySem.W.Frag} {mg : Str → Option Value} {base : Heap}
def spRN (K : PySem.W.Frag) (w : World) : Sp := fun vs H Q _ => ∃ v : V, vs = [v] ∧ ((∃ t, TyG K w H v t ∧ PySem.W.kitOne K t (.type "str") = some false ∧ Q .non H) ∨
  ∃ x : Str, v = .str x ∧ x.length ≤ 50000 ∧ (∀ p, rdN (tl x) = some p → p.2.natAbs < 2 ^ 8000) ∧ (match rdN (tl x) with | some p => ∀ r H', RAt K H' r (rlow p.1 p.2) → Same H H' → Q (.ref r) H' | none => ∀ H', Same H H' → Q .non H'))
theorem st_tup3 {r : Addr} {x y z : V} {i j k n : Nat} {σ : L2.St} {H : Hp} {D : L2.St → Hp → Prop} (h : H r = some (.tup [x, y, z])) (q : D (((σ.set i (some x)).set j (some y)).set k (some z)) H) (hn : 3 = n := by rfl) : gTup K n (gCons (gName i) (gCons (gName j) (gCons (gName k) gNil))) (.ref r) σ H D :=
  ⟨r, _, rfl, SqT.of h, hn, _, _, rfl, _, _, rfl, _, _, rfl, rfl, q⟩
theorem G_read_number (T : TL K mg) : FX P w K mg base 5 "read_number" [] (spRN K w) := by
  obtain ⟨fdR, FR0, FR⟩ := ok_RatioI (P := P) (w := w) (base := base) T
  have bR := bRat FR0
  obtain ⟨fd, F⟩ := F_read_number T
  refine FX.of F (g_read_number T) (F.ok0 sc_read_number (fun vs H Q E h => ?_) (fun cdv A outer s H vs Q E hr h => ?_)) (fun _ _ _ _ _ _ us hl => match us, hl with | [_], _ => rfl)
  · obtain ⟨v, rfl, _⟩ := h
    rfl
  · obtain ⟨v, rfl, h⟩ := h
    refine ⟨_, (pss_cons (ps_if (pt_not (pt_val (pe_callB call_isG (by rfl) (f_isinstance T) (by decide +kernel) (pa_cons (pv 0) (pa_cons (pe_bty (n := "str") (f_str T) (by decide +kernel)) pa_nil)))))
        (pss_one (ps_ret pe_non))
        pss_nil)
      (pss_cons (ps_set (i := 1) sc_read_number.nd rfl (by first | exact Or.inl rfl | exact Or.inr rfl) (pe_m1 PySem.F.slot_str_startswith PySem.F.type_str_startswith mt_startswith (pv 0) pe_str))
      (C8.pss_cut (ps_set (i := 2) sc_read_number.nd rfl (by first | exact Or.inl rfl | exact Or.inr rfl) (pe_ifExp (pt_val (pv 1)) (pe_slice sl_str (pv 0) (po_some pe_int) po_none) (pv 0)))
      (pss_cons (ps_asg (pe_m1 PySem.F.slot_str_partition PySem.F.type_str_partition mt_partition (pv 2) pe_str) (pg_tup rfl (pgs_cons (pg_name (i := 3) sc_read_number.nd rfl (by first | exact Or.inl rfl | exact Or.inr rfl)) (pgs_cons (pg_name (i := 4) sc_read_number.nd rfl (by first | exact Or.inl rfl | exact Or.inr rfl)) (pgs_cons (pg_name (i := 5) sc_read_number.nd rfl (by first | exact Or.inl rfl | exact Or.inr rfl)) pgs_nil)))))
      (pss_cons (ps_set (i := 6) sc_read_number.nd rfl (by first | exact Or.inl rfl | exact Or.inr rfl) (pe_fx (G_read_whole T) (hr.mono (by walk_at "lvl")) passL (pa_cons (pv 3) pa_nil)))
      (pss_cons (ps_set (i := 7) sc_read_number.nd rfl (by first | exact Or.inl rfl | exact Or.inr rfl) (pe_ifExp (pt_cmpR op_eq (pv 4) pe_str (nomark _)) pe_int (pe_fx (G_read_whole T) (hr.mono (by walk_at "lvl")) passL (pa_cons (pv 5) pa_nil))))
      (pss_cons (ps_if (PW.pt (pw_or (pt_cmpR op_isN (pv 6) pe_non (nomark _)) (pw_or (pt_cmpR op_isN (pv 7) pe_non (nomark _)) (pw_or1 (pt_cmpR op_eq (pv 7) pe_int (nomark _))))))
        (pss_one (ps_ret pe_non))
        pss_nil)
      (pss_one (ps_ret (pe_make (mkR T) FR (hr.mono (by walk_at "lvl")) rfl (g_Ratio T) bR .nil passL (pa_cons (pe_ifExp (pt_val (pv 1)) (pe_un un_neg (pv 6)) (pv 6)) (pa_cons (pv 7) pa_nil)))))))))))), ?_⟩
    rcases h with ⟨t, ty, kt, q⟩ | ⟨x, rfl, hl, hB, h⟩
    · walk_at "go"
      refine st_isG ty (.ty _) kt ?_
      walk_at "go"
      exact q
    · have hs : 50000 ≤ sizeLine := by decide
      walk_at "go"
      refine ⟨⟨_, rfl⟩, _, _, rfl, rfl, ?_⟩
      rw [show Txt.startswith x (Str.ofString "-") = ((tl x).head? == some 45) from starts1 x 45]
      have hS := rdS_head (tl x)
      generalize hb : ((tl x).head? == some 45) = b at hS ⊢
      walk_at "go"
      refine ⟨fun σ' H' => ∃ D : Str, σ' = [some (.str x), some (.bl b), some (.str D), none, none, none, none, none] ∧ H' = H ∧ tl D = (rdS (tl x)).2 ∧ D.length ≤ 50000, ?_, ?_⟩
      · cases b with
        | true =>
          have hd : (tl x).head? = some 45 := by simpa using hb
          rw [if_pos hd] at hS
          walk_at "go"
          rw [hS]
          have hc : tl (cutS x (some 1) none) = (tl x).drop 1 := cut_from x 1
          refine ⟨hc, ?_⟩
          rw [len_tl, hc, List.length_drop, ← len_tl]
          omega
        | false =>
          have hd : (tl x).head? ≠ some 45 := by simpa using hb
          rw [if_neg hd] at hS
          walk_at "go"
          rw [hS]
          exact ⟨rfl, hl⟩
      · rintro σ' H' ⟨D, rfl, rfl, hD, lD⟩
        have hN : rdN (tl x) = rdP b (tl D) := by
          unfold rdN
          rw [hD, hS]
        rw [hN] at h hB
        have sg : ∀ u : Nat, sgn b u = if b = true then -(u : Int) else u := fun u => rfl
        walk_at "go"
        refine ⟨⟨_, rfl⟩, ?_⟩
        walk_at "go"
        intro r nr
        generalize e1 : upd H' r _ = H1
        have s1 : Same H' H1 := by rw [← e1]; exact Same.new nr
        rcases part_cases D 47 with ⟨h47, ep⟩ | ⟨A, B, eD, hA, ep⟩
        · have a1 : H1 r = some (.tup [.str D, .str Str.empty, .str Str.empty]) := by
            rw [← e1, show Txt.partition D (Str.ofString "/") = (D, Str.empty, Str.empty) from ep]
            exact upd_same
          rw [rdP_one h47] at h
          refine st_tup3 a1 ?_
          walk_at "go"
          cases eW : rdW (tl D) with
          | none =>
            rw [eW] at h
            walk_at "go"
            exact h H1 s1
          | some u =>
            rw [eW] at h
            walk_at "go"
            cases b with
            | true =>
              walk_at "go"
              exact st_ratio (by decide) (Nat.lt_of_lt_of_le (show (1 : Int).natAbs < 2 ^ 1 by decide) (Nat.pow_le_pow_right (by decide) (by decide))) fun r' H2 hr s => h r' H2 hr (s1.trans s)
            | false =>
              walk_at "go"
              exact st_ratio (by decide) (Nat.lt_of_lt_of_le (show (1 : Int).natAbs < 2 ^ 1 by decide) (Nat.pow_le_pow_right (by decide) (by decide))) fun r' H2 hr s => h r' H2 hr (s1.trans s)
        · have a1 : H1 r = some (.tup [.str A, .str "/", .str B]) := by
            rw [← e1, show Txt.partition D (Str.ofString "/") = (A, Str.ofString "/", B) from ep]
            exact upd_same
          rw [eD, rdP_two hA] at h hB
          have lD2 : (tl D).length ≤ 50000 := by rw [← len_tl]; exact lD
          rw [eD, List.length_append, List.length_cons] at lD2
          have lA : A.length ≤ 50000 := by rw [len_tl]; omega
          have lB : B.length ≤ 50000 := by rw [len_tl]; omega
          refine st_tup3 a1 ?_
          walk_at "go"
          cases eW : rdW (tl A) with
          | none =>
            rw [eW] at h
            walk_at "go"
            cases eV : rdW (tl B) with
            | none =>
              walk_at "go"
              exact h H1 s1
            | some v =>
              walk_at "go"
              exact h H1 s1
          | some u =>
            rw [eW] at h
            walk_at "go"
            cases eV : rdW (tl B) with
            | none =>
              rw [eV] at h
              walk_at "go"
              exact h H1 s1
            | some v =>
              rw [eV] at h
              obtain ⟨hv1, hv2⟩ := rdW_lt eV
              walk_at "go"
              refine st_if (fun c => ?_) (fun c => ?_)
              · have e0 : v = 0 := by have := V.int.inj c; omega
                subst e0
                walk_at "go"
                exact h H1 s1
              · have e0 : v ≠ 0 := fun z => c (by rw [z]; rfl)
                rw [eW, eV] at hB
                have hB' := hB (sgn b u, (v : Int)) (if_neg e0)
                have hv0 : (v : Int) ≠ 0 := by omega
                have h2 : ∀ r H2, RAt K H2 r (rlow (sgn b u) (v : Int)) → Same H' H2 → Q (.ref r) H2 := by
                  have e : (if v = 0 then none else some (sgn b u, (v : Int))) = some (sgn b u, (v : Int)) := if_neg e0
                  have h3 : match (if v = 0 then none else some (sgn b u, (v : Int))) with | some p => ∀ r H2, RAt K H2 r (rlow p.1 p.2) → Same H' H2 → Q (.ref r) H2 | none => ∀ H2, Same H' H2 → Q .non H2 := h
                  rw [e] at h3
                  exact h3
                cases b with
                | true =>
                  walk_at "go"
                  exact st_ratio hv0 hB' fun r' H2 hr s => h2 r' H2 hr (s1.trans s)
                | false =>
                  walk_at "go"
                  exact st_ratio hv0 hB' fun r' H2 hr s => h2 r' H2 hr (s1.trans s)
end
end K01
end -- a11
section -- FwKw
set_option Elab.async false
set_option linter.all false
set_option maxRecDepth 100000
set_option maxHeartbeats 4000000
/-! FwKw: methods, static methods called by one keyword, classes by two. -/
namespace L2
open PySem PySem.Spec PyProof.Rows
section
variable {X : Cx} {CX : CXT} {k : Nat} {f g C p : Addr} {fd : FuncData} {a b c m x : Str} {sp : Sp} {E : XK} {o e e2 : Expr} {te t1 t2 : TE} {pos apos kp kp2 q : Pos} {pl : Sem Bool} {mc : Value}
def tMethK (C : Addr) (m : Str) (sp : Sp) (E : XK) (te t1 : TE) : TE := fun σ H Q => te σ H fun x H1 => ∃ a dx fs, x = .ref a ∧ H1 a = some (.ins C dx fs) ∧ fs.lookup m = none ∧ t1 σ H1 fun y H2 => sp [x, y] H2 Q E
theorem pe_methK1 (he : PE X o te) (cl : Cls X.K C) (hm : Meth X.K C m f) (F : FnOk X.prog X.w X.K X.mg X.base CX k f fd [a, b] sp) (hr : Room k X.A) (hbk : ∀ (s : Shared) (u v : Value), BindsTo s fd ⟨[u], [(b, v)]⟩ [(a, u), (b, v)]) (hx : Passes CX X E) (h1 : PE X e t1)
    (ht : eval (.Call (.Attribute o m apos) [] [⟨some b, e, kp⟩] pos) X.env = (do
      let ov ← eval o X.env
      standAt apos.atName
      let (f, first) ← holding [ov] (getMethod ov m pl)
      callWith pos f first (backTo pos (starEach [] X.env)) (backToKw pos (keywordEach [⟨some b, e, kp⟩] X.env))) := by rfl) :
    PE X (.Call (.Attribute o m apos) [] [⟨some b, e, kp⟩] pos) (tMethK C m sp E te t1) := by
  refine ⟨fun pins s σ H Q I h => PySem.W.methodCall_KW (pl := pl) (thn (he.run pins s σ H _ I h) fun u s1 ⟨x, H1, I1, rx, a', dx, fs, ex, ea, l, q⟩ => ?_) ht⟩
  subst ex
  obtain rfl : u = Value.ref a' := rx
  refine getmeth_ok I1 ea cl hm l ?_
  refine PySem.W.callWith_KW0 (first := [.ref a']) (h₀ := X.base) I.ok.mod.kin hm.kp rfl (thn ((pk_cons h1 pk_nil).run pos pins s1 σ H1 (fun vs H2 => match vs with | [v] => sp [.ref a', v] H2 Q E | _ => False) I1 q) fun us s2 ⟨vs, H2, I2, r1, q1⟩ => ⟨I2.kIn, ?_⟩) rfl
  match vs, q1 with
  | [v], q1 =>
    obtain ⟨y, rfl, ru⟩ := vals1 r1
    show wpAny _ _ (call (.ref f) [.ref a'] [(b, y)]) _ _ _
    refine wpAny_call (codeAny_mono (F.run X.A X.stack s2 H2 ⟨[.ref a'], [(b, y)]⟩ [.ref a', y] [.ref a', v] Q E hr I2.env0 (hbk s2 _ y) (.cons rfl (.cons ru .nil)) q1) fun r s' hq => ?_)
    cases r with
    | error e => exact hx pins σ H2 s2 e s' I2 hq
    | ok fl =>
      cases fl with
      | ret u => exact I2.after hq
      | next => exact False.elim hq
      | brk => exact False.elim hq
      | cont => exact False.elim hq
def tStatK (C : Addr) (sp : Sp) (E : XK) (te t1 : TE) : TE := fun σ H Q => te σ H fun x H1 => x = .ref C ∧ t1 σ H1 fun y H2 => sp [y] H2 Q E
theorem pe_statK1 (he : PE X o te) (cm : SMet X.K C mc m p g) (F : FnOk X.prog X.w X.K X.mg X.base CX k g fd [b] sp) (hr : Room k X.A) (hbk : ∀ (s : Shared) (v : Value), BindsTo s fd ⟨[], [(b, v)]⟩ [(b, v)]) (hx : Passes CX X E) (h1 : PE X e t1)
    (ht : eval (.Call (.Attribute o m apos) [] [⟨some b, e, kp⟩] pos) X.env = (do
      let ov ← eval o X.env
      standAt apos.atName
      let (f, first) ← holding [ov] (getMethod ov m pl)
      callWith pos f first (backTo pos (starEach [] X.env)) (backToKw pos (keywordEach [⟨some b, e, kp⟩] X.env))) := by rfl) :
    PE X (.Call (.Attribute o m apos) [] [⟨some b, e, kp⟩] pos) (tStatK C sp E te t1) := by
  refine ⟨fun pins s σ H Q I h => PySem.W.methodCall_KW (pl := pl) (thn (he.run pins s σ H _ I h) fun u s1 ⟨x, H1, I1, rx, ex, q⟩ => ?_) ht⟩
  subst ex
  obtain rfl : u = Value.ref C := rx
  refine getmethsm_ok I1 cm fun s2 I2 => ?_
  refine PySem.W.callWith_KW0 (first := []) (h₀ := X.base) I.ok.mod.kin cm.kp rfl (thn ((pk_cons h1 pk_nil).run pos pins s2 σ H1 (fun vs H2 => match vs with | [v] => sp [v] H2 Q E | _ => False) I2 q) fun us s3 ⟨vs, H2, I3, r1, q1⟩ => ⟨I3.kIn, ?_⟩) rfl
  match vs, q1 with
  | [v], q1 =>
    obtain ⟨y, rfl, ru⟩ := vals1 r1
    show wpAny _ _ (call (.ref g) [] [(b, y)]) _ _ _
    refine wpAny_call (codeAny_mono (F.run X.A X.stack s3 H2 ⟨[], [(b, y)]⟩ [y] [v] Q E hr I3.env0 (hbk s3 y) (.cons ru .nil) q1) fun r s' hq => ?_)
    cases r with
    | error e => exact hx pins σ H2 s3 e s' I3 hq
    | ok fl =>
      cases fl with
      | ret u => exact I3.after hq
      | next => exact False.elim hq
      | brk => exact False.elim hq
      | cont => exact False.elim hq
/-- C(b = e, c = e2) -/
def tMakeK2 (C : Addr) (sp : Sp) (gV : V → V → V → List V) (E : XK) (t1 t2 : TE) : TE := fun σ H Q => t1 σ H fun y H1 => t2 σ H1 fun z H2 =>
  ∀ x dx, H2 x = none → H2 dx = none → dx ≠ x → sp (gV (.ref x) y z) (upd (upd H2 dx (.own x)) x (.ins C dx [])) (fun v H3 => v = .non ∧ Q (.ref x) H3) E
theorem pe_makeK2 {ps : List Str} {gg : List Value → List Value → List Value} {gL : List V → List V → List V} {gV : V → V → V → List V} (M : Mk X.K C f) (F : FnOk X.prog X.w X.K X.mg X.base CX k f fd ps sp) (hr : Room (k + 1) X.A) (hm : X.mg x = some (.ref C)) (hb : KBn X.K fd ps 1 [b, c] gg gL) (hgV : ∀ r y z, gL [r] [y, z] = gV r y z) (hx : Passes CX X E)
    (h1 : PE X e t1) (h2 : PE X e2 t2) (hg : Gl X x := by rfl) (hdb : (x == ("__debug__" : Str)) = false := by decide) : PE X (.Call (.Name x q) [] [⟨some b, e, kp⟩, ⟨some c, e2, kp2⟩] pos) (tMakeK2 C sp gV E t1 t2) := by
  refine ⟨fun pins s σ H Q I h => wpAny_Call_Name_kw (ld_glob I hg hm ?_ hdb)⟩
  refine PySem.W.callWith_KW0 (h₀ := X.base) I.ok.mod.kin M.kp rfl (thn ((pk_cons h1 (pk_cons h2 pk_nil)).run pos pins s σ H (fun vs H2 => match vs with | [y, z] => ∀ x dx, H2 x = none → H2 dx = none → dx ≠ x → sp (gV (.ref x) y z) (upd (upd H2 dx (.own x)) x (.ins C dx [])) (fun v H3 => v = .non ∧ Q (.ref x) H3) E | _ => False) I h) fun us s1 ⟨vs, H1, I1, r1, q1⟩ => ⟨I1.kIn, ?_⟩) rfl
  match vs, q1 with
  | [y, z], q1 =>
    obtain ⟨u, u2, rfl, ru, ru2⟩ := vals2 r1
    show wpAny _ _ (call (.ref C) [] ([b, c].zip [u, u2])) _ _ _
    exact run_makeN (n := 0) M F hr hb hx I1 .nil r1 rfl rfl (fun x dx n1 n2 n3 => by rw [hgV]; exact q1 x dx n1 n2 n3)
end
end L2
end -- FwKw
section -- a12
set_option Elab.async false
set_option linter.all false
set_option maxRecDepth 100000
set_option maxHeartbeats 4000000
local macro_rules | `(tactic| walk_at "lvl") => `(tactic| first
  | decide
  | omega
  | (simp only [Nat.add_eq]; omega))
local macro_rules | `(tactic| walk_at "side") => `(tactic| first
  | decide
  | assumption
  | omega
  | exact Nat.le_of_ble_eq_true (by rfl)
  | exact ⟨by decide, by decide⟩
  | exact ⟨by decide, by decide, by decide⟩
  | exact Or.inl (Or.inr ⟨by decide, by decide⟩)
  | exact Or.inl (Or.inl ⟨by decide, by decide⟩))
local macro_rules | `(tactic| walk_at "ty") => `(tactic| first
  | assumption
  | exact L2.TyG.x (.base (.int _))
  | exact L2.TyG.x (.base (.str _))
  | exact L2.TyG.x (.base (.bl _))
  | exact L2.TyG.x (.base .non)
  | exact L2.TyG.x (.base (.lst (by assumption)))
  | exact L2.TyG.x (.base (.tup (by assumption)))
  | exact K01.tyR (by assumption) (by assumption)
  | exact L2.TyG.dn (by assumption))
local macro_rules | `(tactic| walk_at "cv") => `(tactic| first
  | exact L2.ClsV.ty _
  | exact L2.ClsV.own _)
local macro_rules | `(tactic| walk_at "kit") => `(tactic| first
  | exact L2.kit_ty (by decide +kernel)
  | exact K01.kR (by assumption) (by decide)
  | exact K01.kR2 (by assumption) (by decide)
  | exact K01.kR3 (by assumption))
local macro_rules | `(tactic| walk_at "s1") => `(tactic| first
  | refine ⟨_, rfl, ?_⟩
  | refine ⟨_, _, _, _, _, rfl, (by assumption), K01.clsR (by assumption), He.noat_ok (K01.a_noat_Ratio_top (by assumption)), rfl, ?_⟩
  | refine ⟨_, _, _, _, _, rfl, (by assumption), K01.clsR (by assumption), He.noat_ok (K01.a_noat_Ratio_bottom (by assumption)), rfl, ?_⟩
  | refine ⟨_, _, rfl, rfl, ?_⟩
  | refine ⟨_, _, rfl, ?_⟩
  | refine And.intro rfl ?_
  | refine L2.iteT ?_
  | refine L2.iteF ?_
  | refine L2.st_ixl (by assumption) (by rfl) ?_
  | refine L2.st_ixt (by assumption) (by rfl) ?_
  | refine L2.st_lenR (L2.lenr_l (by assumption)) ?_
  | refine L2.st_lenGR (L2.lenr_l (by assumption)) ?_
  | refine L2.st_lenGR (L2.lenr_t (by assumption)) ?_
  | refine L2.st_lenR (L2.lenr_t (by assumption)) ?_
  | refine L2.st_isG (b := false) (by walk_at "ty") (by walk_at "cv") (by walk_at "kit") ?_
  | refine L2.st_isG (b := true) (by walk_at "ty") (by walk_at "cv") (by walk_at "kit") ?_
  | refine And.intro (by walk_at "side") ?_)
local macro_rules | `(tactic| walk_at "go") => `(tactic| repeat (walk_at "s1"))
local macro_rules | `(tactic| walk_at "s2") => `(tactic| first
  | refine ⟨_, rfl, ?_⟩
  | refine ⟨_, _, _, _, _, rfl, (by assumption), K01.clsR (by assumption), He.noat_ok (K01.a_noat_Ratio_top (by assumption)), rfl, ?_⟩
  | refine ⟨_, _, _, _, _, rfl, (by assumption), K01.clsR (by assumption), He.noat_ok (K01.a_noat_Ratio_bottom (by assumption)), rfl, ?_⟩
  | refine ⟨_, _, rfl, rfl, ?_⟩
  | refine ⟨_, _, rfl, ?_⟩
  | refine And.intro rfl ?_
  | refine L2.iteT ?_
  | refine L2.iteF ?_
  | refine L2.st_ixl (by assumption) (by rfl) ?_
  | refine L2.st_ixt (by assumption) (by rfl) ?_
  | refine L2.st_lenR (L2.lenr_l (by assumption)) ?_
  | refine L2.st_lenGR (L2.lenr_l (by assumption)) ?_
  | refine L2.st_lenGR (L2.lenr_t (by assumption)) ?_
  | refine L2.st_lenR (L2.lenr_t (by assumption)) ?_
  | refine And.intro (by walk_at "side") ?_)
local macro_rules | `(tactic| walk_at "gs") => `(tactic| repeat (walk_at "s2"))
namespace K01
open PySem PySem.Spec PyProof.Rows L2 L2R TL
section
variable {P : Program} {w : World} {K : PySem.W.Frag} {mg : Str → Option Value} {base : Heap}
def spRd (K : PySem.W.Frag) (w : World) : Sp := fun vs H Q E => ∃ v : V, vs = [v] ∧ ((∃ t, TyG K w H v t ∧ PySem.W.kitOne K t (.type "str") = some false ∧ ErV K v H E) ∨
  ∃ x : Str, v = .str x ∧ x.length ≤ 50000 ∧ (∀ p, rdN (tl x) = some p → p.2.natAbs < 2 ^ 8000) ∧ (match rdN (tl x) with | some p => ∀ r H', RAt K H' r (rlow p.1 p.2) → Same H H' → Q (.ref r) H' | none => ∀ H', Same H H' → ErV K v H' E))
theorem ok_read (T : TL K mg) : ∃ fd, FunD K d_Ratio_read.name d_Ratio_read.qual d_Ratio_read.params d_Ratio_read.body d_Ratio_read.scope (d_Ratio_read.dvs K) (d_Ratio_read.kws K) (saS K ("Ratio", "read")) fd ∧ FnOk P w K mg base (L2.CX P w) 6 (saS K ("Ratio", "read")) fd ["text"] (spRd K w) := by
  obtain ⟨fd, F⟩ := F_Ratio_read T
  refine ⟨fd, F, FunD.ok F sc_Ratio_read (fun vs H Q E h => ?_) (fun cdv A outer s H vs Q E hr h => ?_)⟩
  · obtain ⟨v, rfl, _⟩ := h
    rfl
  · obtain ⟨v, rfl, h⟩ := h
    refine ⟨_, (pss_cons (ps_set (i := 1) sc_Ratio_read.nd rfl (by first | exact Or.inl rfl | exact Or.inr rfl) (pe_fx (G_read_number T) (hr.mono (by walk_at "lvl")) passL (pa_cons (pv 0) pa_nil)))
      (pss_cons (ps_if (pt_cmpR op_isN (pv 1) pe_non (nomark _))
        (pss_one (ps_raise rfl (takes_of rfl rfl rfl rfl) (pmk_ox (X_InvalidRatio T) (hr.mono (by walk_at "lvl")) passL (pa_cons (pv 0) pa_nil))))
        pss_nil)
      (pss_one (ps_ret (pv 1))))), ?_⟩
    walk_at "go"
    rcases h with ⟨t, ty, kt, k⟩ | ⟨x, rfl, hl, hB, k⟩
    · refine .inl ⟨t, ty, kt, ?_⟩
      walk_at "go"
      exact (raiseIR k).2
    · refine .inr ⟨x, rfl, hl, hB, ?_⟩
      cases e : rdN (tl x) with
      | none =>
        rw [e] at k
        intro H1 s1
        walk_at "go"
        exact (raiseIR (k H1 s1)).2
      | some p =>
        rw [e] at k
        intro r H1 a1 s1
        walk_at "go"
        exact k r H1 a1 s1
def PT (H : Hp) (r : Addr) (p : Int × Int) : Prop := H r = some (.tup [.int p.1, .int p.2])
theorem PT.same {H H' : Hp} {r : Addr} {p : Int × Int} (h : PT H r p) (e : Same H H') : PT H' r p := e _ _ h
def spLow : Sp := fun vs H Q _ => ∃ t b : Int, vs = [.int t, .int b] ∧ b ≠ 0 ∧ b.natAbs < 2 ^ 8000 ∧ ∀ r H', PT H' r (rlow t b) → Same H H' → Q (.ref r) H'
theorem G__law_low (T : TL K mg) : FX P w K mg base 1 "_law_low" [] spLow := by
  obtain ⟨fd, F⟩ := F__law_low T
  refine FX.of F (g__law_low T) (F.ok0 sc__law_low (fun vs H Q E h => ?_) (fun cdv A outer s H vs Q E hr h => ?_)) (fun _ _ _ _ _ _ us hl => match us, hl with | [_, _], _ => rfl)
  · obtain ⟨t, b, rfl, _⟩ := h
    rfl
  · obtain ⟨t, b, rfl, hb, hB, k⟩ := h
    refine ⟨_, (C8.pss_cut (ps_if (pt_cmpR op_lt (pv 1) pe_int (nomark _))
        (pss_one (ps_par (i := 0) (j := 1) (by rfl) sc__law_low.nd rfl rfl (by decide) rfl rfl (pa_cons (pe_op op_sub pe_int (pv 0)) (pa_cons (pe_op op_sub pe_int (pv 1)) pa_nil)) (by rfl)))
        pss_nil)
      (pss_cons (ps_par (i := 2) (j := 3) (by rfl) sc__law_low.nd rfl rfl (by decide) rfl rfl (pa_cons (pe_callB call_abs (by rfl) (f_abs T) (by decide +kernel) (pa_cons (pv 0) pa_nil)) (pa_cons (pv 1) pa_nil)) (by rfl))
      (pss_cons (ps_while PassesOwn.never (pt_cmpR op_gt (pv 3) pe_int (nomark _))
        (pss_one (ps_par (i := 2) (j := 3) (by rfl) sc__law_low.nd rfl rfl (by decide) rfl rfl (pa_cons (pv 3) (pa_cons (pe_op op_mod (pe_callTy (T := "int") call_intG (by rfl) (f_int T) (by decide +kernel) (pa_cons (pv 2) pa_nil)) (pv 3)) pa_nil)) (by rfl))))
      (pss_one (ps_ret (pe_tup (pa_cons (pe_op op_fdivX (pv 0) (pv 2)) (pa_cons (pe_op op_fdivX (pv 1) (pv 2)) pa_nil)))))))), ?_⟩
    walk_at "go"
    refine ⟨fun σ' H' => ∃ u d : Int, σ' = [some (.int u), some (.int d), none, none] ∧ H' = H ∧ 0 < d ∧ d.natAbs < 2 ^ 8000 ∧ rlow u d = rlow t b, ?_, ?_⟩
    · walk_at "go"
      refine st_if (fun c => ?_) (fun c => ?_)
      · walk_at "go"
        rw [Int.zero_sub, Int.zero_sub, ← rlow_of_neg c]
      · walk_at "go"
        rfl
    · rintro σ' H' ⟨u, d, rfl, rfl, hd, hD, e⟩
      walk_at "go"
      refine ⟨fun m σ H => ∃ x y : Int, σ = [some (.int u), some (.int d), some (.int x), some (.int y)] ∧ H = H' ∧ m = y.natAbs ∧ 0 ≤ x ∧ 0 ≤ y ∧ Nat.gcd x.natAbs y.natAbs = Nat.gcd u.natAbs d.natAbs, ⟨d.natAbs, if u < 0 then -u else u, d, rfl, rfl, rfl, by split <;> omega, by omega, by
        congr 1
        split <;> omega⟩, ?_⟩
      rintro m σ H ⟨x, y, rfl, rfl, rfl, hx, hy, hg⟩
      walk_at "go"
      refine st_if (fun c => ?_) (fun c => ?_)
      · refine ⟨fun σ' H' => ∃ x2 y2 : Int, σ' = [some (.int u), some (.int d), some (.int x2), some (.int y2)] ∧ H' = H ∧ y2.natAbs < y.natAbs ∧ 0 ≤ x2 ∧ 0 ≤ y2 ∧ Nat.gcd x2.natAbs y2.natAbs = Nat.gcd u.natAbs d.natAbs, fun σ' H' ⟨x2, y2, h1, h2, h3, h4⟩ => ⟨y2.natAbs, h3, x2, y2, h1, h2, rfl, h4⟩, ?_⟩
        have hm0 : 0 ≤ x % y := Int.emod_nonneg x (by omega)
        have hm1 : x % y < y := Int.emod_lt_of_pos x c
        have hm2 : (x % y).natAbs = x.natAbs % y.natAbs := by
          obtain ⟨p, rfl⟩ := Int.eq_ofNat_of_zero_le hx
          obtain ⟨q, rfl⟩ := Int.eq_ofNat_of_zero_le hy
          rfl
        have hg2 : Nat.gcd y.natAbs (x % y).natAbs = Nat.gcd u.natAbs d.natAbs := by
          rw [hm2, Nat.gcd_comm, ← Nat.gcd_rec, Nat.gcd_comm]
          exact hg
        walk_at "go"
        exact hg2
      · have y0 : y = 0 := by omega
        subst y0
        have ex : x = rg u d := by
          have hg' : Nat.gcd x.natAbs 0 = Nat.gcd u.natAbs d.natAbs := hg
          rw [Nat.gcd_zero_right] at hg'
          unfold rg
          omega
        subst ex
        have g0 := rg_pos (t := u) (b := d) (by omega)
        have gl : (rg u d).natAbs < 2 ^ 8000 := by
          refine Nat.lt_of_le_of_lt ?_ hD
          exact Nat.le_of_dvd (by omega) (Int.natAbs_dvd_natAbs.mpr (rg_db u d))
        have e2 := rlow_init (t := u) (b := d) (by omega)
        rw [if_neg (show ¬ d < 0 by omega)] at e2
        have cg : ∀ i : Int, CDivX i (rg u d) := fun i => cdX (b := 8000) (by omega) gl
        have c1 := cg u
        have c2 := cg d
        walk_at "go"
        intro r nr
        refine k r _ ?_ (Same.new nr)
        show upd H r _ r = some (.tup [.int (rlow t b).1, .int (rlow t b).2])
        rw [← e, ← e2]
        exact upd_same
def spL2 (f : Int × Int → Int × Int → Int × Int) : Sp := fun vs H Q _ => ∃ (a b : Addr) (p q : Int × Int), vs = [.ref a, .ref b] ∧ PT H a p ∧ PT H b q ∧ p.2 ≠ 0 ∧ q.2 ≠ 0 ∧ Bn 3000 p ∧ Bn 3000 q ∧ ∀ r H', PT H' r (f p q) → Same H H' → Q (.ref r) H'
theorem dec_one (i : Int) : decide (V.int i = V.int 1) = decide (i = 1) := by
  by_cases h : i = 1
  · rw [decide_eq_true h, decide_eq_true (by rw [h])]
  · rw [decide_eq_false h, decide_eq_false fun z => h (V.int.inj z)]
theorem G__law_plus (T : TL K mg) : FX P w K mg base 2 "_law_plus" [] (spL2 radd) := by
  obtain ⟨fd, F⟩ := F__law_plus T
  refine FX.of F (g__law_plus T) (F.ok0 sc__law_plus (fun vs H Q E h => ?_) (fun cdv A outer s H vs Q E hr h => ?_)) (fun _ _ _ _ _ _ us hl => match us, hl with | [_, _], _ => rfl)
  · obtain ⟨a, b, p, q, rfl, _⟩ := h
    rfl
  · obtain ⟨a, b, p, q, rfl, ha, hb, hp, hq, bp, bq, k⟩ := h
    refine ⟨_, (pss_cons (ps_if (PW.pt (pw_and (pt_cmpR op_eq (pe_ix ix_seq (pv 0) pe_int (fun _ _ => rfl)) pe_int (nomark _)) (pw_and1 (pt_cmpR op_eq (pe_ix ix_seq (pv 1) pe_int (fun _ _ => rfl)) pe_int (nomark _)))))
        (pss_one (ps_ret (pe_tup (pa_cons (pe_op op_addG (pe_ix ix_seq (pv 0) pe_int (fun _ _ => rfl)) (pe_ix ix_seq (pv 1) pe_int (fun _ _ => rfl))) (pa_cons pe_int pa_nil)))))
        pss_nil)
      (pss_one (ps_ret (pe_fx (G__law_low T) (hr.mono (by walk_at "lvl")) passL (pa_cons (pe_op op_addG (pe_op op_mulI (pe_ix ix_seq (pv 0) pe_int (fun _ _ => rfl)) (pe_ix ix_seq (pv 1) pe_int (fun _ _ => rfl))) (pe_op op_mulI (pe_ix ix_seq (pv 1) pe_int (fun _ _ => rfl)) (pe_ix ix_seq (pv 0) pe_int (fun _ _ => rfl)))) (pa_cons (pe_op op_mulI (pe_ix ix_seq (pv 0) pe_int (fun _ _ => rfl)) (pe_ix ix_seq (pv 1) pe_int (fun _ _ => rfl))) pa_nil)))))), ?_⟩
    have ha' : H a = some (.tup [.int p.1, .int p.2]) := ha
    have hb' : H b = some (.tup [.int q.1, .int q.2]) := hb
    have m0 : CMulG (p.1) (q.2) := mulG bp.1 bq.2
    have m1 : CMulG (q.1) (p.2) := mulG bq.1 bp.2
    have m2 : CMulG (p.2) (q.2) := mulG bp.2 bq.2
    have n0 : p.2 * q.2 ≠ 0 := Int.mul_ne_zero hp hq
    have n1 : (p.2 * q.2).natAbs < 2 ^ 8000 := natAbs_mul_lt bp.2 bq.2
    walk_at "go"
    refine st_if (fun c1 => ?_) (fun c1 => ?_)
    · have e1 : p.2 = 1 := V.int.inj c1
      walk_at "go"
      refine st_if (fun c2 => ?_) (fun c2 => ?_)
      · have e2 : q.2 = 1 := V.int.inj c2
        walk_at "go"
        intro r nr
        refine k r _ ?_ (Same.new nr)
        rw [radd_int e1 e2]
        exact upd_same
      · walk_at "go"
        exact k
    · walk_at "go"
      exact k
theorem G__law_by (T : TL K mg) : FX P w K mg base 2 "_law_by" [] (spL2 rmul) := by
  obtain ⟨fd, F⟩ := F__law_by T
  refine FX.of F (g__law_by T) (F.ok0 sc__law_by (fun vs H Q E h => ?_) (fun cdv A outer s H vs Q E hr h => ?_)) (fun _ _ _ _ _ _ us hl => match us, hl with | [_, _], _ => rfl)
  · obtain ⟨a, b, p, q, rfl, _⟩ := h
    rfl
  · obtain ⟨a, b, p, q, rfl, ha, hb, hp, hq, bp, bq, k⟩ := h
    refine ⟨_, (pss_cons (ps_if (PW.pt (pw_and (pt_cmpR op_eq (pe_ix ix_seq (pv 0) pe_int (fun _ _ => rfl)) pe_int (nomark _)) (pw_and1 (pt_cmpR op_eq (pe_ix ix_seq (pv 1) pe_int (fun _ _ => rfl)) pe_int (nomark _)))))
        (pss_one (ps_ret (pe_tup (pa_cons (pe_op op_mulI (pe_ix ix_seq (pv 0) pe_int (fun _ _ => rfl)) (pe_ix ix_seq (pv 1) pe_int (fun _ _ => rfl))) (pa_cons pe_int pa_nil)))))
        pss_nil)
      (pss_one (ps_ret (pe_fx (G__law_low T) (hr.mono (by walk_at "lvl")) passL (pa_cons (pe_op op_mulI (pe_ix ix_seq (pv 0) pe_int (fun _ _ => rfl)) (pe_ix ix_seq (pv 1) pe_int (fun _ _ => rfl))) (pa_cons (pe_op op_mulI (pe_ix ix_seq (pv 0) pe_int (fun _ _ => rfl)) (pe_ix ix_seq (pv 1) pe_int (fun _ _ => rfl))) pa_nil)))))), ?_⟩
    have ha' : H a = some (.tup [.int p.1, .int p.2]) := ha
    have hb' : H b = some (.tup [.int q.1, .int q.2]) := hb
    have m0 : CMulG (p.1) (q.1) := mulG bp.1 bq.1
    have m1 : CMulG (p.2) (q.2) := mulG bp.2 bq.2
    have n0 : p.2 * q.2 ≠ 0 := Int.mul_ne_zero hp hq
    have n1 : (p.2 * q.2).natAbs < 2 ^ 8000 := natAbs_mul_lt bp.2 bq.2
    walk_at "go"
    refine st_if (fun c1 => ?_) (fun c1 => ?_)
    · have e1 : p.2 = 1 := V.int.inj c1
      walk_at "go"
      refine st_if (fun c2 => ?_) (fun c2 => ?_)
      · have e2 : q.2 = 1 := V.int.inj c2
        walk_at "go"
        intro r nr
        refine k r _ ?_ (Same.new nr)
        rw [rmul_int e1 e2]
        exact upd_same
      · walk_at "go"
        exact k
    · walk_at "go"
      exact k
def spL1 (f : Int × Int → Int × Int) : Sp := fun vs H Q _ => ∃ (a : Addr) (p : Int × Int), vs = [.ref a] ∧ PT H a p ∧ ∀ r H', PT H' r (f p) → Same H H' → Q (.ref r) H'
theorem G__law_neg (T : TL K mg) : FX P w K mg base 1 "_law_neg" [] (spL1 rneg) := by
  obtain ⟨fd, F⟩ := F__law_neg T
  refine FX.of F (g__law_neg T) (F.ok0 sc__law_neg (fun vs H Q E h => ?_) (fun cdv A outer s H vs Q E hr h => ?_)) (fun _ _ _ _ _ _ us hl => match us, hl with | [_], _ => rfl)
  · obtain ⟨a, p, rfl, _⟩ := h
    rfl
  · obtain ⟨a, p, rfl, ha, k⟩ := h
    refine ⟨_, (pss_one (ps_ret (pe_tup (pa_cons (pe_op op_sub pe_int (pe_ix ix_seq (pv 0) pe_int (fun _ _ => rfl))) (pa_cons (pe_ix ix_seq (pv 0) pe_int (fun _ _ => rfl)) pa_nil))))), ?_⟩
    have ha' : H a = some (.tup [.int p.1, .int p.2]) := ha
    walk_at "go"
    intro r nr
    refine k r _ ?_ (Same.new nr)
    show upd H r _ r = some (.tup [.int (-p.1), .int p.2])
    rw [← Int.zero_sub]
    exact upd_same
def spNT : Sp := fun vs H Q _ => ∃ (a : Addr) (p : Int × Int), vs = [.ref a] ∧ PT H a p ∧ TxtOk p ∧ Q (.str (rtext p)) H
theorem G__law_num_text (T : TL K mg) : FX P w K mg base 1 "_law_num_text" [] spNT := by
  obtain ⟨fd, F⟩ := F__law_num_text T
  refine FX.of F (g__law_num_text T) (F.ok0 sc__law_num_text (fun vs H Q E h => ?_) (fun cdv A outer s H vs Q E hr h => ?_)) (fun _ _ _ _ _ _ us hl => match us, hl with | [_], _ => rfl)
  · obtain ⟨a, p, rfl, _⟩ := h
    rfl
  · obtain ⟨a, p, rfl, ha, ⟨z1, z2, z3⟩, q⟩ := h
    refine ⟨_, (pss_one (ps_ret (pe_ifExp (pt_cmpR op_eq (pe_ix ix_seq (pv 0) pe_int (fun _ _ => rfl)) pe_int (nomark _)) (pe_callTy (T := "str") (call_strX hr.hd (digF T)) rfl (f_str T) (by decide +kernel) (pa_cons (pe_ix ix_seq (pv 0) pe_int (fun _ _ => rfl)) pa_nil)) (pe_joined (PJ.cons (pe_fmt (pe_ix ix_seq (pv 0) pe_int (fun _ _ => rfl))) (PJ.cons pe_str (PJ.cons (pe_fmt (pe_ix ix_seq (pv 0) pe_int (fun _ _ => rfl))) PJ.nil))))))), ?_⟩
    have ha' : H a = some (.tup [.int p.1, .int p.2]) := ha
    walk_at "go"
    refine st_if (fun c => ?_) (fun c => ?_)
    · have e1 : p.2 = 1 := V.int.inj c
      have er : rtext p = Str.ofString (toString p.1) := if_pos e1
      rw [er] at q
      walk_at "go"
      exact q
    · have e1 : p.2 ≠ 1 := fun z => c (by rw [z])
      have er : rtext p = ((Str.empty ++ Str.ofString (toString p.1)) ++ "/") ++ Str.ofString (toString p.2) := if_neg e1
      rw [er] at q z1
      have zz := z3.resolve_left e1
      rw [lenA, lenA] at z1
      have hs : 5000 ≤ sizeLine := by decide
      walk_at "go"
      refine .inr ⟨p.1, rfl, zz.1, _, rfl, by omega, ?_⟩
      refine ⟨_, rfl, by rw [lenA]; omega, ?_⟩
      walk_at "go"
      exact .inr ⟨p.2, rfl, zz.2, _, rfl, by rw [lenA, lenA]; omega, q⟩
end
end K01
end -- a12
section -- a13
set_option Elab.async false
set_option linter.all false
set_option maxRecDepth 100000
set_option maxHeartbeats 4000000
local macro_rules | `(tactic| walk_at "lvl") => `(tactic| first
  | decide
  | omega
  | (simp only [Nat.add_eq]; omega))
local macro_rules | `(tactic| walk_at "side") => `(tactic| first
  | decide
  | assumption
  | omega
  | exact Nat.le_of_ble_eq_true (by rfl)
  | exact ⟨by decide, by decide⟩
  | exact ⟨by decide, by decide, by decide⟩
  | exact Or.inl (Or.inr ⟨by decide, by decide⟩)
  | exact Or.inl (Or.inl ⟨by decide, by decide⟩))
local macro_rules | `(tactic| walk_at "ty") => `(tactic| first
  | assumption
  | exact L2.TyG.x (.base (.int _))
  | exact L2.TyG.x (.base (.str _))
  | exact L2.TyG.x (.base (.bl _))
  | exact L2.TyG.x (.base .non)
  | exact L2.TyG.x (.base (.lst (by assumption)))
  | exact L2.TyG.x (.base (.tup (by assumption)))
  | exact K01.tyR (by assumption) (by assumption)
  | exact L2.TyG.dn (by assumption))
local macro_rules | `(tactic| walk_at "cv") => `(tactic| first
  | exact L2.ClsV.ty _
  | exact L2.ClsV.own _)
local macro_rules | `(tactic| walk_at "kit") => `(tactic| first
  | exact L2.kit_ty (by decide +kernel)
  | exact K01.kR (by assumption) (by decide)
  | exact K01.kR2 (by assumption) (by decide)
  | exact K01.kR3 (by assumption))
local macro_rules | `(tactic| walk_at "s1") => `(tactic| first
  | refine ⟨_, rfl, ?_⟩
  | refine ⟨_, _, _, _, _, rfl, (by assumption), K01.clsR (by assumption), He.noat_ok (K01.a_noat_Ratio_top (by assumption)), rfl, ?_⟩
  | refine ⟨_, _, _, _, _, rfl, (by assumption), K01.clsR (by assumption), He.noat_ok (K01.a_noat_Ratio_bottom (by assumption)), rfl, ?_⟩
  | refine ⟨_, _, rfl, rfl, ?_⟩
  | refine ⟨_, _, rfl, ?_⟩
  | refine And.intro rfl ?_
  | refine L2.iteT ?_
  | refine L2.iteF ?_
  | refine L2.st_ixl (by assumption) (by rfl) ?_
  | refine L2.st_ixt (by assumption) (by rfl) ?_
  | refine L2.st_lenR (L2.lenr_l (by assumption)) ?_
  | refine L2.st_lenGR (L2.lenr_l (by assumption)) ?_
  | refine L2.st_lenGR (L2.lenr_t (by assumption)) ?_
  | refine L2.st_lenR (L2.lenr_t (by assumption)) ?_
  | refine L2.st_isG (b := false) (by walk_at "ty") (by walk_at "cv") (by walk_at "kit") ?_
  | refine L2.st_isG (b := true) (by walk_at "ty") (by walk_at "cv") (by walk_at "kit") ?_
  | refine And.intro (by walk_at "side") ?_)
local macro_rules | `(tactic| walk_at "go") => `(tactic| repeat (walk_at "s1"))
local macro_rules | `(tactic| walk_at "s2") => `(tactic| first
  | refine ⟨_, rfl, ?_⟩
  | refine ⟨_, _, _, _, _, rfl, (by assumption), K01.clsR (by assumption), He.noat_ok (K01.a_noat_Ratio_top (by assumption)), rfl, ?_⟩
  | refine ⟨_, _, _, _, _, rfl, (by assumption), K01.clsR (by assumption), He.noat_ok (K01.a_noat_Ratio_bottom (by assumption)), rfl, ?_⟩
  | refine ⟨_, _, rfl, rfl, ?_⟩
  | refine ⟨_, _, rfl, ?_⟩
  | refine And.intro rfl ?_
  | refine L2.iteT ?_
  | refine L2.iteF ?_
  | refine L2.st_ixl (by assumption) (by rfl) ?_
  | refine L2.st_ixt (by assumption) (by rfl) ?_
  | refine L2.st_lenR (L2.lenr_l (by assumption)) ?_
  | refine L2.st_lenGR (L2.lenr_l (by assumption)) ?_
  | refine L2.st_lenGR (L2.lenr_t (by assumption)) ?_
  | refine L2.st_lenR (L2.lenr_t (by assumption)) ?_
  | refine And.intro (by walk_at "side") ?_)
local macro_rules | `(tactic| walk_at "gs") => `(tactic| repeat (walk_at "s2"))
namespace K01
open PySem PySem.Spec PyProof.Rows L2 L2R TL
section
variable {P : Program} {w : World} {K : PySem.W.Frag} {mg : Str → Option Value} {base : Heap}
def spIR : Sp := fun vs H Q _ => ∃ x : Str, vs = [.str x] ∧ x.length ≤ 100000 ∧ (match rdW (tl x) with | some n => ∀ H', Same H H' → Q (.int (n : Nat)) H' | none => ∀ H', Same H H' → Q .non H')
theorem G__law_int_read (T : TL K mg) : FX P w K mg base 1 "_law_int_read" [] spIR := by
  obtain ⟨fd, F⟩ := F__law_int_read T
  refine FX.of F (g__law_int_read T) (F.ok0 sc__law_int_read (fun vs H Q E h => ?_) (fun cdv A outer s H vs Q E hr h => ?_)) (fun _ _ _ _ _ _ us hl => match us, hl with | [_], _ => rfl)
  · obtain ⟨x, rfl, _⟩ := h
    rfl
  · obtain ⟨x, rfl, hl, h⟩ := h
    refine ⟨_, (C8.pss_cut (ps_if (PW.pt (pw_or (pt_cmpR op_eq (pv 0) pe_str (nomark _)) (pw_or (pt_cmpR op_gt (pe_callB call_lenG (by rfl) (f_len T) (by decide +kernel) (pa_cons (pv 0) pa_nil)) pe_int (nomark _)) (pw_or1 (PW.pt (pw_and (pt_cmpR op_eq (pe_ix ix_seq (pv 0) pe_int (fun _ _ => rfl)) pe_str (nomark _)) (pw_and1 (pt_cmpR op_gt (pe_callB call_lenG (by rfl) (f_len T) (by decide +kernel) (pa_cons (pv 0) pa_nil)) pe_int (nomark _)))))))))
        (pss_one (ps_ret pe_non))
        pss_nil)
      (pss_one (ps_ret (pe_ifExp (pt_truth (pe_lc (own := [("c", 1)]) (g := gName 1) (tt := _) rfl sc__law_int_read.nd (pi_str (pv 0)) (blkOk_by (N := N__law_int_read) (sc := defScope s__law_int_read) (by decide +kernel)) (fun _ _ _ _ _ => pg_name (i := 1) sc__law_int_read.nd rfl (Or.inl rfl)) (fun _ _ _ _ _ => pts_one (pt_cmpR op_notIn_sign (pv 1) pe_str rfl)) (fun _ _ _ _ _ => (pv 1))) (by intro _; rfl)) pe_non (pe_callTy (T := "int") (call_intX (digF T)) rfl (f_int T) (by decide +kernel) (pa_cons (pv 0) pa_nil)))))), ?_⟩
    have hs : 100000 ≤ sizeLine := by decide
    have hz2 : x.length ≤ sizeLine := by omega
    have lz : x.cps.toList.length = x.length := by simp [PySem.Str.length]
    refine ⟨fun σ' H' => σ' = [some (.str x), none] ∧ H' = H ∧ tl x ≠ [] ∧ (tl x).length ≤ 4000 ∧ ¬ ((tl x).head? = some 48 ∧ 1 < (tl x).length), ?_, ?_⟩
    · walk_at "go"
      refine st_if (fun c1 => ?_) (fun c1 => ?_)
      · have e := V.str.inj c1
        subst e
        walk_at "go"
        exact h H (Same.refl H)
      · walk_at "go"
        refine st_lenS hz2 ?_
        walk_at "go"
        refine st_if (fun c2 => ?_) (fun c2 => ?_)
        · rw [rdW_no (okW_long (by rw [← len_tl]; omega))] at h
          walk_at "go"
          exact h H (Same.refl H)
        · have hne : tl x ≠ [] := fun q => c1 (by rw [show x = Str.ofString "" from ext_tl (q.trans rfl)])
          have h4 : (tl x).length ≤ 4000 := by rw [← len_tl]; omega
          obtain ⟨c, cs, hc⟩ := List.exists_cons_of_ne_nil hne
          walk_at "go"
          refine st_ixs hz2 (by show atI x.cps.toList ((0 : Nat) : Int) = some c; exact atI_nat (by rw [show x.cps.toList = c :: cs from hc]; rfl)) ?_
          walk_at "go"
          refine st_if (fun c3 => ?_) (fun c3 => ?_)
          · have e48 : c = 48 := by
              have := congrArg tl (V.str.inj c3)
              have : [c] = [48] := this
              simpa using this
            walk_at "go"
            refine st_lenS hz2 ?_
            walk_at "go"
            refine st_if (fun c4 => ?_) (fun c4 => ?_)
            · rw [rdW_no (okW_zero (by rw [hc, e48] <;> rfl) (by rw [← len_tl]; omega))] at h
              walk_at "go"
              exact h H (Same.refl H)
            · walk_at "go"
              exact fun z => by have := z.2; rw [← len_tl] at this; omega
          · walk_at "go"
            intro z
            have := z.1
            rw [hc] at this
            have e48 : c = 48 := by simpa using this
            exact c3 (by rw [e48]; rfl)
    · rintro σ' H' ⟨rfl, rfl, hne, h4, hz⟩
      walk_at "go"
      intro D nD
      refine lc_strL (fun i H2 => ∃ acc : List V, H2 D = some (.lst acc) ∧ (acc = [] ↔ ∀ j y, j < i → x.cps[j]? = some y → dg y = true) ∧ acc.length ≤ i ∧ Same H' H2) ⟨[], upd_same, ⟨fun _ j x hj => absurd hj (Nat.not_lt_zero _), fun _ => rfl⟩, Nat.le_refl _, Same.new nD⟩ ?_ ?_
      · rintro i y H2 hx ⟨acc, f1, f2, f3, f4⟩
        have ix : i < x.cps.size := (Array.getElem?_eq_some_iff.mp hx).1
        have sz : x.cps.size = x.length := rfl
        walk_at "go"
        refine st_ifn (fun c5 => ?_) (fun c5 => ?_)
        · walk_at "go"
          refine ⟨acc, f1, Nat.lt_of_le_of_lt (show acc.length ≤ 100000 by omega) (by decide), _, upd_same, ?_, ?_, fun a o q => ?_⟩
          · exact ⟨fun q => absurd q (by simp), fun q => absurd ((mem_dg y).mpr (q i y (Nat.lt_succ_self i) hx)) c5⟩
          · rw [List.length_append]
            exact Nat.succ_le_succ f3
          · rw [upd_ne (ne_of_none q nD)]
            exact f4 _ _ q
        · refine ⟨acc, f1, ?_, Nat.le_succ_of_le f3, f4⟩
          rw [f2]
          refine ⟨fun q j z hj hy => ?_, fun q j z hj hy => q j z (by omega) hy⟩
          by_cases e : j = i
          · subst e
            rw [hx] at hy
            rw [← Option.some.inj hy]
            exact (mem_dg y).mp c5
          · exact q j z (by omega) hy
      · rintro H2 ⟨acc, f1, f2, f3, f4⟩
        cases acc with
        | nil =>
          have hall : ∀ c ∈ tl x, dg c = true := fun c hc => by
            obtain ⟨j, hj⟩ := List.mem_iff_getElem?.mp hc
            rw [Array.getElem?_toList] at hj
            exact (f2.mp rfl) j c (Array.getElem?_eq_some_iff.mp hj).1 hj
          have ok := okW_yes hne h4 hall hz
          rw [rdW_yes ok] at h
          refine ⟨false, .inl ⟨[], SqL.of f1, rfl⟩, ?_⟩
          walk_at "go"
          exact ⟨x, _, rfl, okW_int ok, hz2, h H2 f4⟩
        | cons a1 ac =>
          have nall : ¬ ∀ j y, j < x.cps.size → x.cps[j]? = some y → dg y = true := fun q => by have := f2.mpr q; cases this
          obtain ⟨j, hj⟩ := Classical.not_forall.mp nall
          obtain ⟨y, hj⟩ := Classical.not_forall.mp hj
          obtain ⟨hlt, hj⟩ := Classical.not_forall.mp hj
          obtain ⟨hx, hj⟩ := Classical.not_forall.mp hj
          rw [rdW_no (okW_sign (List.mem_of_getElem? (by rw [Array.getElem?_toList]; exact hx)) (by simpa using hj))] at h
          refine ⟨true, .inl ⟨_, SqL.of f1, rfl⟩, ?_⟩
          walk_at "go"
          exact h H2 f4
end
end K01
end -- a13
section -- a14
set_option Elab.async false
set_option linter.all false
set_option maxRecDepth 100000
set_option maxHeartbeats 4000000
local macro_rules | `(tactic| walk_at "lvl") => `(tactic| first
  | decide
  | omega
  | (simp only [Nat.add_eq]; omega))
local macro_rules | `(tactic| walk_at "side") => `(tactic| first
  | decide
  | assumption
  | omega
  | exact Nat.le_of_ble_eq_true (by rfl)
  | exact ⟨by decide, by decide⟩
  | exact ⟨by decide, by decide, by decide⟩
  | exact Or.inl (Or.inr ⟨by decide, by decide⟩)
  | exact Or.inl (Or.inl ⟨by decide, by decide⟩))
local macro_rules | `(tactic| walk_at "ty") => `(tactic| first
  | assumption
  | exact L2.TyG.x (.base (.int _))
  | exact L2.TyG.x (.base (.str _))
  | exact L2.TyG.x (.base (.bl _))
  | exact L2.TyG.x (.base .non)
  | exact L2.TyG.x (.base (.lst (by assumption)))
  | exact L2.TyG.x (.base (.tup (by assumption)))
  | exact K01.tyR (by assumption) (by assumption)
  | exact L2.TyG.dn (by assumption))
local macro_rules | `(tactic| walk_at "cv") => `(tactic| first
  | exact L2.ClsV.ty _
  | exact L2.ClsV.own _)
local macro_rules | `(tactic| walk_at "kit") => `(tactic| first
  | exact L2.kit_ty (by decide +kernel)
  | exact K01.kR (by assumption) (by decide)
  | exact K01.kR2 (by assumption) (by decide)
  | exact K01.kR3 (by assumption))
local macro_rules | `(tactic| walk_at "s1") => `(tactic| first
  | refine ⟨_, rfl, ?_⟩
  | refine ⟨_, _, _, _, _, rfl, (by assumption), K01.clsR (by assumption), He.noat_ok (K01.a_noat_Ratio_top (by assumption)), rfl, ?_⟩
  | refine ⟨_, _, _, _, _, rfl, (by assumption), K01.clsR (by assumption), He.noat_ok (K01.a_noat_Ratio_bottom (by assumption)), rfl, ?_⟩
  | refine ⟨_, _, rfl, rfl, ?_⟩
  | refine ⟨_, _, rfl, ?_⟩
  | refine And.intro rfl ?_
  | refine L2.iteT ?_
  | refine L2.iteF ?_
  | refine L2.st_ixl (by assumption) (by rfl) ?_
  | refine L2.st_ixt (by assumption) (by rfl) ?_
  | refine L2.st_lenR (L2.lenr_l (by assumption)) ?_
  | refine L2.st_lenGR (L2.lenr_l (by assumption)) ?_
  | refine L2.st_lenGR (L2.lenr_t (by assumption)) ?_
  | refine L2.st_lenR (L2.lenr_t (by assumption)) ?_
  | refine L2.st_isG (b := false) (by walk_at "ty") (by walk_at "cv") (by walk_at "kit") ?_
  | refine L2.st_isG (b := true) (by walk_at "ty") (by walk_at "cv") (by walk_at "kit") ?_
  | refine And.intro (by walk_at "side") ?_)
local macro_rules | `(tactic| walk_at "go") => `(tactic| repeat (walk_at "s1"))
local macro_rules | `(tactic| walk_at "s2") => `(tactic| first
  | refine ⟨_, rfl, ?_⟩
  | refine ⟨_, _, _, _, _, rfl, (by assumption), K01.clsR (by assumption), He.noat_ok (K01.a_noat_Ratio_top (by assumption)), rfl, ?_⟩
  | refine ⟨_, _, _, _, _, rfl, (by assumption), K01.clsR (by assumption), He.noat_ok (K01.a_noat_Ratio_bottom (by assumption)), rfl, ?_⟩
  | refine ⟨_, _, rfl, rfl, ?_⟩
  | refine ⟨_, _, rfl, ?_⟩
  | refine And.intro rfl ?_
  | refine L2.iteT ?_
  | refine L2.iteF ?_
  | refine L2.st_ixl (by assumption) (by rfl) ?_
  | refine L2.st_ixt (by assumption) (by rfl) ?_
  | refine L2.st_lenR (L2.lenr_l (by assumption)) ?_
  | refine L2.st_lenGR (L2.lenr_l (by assumption)) ?_
  | refine L2.st_lenGR (L2.lenr_t (by assumption)) ?_
  | refine L2.st_lenR (L2.lenr_t (by assumption)) ?_
  | refine And.intro (by walk_at "side") ?_)
local macro_rules | `(tactic| walk_at "gs") => `(tactic| repeat (walk_at "s2"))
namespace K01
open PySem PySem.Spec PyProof.Rows L2 L2R TL
section
variable {P : Program} {w : World} {K : PySem.W.Frag} {mg : Str → Option Value} {base : Heap}
theorem dec_minus (x : Str) : decide (V.str (cutS x none (some 1)) = V.str "-") = ((tl x).head? == some 45) := by
  have hc : tl (cutS x none (some 1)) = (tl x).take 1 := cut_to x 1
  by_cases h : (tl x).head? = some 45
  · have e : cutS x none (some 1) = Str.ofString "-" := ext_tl (by
      rw [hc]
      cases q : tl x with
      | nil => rw [q] at h; cases h
      | cons a r =>
        rw [q] at h
        rw [show a = 45 by simpa using h] <;> rfl)
    rw [e, decide_eq_true rfl, h] <;> rfl
  · have e : ¬ V.str (cutS x none (some 1)) = V.str "-" := fun z => h (by
      have z2 := congrArg tl (V.str.inj z)
      rw [hc] at z2
      cases q : tl x with
      | nil => rw [q] at z2; cases z2
      | cons a r =>
        rw [q] at z2
        have : [a] = [45] := z2
        have e : a = 45 := by simpa using this
        rw [e] <;> rfl)
    rw [decide_eq_false e]
    symm
    simpa using h
theorem split_pos (x : Str) : 1 ≤ (Txt.split x "/").length := by
  rcases cut_at (tl x) 47 with h | ⟨a, b, e, ha⟩
  · rw [show Txt.split x "/" = [x] from split_none (by decide) h]
    exact Nat.le_refl 1
  · rw [show Txt.split x "/" = (⟨a.toArray⟩ : Str) :: Txt.split (⟨b.toArray⟩ : Str) "/" from split_cons (by decide) e ha, List.length_cons]
    omega
def spNR : Sp := fun vs H Q _ => ∃ x : Str, vs = [.str x] ∧ x.length ≤ 50000 ∧ (∀ p, rdN (tl x) = some p → p.2.natAbs < 2 ^ 8000) ∧ (match rdN (tl x) with | some p => ∀ r H', PT H' r (rlow p.1 p.2) → Same H H' → Q (.ref r) H' | none => ∀ H', Same H H' → Q .non H')
theorem G__law_num_read (T : TL K mg) : FX P w K mg base 2 "_law_num_read" [] spNR := by
  obtain ⟨fd, F⟩ := F__law_num_read T
  refine FX.of F (g__law_num_read T) (F.ok0 sc__law_num_read (fun vs H Q E h => ?_) (fun cdv A outer s H vs Q E hr h => ?_)) (fun _ _ _ _ _ _ us hl => match us, hl with | [_], _ => rfl)
  · obtain ⟨x, rfl, _⟩ := h
    rfl
  · obtain ⟨x, rfl, hl, hB, h⟩ := h
    refine ⟨_, (C8.pss_cut (ps_set (i := 1) sc__law_num_read.nd rfl (by first | exact Or.inl rfl | exact Or.inr rfl) (pe_m1 PySem.F.slot_str_split PySem.F.type_str_split mt_split (pe_ifExp (pt_cmpR op_eq (pe_slice sl_str (pv 0) po_none (po_some pe_int)) pe_str (nomark _)) (pe_slice sl_str (pv 0) (po_some pe_int) po_none) (pv 0)) pe_str))
      (pss_cons (ps_if (pt_cmpR op_gt (pe_callB call_lenG (by rfl) (f_len T) (by decide +kernel) (pa_cons (pv 1) pa_nil)) pe_int (nomark _))
        (pss_one (ps_ret pe_non))
        pss_nil)
      (pss_cons (ps_par (i := 2) (j := 3) (by rfl) sc__law_num_read.nd rfl rfl (by decide) rfl rfl (pa_cons (pe_fx (G__law_int_read T) (hr.mono (by walk_at "lvl")) passL (pa_cons (pe_ix ix_seq (pv 1) pe_int (fun _ _ => rfl)) pa_nil)) (pa_cons (pe_ifExp (pt_cmpR op_eq (pe_callB call_lenG (by rfl) (f_len T) (by decide +kernel) (pa_cons (pv 1) pa_nil)) pe_int (nomark _)) pe_int (pe_fx (G__law_int_read T) (hr.mono (by walk_at "lvl")) passL (pa_cons (pe_ix ix_seq (pv 1) pe_int (fun _ _ => rfl)) pa_nil))) pa_nil)) (by rfl))
      (pss_cons (ps_if (PW.pt (pw_or (pt_cmpR op_isN (pv 2) pe_non (nomark _)) (pw_or (pt_cmpR op_isN (pv 3) pe_non (nomark _)) (pw_or1 (pt_cmpR op_eq (pv 3) pe_int (nomark _))))))
        (pss_one (ps_ret pe_non))
        pss_nil)
      (pss_one (ps_ret (pe_fx (G__law_low T) (hr.mono (by walk_at "lvl")) passL (pa_cons (pe_ifExp (pt_cmpR op_eq (pe_slice sl_str (pv 0) po_none (po_some pe_int)) pe_str (nomark _)) (pe_op op_sub pe_int (pv 2)) (pv 2)) (pa_cons (pv 3) pa_nil))))))))), ?_⟩
    have hs : 100000 ≤ sizeLine := by decide
    have hz2 : x.length ≤ sizeLine := by omega
    have hS := rdS_head (tl x)
    have dm := dec_minus x
    generalize hb : ((tl x).head? == some 45) = b at hS dm
    refine ⟨fun σ' H' => ∃ (D : Str) (r : Addr), σ' = [some (.str x), some (.ref r), none, none] ∧ H' r = some (.lst ((Txt.split D "/").map V.str)) ∧ Same H H' ∧ tl D = (rdS (tl x)).2 ∧ D.length ≤ 50000, ?_, ?_⟩
    · walk_at "go"
      rw [dm]
      cases b with
      | true =>
        have hd : (tl x).head? = some 45 := by simpa using hb
        rw [if_pos hd] at hS
        have hc : tl (cutS x (some 1) none) = (tl x).drop 1 := cut_from x 1
        have lc : (cutS x (some 1) none).length ≤ 50000 := by rw [len_tl, hc, List.length_drop, ← len_tl]; omega
        walk_at "go"
        refine ⟨⟨_, rfl⟩, ?_⟩
        walk_at "go"
        refine fun p np => ⟨_, p, rfl, upd_same, Same.new np, by rw [hS]; exact hc, lc⟩
      | false =>
        have hd : (tl x).head? ≠ some 45 := by simpa using hb
        rw [if_neg hd] at hS
        walk_at "go"
        refine ⟨⟨_, rfl⟩, ?_⟩
        walk_at "go"
        refine fun p np => ⟨_, p, rfl, upd_same, Same.new np, by rw [hS], hl⟩
    · rintro σ' H' ⟨D, r, rfl, hr1, s1, hD, lD⟩
      have hN : rdN (tl x) = rdP b (tl D) := by
        unfold rdN
        rw [hD, hS]
      rw [hN] at h hB
      have lD2 : (tl D).length ≤ 50000 := by rw [← len_tl]; exact lD
      rcases cut_at (tl D) 47 with h47 | ⟨la, lb, eD, hA⟩
      · rw [show Txt.split D "/" = [D] from split_none (by decide) h47] at hr1
        have a1 : H' r = some (.lst [.str D]) := hr1
        rw [rdP_one h47] at h hB
        have lD3 : D.length ≤ 100000 := by omega
        walk_at "go"
        cases eW : rdW (tl D) with
        | none =>
          rw [eW] at h
          intro H1 s2
          have a2 := s2 _ _ a1
          walk_at "go"
          exact h H1 (s1.trans s2)
        | some u =>
          rw [eW] at h
          intro H1 s2
          have a2 := s2 _ _ a1
          walk_at "go"
          rw [dm]
          cases b with
          | true =>
            walk_at "go"
            exact fun r2 H2 hp s3 => h r2 H2 (by show PT H2 r2 (rlow (-(u : Int)) 1); rw [← Int.zero_sub]; exact hp) (s1.trans (s2.trans s3))
          | false =>
            walk_at "go"
            exact fun r2 H2 hp s3 => h r2 H2 hp (s1.trans (s2.trans s3))
      · rw [eD, rdP_two hA] at h hB
        rw [eD, List.length_append, List.length_cons] at lD2
        have lA : (⟨la.toArray⟩ : Str).length ≤ 100000 := by rw [len_tl]; show la.length ≤ _; omega
        have lB : (⟨lb.toArray⟩ : Str).length ≤ 100000 := by rw [len_tl]; show lb.length ≤ _; omega
        have eA : rdW (tl (⟨la.toArray⟩ : Str)) = rdW la := rfl
        have eB : rdW (tl (⟨lb.toArray⟩ : Str)) = rdW lb := rfl
        rw [show Txt.split D "/" = (⟨la.toArray⟩ : Str) :: Txt.split (⟨lb.toArray⟩ : Str) "/" from split_cons (by decide) eD hA] at hr1
        rcases cut_at lb 47 with h47 | ⟨lc, ld, eL, hC⟩
        · rw [show Txt.split (⟨lb.toArray⟩ : Str) "/" = [⟨lb.toArray⟩] from split_none (by decide) h47] at hr1
          have a1 : H' r = some (.lst [.str ⟨la.toArray⟩, .str ⟨lb.toArray⟩]) := hr1
          walk_at "go"
          rw [eA]
          cases eW : rdW la with
          | none =>
            rw [eW] at h
            intro H1 s2
            have a2 := s2 _ _ a1
            walk_at "go"
            rw [eB]
            cases eV : rdW lb with
            | none =>
              intro H2 s3
              walk_at "go"
              exact h H2 (s1.trans (s2.trans s3))
            | some v =>
              intro H2 s3
              walk_at "go"
              exact h H2 (s1.trans (s2.trans s3))
          | some u =>
            rw [eW] at h hB
            intro H1 s2
            have a2 := s2 _ _ a1
            walk_at "go"
            rw [eB]
            cases eV : rdW lb with
            | none =>
              rw [eV] at h
              intro H2 s3
              walk_at "go"
              exact h H2 (s1.trans (s2.trans s3))
            | some v =>
              rw [eV] at h hB
              intro H2 s3
              walk_at "go"
              refine st_if (fun c => ?_) (fun c => ?_)
              · have e0 : v = 0 := by have := V.int.inj c; omega
                subst e0
                walk_at "go"
                exact h H2 (s1.trans (s2.trans s3))
              · have e0 : v ≠ 0 := fun z => c (by rw [z]; rfl)
                have hB' := hB (sgn b u, (v : Int)) (if_neg e0)
                have hv0 : (v : Int) ≠ 0 := by omega
                have h2 : ∀ r H2, PT H2 r (rlow (sgn b u) (v : Int)) → Same H H2 → Q (.ref r) H2 := by
                  have e : (if v = 0 then none else some (sgn b u, (v : Int))) = some (sgn b u, (v : Int)) := if_neg e0
                  have h3 : match (if v = 0 then none else some (sgn b u, (v : Int))) with | some p => ∀ r H2, PT H2 r (rlow p.1 p.2) → Same H H2 → Q (.ref r) H2 | none => ∀ H2, Same H H2 → Q .non H2 := h
                  rw [e] at h3
                  exact h3
                have hv1 : ((v : Nat) : Int).natAbs < 2 ^ 8000 := hB'
                walk_at "go"
                rw [dm]
                cases b with
                | true =>
                  walk_at "go"
                  exact fun r2 H3 hp s4 => h2 r2 H3 (by show PT H3 r2 (rlow (-(u : Int)) v); rw [← Int.zero_sub]; exact hp) (s1.trans (s2.trans (s3.trans s4)))
                | false =>
                  walk_at "go"
                  exact fun r2 H3 hp s4 => h2 r2 H3 hp (s1.trans (s2.trans (s3.trans s4)))
        · have hnone : rdW lb = none := rdW_no (okW_sign (c := 47) (by rw [eL]; simp) (by decide))
          have hk : ∀ H', Same H H' → Q .non H' := by
            rw [hnone] at h
            cases eW : rdW la with
            | none => rw [eW] at h; exact h
            | some u => rw [eW] at h; exact h
          rw [show Txt.split (⟨lb.toArray⟩ : Str) "/" = (⟨lc.toArray⟩ : Str) :: Txt.split (⟨ld.toArray⟩ : Str) "/" from split_cons (by decide) eL hC] at hr1
          have hlen := split_pos ⟨ld.toArray⟩
          generalize Txt.split (⟨ld.toArray⟩ : Str) "/" = rest at hr1 hlen
          cases rest with
          | nil => exact absurd hlen (by decide)
          | cons z zs =>
            have a1 : H' r = some (.lst (V.str ⟨la.toArray⟩ :: V.str ⟨lc.toArray⟩ :: V.str z :: zs.map V.str)) := hr1
            walk_at "go"
            refine st_if (fun c => ?_) (fun c => absurd c ?_)
            · walk_at "go"
              exact hk H' s1
            · simp only [List.length_cons, List.length_map, Classical.not_not]
              omega
end
end K01
end -- a14
section -- a15
set_option Elab.async false
set_option linter.all false
set_option maxRecDepth 100000
set_option maxHeartbeats 4000000
local macro_rules | `(tactic| walk_at "lvl") => `(tactic| first
  | decide
  | omega
  | (simp only [Nat.add_eq]; omega))
local macro_rules | `(tactic| walk_at "side") => `(tactic| first
  | decide
  | assumption
  | omega
  | exact Nat.le_of_ble_eq_true (by rfl)
  | exact ⟨by decide, by decide⟩
  | exact ⟨by decide, by decide, by decide⟩
  | exact Or.inl (Or.inr ⟨by decide, by decide⟩)
  | exact Or.inl (Or.inl ⟨by decide, by decide⟩))
local macro_rules | `(tactic| walk_at "ty") => `(tactic| first
  | assumption
  | exact L2.TyG.x (.base (.int _))
  | exact L2.TyG.x (.base (.str _))
  | exact L2.TyG.x (.base (.bl _))
  | exact L2.TyG.x (.base .non)
  | exact L2.TyG.x (.base (.lst (by assumption)))
  | exact L2.TyG.x (.base (.tup (by assumption)))
  | exact K01.tyR (by assumption) (by assumption)
  | exact L2.TyG.dn (by assumption))
local macro_rules | `(tactic| walk_at "cv") => `(tactic| first
  | exact L2.ClsV.ty _
  | exact L2.ClsV.own _)
local macro_rules | `(tactic| walk_at "kit") => `(tactic| first
  | exact L2.kit_ty (by decide +kernel)
  | exact K01.kR (by assumption) (by decide)
  | exact K01.kR2 (by assumption) (by decide)
  | exact K01.kR3 (by assumption))
local macro_rules | `(tactic| walk_at "s1") => `(tactic| first
  | refine ⟨_, rfl, ?_⟩
  | refine ⟨_, _, _, _, _, rfl, (by assumption), K01.clsR (by assumption), He.noat_ok (K01.a_noat_Ratio_top (by assumption)), rfl, ?_⟩
  | refine ⟨_, _, _, _, _, rfl, (by assumption), K01.clsR (by assumption), He.noat_ok (K01.a_noat_Ratio_bottom (by assumption)), rfl, ?_⟩
  | refine ⟨_, _, rfl, rfl, ?_⟩
  | refine ⟨_, _, rfl, ?_⟩
  | refine And.intro rfl ?_
  | refine L2.iteT ?_
  | refine L2.iteF ?_
  | refine L2.st_ixl (by assumption) (by rfl) ?_
  | refine L2.st_ixt (by assumption) (by rfl) ?_
  | refine L2.st_lenR (L2.lenr_l (by assumption)) ?_
  | refine L2.st_lenGR (L2.lenr_l (by assumption)) ?_
  | refine L2.st_lenGR (L2.lenr_t (by assumption)) ?_
  | refine L2.st_lenR (L2.lenr_t (by assumption)) ?_
  | refine L2.st_isG (b := false) (by walk_at "ty") (by walk_at "cv") (by walk_at "kit") ?_
  | refine L2.st_isG (b := true) (by walk_at "ty") (by walk_at "cv") (by walk_at "kit") ?_
  | refine And.intro (by walk_at "side") ?_)
local macro_rules | `(tactic| walk_at "go") => `(tactic| repeat (walk_at "s1"))
local macro_rules | `(tactic| walk_at "s2") => `(tactic| first
  | refine ⟨_, rfl, ?_⟩
  | refine ⟨_, _, _, _, _, rfl, (by assumption), K01.clsR (by assumption), He.noat_ok (K01.a_noat_Ratio_top (by assumption)), rfl, ?_⟩
  | refine ⟨_, _, _, _, _, rfl, (by assumption), K01.clsR (by assumption), He.noat_ok (K01.a_noat_Ratio_bottom (by assumption)), rfl, ?_⟩
  | refine ⟨_, _, rfl, rfl, ?_⟩
  | refine ⟨_, _, rfl, ?_⟩
  | refine And.intro rfl ?_
  | refine L2.iteT ?_
  | refine L2.iteF ?_
  | refine L2.st_ixl (by assumption) (by rfl) ?_
  | refine L2.st_ixt (by assumption) (by rfl) ?_
  | refine L2.st_lenR (L2.lenr_l (by assumption)) ?_
  | refine L2.st_lenGR (L2.lenr_l (by assumption)) ?_
  | refine L2.st_lenGR (L2.lenr_t (by assumption)) ?_
  | refine L2.st_lenR (L2.lenr_t (by assumption)) ?_
  | refine And.intro (by walk_at "side") ?_)
local macro_rules | `(tactic| walk_at "gs") => `(tactic| repeat (walk_at "s2"))
namespace K01
open PySem PySem.Spec PyProof.Rows L2 L2R TL
section
variable {P : Program} {w : World} {K : PySem.W.Frag} {mg : Str → Option Value} {base : Heap}
theorem st_ofI {b l : Addr} {H : Hp} {xs : List V} {Q : VK} {E : XK} (hB : BagAt b l H) (hne : xs ≠ []) (hl : xs.length < 1000) (k : ∀ x H', x ∈ xs → BagAt b l H' → Ext b H H' → Q x H') : ∀ t, H t = none → spOf K [.ref b, .ref t] (upd H t (.lst xs)) Q E :=
  fun t nt => .inl ⟨b, l, t, xs, rfl, hB.new nt, .inl (SqL.of upd_same), notB hB nt, hne, hl, fun x H' hx hB' x' => k x H' hx hB' ((Ext.new nt).trans x')⟩
def spDigB : Sp := fun vs H Q _ => ∃ (b l : Addr) (cap : Nat), vs = [.ref b, .int (cap : Int)] ∧ BagAt b l H ∧ 1 ≤ cap ∧ cap < 1000 ∧ ∀ (m : Nat) (H' : Hp), m < 10 ^ cap → BagAt b l H' → Ext b H H' → Q (.int (m : Int)) H'
theorem G__law_digitsB (T : TL K mg) : FX P w K mg base 2 "_law_digits" [] spDigB := by
  obtain ⟨fd, F⟩ := F__law_digits T
  refine FX.of F (g__law_digits T) (F.ok0 sc__law_digits (fun vs H Q E h => ?_) (fun cdv A outer s H vs Q E hr h => ?_)) (fun _ _ _ _ _ _ us hl => match us, hl with | [_, _], _ => rfl)
  · obtain ⟨b, l, cap, rfl, _⟩ := h
    rfl
  · obtain ⟨b, l, cap, rfl, hB, h1, h2, k⟩ := h
    refine ⟨_, (pss_cons (ps_set (i := 2) sc__law_digits.nd rfl (by first | exact Or.inl rfl | exact Or.inr rfl) pe_int)
      (pss_cons (ps_for PassesOwn.never rfl (pi_range1 rfl (f_range T) (pa_cons (pe_op op_addG pe_int (pe_fx (G__law_draw T) (hr.mono (by walk_at "lvl")) passL (pa_cons (pv 0) (pa_cons (pv 1) pa_nil)))) pa_nil)) (pg_name (i := 3) sc__law_digits.nd rfl (by first | exact Or.inl rfl | exact Or.inr rfl))
        (pss_one (ps_set (i := 2) sc__law_digits.nd rfl (by first | exact Or.inl rfl | exact Or.inr rfl) (pe_op op_addG (pe_op op_mulI (pv 2) pe_int) (pe_fx (G__law_draw T) (hr.mono (by walk_at "lvl")) passL (pa_cons (pv 0) (pa_cons pe_int pa_nil)))))))
      (pss_one (ps_ret (pv 2))))), ?_⟩
    walk_at "go"
    refine ⟨b, l, (cap : Int), rfl, hB, by omega, fun d H1 d0 d1 hB1 x1 => ?_⟩
    walk_at "go"
    refine for_range (lo := 0) (fun i σ H' => ∃ (m : Int) (kv : Option V), σ = [some (.ref b), some (.int cap), some (.int m), kv] ∧ 0 ≤ m ∧ m.toNat < 10 ^ i ∧ BagAt b l H' ∧ Ext b H H') ⟨0, none, rfl, by decide, by decide, hB1, x1⟩ ?_ ?_
    · rintro i σ H' hi ⟨m, kv, rfl, m0, hm, hB2, x2⟩
      walk_at "go"
      refine ⟨b, l, 10, rfl, hB2, by decide, fun d2 H2 e0 e1 hB3 x3 => ?_⟩
      walk_at "go"
      exact x2.trans x3
    · rintro σ H' ⟨m, kv, rfl, m0, hm, hB2, x2⟩
      walk_at "go"
      have e : ((m.toNat : Nat) : Int) = m := by omega
      have kk := k m.toNat H' (Nat.lt_of_lt_of_le hm (Nat.pow_le_pow_right (by decide) (by omega))) hB2 x2
      rw [e] at kk
      exact kk
theorem p40 : 10 ^ 40 < 2 ^ 133 := by decide
theorem bnS {i : Int} (h : i.natAbs < 10000000000) : i.natAbs < 2 ^ 140 := Nat.lt_trans h (by decide)
theorem bnM {m : Nat} (h : m < 10 ^ 40 + 2) : m < 2 ^ 140 := Nat.lt_trans h (by decide)
theorem cmG {i j : Int} (hi : i.natAbs < 2 ^ 140) (hj : j.natAbs < 2 ^ 140) : CMulG i j := mulG (a := 140) (b := 140) hi hj (by decide)
theorem sgnM {s : Int} (h : s = 1 ∨ s = 0 - 1) (m : Int) : (s * m).natAbs = m.natAbs ∧ (m ≠ 0 → s * m ≠ 0) := by
  rcases h with rfl | rfl
  · rw [Int.one_mul]
    exact ⟨rfl, id⟩
  · have e : (0 - 1 : Int) * m = -m := by omega
    rw [e]
    exact ⟨Int.natAbs_neg m, fun h => by omega⟩
theorem pm1 {x : V} (h : x ∈ [V.int 1, V.int (0 - 1)]) : ∃ s : Int, x = .int s ∧ (s = 1 ∨ s = 0 - 1) := by
  rcases List.mem_cons.mp h with rfl | h
  · exact ⟨1, rfl, .inl rfl⟩
  · exact ⟨_, List.mem_singleton.mp h, .inr rfl⟩
/-- a pair that writes a number -/
def spPair : Sp := fun vs H Q _ => ∃ (b l : Addr), vs = [.ref b] ∧ BagAt b l H ∧ ∀ (r : Addr) (t d : Int) (H' : Hp), PT H' r (t, d) → H r = none → d ≠ 0 → Bn 140 (t, d) → BagAt b l H' → Ext b H H' → Q (.ref r) H'
theorem G__law_pair (T : TL K mg) : FX P w K mg base 3 "_law_pair" [] spPair := by
  obtain ⟨fd, F⟩ := F__law_pair T
  refine FX.of F (g__law_pair T) (F.ok0 sc__law_pair (fun vs H Q E h => ?_) (fun cdv A outer s H vs Q E hr h => ?_)) (fun _ _ _ _ _ _ us hl => match us, hl with | [_], _ => rfl)
  · obtain ⟨b, l, rfl, _⟩ := h
    rfl
  · obtain ⟨b, l, rfl, hB, k⟩ := h
    refine ⟨_, (pss_cons (ps_set (i := 1) sc__law_pair.nd rfl (by first | exact Or.inl rfl | exact Or.inr rfl) (pe_fx (G__law_draw T) (hr.mono (by walk_at "lvl")) passL (pa_cons (pv 0) (pa_cons pe_int pa_nil))))
      (pss_cons (ps_if (pt_cmpR op_eq (pv 1) pe_int (nomark _))
        (pss_one (ps_ret (pe_tup (pa_cons (pe_op op_sub (pe_fx (G__law_draw T) (hr.mono (by walk_at "lvl")) passL (pa_cons (pv 0) (pa_cons pe_int pa_nil))) pe_int) (pa_cons (pe_fx (G__law_of T) (hr.mono (by walk_at "lvl")) passL (pa_cons (pv 0) (pa_cons (pe_lst (pa_cons pe_int (pa_cons pe_int (pa_cons (pe_op op_sub pe_int pe_int) (pa_cons pe_int (pa_cons (pe_op op_sub pe_int pe_int) (pa_cons pe_int pa_nil))))))) pa_nil))) pa_nil)))))
        pss_nil)
      (pss_cons (ps_if (pt_cmpR op_eq (pv 1) pe_int (nomark _))
        (pss_one (ps_ret (pe_tup (pa_cons (pe_op op_mulI (pe_fx (G__law_of T) (hr.mono (by walk_at "lvl")) passL (pa_cons (pv 0) (pa_cons (pe_lst (pa_cons pe_int (pa_cons (pe_op op_sub pe_int pe_int) pa_nil))) pa_nil))) (pe_fx (G__law_digitsB T) (hr.mono (by walk_at "lvl")) passL (pa_cons (pv 0) (pa_cons pe_int pa_nil)))) (pa_cons (pe_op op_mulI (pe_fx (G__law_of T) (hr.mono (by walk_at "lvl")) passL (pa_cons (pv 0) (pa_cons (pe_lst (pa_cons pe_int (pa_cons (pe_op op_sub pe_int pe_int) pa_nil))) pa_nil))) (pe_op op_addG pe_int (pe_fx (G__law_digitsB T) (hr.mono (by walk_at "lvl")) passL (pa_cons (pv 0) (pa_cons pe_int pa_nil))))) pa_nil)))))
        pss_nil)
      (pss_cons (ps_set (i := 2) sc__law_pair.nd rfl (by first | exact Or.inl rfl | exact Or.inr rfl) (pe_op op_mulI (pe_fx (G__law_of T) (hr.mono (by walk_at "lvl")) passL (pa_cons (pv 0) (pa_cons (pe_lst (pa_cons pe_int (pa_cons (pe_op op_sub pe_int pe_int) pa_nil))) pa_nil))) (pe_op op_addG pe_int (pe_fx (G__law_digitsB T) (hr.mono (by walk_at "lvl")) passL (pa_cons (pv 0) (pa_cons pe_int pa_nil))))))
      (pss_one (ps_ret (pe_tup (pa_cons (pe_op op_mulI (pe_op op_sub (pe_fx (G__law_draw T) (hr.mono (by walk_at "lvl")) passL (pa_cons (pv 0) (pa_cons pe_int pa_nil))) pe_int) (pv 2)) (pa_cons (pe_op op_mulI (pe_op op_addG pe_int (pe_fx (G__law_draw T) (hr.mono (by walk_at "lvl")) passL (pa_cons (pv 0) (pa_cons pe_int pa_nil)))) (pv 2)) pa_nil))))))))), ?_⟩
    have fin : ∀ (t d : Int) (H1 : Hp), d ≠ 0 → Bn 140 (t, d) → BagAt b l H1 → Ext b H H1 → ∀ r, H1 r = none → Q (.ref r) (upd H1 r (.tup [.int t, .int d])) := fun t d H1 hd hb hB1 x1 r nr =>
      k r t d _ upd_same (extDom hB1 x1 nr) hd hb (hB1.new nr) (x1.trans (Ext.new nr))
    walk_at "go"
    refine ⟨b, l, 4, rfl, hB, by decide, fun d H1 d0 d1 hB1 x1 => ?_⟩
    walk_at "go"
    refine st_if (fun c => ?_) (fun c => ?_)
    · walk_at "go"
      refine ⟨b, l, 9, rfl, hB1, by decide, fun d2 H2 e0 e1 hB2 x2 => ?_⟩
      walk_at "go"
      refine st_ofI hB2 (by simp) (by decide) fun x H3 hx hB3 x3 => ?_
      have key : ∃ d : Int, x = .int d ∧ d ≠ 0 ∧ d.natAbs < 10 := by
        simp only [List.mem_cons, List.not_mem_nil, or_false] at hx
        rcases hx with rfl | rfl | rfl | rfl | rfl | rfl
        all_goals exact ⟨_, rfl, by decide, by decide⟩
      obtain ⟨dd, rfl, hd, hd2⟩ := key
      walk_at "go"
      exact fin _ _ H3 hd ⟨bnS (by omega), bnS (by omega)⟩ hB3 (x1.trans (x2.trans x3))
    · walk_at "go"
      refine st_if (fun c2 => ?_) (fun c2 => ?_)
      · walk_at "go"
        refine st_ofI hB1 (by simp) (by decide) fun x H2 hx hB2 x2 => ?_
        obtain ⟨s1, rfl, hs1⟩ := pm1 hx
        walk_at "go"
        refine ⟨b, l, 40, rfl, hB2, by decide, by decide, fun m H3 hm hB3 x3 => ?_⟩
        have hm2 : ((m : Nat) : Int).natAbs < 2 ^ 140 := bnM (Nat.lt_trans hm (by decide))
        have hs2 : s1.natAbs < 2 ^ 140 := bnS (by omega)
        have cm1 : CMulG s1 (m : Int) := cmG hs2 hm2
        walk_at "go"
        refine st_ofI hB3 (by simp) (by decide) fun y H4 hy hB4 x4 => ?_
        obtain ⟨s2, rfl, hs3⟩ := pm1 hy
        walk_at "go"
        refine ⟨b, l, 39, rfl, hB4, by decide, by decide, fun n H5 hn hB5 x5 => ?_⟩
        have hn3 : n < 10 ^ 40 := Nat.lt_trans hn (by decide)
        have hn2 : (1 + (n : Int)).natAbs < 2 ^ 140 := by
          have : (1 + (n : Int)).natAbs = n + 1 := by omega
          rw [this]
          exact bnM (by omega)
        have cm2 : CMulG s2 (1 + (n : Int)) := cmG (bnS (by omega)) hn2
        walk_at "go"
        exact fin _ _ H5 ((sgnM hs3 _).2 (by omega)) ⟨by show (s1 * (m : Int)).natAbs < _; rw [(sgnM hs1 _).1]; exact hm2, by show (s2 * (1 + (n : Int))).natAbs < _; rw [(sgnM hs3 _).1]; exact hn2⟩ hB5 (x1.trans (x2.trans (x3.trans (x4.trans x5))))
      · walk_at "go"
        refine st_ofI hB1 (by simp) (by decide) fun x H2 hx hB2 x2 => ?_
        obtain ⟨s1, rfl, hs1⟩ := pm1 hx
        walk_at "go"
        refine ⟨b, l, 6, rfl, hB2, by decide, by decide, fun m H3 hm hB3 x3 => ?_⟩
        have hm2 : (1 + (m : Int)).natAbs ≤ 1000000 := by omega
        have cm1 : CMulG s1 (1 + (m : Int)) := cmG (bnS (by omega)) (bnS (by omega))
        have hby := (sgnM hs1 (1 + (m : Int))).1
        have hb0 := (sgnM hs1 (1 + (m : Int))).2 (by omega)
        walk_at "go"
        refine ⟨b, l, 25, rfl, hB3, by decide, fun e1 H4 e0 e2 hB4 x4 => ?_⟩
        have cm2 : CMulG (e1 - 12) (s1 * (1 + (m : Int))) := cmG (bnS (by omega)) (bnS (by omega))
        have z1 : ((e1 - 12) * (s1 * (1 + (m : Int)))).natAbs < 10000000000 := by
          rw [Int.natAbs_mul]
          exact Nat.lt_of_le_of_lt (Nat.mul_le_mul (show (e1 - 12).natAbs ≤ 100 by omega) (show (s1 * (1 + (m : Int))).natAbs ≤ 1000000 by omega)) (by decide)
        walk_at "go"
        refine ⟨b, l, 12, rfl, hB4, by decide, fun f1 H5 f0 f2 hB5 x5 => ?_⟩
        have cm3 : CMulG (1 + f1) (s1 * (1 + (m : Int))) := cmG (bnS (by omega)) (bnS (by omega))
        have z2 : ((1 + f1) * (s1 * (1 + (m : Int)))).natAbs < 10000000000 := by
          rw [Int.natAbs_mul]
          exact Nat.lt_of_le_of_lt (Nat.mul_le_mul (show (1 + f1).natAbs ≤ 100 by omega) (show (s1 * (1 + (m : Int))).natAbs ≤ 1000000 by omega)) (by decide)
        walk_at "go"
        exact fin _ _ H5 (Int.mul_ne_zero (by omega) hb0) ⟨bnS z1, bnS z2⟩ hB5 (x1.trans (x2.trans (x3.trans (x4.trans x5))))
end
end K01
end -- a15
section -- a16
set_option Elab.async false
set_option linter.all false
set_option maxRecDepth 100000
set_option maxHeartbeats 4000000
local macro_rules | `(tactic| walk_at "lvl") => `(tactic| first
  | decide
  | omega
  | (simp only [Nat.add_eq]; omega))
local macro_rules | `(tactic| walk_at "side") => `(tactic| first
  | decide
  | assumption
  | omega
  | exact Nat.le_of_ble_eq_true (by rfl)
  | exact ⟨by decide, by decide⟩
  | exact ⟨by decide, by decide, by decide⟩
  | exact Or.inl (Or.inr ⟨by decide, by decide⟩)
  | exact Or.inl (Or.inl ⟨by decide, by decide⟩))
local macro_rules | `(tactic| walk_at "ty") => `(tactic| first
  | assumption
  | exact L2.TyG.x (.base (.int _))
  | exact L2.TyG.x (.base (.str _))
  | exact L2.TyG.x (.base (.bl _))
  | exact L2.TyG.x (.base .non)
  | exact L2.TyG.x (.base (.lst (by assumption)))
  | exact L2.TyG.x (.base (.tup (by assumption)))
  | exact K01.tyR (by assumption) (by assumption)
  | exact L2.TyG.dn (by assumption))
local macro_rules | `(tactic| walk_at "cv") => `(tactic| first
  | exact L2.ClsV.ty _
  | exact L2.ClsV.own _)
local macro_rules | `(tactic| walk_at "kit") => `(tactic| first
  | exact L2.kit_ty (by decide +kernel)
  | exact K01.kR (by assumption) (by decide)
  | exact K01.kR2 (by assumption) (by decide)
  | exact K01.kR3 (by assumption))
local macro_rules | `(tactic| walk_at "s1") => `(tactic| first
  | refine ⟨_, rfl, ?_⟩
  | refine ⟨_, _, _, _, _, rfl, (by assumption), K01.clsR (by assumption), He.noat_ok (K01.a_noat_Ratio_top (by assumption)), rfl, ?_⟩
  | refine ⟨_, _, _, _, _, rfl, (by assumption), K01.clsR (by assumption), He.noat_ok (K01.a_noat_Ratio_bottom (by assumption)), rfl, ?_⟩
  | refine ⟨_, _, rfl, rfl, ?_⟩
  | refine ⟨_, _, rfl, ?_⟩
  | refine And.intro rfl ?_
  | refine L2.iteT ?_
  | refine L2.iteF ?_
  | refine L2.st_ixl (by assumption) (by rfl) ?_
  | refine L2.st_ixt (by assumption) (by rfl) ?_
  | refine L2.st_lenR (L2.lenr_l (by assumption)) ?_
  | refine L2.st_lenGR (L2.lenr_l (by assumption)) ?_
  | refine L2.st_lenGR (L2.lenr_t (by assumption)) ?_
  | refine L2.st_lenR (L2.lenr_t (by assumption)) ?_
  | refine L2.st_isG (b := false) (by walk_at "ty") (by walk_at "cv") (by walk_at "kit") ?_
  | refine L2.st_isG (b := true) (by walk_at "ty") (by walk_at "cv") (by walk_at "kit") ?_
  | refine And.intro (by walk_at "side") ?_)
local macro_rules | `(tactic| walk_at "go") => `(tactic| repeat (walk_at "s1"))
local macro_rules | `(tactic| walk_at "s2") => `(tactic| first
  | refine ⟨_, rfl, ?_⟩
  | refine ⟨_, _, _, _, _, rfl, (by assumption), K01.clsR (by assumption), He.noat_ok (K01.a_noat_Ratio_top (by assumption)), rfl, ?_⟩
  | refine ⟨_, _, _, _, _, rfl, (by assumption), K01.clsR (by assumption), He.noat_ok (K01.a_noat_Ratio_bottom (by assumption)), rfl, ?_⟩
  | refine ⟨_, _, rfl, rfl, ?_⟩
  | refine ⟨_, _, rfl, ?_⟩
  | refine And.intro rfl ?_
  | refine L2.iteT ?_
  | refine L2.iteF ?_
  | refine L2.st_ixl (by assumption) (by rfl) ?_
  | refine L2.st_ixt (by assumption) (by rfl) ?_
  | refine L2.st_lenR (L2.lenr_l (by assumption)) ?_
  | refine L2.st_lenGR (L2.lenr_l (by assumption)) ?_
  | refine L2.st_lenGR (L2.lenr_t (by assumption)) ?_
  | refine L2.st_lenR (L2.lenr_t (by assumption)) ?_
  | refine And.intro (by walk_at "side") ?_)
local macro_rules | `(tactic| walk_at "gs") => `(tactic| repeat (walk_at "s2"))
namespace K01
open PySem PySem.Spec PyProof.Rows L2 L2R TL
section
variable {P : Program} {w : World} {K : PySem.W.Frag} {mg : Str → Option Value} {base : Heap}
theorem truF (T : TL K mg) : PySem.W.findIn K (.ref (RC K)) "__bool__" = some none ∧ PySem.W.findIn K (.ref (RC K)) "__len__" = some none := by
  have h := (exA T).2.2.2.2.2.2.2.2.1
  unfold exT at h
  simp only [Bool.and_eq_true] at h
  exact ⟨He.eqO_ok h.1, He.eqO_ok h.2⟩
theorem spInt_s {z : Str} {H : Hp} {Q : VK} {E : XK} (q : Q (.bl false) H) : spInt K w [.str z] H Q E := by
  unfold spInt
  exact ⟨_, _, rfl, .x (.base (.str _)), .inl ⟨"str", by decide, rfl, q⟩⟩
theorem spInt_l {a : Addr} {xs : List V} {H : Hp} {Q : VK} {E : XK} (h : H a = some (.lst xs)) (q : Q (.bl false) H) : spInt K w [.ref a] H Q E := by
  unfold spInt
  exact ⟨_, _, rfl, .x (.base (.lst h)), .inl ⟨"list", by decide, rfl, q⟩⟩
theorem spInt_t {a : Addr} {xs : List V} {H : Hp} {Q : VK} {E : XK} (h : H a = some (.tup xs)) (q : Q (.bl false) H) : spInt K w [.ref a] H Q E := by
  unfold spInt
  exact ⟨_, _, rfl, .x (.base (.tup h)), .inl ⟨"tuple", by decide, rfl, q⟩⟩
/-- values without parts that are alike -/
def Lk1 (x y : V) : Prop := (∃ z, x = .str z ∧ y = .str z) ∨ (∃ b, x = .bl b ∧ y = .bl b) ∨ ∃ i, x = .int i ∧ y = .int i
/-- .. or a Ratio and its pair -/
def LkV (K : PySem.W.Frag) (H : Hp) (x y : V) : Prop := Lk1 x y ∨ ∃ (a c : Addr) (p : Int × Int), x = .ref a ∧ y = .ref c ∧ RAt K H a p ∧ PT H c p
theorem LkV.same {H H' : Hp} {x y : V} (h : LkV K H x y) (e : Same H H') : LkV K H' x y := by
  rcases h with h | ⟨a, c, p, h1, h2, h3, h4⟩
  · exact .inl h
  · exact .inr ⟨a, c, p, h1, h2, h3.same e, h4.same e⟩
inductive LkL (K : PySem.W.Frag) (H : Hp) : List V → List V → Prop
  | nil : LkL K H [] []
  | cons {x y : V} {xs ys : List V} (h : LkV K H x y) (r : LkL K H xs ys) : LkL K H (x :: xs) (y :: ys)
theorem LkL.len {H : Hp} {xs ys : List V} (h : LkL K H xs ys) : xs.length = ys.length := by
  induction h with
  | nil => rfl
  | cons _ _ ih => rw [List.length_cons, List.length_cons, ih]
theorem LkL.get {H : Hp} {xs ys : List V} (h : LkL K H xs ys) : ∀ {i : Nat} {x y : V}, xs[i]? = some x → ys[i]? = some y → LkV K H x y := by
  induction h with
  | nil => intro i x y h1; simp at h1
  | cons h0 r ih =>
    intro i x y h1 h2
    cases i with
    | zero =>
      rw [← Option.some.inj h1, ← Option.some.inj h2]
      exact h0
    | succ j => exact ih h1 h2
def spLk (K : PySem.W.Frag) (r : Nat) : Sp := fun vs H Q _ => ∃ x y, vs = [x, y] ∧ ((1 ≤ r ∧ Lk1 x y) ∨ (2 ≤ r ∧ LkV K H x y) ∨ (3 ≤ r ∧ ∃ (a c : Addr) (xs ys : List V), x = .ref a ∧ y = .ref c ∧ H a = some (.lst xs) ∧ H c = some (.lst ys) ∧ LkL K H xs ys ∧ xs.length ≤ 20)) ∧ ∀ H', Same H H' → Q (.bl true) H'
theorem G_like (T : TL K mg) : ∀ r : Nat, FX P w K mg base (r + 2) "_law_like" [] (spLk K r)
  | 0 => by
    obtain ⟨fd, F⟩ := F__law_like T
    refine FX.of (ps := ["told", "due"]) F (g__law_like T) ⟨fun vs H Q E h => ?_, fun A outer s H args us vs Q E hr e0 hb hv h => ?_⟩ (fun _ _ _ _ _ _ us hl => match us, hl with | [_, _], _ => rfl)
    · obtain ⟨x, y, rfl, _⟩ := h
      rfl
    · obtain ⟨x, y, _, ⟨h, _⟩ | ⟨h, _⟩ | ⟨h, _⟩, _⟩ := h <;> omega
  | r + 1 => by
    have R := G_like T r
    obtain ⟨fd, F⟩ := F__law_like T
    refine FX.of F (g__law_like T) (F.ok0 sc__law_like (fun vs H Q E h => ?_) (fun cdv A outer s H vs Q E hr h => ?_)) (fun _ _ _ _ _ _ us hl => match us, hl with | [_, _], _ => rfl)
    · obtain ⟨x, y, rfl, _⟩ := h
      rfl
    · refine ⟨_, (pss_cons (ps_if (pt_cmpR op_isN (pv 1) pe_non (nomark _))
        (pss_one (ps_ret (pe_cmpR op_isN (pv 0) pe_non (nomark _))))
        pss_nil)
      (pss_cons (ps_if (pt_val (pe_callB call_isG (by rfl) (f_isinstance T) (by decide +kernel) (pa_cons (pv 1) (pa_cons (pe_bty (n := "bool") (f_bool T) (by decide +kernel)) pa_nil))))
        (pss_one (ps_ret (pe_and (pe_callB call_isG (by rfl) (f_isinstance T) (by decide +kernel) (pa_cons (pv 0) (pa_cons (pe_bty (n := "bool") (f_bool T) (by decide +kernel)) pa_nil))) (pe_one (pe_cmpR op_eq (pv 0) (pv 1) (nomark _))))))
        pss_nil)
      (pss_cons (ps_if (pt_val (pe_fx (G__law_int T) (hr.mono (by walk_at "lvl")) passL (pa_cons (pv 1) pa_nil)))
        (pss_one (ps_ret (pe_and (pe_fx (G__law_int T) (hr.mono (by walk_at "lvl")) passL (pa_cons (pv 0) pa_nil)) (pe_one (pe_cmpR op_eq (pv 0) (pv 1) (nomark _))))))
        pss_nil)
      (pss_cons (ps_if (pt_val (pe_callB call_isG (by rfl) (f_isinstance T) (by decide +kernel) (pa_cons (pv 1) (pa_cons (pe_bty (n := "str") (f_str T) (by decide +kernel)) pa_nil))))
        (pss_one (ps_ret (pe_and (pe_callB call_isG (by rfl) (f_isinstance T) (by decide +kernel) (pa_cons (pv 0) (pa_cons (pe_bty (n := "str") (f_str T) (by decide +kernel)) pa_nil))) (pe_one (pe_cmpR op_eq (pv 0) (pv 1) (nomark _))))))
        pss_nil)
      (pss_cons (ps_if (PW.pt (pw_and (pt_val (pe_callB call_isG (by rfl) (f_isinstance T) (by decide +kernel) (pa_cons (pv 1) (pa_cons (pe_bty (n := "tuple") (f_tuple T) (by decide +kernel)) pa_nil)))) (pw_and (pt_cmpR op_eq (pe_callB call_lenGN (by rfl) (f_len T) (by decide +kernel) (pa_cons (pv 1) pa_nil)) pe_int (nomark _)) (pw_and (pt_val (pe_fx (G__law_int T) (hr.mono (by walk_at "lvl")) passL (pa_cons (pe_ix ix_seq (pv 1) pe_int (fun _ _ => rfl)) pa_nil))) (pw_and1 (pt_val (pe_fx (G__law_int T) (hr.mono (by walk_at "lvl")) passL (pa_cons (pe_ix ix_seq (pv 1) pe_int (fun _ _ => rfl)) pa_nil))))))))
        (pss_one (ps_ret (pe_and (pe_callB call_isG (by rfl) (f_isinstance T) (by decide +kernel) (pa_cons (pv 0) (pa_cons (pe_gr (g_Ratio T)) pa_nil))) (pe_and (pe_fx R (hr.mono (by walk_at "lvl")) passL (pa_cons (pe_fld (pv 0) rfl) (pa_cons (pe_ix ix_seq (pv 1) pe_int (fun _ _ => rfl)) pa_nil))) (pe_one (pe_fx R (hr.mono (by walk_at "lvl")) passL (pa_cons (pe_fld (pv 0) rfl) (pa_cons (pe_ix ix_seq (pv 1) pe_int (fun _ _ => rfl)) pa_nil))))))))
        pss_nil)
      (pss_cons (ps_if (PW.pt (pw_or (PW.pt (pw_and (pt_val (pe_callB call_isG (by rfl) (f_isinstance T) (by decide +kernel) (pa_cons (pv 1) (pa_cons (pe_bty (n := "list") (f_list T) (by decide +kernel)) pa_nil)))) (pw_and1 (pt_not (pt_val (pe_callB call_isG (by rfl) (f_isinstance T) (by decide +kernel) (pa_cons (pv 0) (pa_cons (pe_bty (n := "list") (f_list T) (by decide +kernel)) pa_nil)))))))) (pw_or1 (PW.pt (pw_and (pt_val (pe_callB call_isG (by rfl) (f_isinstance T) (by decide +kernel) (pa_cons (pv 1) (pa_cons (pe_bty (n := "tuple") (f_tuple T) (by decide +kernel)) pa_nil)))) (pw_and1 (pt_not (pt_val (pe_callB call_isG (by rfl) (f_isinstance T) (by decide +kernel) (pa_cons (pv 0) (pa_cons (pe_bty (n := "tuple") (f_tuple T) (by decide +kernel)) pa_nil)))))))))))
        (pss_one (ps_ret pe_bl))
        pss_nil)
      (pss_one (ps_ret (pe_and (pe_cmpR op_eq (pe_callB call_lenGN (by rfl) (f_len T) (by decide +kernel) (pa_cons (pv 0) pa_nil)) (pe_callB call_lenGN (by rfl) (f_len T) (by decide +kernel) (pa_cons (pv 1) pa_nil)) (nomark _)) (pe_one (pe_callB (cr_all rfl) (by rfl) (f_all T) (by decide +kernel) (pa_cons (pe_lc (own := [("a", 2), ("b", 3)]) (g := gTup K 2 (gCons (gName 2) (gCons (gName 3) gNil))) (tt := tYes) rfl sc__law_like.nd (RZ.pi_zipA (by rfl) (f_zip T) (pa_cons (pv 0) (pa_cons (pv 1) pa_nil))) (blkOk_by (N := N__law_like) (sc := defScope s__law_like) (by decide +kernel)) (fun _ _ _ _ _ => pg_tup rfl (pgs_cons (pg_name (i := 2) sc__law_like.nd rfl (Or.inl rfl)) (pgs_cons (pg_name (i := 3) sc__law_like.nd rfl (Or.inl rfl)) pgs_nil))) (fun _ _ _ _ _ => pts_nil) (fun _ _ _ _ _ => (pe_fx R (hr.mono (by walk_at "lvl")) passL (pa_cons (pv 2) (pa_cons (pv 3) pa_nil))))) pa_nil)))))))))))), ?_⟩
      obtain ⟨x, y, rfl, h, k⟩ := h
      have k0 : Q (.bl true) H := k H (Same.refl H)
      have one : ∀ x y, Lk1 x y ∨ (∃ (a c : Addr) (p : Int × Int), 2 ≤ r + 1 ∧ x = .ref a ∧ y = .ref c ∧ RAt K H a p ∧ PT H c p) ∨ (3 ≤ r + 1 ∧ ∃ (a c : Addr) (xs ys : List V), x = .ref a ∧ y = .ref c ∧ H a = some (.lst xs) ∧ H c = some (.lst ys) ∧ LkL K H xs ys ∧ xs.length ≤ 20) → True := fun _ _ _ => trivial
      have h' : Lk1 x y ∨ (∃ (a c : Addr) (p : Int × Int), 2 ≤ r + 1 ∧ x = .ref a ∧ y = .ref c ∧ RAt K H a p ∧ PT H c p) ∨ (3 ≤ r + 1 ∧ ∃ (a c : Addr) (xs ys : List V), x = .ref a ∧ y = .ref c ∧ H a = some (.lst xs) ∧ H c = some (.lst ys) ∧ LkL K H xs ys ∧ xs.length ≤ 20) := by
        rcases h with ⟨_, h⟩ | ⟨h2, h | ⟨a, c, p, h⟩⟩ | h
        · exact .inl h
        · exact .inl h
        · exact .inr (.inl ⟨a, c, p, h2, h⟩)
        · exact .inr (.inr h)
      clear h one
      rcases h' with (⟨z, rfl, rfl⟩ | ⟨z, rfl, rfl⟩ | ⟨z, rfl, rfl⟩) | ⟨a, c, p, h2, rfl, rfl, ⟨dx, ha⟩, hc⟩ | ⟨h3, a, c, xs, ys, rfl, rfl, ha, hc, hL, hl⟩
      · walk_at "go"
        refine spInt_s ?_
        walk_at "go"
        exact qd rfl k0
      · walk_at "go"
        exact qd rfl k0
      · walk_at "go"
        refine spInt_i ?_
        walk_at "go"
        refine spInt_i ?_
        walk_at "go"
        exact qd rfl k0
      · have hc' : H c = some (.tup [.int p.1, .int p.2]) := hc
        have ty := tyR (w := w) T ha
        have k3 := kR3 T
        walk_at "go"
        refine spInt_t hc' ?_
        walk_at "go"
        refine spInt_i ?_
        walk_at "go"
        refine spInt_i ?_
        walk_at "go"
        refine ⟨.inl ⟨by omega, .inr (.inr ⟨p.1, rfl, rfl⟩)⟩, fun H1 s1 => ?_⟩
        have ha1 := s1 _ _ ha
        have hc1 := s1 _ _ hc'
        walk_at "go"
        exact ⟨.inl ⟨by omega, .inr (.inr ⟨p.2, rfl, rfl⟩)⟩, fun H2 s2 => k H2 (s1.trans s2)⟩
      · walk_at "go"
        refine spInt_l hc ?_
        walk_at "go"
        refine st_if (fun z => ?_) (fun z => absurd (by rw [hL.len]) z)
        walk_at "go"
        refine ⟨a, c, xs, ys, rfl, .inl ⟨SqL.of ha, SqL.of hc, ?_⟩⟩
        intro D nD
        refine lc_zipL hL.len (fun i H1 => H1 D = some (.lst (List.replicate i (.bl true))) ∧ Same H H1) ⟨upd_same, Same.new nD⟩ (fun i H1 h => ⟨SqL.of (h.2 _ _ ha), SqL.of (h.2 _ _ hc)⟩) ?_ ?_
        · intro i y y' t H1 H2 h1 h2 h3 nT hT s2
          have hi : i < 20 := by
            have := (List.getElem?_eq_some_iff.mp h1).1
            omega
          have lk := (hL.get h1 h2).same (Same.trans h3.2 s2)
          refine ⟨t, [y, y'], rfl, .inl (.inl hT), rfl, ?_⟩
          walk_at "go"
          refine ⟨.inr (.inl ⟨by omega, lk⟩), fun H3 s3 => ?_⟩
          exact rep_step nD h3 s2 s3 (.inr (by omega))
        · rintro H1 ⟨h1, h2⟩
          walk_at "go"
          exact st_all h1 (k H1 h2)
/-- the lists and pairs that a law compares -/
theorem st_lk {r : Nat} {x y : V} {H : Hp} {Q : VK} {E : XK} (hr : 2 ≤ r) (h : LkV K H x y) (k : ∀ H', Same H H' → Q (.bl true) H') : spLk K r [x, y] H Q E := ⟨x, y, rfl, .inr (.inl ⟨hr, h⟩), k⟩
theorem st_lkL {r : Nat} {a c : Addr} {xs ys : List V} {H : Hp} {Q : VK} {E : XK} (hr : 3 ≤ r) (ha : H a = some (.lst xs)) (hc : H c = some (.lst ys)) (h : LkL K H xs ys) (hl : xs.length ≤ 20) (k : ∀ H', Same H H' → Q (.bl true) H') : spLk K r [.ref a, .ref c] H Q E :=
  ⟨_, _, rfl, .inr (.inr ⟨hr, a, c, xs, ys, rfl, rfl, ha, hc, h, hl⟩), k⟩
end
end K01
end -- a16
section -- FwTru
set_option Elab.async false
set_option linter.all false
set_option maxRecDepth 100000
set_option maxHeartbeats 4000000
/-! FwTru: an instance without __bool__ and __len__ is true. -/
namespace L2
open PySem PySem.Spec PyProof.Rows
theorem tru_ins {X : Cx} {C : Addr} (h1 : PySem.W.findIn X.K (.ref C) "__bool__" = some none) (h2 : PySem.W.findIn X.K (.ref C) "__len__" = some none) : TruR X (fun x H Q => ∃ (a dx : Addr) (fs : List (Str × V)), x = .ref a ∧ H a = some (.ins C dx fs) ∧ Q true H) := by
  intro pins s σ H x v Q I rx h
  obtain ⟨a, dx, fs, rfl, ha, q⟩ := h
  obtain rfl : v = .ref a := rx
  obtain ⟨mA, O, _⟩ := ins_get I.hok ha
  obtain ⟨od, J, _⟩ := O.look
  obtain ⟨m, hfr⟩ := I.fr
  exact PySem.W.truthy_K0 hfr I.ok.mod.kin J h1 h2 ⟨H, I, q⟩
end L2
end -- FwTru
section -- a17
set_option Elab.async false
set_option linter.all false
set_option maxRecDepth 100000
set_option maxHeartbeats 4000000
local macro_rules | `(tactic| walk_at "lvl") => `(tactic| first
  | decide
  | omega
  | (simp only [Nat.add_eq]; omega))
local macro_rules | `(tactic| walk_at "side") => `(tactic| first
  | decide
  | assumption
  | omega
  | exact Nat.le_of_ble_eq_true (by rfl)
  | exact ⟨by decide, by decide⟩
  | exact ⟨by decide, by decide, by decide⟩
  | exact Or.inl (Or.inr ⟨by decide, by decide⟩)
  | exact Or.inl (Or.inl ⟨by decide, by decide⟩))
local macro_rules | `(tactic| walk_at "ty") => `(tactic| first
  | assumption
  | exact L2.TyG.x (.base (.int _))
  | exact L2.TyG.x (.base (.str _))
  | exact L2.TyG.x (.base (.bl _))
  | exact L2.TyG.x (.base .non)
  | exact L2.TyG.x (.base (.lst (by assumption)))
  | exact L2.TyG.x (.base (.tup (by assumption)))
  | exact K01.tyR (by assumption) (by assumption)
  | exact L2.TyG.dn (by assumption))
local macro_rules | `(tactic| walk_at "cv") => `(tactic| first
  | exact L2.ClsV.ty _
  | exact L2.ClsV.own _)
local macro_rules | `(tactic| walk_at "kit") => `(tactic| first
  | exact L2.kit_ty (by decide +kernel)
  | exact K01.kR (by assumption) (by decide)
  | exact K01.kR2 (by assumption) (by decide)
  | exact K01.kR3 (by assumption))
local macro_rules | `(tactic| walk_at "s1") => `(tactic| first
  | refine ⟨_, rfl, ?_⟩
  | refine ⟨_, _, _, _, _, rfl, (by assumption), K01.clsR (by assumption), He.noat_ok (K01.a_noat_Ratio_top (by assumption)), rfl, ?_⟩
  | refine ⟨_, _, _, _, _, rfl, (by assumption), K01.clsR (by assumption), He.noat_ok (K01.a_noat_Ratio_bottom (by assumption)), rfl, ?_⟩
  | refine ⟨_, _, rfl, rfl, ?_⟩
  | refine ⟨_, _, rfl, ?_⟩
  | refine And.intro rfl ?_
  | refine L2.iteT ?_
  | refine L2.iteF ?_
  | refine L2.st_ixl (by assumption) (by rfl) ?_
  | refine L2.st_ixt (by assumption) (by rfl) ?_
  | refine L2.st_lenR (L2.lenr_l (by assumption)) ?_
  | refine L2.st_lenGR (L2.lenr_l (by assumption)) ?_
  | refine L2.st_lenGR (L2.lenr_t (by assumption)) ?_
  | refine L2.st_lenR (L2.lenr_t (by assumption)) ?_
  | refine L2.st_isG (b := false) (by walk_at "ty") (by walk_at "cv") (by walk_at "kit") ?_
  | refine L2.st_isG (b := true) (by walk_at "ty") (by walk_at "cv") (by walk_at "kit") ?_
  | refine And.intro (by walk_at "side") ?_)
local macro_rules | `(tactic| walk_at "go") => `(tactic| repeat (walk_at "s1"))
local macro_rules | `(tactic| walk_at "s2") => `(tactic| first
  | refine ⟨_, rfl, ?_⟩
  | refine ⟨_, _, _, _, _, rfl, (by assumption), K01.clsR (by assumption), He.noat_ok (K01.a_noat_Ratio_top (by assumption)), rfl, ?_⟩
  | refine ⟨_, _, _, _, _, rfl, (by assumption), K01.clsR (by assumption), He.noat_ok (K01.a_noat_Ratio_bottom (by assumption)), rfl, ?_⟩
  | refine ⟨_, _, rfl, rfl, ?_⟩
  | refine ⟨_, _, rfl, ?_⟩
  | refine And.intro rfl ?_
  | refine L2.iteT ?_
  | refine L2.iteF ?_
  | refine L2.st_ixl (by assumption) (by rfl) ?_
  | refine L2.st_ixt (by assumption) (by rfl) ?_
  | refine L2.st_lenR (L2.lenr_l (by assumption)) ?_
  | refine L2.st_lenGR (L2.lenr_l (by assumption)) ?_
  | refine L2.st_lenGR (L2.lenr_t (by assumption)) ?_
  | refine L2.st_lenR (L2.lenr_t (by assumption)) ?_
  | refine And.intro (by walk_at "side") ?_)
local macro_rules | `(tactic| walk_at "gs") => `(tactic| repeat (walk_at "s2"))
namespace K01
open PySem PySem.Spec PyProof.Rows L2 L2R TL
section
variable {P : Program} {w : World} {K : PySem.W.Frag} {mg : Str → Option Value} {base : Heap}
theorem p600 : 2 ^ 600 ≤ 10 ^ 181 := by decide
theorem tl_rtext {p : Int × Int} (hp : Low p) : tl (rtext p) = if p.2 = 1 then intL p.1 else intL p.1 ++ 47 :: numL p.2.natAbs := by
  unfold rtext
  by_cases h : p.2 = 1
  · rw [if_pos h, if_pos h, tl_int]
  · rw [if_neg h, if_neg h, tl_append, tl_append, tl_append, tl_int, tl_int]
    have h0 := hp.1
    have e : intL p.2 = numL p.2.natAbs := if_neg (by omega)
    rw [e]
    show ([] ++ intL p.1 ++ [47]) ++ numL p.2.natAbs = _
    rw [List.nil_append, List.append_assoc] <;> rfl
theorem intL_len {i : Int} {k : Nat} (hk : 0 < k) (h : i.natAbs < 10 ^ k) : (intL i).length ≤ k + 1 := by
  have := numL_len hk h
  unfold intL
  split
  · rw [List.length_cons]; omega
  · omega
theorem bn_dig {i : Int} (h : i.natAbs < 2 ^ 600) : (numL i.natAbs).length ≤ 181 := numL_len (by decide) (Nat.lt_of_lt_of_le h p600)
theorem bn_log {n : Nat} (h : n < 2 ^ 600) : n.log2 < 1920 := Nat.lt_of_lt_of_le (PySem.Flt.log2_lt_of (k := 600) (by decide) h) (by decide)
/-- a number's text, read -/
theorem rtext_facts {p : Int × Int} (hp : Low p) (b : Bn 600 p) : TxtOk p ∧ rdN (tl (rtext p)) = some p ∧ (rtext p).length ≤ 800 := by
  have d1 := bn_dig b.1
  have d2 := bn_dig b.2
  have i1 := intL_len (i := p.1) (k := 181) (by decide) (Nat.lt_of_lt_of_le b.1 p600)
  have h0 := hp.1
  have e2 : ((p.2.natAbs : Nat) : Int) = p.2 := by omega
  have hl : (rtext p).length ≤ 800 := by
    rw [len_tl, tl_rtext hp]
    split
    · omega
    · rw [List.length_append, List.length_cons]
      omega
  have h10 : p.1.natAbs < 10 ^ 4300 := Nat.lt_of_lt_of_le (Nat.lt_of_lt_of_le b.1 p600) (Nat.pow_le_pow_right (by decide) (by decide))
  refine ⟨⟨by omega, h10, ?_⟩, ?_, hl⟩
  · exact .inr ⟨bn_log b.1, bn_log b.2⟩
  · rw [tl_rtext hp]
    by_cases h : p.2 = 1
    · rw [if_pos h, rdN_int (by omega), show p = (p.1, p.2) from rfl, h]
    · rw [if_neg h, rdN_two (by omega) (by omega) (by omega), e2]
def spIs (K : PySem.W.Frag) : Sp := fun vs H Q _ => ∃ (a c : Addr) (p : Int × Int), vs = [.ref a, .ref c] ∧ RAt K H a p ∧ PT H c p ∧ Low p ∧ Bn 600 p ∧ ∀ H', Same H H' → Q (.bl true) H'
theorem G__law_is (T : TL K mg) : FX P w K mg base 10 "_law_is" [] (spIs K) := by
  have R := G_like (P := P) (w := w) (base := base) T 3
  obtain ⟨fdT, FT0, FT⟩ := ok_text (P := P) (w := w) (base := base) T
  have bT : Binds K fdT ["self"] [] := FT0.bindsN (fun _ _ _ _ _ _ us hl => match us, hl with | [_], _ => rfl)
  obtain ⟨fdS, FS0, FS⟩ := ok__str (P := P) (w := w) (base := base) T
  have bS : Binds K fdS ["self"] [] := FS0.bindsN (fun _ _ _ _ _ _ us hl => match us, hl with | [_], _ => rfl)
  obtain ⟨fdP, FP0, FP⟩ := ok__repr (P := P) (w := w) (base := base) T
  have bP : Binds K fdP ["self"] [] := FP0.bindsN (fun _ _ _ _ _ _ us hl => match us, hl with | [_], _ => rfl)
  obtain ⟨fdD, FD0, FD⟩ := ok_read (P := P) (w := w) (base := base) T
  have bD : Binds K fdD ["text"] [] := FD0.bindsN (fun _ _ _ _ _ _ us hl => match us, hl with | [_], _ => rfl)
  obtain ⟨fd, F⟩ := F__law_is T
  refine FX.of F (g__law_is T) (F.ok0 sc__law_is (fun vs H Q E h => ?_) (fun cdv A outer s H vs Q E hr h => ?_)) (fun _ _ _ _ _ _ us hl => match us, hl with | [_, _], _ => rfl)
  · obtain ⟨a, c, p, rfl, _⟩ := h
    rfl
  · obtain ⟨a, c, p, rfl, ⟨dx, ha⟩, hc, hp, hb, k⟩ := h
    obtain ⟨f1, f2, f3⟩ := rtext_facts hp hb
    refine ⟨_, (pss_cons (ps_set (i := 2) sc__law_is.nd rfl (by first | exact Or.inl rfl | exact Or.inr rfl) (pe_fx (G__law_num_text T) (hr.mono (by walk_at "lvl")) passL (pa_cons (pv 1) pa_nil)))
      (pss_cons (ps_if (PW.pt (pw_or (pt_not (pt_val (pe_fx R (hr.mono (by walk_at "lvl")) passL (pa_cons (pv 0) (pa_cons (pv 1) pa_nil))))) (pw_or1 (pt_not (pt_val (pe_fx R (hr.mono (by walk_at "lvl")) passL (pa_cons (pe_lst (pa_cons (pe_meth0 (pv 0) (clsR T) (He.meth_ok (a_meth_Ratio_text T)) FT (hr.mono (by walk_at "lvl")) bT .nil passL) (pa_cons (pe_callTy (T := "str") (call_strOwn (exOs T).2.2.2.2.2.1.at_ (exOs T).2.2.2.2.2.1.fn FS (hr.mono (by walk_at "lvl")) bS) rfl (f_str T) (by decide +kernel) (pa_cons (pv 0) pa_nil)) (pa_cons (pe_callB (call_reprOwn (exOs T).2.2.2.2.2.2.at_ (exOs T).2.2.2.2.2.2.fn FP (hr.mono (by walk_at "lvl")) bP) (by rfl) (f_repr T) (by decide +kernel) (pa_cons (pv 0) pa_nil)) pa_nil)))) (pa_cons (pe_lst (pa_cons (pv 2) (pa_cons (pv 2) (pa_cons (pe_op op_addG (pe_op op_addG pe_str (pv 2)) pe_str) pa_nil)))) pa_nil))))))))
        (pss_one (ps_ret pe_bl))
        pss_nil)
      (pss_one (ps_ret (pe_and (pe_fx R (hr.mono (by walk_at "lvl")) passL (pa_cons (pe_stat (pe_gr (g_Ratio T)) (sRead T) FD (hr.mono (by walk_at "lvl")) bD passL (pa_cons (pv 2) pa_nil)) (pa_cons (pv 1) pa_nil))) (pe_one (pe_cmpR op_eq (pe_ifExp (pt_truthR (pv 0) (tru_ins (truF T).1 (truF T).2) (fun _ => rfl)) pe_int pe_int) pe_int (nomark _)))))))), ?_⟩
    have hs : 100000 ≤ sizeLine := by decide
    have l1 : (Str.ofString "Ratio(").length = 6 := by rfl
    have l2 : (Str.ofString ")").length = 1 := by rfl
    have hB : ∀ q, rdN (tl (rtext p)) = some q → q.2.natAbs < 2 ^ 8000 := fun q hq => by
      rw [f2] at hq
      rw [← Option.some.inj hq]
      exact Nat.lt_of_lt_of_le hb.2 (Nat.pow_le_pow_right (by decide) (by decide))
    walk_at "go"
    refine ⟨c, p, rfl, hc, f1, ?_⟩
    walk_at "go"
    refine ⟨.inr (.inl ⟨by decide, .inr ⟨a, c, p, rfl, rfl, ⟨dx, ha⟩, hc⟩⟩), fun H1 s1 => ?_⟩
    have ha1 := s1 _ _ ha
    walk_at "go"
    refine ⟨a, dx, _, rfl, ha1, rfl, ?_⟩
    refine ⟨a, p, rfl, ⟨dx, ha1⟩, f1, ?_⟩
    walk_at "go"
    refine ⟨a, dx, _, rfl, ha1, ⟨a, p, rfl, ⟨dx, ha1⟩, f1, _, rfl, ?_⟩⟩
    walk_at "go"
    refine ⟨a, dx, _, rfl, ha1, ⟨a, p, rfl, ⟨dx, ha1⟩, f1, _, rfl, ?_⟩⟩
    walk_at "go"
    intro r2 n2
    generalize e2 : upd H1 r2 _ = H2
    have a2 : H2 r2 = some (.lst [.str (rtext p), .str (rtext p), .str (((Str.empty ++ "Ratio(") ++ rtext p) ++ ")")]) := by rw [← e2]; exact upd_same
    have s2 : Same H1 H2 := by rw [← e2]; exact Same.new n2
    walk_at "go"
    refine ⟨by rw [lenA]; omega, ?_⟩
    walk_at "go"
    intro r3 n3
    generalize e3 : upd H2 r3 _ = H3
    have a3 : H3 r3 = some (.lst [.str (rtext p), .str (rtext p), .str (((Str.empty ++ "Ratio(") ++ rtext p) ++ ")")]) := by
      rw [← e3, Str.empty_append]
      exact upd_same
    have s3 : Same H2 H3 := by rw [← e3]; exact Same.new n3
    refine ⟨_, _, rfl, .inr (.inr ⟨by decide, _, _, _, _, rfl, rfl, s3 _ _ a2, a3, .cons (.inl (.inl ⟨_, rfl, rfl⟩)) (.cons (.inl (.inl ⟨_, rfl, rfl⟩)) (.cons (.inl (.inl ⟨_, rfl, rfl⟩)) .nil)), (show (3 : Nat) ≤ 20 by decide)⟩), fun H4 s4 => ?_⟩
    have S4 : Same H H4 := s1.trans (s2.trans (s3.trans s4))
    walk_at "go"
    refine .inr ⟨rtext p, rfl, by omega, hB, ?_⟩
    rw [f2]
    show ∀ (r : Addr) (H' : Hp), RAt K H' r (rlow p.1 p.2) → Same H4 H' → _
    rw [rlow_low hp]
    rintro r5 H5 hr5 s5
    have S5 : Same H H5 := S4.trans s5
    walk_at "go"
    refine ⟨.inr (.inl ⟨by decide, .inr ⟨r5, c, p, rfl, rfl, hr5, PT.same hc S5⟩⟩), fun H6 s6 => ?_⟩
    have S6 : Same H H6 := S5.trans s6
    walk_at "go"
    refine ⟨a, dx, _, rfl, S6 _ _ ha, ?_⟩
    walk_at "go"
    exact k H6 S6
end
end K01
end -- a17
section -- a18
set_option Elab.async false
set_option linter.all false
set_option maxRecDepth 100000
set_option maxHeartbeats 4000000
local macro_rules | `(tactic| walk_at "lvl") => `(tactic| first
  | decide
  | omega
  | (simp only [Nat.add_eq]; omega))
local macro_rules | `(tactic| walk_at "side") => `(tactic| first
  | decide
  | assumption
  | omega
  | exact Nat.le_of_ble_eq_true (by rfl)
  | exact ⟨by decide, by decide⟩
  | exact ⟨by decide, by decide, by decide⟩
  | exact Or.inl (Or.inr ⟨by decide, by decide⟩)
  | exact Or.inl (Or.inl ⟨by decide, by decide⟩))
local macro_rules | `(tactic| walk_at "ty") => `(tactic| first
  | assumption
  | exact L2.TyG.x (.base (.int _))
  | exact L2.TyG.x (.base (.str _))
  | exact L2.TyG.x (.base (.bl _))
  | exact L2.TyG.x (.base .non)
  | exact L2.TyG.x (.base (.lst (by assumption)))
  | exact L2.TyG.x (.base (.tup (by assumption)))
  | exact K01.tyR (by assumption) (by assumption)
  | exact L2.TyG.dn (by assumption))
local macro_rules | `(tactic| walk_at "cv") => `(tactic| first
  | exact L2.ClsV.ty _
  | exact L2.ClsV.own _)
local macro_rules | `(tactic| walk_at "kit") => `(tactic| first
  | exact L2.kit_ty (by decide +kernel)
  | exact K01.kR (by assumption) (by decide)
  | exact K01.kR2 (by assumption) (by decide)
  | exact K01.kR3 (by assumption))
local macro_rules | `(tactic| walk_at "s1") => `(tactic| first
  | refine ⟨_, rfl, ?_⟩
  | refine ⟨_, _, _, _, _, rfl, (by assumption), K01.clsR (by assumption), He.noat_ok (K01.a_noat_Ratio_top (by assumption)), rfl, ?_⟩
  | refine ⟨_, _, _, _, _, rfl, (by assumption), K01.clsR (by assumption), He.noat_ok (K01.a_noat_Ratio_bottom (by assumption)), rfl, ?_⟩
  | refine ⟨_, _, rfl, rfl, ?_⟩
  | refine ⟨_, _, rfl, ?_⟩
  | refine And.intro rfl ?_
  | refine L2.iteT ?_
  | refine L2.iteF ?_
  | refine L2.st_ixl (by assumption) (by rfl) ?_
  | refine L2.st_ixt (by assumption) (by rfl) ?_
  | refine L2.st_lenR (L2.lenr_l (by assumption)) ?_
  | refine L2.st_lenGR (L2.lenr_l (by assumption)) ?_
  | refine L2.st_lenGR (L2.lenr_t (by assumption)) ?_
  | refine L2.st_lenR (L2.lenr_t (by assumption)) ?_
  | refine L2.st_isG (b := false) (by walk_at "ty") (by walk_at "cv") (by walk_at "kit") ?_
  | refine L2.st_isG (b := true) (by walk_at "ty") (by walk_at "cv") (by walk_at "kit") ?_
  | refine And.intro (by walk_at "side") ?_)
local macro_rules | `(tactic| walk_at "go") => `(tactic| repeat (walk_at "s1"))
local macro_rules | `(tactic| walk_at "s2") => `(tactic| first
  | refine ⟨_, rfl, ?_⟩
  | refine ⟨_, _, _, _, _, rfl, (by assumption), K01.clsR (by assumption), He.noat_ok (K01.a_noat_Ratio_top (by assumption)), rfl, ?_⟩
  | refine ⟨_, _, _, _, _, rfl, (by assumption), K01.clsR (by assumption), He.noat_ok (K01.a_noat_Ratio_bottom (by assumption)), rfl, ?_⟩
  | refine ⟨_, _, rfl, rfl, ?_⟩
  | refine ⟨_, _, rfl, ?_⟩
  | refine And.intro rfl ?_
  | refine L2.iteT ?_
  | refine L2.iteF ?_
  | refine L2.st_ixl (by assumption) (by rfl) ?_
  | refine L2.st_ixt (by assumption) (by rfl) ?_
  | refine L2.st_lenR (L2.lenr_l (by assumption)) ?_
  | refine L2.st_lenGR (L2.lenr_l (by assumption)) ?_
  | refine L2.st_lenGR (L2.lenr_t (by assumption)) ?_
  | refine L2.st_lenR (L2.lenr_t (by assumption)) ?_
  | refine And.intro (by walk_at "side") ?_)
local macro_rules | `(tactic| walk_at "gs") => `(tactic| repeat (walk_at "s2"))
namespace K01
open PySem PySem.Spec PyProof.Rows L2 L2R TL
section
variable {P : Program} {w : World} {K : PySem.W.Frag} {mg : Str → Option Value} {base : Heap}
theorem PT.off {b l r : Addr} {H H' : Hp} {p : Int × Int} (hB : BagAt b l H) (e : Ext b H H') (h : PT H r p) : PT H' r p := extOff hB e h (fun _ z => nomatch z)
theorem RAt.off {b l r : Addr} {H H' : Hp} {p : Int × Int} (hB : BagAt b l H) (e : Ext b H H') (h : RAt K H r p) : RAt K H' r p := by
  obtain ⟨dx, h⟩ := h
  exact ⟨dx, extOff hB e h (fun _ z => nomatch z)⟩
theorem NumV.off {b l : Addr} {v : V} {H H' : Hp} {p : Int × Int} (hB : BagAt b l H) (e : Ext b H H') (h : NumV K H v p) : NumV K H' v p := by
  rcases h with ⟨a, rfl, h⟩ | h
  · exact .inl ⟨a, rfl, h.off hB e⟩
  · exact .inr h
def spGiven (K : PySem.W.Frag) : Sp := fun vs H Q _ => ∃ (b l a : Addr) (p : Int × Int), vs = [.ref b, .ref a] ∧ BagAt b l H ∧ PT H a p ∧ Low p ∧ Bn 3000 p ∧ ∀ v H', NumV K H' v p → BagAt b l H' → Ext b H H' → Q v H'
theorem G__law_given (T : TL K mg) : FX P w K mg base 5 "_law_given" [] (spGiven K) := by
  obtain ⟨fdR, FR0, FR⟩ := ok_RatioI (P := P) (w := w) (base := base) T
  have bR := bRat FR0
  obtain ⟨fd, F⟩ := F__law_given T
  refine FX.of F (g__law_given T) (F.ok0 sc__law_given (fun vs H Q E h => ?_) (fun cdv A outer s H vs Q E hr h => ?_)) (fun _ _ _ _ _ _ us hl => match us, hl with | [_, _], _ => rfl)
  · obtain ⟨b, l, a, p, rfl, _⟩ := h
    rfl
  · obtain ⟨b, l, a, p, rfl, hB, ha, hp, bp, k⟩ := h
    refine ⟨_, (pss_cons (ps_if (PW.pt (pw_and (pt_cmpR op_eq (pe_ix ix_seq (pv 1) pe_int (fun _ _ => rfl)) pe_int (nomark _)) (pw_and1 (pt_cmpR op_eq (pe_fx (G__law_draw T) (hr.mono (by walk_at "lvl")) passL (pa_cons (pv 0) (pa_cons pe_int pa_nil))) pe_int (nomark _)))))
        (pss_one (ps_ret (pe_ix ix_seq (pv 1) pe_int (fun _ _ => rfl))))
        pss_nil)
      (pss_one (ps_ret (pe_make (mkR T) FR (hr.mono (by walk_at "lvl")) rfl (g_Ratio T) bR .nil passL (pa_cons (pe_ix ix_seq (pv 1) pe_int (fun _ _ => rfl)) (pa_cons (pe_ix ix_seq (pv 1) pe_int (fun _ _ => rfl)) pa_nil)))))), ?_⟩
    have ha' : H a = some (.tup [.int p.1, .int p.2]) := ha
    have fin : ∀ H1, BagAt b l H1 → Ext b H H1 → ∀ r H', RAt K H' r (rlow p.1 p.2) → Same H1 H' → Q (.ref r) H' := fun H1 hB1 x1 r H' hr s => by
      rw [rlow_low hp] at hr
      exact k _ _ (.inl ⟨r, rfl, hr⟩) (hB1.same s) (x1.trans (Ext.of s))
    have n2 := low_two hp
    have bb : p.2.natAbs < 2 ^ 8000 := Nat.lt_of_lt_of_le bp.2 (Nat.pow_le_pow_right (by decide) (by decide))
    walk_at "go"
    refine st_if (fun c => ?_) (fun c => ?_)
    · have e1 : p.2 = 1 := V.int.inj c
      walk_at "go"
      refine ⟨b, l, 2, rfl, hB, by decide, fun d H1 d0 d1 hB1 x1 => ?_⟩
      have ha1 : H1 a = some (.tup [.int p.1, .int p.2]) := PT.off hB x1 ha
      walk_at "go"
      refine st_if (fun c2 => ?_) (fun c2 => ?_)
      · walk_at "go"
        exact k _ _ (.inr ⟨rfl, e1⟩) hB1 x1
      · walk_at "go"
        exact st_ratio n2 bb (fin H1 hB1 x1)
    · walk_at "go"
      exact st_ratio n2 bb (fin H hB (Ext.refl b H))
/-- a text that writes p in some way -/
def Wr (x : Str) (p : Int × Int) : Prop := x.length ≤ 800 ∧ ∃ q, rdN (tl x) = some q ∧ rlow q.1 q.2 = p ∧ q.2.natAbs < 2 ^ 600
theorem zero_low {p : Int × Int} (hp : Low p) (h : p.1 = 0) : p = (0, 1) := by
  obtain ⟨h1, h2⟩ := hp
  rw [h] at h2
  have : p.2.natAbs = 1 := by simpa using h2
  have e : p.2 = 1 := by omega
  rw [show p = (p.1, p.2) from rfl, h, e]
theorem rlow_zero {d : Int} (h : d ≠ 0) : rlow 0 d = (0, 1) := rlow_eq (p := (0, 1)) ⟨(show (0 : Int) < 1 by decide), by decide⟩ h (by simp)
theorem wr0 {x : V} (h : x ∈ [V.str "0", V.str "-0", V.str "0/3", V.str "-0/2", V.str "0"]) : ∃ z, x = .str z ∧ Wr z (0, 1) := by
  simp only [List.mem_cons, List.not_mem_nil, or_false] at h
  rcases h with rfl | rfl | rfl | rfl | rfl
  · exact ⟨_, rfl, by decide, (0, 1), by decide, rlow_zero (by decide), by decide⟩
  · exact ⟨_, rfl, by decide, (0, 1), by decide, rlow_zero (by decide), by decide⟩
  · exact ⟨_, rfl, by decide, (0, 3), by decide, rlow_zero (by decide), by decide⟩
  · exact ⟨_, rfl, by decide, (0, 2), by decide, rlow_zero (by decide), by decide⟩
  · exact ⟨_, rfl, by decide, (0, 1), by decide, rlow_zero (by decide), by decide⟩
theorem wr_int {p : Int × Int} (hp : Low p) (b : p.1.natAbs < 2 ^ 600) (h : p.2 = 1) : Wr (Str.ofString (toString p.1)) p := by
  have d1 := bn_dig b
  have i1 := intL_len (i := p.1) (k := 181) (by decide) (Nat.lt_of_lt_of_le b p600)
  refine ⟨by rw [len_tl, tl_int]; omega, (p.1, 1), ?_, ?_, Nat.lt_of_lt_of_le (show (1 : Int).natAbs < 2 ^ 1 by decide) (Nat.pow_le_pow_right (by decide) (by decide))⟩
  · rw [tl_int]
    exact rdN_int (by omega)
  · have := rlow_low hp
    rw [h] at this
    exact this
theorem wr_two {p : Int × Int} {t d : Int} {x : Str} (hx : tl x = intL t ++ 47 :: numL d.natAbs) (hd : 0 < d) (bt : t.natAbs < 2 ^ 600) (bd : d.natAbs < 2 ^ 600) (h : rlow t d = p) : Wr x p := by
  have d1 := bn_dig bt
  have d2 := bn_dig bd
  have i1 := intL_len (i := t) (k := 181) (by decide) (Nat.lt_of_lt_of_le bt p600)
  have e2 : ((d.natAbs : Nat) : Int) = d := by omega
  refine ⟨by rw [len_tl, hx, List.length_append, List.length_cons]; omega, (t, d), ?_, h, bd⟩
  rw [hx, rdN_two (by omega) (by omega) (by omega), e2]
theorem intL_pos {d : Int} (h : 0 < d) : intL d = numL d.natAbs := if_neg (by omega)
def spOdd : Sp := fun vs H Q _ => ∃ (b l a : Addr) (p : Int × Int), vs = [.ref b, .ref a] ∧ BagAt b l H ∧ PT H a p ∧ Low p ∧ Bn 500 p ∧ ∀ x H', Wr x p → BagAt b l H' → Ext b H H' → Q (.str x) H'
theorem G__law_num_odd (T : TL K mg) : FX P w K mg base 4 "_law_num_odd" [] spOdd := by
  obtain ⟨fd, F⟩ := F__law_num_odd T
  refine FX.of F (g__law_num_odd T) (F.ok0 sc__law_num_odd (fun vs H Q E h => ?_) (fun cdv A outer s H vs Q E hr h => ?_)) (fun _ _ _ _ _ _ us hl => match us, hl with | [_, _], _ => rfl)
  · obtain ⟨b, l, a, p, rfl, _⟩ := h
    rfl
  · obtain ⟨b, l, a, p, rfl, hB, ha, hp, bp, k⟩ := h
    refine ⟨_, (pss_cons (ps_set (i := 2) sc__law_num_odd.nd rfl (by first | exact Or.inl rfl | exact Or.inr rfl) (pe_fx (G__law_of T) (hr.mono (by walk_at "lvl")) passL (pa_cons (pv 0) (pa_cons (pe_lst (pa_cons pe_int (pa_cons pe_int (pa_cons pe_int (pa_cons pe_int (pa_cons pe_int (pa_cons pe_int pa_nil))))))) pa_nil))))
      (pss_cons (ps_if (pt_cmpR op_eq (pe_ix ix_seq (pv 1) pe_int (fun _ _ => rfl)) pe_int (nomark _))
        (pss_one (ps_ret (pe_fx (G__law_of T) (hr.mono (by walk_at "lvl")) passL (pa_cons (pv 0) (pa_cons (pe_lst (pa_cons pe_str (pa_cons pe_str (pa_cons pe_str (pa_cons pe_str (pa_cons pe_str pa_nil)))))) pa_nil)))))
        pss_nil)
      (pss_cons (ps_if (pt_cmpR op_eq (pe_op op_mulI (pv 2) (pe_ix ix_seq (pv 1) pe_int (fun _ _ => rfl))) pe_int (nomark _))
        (pss_one (ps_ret (pe_fx (G__law_of T) (hr.mono (by walk_at "lvl")) passL (pa_cons (pv 0) (pa_cons (pe_lst (pa_cons (pe_callTy (T := "str") (call_strX hr.hd (digF T)) rfl (f_str T) (by decide +kernel) (pa_cons (pe_ix ix_seq (pv 1) pe_int (fun _ _ => rfl)) pa_nil)) (pa_cons (pe_callTy (T := "str") (call_strX hr.hd (digF T)) rfl (f_str T) (by decide +kernel) (pa_cons (pe_ix ix_seq (pv 1) pe_int (fun _ _ => rfl)) pa_nil)) (pa_cons (pe_joined (PJ.cons (pe_fmt (pe_ix ix_seq (pv 1) pe_int (fun _ _ => rfl))) (PJ.cons pe_str PJ.nil))) pa_nil)))) pa_nil)))))
        pss_nil)
      (pss_one (ps_ret (pe_joined (PJ.cons (pe_fmt (pe_op op_mulI (pe_ix ix_seq (pv 1) pe_int (fun _ _ => rfl)) (pv 2))) (PJ.cons pe_str (PJ.cons (pe_fmt (pe_op op_mulI (pe_ix ix_seq (pv 1) pe_int (fun _ _ => rfl)) (pv 2))) PJ.nil))))))))), ?_⟩
    have ha' : H a = some (.tup [.int p.1, .int p.2]) := ha
    walk_at "go"
    refine st_ofI hB (by simp) (by decide) fun x H1 hx hB1 x1 => ?_
    have key : ∃ d : Int, x = .int d ∧ 0 < d ∧ d ≤ 6 := by
      simp only [List.mem_cons, List.not_mem_nil, or_false] at hx
      rcases hx with rfl | rfl | rfl | rfl | rfl | rfl
      all_goals exact ⟨_, rfl, by decide, by decide⟩
    obtain ⟨d, rfl, d0, d6⟩ := key
    have ha1 : H1 a = some (.tup [.int p.1, .int p.2]) := PT.off hB x1 ha
    have bd : d.natAbs < 2 ^ 10 := Nat.lt_of_le_of_lt (show d.natAbs ≤ 6 by omega) (by decide)
    have c1 : CMulG d p.2 := mulG bd bp.2
    have c2 : CMulG p.1 d := mulG bp.1 bd
    have c3 : CMulG p.2 d := mulG bp.2 bd
    walk_at "go"
    refine st_if (fun c => ?_) (fun c => ?_)
    · have e1 : p.1 = 0 := V.int.inj c
      walk_at "go"
      refine st_ofI hB1 (by simp) (by decide) fun x H2 hx hB2 x2 => ?_
      obtain ⟨z, rfl, wz⟩ := wr0 hx
      rw [← zero_low hp e1] at wz
      exact k z H2 wz hB2 (x1.trans x2)
    · have h10 : p.1.natAbs < 10 ^ 4300 := Nat.lt_of_lt_of_le (Nat.lt_of_lt_of_le bp.1 (show 2 ^ 500 ≤ 10 ^ 181 from Nat.le_trans (Nat.pow_le_pow_right (by decide) (by decide)) p600)) (Nat.pow_le_pow_right (by decide) (by decide))
      have b6 : p.1.natAbs < 2 ^ 600 := Nat.lt_of_lt_of_le bp.1 (Nat.pow_le_pow_right (by decide) (by decide))
      have i1 := intL_len (i := p.1) (k := 181) (by decide) (Nat.lt_of_lt_of_le b6 p600)
      have ls : (Str.ofString (toString p.1)).length ≤ 182 := by rw [len_tl, tl_int]; omega
      have hs : 5000 ≤ sizeLine := by decide
      have l0 : Str.empty.length = 0 := by rfl
      have l2 : (Str.ofString "/1").length = 2 := by rfl
      have l3 : (Str.ofString "/").length = 1 := by rfl
      walk_at "go"
      refine st_if (fun c => ?_) (fun c => ?_)
      · have e1 : d * p.2 = 1 := V.int.inj c
        have ed : d = 1 := Int.eq_one_of_mul_eq_one_right (by omega) e1
        have ep : p.2 = 1 := by rw [ed] at e1; omega
        walk_at "go"
        refine .inr ⟨p.1, rfl, bn_log b6, _, rfl, by rw [lenA]; omega, ?_⟩
        refine ⟨_, rfl, by rw [lenA, lenA]; omega, ?_⟩
        walk_at "go"
        refine st_ofI hB1 (by simp) (show (3 : Nat) < 1000 by decide) fun x H2 hx hB2 x2 => ?_
        have w1 := wr_int hp b6 ep
        have w2 : Wr ((Str.empty ++ Str.ofString (toString p.1)) ++ "/1") p := by
          refine wr_two (t := p.1) (d := 1) ?_ (by decide) b6 (Nat.lt_of_lt_of_le (show (1 : Int).natAbs < 2 ^ 1 by decide) (Nat.pow_le_pow_right (by decide) (by decide))) ?_
          · rw [tl_append, tl_append, tl_int]
            rfl
          · have := rlow_low hp
            rw [ep] at this
            exact this
        simp only [List.mem_cons, List.not_mem_nil, or_false] at hx
        rcases hx with rfl | rfl | rfl
        · exact k _ H2 w1 hB2 (x1.trans x2)
        · exact k _ H2 w1 hB2 (x1.trans x2)
        · exact k _ H2 w2 hB2 (x1.trans x2)
      · have bt : (p.1 * d).natAbs < 2 ^ 600 := Nat.lt_of_lt_of_le (wide_lt bp.1 bd) (Nat.pow_le_pow_right (by decide) (by decide))
        have bb : (p.2 * d).natAbs < 2 ^ 600 := Nat.lt_of_lt_of_le (wide_lt bp.2 bd) (Nat.pow_le_pow_right (by decide) (by decide))
        have pd : 0 < p.2 * d := Int.mul_pos hp.1 d0
        have j1 := intL_len (i := p.1 * d) (k := 181) (by decide) (Nat.lt_of_lt_of_le bt p600)
        have j2 := intL_len (i := p.2 * d) (k := 181) (by decide) (Nat.lt_of_lt_of_le bb p600)
        have ls1 : (Str.ofString (toString (p.1 * d))).length ≤ 182 := by rw [len_tl, tl_int]; omega
        have ls2 : (Str.ofString (toString (p.2 * d))).length ≤ 182 := by rw [len_tl, tl_int]; omega
        walk_at "go"
        refine .inr ⟨p.1 * d, rfl, bn_log bt, _, rfl, by rw [lenA]; omega, ?_⟩
        refine ⟨_, rfl, by rw [lenA, lenA]; omega, ?_⟩
        walk_at "go"
        refine .inr ⟨p.2 * d, rfl, bn_log bb, _, rfl, by rw [lenA, lenA, lenA]; omega, ?_⟩
        refine k _ H1 (wr_two (t := p.1 * d) (d := p.2 * d) ?_ pd bt bb ?_) hB1 x1
        · rw [tl_append, tl_append, tl_append, tl_int, tl_int, intL_pos pd]
          show ([] ++ intL (p.1 * d) ++ [47]) ++ numL (p.2 * d).natAbs = _
          rw [List.nil_append, List.append_assoc] <;> rfl
        · rw [rlow_mul (low_two hp) (by omega)]
          exact rlow_low hp
/-- any text, a little longer at most -/
def spBent : Sp := fun vs H Q _ => ∃ (b l : Addr) (z : Str), vs = [.ref b, .str z] ∧ BagAt b l H ∧ z.length ≤ 900 ∧ ∀ x H', x.length ≤ 2000 → BagAt b l H' → Ext b H H' → Q (.str x) H'
theorem G__law_sign_bent (T : TL K mg) : FX P w K mg base 4 "_law_sign_bent" [] spBent := by
  obtain ⟨fd, F⟩ := F__law_sign_bent T
  refine FX.of F (g__law_sign_bent T) (F.ok0 sc__law_sign_bent (fun vs H Q E h => ?_) (fun cdv A outer s H vs Q E hr h => ?_)) (fun _ _ _ _ _ _ us hl => match us, hl with | [_, _], _ => rfl)
  · obtain ⟨b, l, z, rfl, _⟩ := h
    rfl
  · obtain ⟨b, l, z, rfl, hB, hz, k⟩ := h
    refine ⟨_, (pss_cons (ps_par (i := 2) (j := 3) (by rfl) sc__law_sign_bent.nd rfl rfl (by decide) rfl rfl (pa_cons (pe_fx (G__law_draw T) (hr.mono (by walk_at "lvl")) passL (pa_cons (pv 0) (pa_cons (pe_op op_addG (pe_callB call_lenG (by rfl) (f_len T) (by decide +kernel) (pa_cons (pv 1) pa_nil)) pe_int) pa_nil))) (pa_cons (pe_fx (G__law_draw T) (hr.mono (by walk_at "lvl")) passL (pa_cons (pv 0) (pa_cons pe_int pa_nil))) pa_nil)) (by rfl))
      (pss_cons (ps_set (i := 4) sc__law_sign_bent.nd rfl (by first | exact Or.inl rfl | exact Or.inr rfl) (pe_fx (G__law_of T) (hr.mono (by walk_at "lvl")) passL (pa_cons (pv 0) (pa_cons pe_str pa_nil))))
      (pss_cons (ps_if (pt_cmpR op_eq (pv 3) pe_int (nomark _))
        (pss_one (ps_ret (pe_op op_addG (pe_slice sl_str (pv 1) po_none (po_some (pv 2))) (pe_slice sl_str (pv 1) (po_some (pe_op op_addG (pv 2) pe_int)) po_none))))
        pss_nil)
      (pss_one (ps_ret (pe_op op_addG (pe_op op_addG (pe_slice sl_str (pv 1) po_none (po_some (pv 2))) (pv 4)) (pe_slice sl_str (pv 1) (po_some (pe_op op_addG (pv 2) (pe_ifExp (pt_cmpR op_lt (pv 3) pe_int (nomark _)) pe_int pe_int))) po_none))))))), ?_⟩
    have hs : 5000 ≤ sizeLine := by decide
    have hz2 : z.length ≤ sizeLine := by omega
    have cl : ∀ lo hi, (cutS z lo hi).length ≤ 900 := fun lo hi => Nat.le_trans (cutS_length z lo hi) hz
    walk_at "go"
    refine st_lenS hz2 ?_
    walk_at "go"
    refine ⟨b, l, _, rfl, hB, by omega, fun d H1 d0 d1 hB1 x1 => ?_⟩
    walk_at "go"
    refine ⟨b, l, 4, rfl, hB1, by decide, fun e H2 e0 e1 hB2 x2 => ?_⟩
    walk_at "go"
    refine .inr ⟨b, l, _, rfl, hB2, by decide, by decide, fun c H3 hc hB3 x3 => ?_⟩
    have X3 := x1.trans (x2.trans x3)
    walk_at "go"
    refine st_if (fun c1 => ?_) (fun c1 => ?_)
    · walk_at "go"
      have q1 := cl none (some d)
      have q2 := cl (some (d + 1)) none
      refine ⟨by omega, k _ H3 ?_ hB3 X3⟩
      rw [lenA]
      omega
    · walk_at "go"
      have q1 := cl none (some d)
      have lc : (⟨#[c]⟩ : Str).length = 1 := rfl
      refine ⟨by omega, ?_⟩
      walk_at "go"
      refine st_if (fun c2 => ?_) (fun c2 => ?_)
      · walk_at "go"
        have q2 := cl (some (d + 0)) none
        refine ⟨by rw [lenA]; omega, k _ H3 ?_ hB3 X3⟩
        rw [lenA, lenA]
        omega
      · walk_at "go"
        have q2 := cl (some (d + 1)) none
        refine ⟨by rw [lenA]; omega, k _ H3 ?_ hB3 X3⟩
        rw [lenA, lenA]
        omega
end
end K01
end -- a18
section -- FwCode
set_option Elab.async false
set_option linter.all false
set_option maxRecDepth 100000
set_option maxHeartbeats 4000000
/-! FwCode: a def whose code object is told; tables beside a bag. -/
namespace L2
open PySem PySem.Spec PyProof.Rows LamX
theorem FunD.okC {P : Program} {w : World} {K : PySem.W.Frag} {mg : Str → Option Value} {base : Heap} {x qual : Str} {params : Arguments} {body : List Stmt} {scope : Scope} {dvs : List V} {kws : List (Str × V)} {p : Str × Option Str} {fd : FuncData} {CX : CXT} {N ps : List Str} {k : Nat} {sp : Sp}
    (F : FunD K x qual params body scope dvs kws (He.fAd K p) fd) (S : FnScope N ps scope) (len : ∀ vs H Q E, sp vs H Q E → vs.length = ps.length)
    (hbody : ∀ (cdv : Value) (A : Around) (outer : List Env) (s : Shared) (H : Hp) (vs : List V) (Q : VK) (E : XK), cdv = .ref (He.codeOf K p) → Room k (A.deeper (envOfC qual scope s.heap.objs.size (He.fAd K p) cdv)) → sp vs H Q E →
      ∃ t, PSs (cxOf CX P w K mg base N qual scope (He.fAd K p) cdv A outer s H E) body t ∧ t { nx := fun _ H' => Q .non H', rt := Q } (start N vs) H) : FnOk P w K mg base CX (k + 1) (He.fAd K p) fd ps sp := by
  obtain ⟨oc, od, dV, kV, doc, pm, an, cdv, ct, osl, rfl, lk, hcd, _, _⟩ := F.ex
  obtain ⟨c, hc⟩ := He.codeIn_ref hcd
  have e : He.codeOf K p = c := He.codeOf_eq lk hc
  exact fn_of lk hcd S len fun A outer s H vs Q E hr hsp => hbody cdv A outer s H vs Q E (by rw [e]; exact hc) hr hsp
/-- tables stay where all but a bag stays -/
theorem Tabs.off {T : List (Addr × Str)} {b l : Addr} {H H' : Hp} (t : Tabs T H) (hB : BagAt b l H) (e : Ext b H H') : Tabs T H' := by
  obtain ⟨xs, hb⟩ := hB.isL
  intro p hp
  obtain ⟨ps, h1, h2, h3⟩ := t p hp
  refine ⟨ps, e _ _ (fun z => by rw [z, hb] at h1; cases h1) h1, h2, fun pos cv hc => ?_⟩
  obtain ⟨c, e1, e2⟩ := h3 pos cv hc
  refine ⟨c, e1, e _ _ (fun z => ?_) e2⟩
  rw [z, hb] at e2
  have z2 := Option.some.inj e2
  unfold CodeO at z2
  cases z2
/-- all but the bag and the tables stay -/
def ExtB (b : Addr) (H H' : Hp) : Prop := ∀ a o, a ≠ b → H a = some o → (∀ ps, o ≠ .tbl ps) → H' a = some o
theorem ExtB.refl (b : Addr) (H : Hp) : ExtB b H H := fun _ _ _ h _ => h
theorem ExtB.trans {b : Addr} {H H1 H2 : Hp} (x : ExtB b H H1) (y : ExtB b H1 H2) : ExtB b H H2 := fun a o n h t => y a o n (x a o n h t) t
theorem ExtB.of {b : Addr} {H H' : Hp} (e : Ext b H H') : ExtB b H H' := fun a o n h _ => e a o n h
theorem ExtB.ofN {b : Addr} {H H' : Hp} (e : ExtN H H') : ExtB b H H' := fun a o _ h t => e a o h t
theorem BagAt.extN {b l : Addr} {H H' : Hp} (h : BagAt b l H) (e : ExtN H H') : BagAt b l H' := by
  obtain ⟨ns, k, r, m, n, h1, h2, h3⟩ := h
  exact ⟨ns, k, r, m, n, e _ _ h1 (fun ps z => nomatch z), e _ _ h2 (fun ps z => nomatch z), h3⟩
theorem extBOff {b l : Addr} {H H' : Hp} (hB : BagAt b l H) (e : ExtB b H H') {a : Addr} {o : HO} (h : H a = some o) (ho : ∀ xs, o ≠ .lst xs) (ht : ∀ ps, o ≠ .tbl ps) : H' a = some o := by
  obtain ⟨xs, hb⟩ := hB.isL
  exact e a o (fun z => by rw [z, hb] at h; exact ho xs (Option.some.inj h).symm) h ht
end L2
end -- FwCode
section -- a19h
set_option Elab.async false
set_option linter.all false
set_option maxRecDepth 100000
set_option maxHeartbeats 4000000
set_option pp.maxSteps 700
local macro_rules | `(tactic| walk_at "lvl") => `(tactic| first
  | decide
  | omega
  | (simp only [Nat.add_eq]; omega))
local macro_rules | `(tactic| walk_at "side") => `(tactic| first
  | decide
  | assumption
  | omega
  | exact Nat.le_of_ble_eq_true (by rfl)
  | exact ⟨by decide, by decide⟩
  | exact ⟨by decide, by decide, by decide⟩
  | exact Or.inl (Or.inr ⟨by decide, by decide⟩)
  | exact Or.inl (Or.inl ⟨by decide, by decide⟩))
local macro_rules | `(tactic| walk_at "ty") => `(tactic| first
  | assumption
  | exact L2.TyG.x (.base (.int _))
  | exact L2.TyG.x (.base (.str _))
  | exact L2.TyG.x (.base (.bl _))
  | exact L2.TyG.x (.base .non)
  | exact L2.TyG.x (.base (.lst (by assumption)))
  | exact L2.TyG.x (.base (.tup (by assumption)))
  | exact K01.tyR (by assumption) (by assumption)
  | exact L2.TyG.dn (by assumption))
local macro_rules | `(tactic| walk_at "cv") => `(tactic| first
  | exact L2.ClsV.ty _
  | exact L2.ClsV.own _)
local macro_rules | `(tactic| walk_at "kit") => `(tactic| first
  | exact L2.kit_ty (by decide +kernel)
  | exact K01.kR (by assumption) (by decide)
  | exact K01.kR2 (by assumption) (by decide)
  | exact K01.kR3 (by assumption))
local macro_rules | `(tactic| walk_at "s1") => `(tactic| first
  | refine ⟨_, rfl, ?_⟩
  | refine ⟨_, _, _, _, _, rfl, (by assumption), K01.clsR (by assumption), He.noat_ok (K01.a_noat_Ratio_top (by assumption)), rfl, ?_⟩
  | refine ⟨_, _, _, _, _, rfl, (by assumption), K01.clsR (by assumption), He.noat_ok (K01.a_noat_Ratio_bottom (by assumption)), rfl, ?_⟩
  | refine ⟨_, _, rfl, rfl, ?_⟩
  | refine ⟨_, _, rfl, ?_⟩
  | refine And.intro rfl ?_
  | refine L2.iteT ?_
  | refine L2.iteF ?_
  | refine L2.st_ixl (by assumption) (by rfl) ?_
  | refine L2.st_ixt (by assumption) (by rfl) ?_
  | refine L2.st_lenR (L2.lenr_l (by assumption)) ?_
  | refine L2.st_lenGR (L2.lenr_l (by assumption)) ?_
  | refine L2.st_lenGR (L2.lenr_t (by assumption)) ?_
  | refine L2.st_lenR (L2.lenr_t (by assumption)) ?_
  | refine L2.st_isG (b := false) (by walk_at "ty") (by walk_at "cv") (by walk_at "kit") ?_
  | refine L2.st_isG (b := true) (by walk_at "ty") (by walk_at "cv") (by walk_at "kit") ?_
  | refine And.intro (by walk_at "side") ?_)
local macro_rules | `(tactic| walk_at "go") => `(tactic| repeat (walk_at "s1"))
local macro_rules | `(tactic| walk_at "s2") => `(tactic| first
  | refine ⟨_, rfl, ?_⟩
  | refine ⟨_, _, _, _, _, rfl, (by assumption), K01.clsR (by assumption), He.noat_ok (K01.a_noat_Ratio_top (by assumption)), rfl, ?_⟩
  | refine ⟨_, _, _, _, _, rfl, (by assumption), K01.clsR (by assumption), He.noat_ok (K01.a_noat_Ratio_bottom (by assumption)), rfl, ?_⟩
  | refine ⟨_, _, rfl, rfl, ?_⟩
  | refine ⟨_, _, rfl, ?_⟩
  | refine And.intro rfl ?_
  | refine L2.iteT ?_
  | refine L2.iteF ?_
  | refine L2.st_ixl (by assumption) (by rfl) ?_
  | refine L2.st_ixt (by assumption) (by rfl) ?_
  | refine L2.st_lenR (L2.lenr_l (by assumption)) ?_
  | refine L2.st_lenGR (L2.lenr_l (by assumption)) ?_
  | refine L2.st_lenGR (L2.lenr_t (by assumption)) ?_
  | refine L2.st_lenR (L2.lenr_t (by assumption)) ?_
  | refine And.intro (by walk_at "side") ?_)
local macro_rules | `(tactic| walk_at "gs") => `(tactic| repeat (walk_at "s2"))
namespace K01
open PySem PySem.Spec PyProof.Rows L2 L2R TL LamX
section
variable {P : Program} {w : World} {K : PySem.W.Frag} {mg : Str → Option Value} {base : Heap}
/-- the tables of the defs that make lambdas -/
def tT (K : PySem.W.Frag) : List (Addr × Str) := tfL.map fun p => ((He.cT K p).2, (p.1 ++ ".<locals>.") ++ "<lambda>")
theorem map_inj_nd {α β : Type} {f : α → β} : ∀ {l : List α}, (l.map f).Nodup → ∀ x ∈ l, ∀ y ∈ l, f x = f y → x = y
  | [], _, x, hx, _, _, _ => nomatch hx
  | a :: l, h, x, hx, y, hy, e => by
    rw [List.map_cons, List.nodup_cons] at h
    obtain ⟨h1, h2⟩ := h
    rcases List.mem_cons.mp hx with e1 | g1
    · rcases List.mem_cons.mp hy with e2 | g2
      · rw [e1, e2]
      · exact absurd (List.mem_map.mpr ⟨y, g2, by rw [← e, e1]⟩) h1
    · rcases List.mem_cons.mp hy with e2 | g2
      · exact absurd (List.mem_map.mpr ⟨x, g1, by rw [e, e2]⟩) h1
      · exact map_inj_nd h2 x g1 y g2 e
theorem tT_mem {p : He.Defn} (hp : p ∈ tfL) : ((He.cT K p).2, (p.1 ++ ".<locals>.") ++ "<lambda>") ∈ tT K := List.mem_map.mpr ⟨p, hp, rfl⟩
theorem tT_one (T : TL K mg) {p : He.Defn} (hp : p ∈ tfL) : ∀ z ∈ tT K, z.1 = (He.cT K p).2 → z.2 = (p.1 ++ ".<locals>.") ++ "<lambda>" := by
  intro z hz e
  obtain ⟨q, hq, rfl⟩ := List.mem_map.mp hz
  have nd : (tfL.map fun p => (He.cT K p).2).Nodup := of_decide_eq_true (exA T).2.2.2.2.2.2.2.2.2
  rw [map_inj_nd nd q hq p hp e]
abbrev TBs (K : PySem.W.Frag) (mg : Str → Option Value) (base : Heap) : Prop := ∀ p ∈ tfL, TabB base mg (He.cT K p).1 (He.cT K p).2
theorem Bn.le {m n : Nat} {p : Int × Int} (h : Bn m p) (l : m ≤ n) : Bn n p := ⟨Nat.lt_of_lt_of_le h.1 (Nat.pow_le_pow_right (by decide) l), Nat.lt_of_lt_of_le h.2 (Nat.pow_le_pow_right (by decide) l)⟩
theorem rlow_ok {t d : Int} (hd : d ≠ 0) (ht : t.natAbs < 2 ^ 600) (hb : d.natAbs < 2 ^ 600) : Low (rlow t d) ∧ Bn 600 (rlow t d) :=
  ⟨(low_cross hd).1, Nat.lt_of_le_of_lt (rlow_le hd).1 ht, Nat.lt_of_le_of_lt (rlow_le hd).2 hb⟩
theorem m280 {i j : Int} (h : i.natAbs < 2 ^ 140) (h2 : j.natAbs < 2 ^ 140) : (i * j).natAbs < 2 ^ 280 := wide_lt h h2
theorem l600 {n : Nat} (h : n < 2 ^ 280 + 2 ^ 280) : n < 2 ^ 600 := Nat.lt_of_lt_of_le h (by decide)
theorem radd_ok {p q : Int × Int} (hp : Low p) (hq : Low q) (bp : Bn 140 p) (bq : Bn 140 q) : Low (radd p q) ∧ Bn 600 (radd p q) := by
  have a1 := m280 bp.1 bq.2
  have a2 := m280 bq.1 bp.2
  have a3 := m280 bp.2 bq.2
  exact rlow_ok (Int.mul_ne_zero (low_two hp) (low_two hq)) (l600 (by omega)) (l600 (by omega))
theorem rsub_ok {p q : Int × Int} (hp : Low p) (hq : Low q) (bp : Bn 140 p) (bq : Bn 140 q) : Low (rsub p q) ∧ Bn 600 (rsub p q) := by
  have a1 := m280 bp.1 bq.2
  have a2 := m280 bq.1 bp.2
  have a3 := m280 bp.2 bq.2
  exact rlow_ok (Int.mul_ne_zero (low_two hp) (low_two hq)) (l600 (by omega)) (l600 (by omega))
theorem rmul_ok {p q : Int × Int} (hp : Low p) (hq : Low q) (bp : Bn 140 p) (bq : Bn 140 q) : Low (rmul p q) ∧ Bn 600 (rmul p q) := by
  have a1 := m280 bp.1 bq.1
  have a3 := m280 bp.2 bq.2
  exact rlow_ok (Int.mul_ne_zero (low_two hp) (low_two hq)) (l600 (by omega)) (l600 (by omega))
theorem st_raises {D : Dds} {f : Addr} {tl : XK → Hp → VK → Prop} {kept : V} {H : Hp} {n : Nat} {Q : VK} {E : XK} (hd : D f tl) (hn : n ≤ 3) (hv : Vl K w n H kept) (ht : ∀ (E' : XK) (Q' : VK), (∀ H1, Same H H1 → ErV K kept H1 E') → tl E' H Q') (k : ∀ H', Same H H' → Q (.bl true) H') :
    spRaises K w D [.ref f, .str "InvalidRatio", kept] H Q E := by
  refine ⟨f, tl, kept, rfl, hd, fun E' Q' h => ht E' Q' fun H1 s1 d fs H' hx hl s2 => h _ _ _ ⟨d, fs, n, rfl, rfl, hx, hl, hn, Vl.same (s1.trans s2) hv, fun H'' s3 => k H'' (s1.trans (s2.trans s3))⟩⟩
theorem nv_kind {H : Hp} {v : V} {q : Int × Int} (hv : NumV K H v q) : (∃ (o ox : Addr) (fo : List (Str × V)), v = .ref o ∧ H o = some (.ins (RC K) ox fo)) ∨ (∃ i, v = .int i) := by
  rcases hv with ⟨c, rfl, dx, hc⟩ | ⟨rfl, _⟩
  · exact .inl ⟨c, dx, _, rfl, hc⟩
  · exact .inr ⟨_, rfl⟩
theorem st_own {f : Int × Int → Int × Int → Int × Int} {r : Addr} {v : V} {p q : Int × Int} {H : Hp} {Q : VK} (hr : RAt K H r p) (hv : NumV K H v q) (hp : Low p) (hq : Low q) (bp : Bn 140 p) (bq : Bn 140 q) (k : ∀ r' H', RAt K H' r' (f p q) → Same H H' → Q (.ref r') H') :
    rOwn2 (RC K) (spOp K f) (.ref r) v H Q := by
  obtain ⟨dx, h⟩ := hr
  exact ⟨r, dx, _, rfl, h, nv_kind hv, r, v, p, q, rfl, ⟨dx, h⟩, hv, low_two hp, low_two hq, bp.le (by decide), bq.le (by decide), k⟩
theorem st_below {r : Addr} {v : V} {p q : Int × Int} {H : Hp} {Q : VK} {E : XK} (hr : RAt K H r p) (hv : NumV K H v q) (bp : Bn 140 p) (bq : Bn 140 q) (k : ∀ H', Same H H' → Q (.bl (decide (p.1 * q.2 < q.1 * p.2))) H') : spBelow K [.ref r, v] H Q E :=
  ⟨r, v, p, q, rfl, hr, hv, bp.le (by decide), bq.le (by decide), k⟩
theorem st_over {r : Addr} {v : V} {p q : Int × Int} {H : Hp} {Q : VK} {E : XK} (hr : RAt K H r p) (hv : NumV K H v q) (hp : Low p) (hq : Low q) (bp : Bn 140 p) (bq : Bn 140 q) (h0 : q.1 ≠ 0) (k : ∀ r' H', RAt K H' r' (rmul p (rlow q.2 q.1)) → Same H H' → Q (.ref r') H') : spOver K [.ref r, v] H Q E :=
  ⟨r, v, p, q, rfl, hr, hv, low_two hp, bp.le (by decide), bq.le (by decide), .inl ⟨h0, fun r' H' h s => k r' H' (by rw [rover hp hq h0] at h; exact h) s⟩⟩
theorem eqvP (a b c d : Int) : PyData.eqv (.tuple [.int a, .int b]) (.tuple [.int c, .int d]) = decide ((a, b) = (c, d)) := by
  simp only [PyData.eqv, PyData.eqvAll, Bool.and_true]
  by_cases h1 : a = c <;> by_cases h2 : b = d <;> simp [h1, h2]
theorem nv_vl {H : Hp} {v : V} {q : Int × Int} (hv : NumV K H v q) (h0 : q.1 = 0) : Vl K w 0 H v := by
  rcases hv with ⟨c, rfl, dx, hc⟩ | ⟨rfl, _⟩
  · exact .inr (.inr (.inr (.inr ⟨c, dx, _, _, rfl, hc⟩)))
  · exact .inr (.inr (.inl ⟨_, rfl, by rw [h0]; decide⟩))
theorem swap_low {q : Int × Int} (hq : Low q) (bq : Bn 140 q) (h0 : q.1 ≠ 0) : Low (rlow q.2 q.1) ∧ Bn 140 (rlow q.2 q.1) :=
  ⟨(low_cross h0).1, Nat.lt_of_le_of_lt (rlow_le h0).1 bq.2, Nat.lt_of_le_of_lt (rlow_le h0).2 bq.1⟩
theorem st_rat1 {x dx : Addr} {H1 : Hp} {t b : Int} {R : VK} {E : XK} (nx : H1 x = none) (nd : H1 dx = none) (ne : dx ≠ x) (hb : b ≠ 0) (hB : b.natAbs < 2 ^ 8000) (k : ∀ H', RAt K H' x (rlow t b) → Same H1 H' → R .non H') :
    spRI K w (.ref x :: ([.int t, .int b] ++ [])) (upd (upd H1 dx (.own x)) x (.ins (RC K) dx [])) R E := by
  refine ⟨x, dx, .int t, .int b, rfl, upd_same, .inl ⟨t, b, rfl, rfl, hb, hB, fun H' h e => k H' ⟨dx, h⟩ fun c o hc => ?_⟩⟩
  exact e c o (ne_of_none hc nx) (by rw [upd_ne (ne_of_none hc nx), upd_ne (ne_of_none hc nd)]; exact hc)
theorem b8000 {n m : Nat} (h : n < 2 ^ m) (l : m ≤ 8000 := by decide) : n < 2 ^ 8000 := Nat.lt_of_lt_of_le h (Nat.pow_le_pow_right (by decide) l)
theorem bn_neg {n : Nat} {q : Int × Int} (h : Bn n q) : Bn n (rneg q) := ⟨by show (-q.1).natAbs < _; rw [Int.natAbs_neg]; exact h.1, h.2⟩
theorem lkR {H : Hp} {a c : Addr} {p : Int × Int} (h : RAt K H a p) (g : PT H c p) : LkV K H (.ref a) (.ref c) := .inr ⟨a, c, p, rfl, rfl, h, g⟩
theorem RAt.extN {H H' : Hp} {a : Addr} {p : Int × Int} (h : RAt K H a p) (e : ExtN H H') : RAt K H' a p := by
  obtain ⟨dx, h⟩ := h
  exact ⟨dx, e _ _ h fun ps z => nomatch z⟩
theorem PT.extN {H H' : Hp} {a : Addr} {p : Int × Int} (h : PT H a p) (e : ExtN H H') : PT H' a p := e _ _ h fun ps z => nomatch z
theorem NumV.extN {H H' : Hp} {v : V} {q : Int × Int} (h : NumV K H v q) (e : ExtN H H') : NumV K H' v q := by
  rcases h with ⟨a, rfl, h⟩ | h
  · exact .inl ⟨a, rfl, h.extN e⟩
  · exact .inr h
end
end K01
end -- a19h
section -- a19
set_option Elab.async false
set_option linter.all false
set_option maxRecDepth 100000
set_option maxHeartbeats 4000000
set_option pp.maxSteps 700
local macro_rules | `(tactic| walk_at "lvl") => `(tactic| first
  | decide
  | omega
  | (simp only [Nat.add_eq]; omega))
local macro_rules | `(tactic| walk_at "side") => `(tactic| first
  | decide
  | assumption
  | omega
  | exact Nat.le_of_ble_eq_true (by rfl)
  | exact ⟨by decide, by decide⟩
  | exact ⟨by decide, by decide, by decide⟩
  | exact Or.inl (Or.inr ⟨by decide, by decide⟩)
  | exact Or.inl (Or.inl ⟨by decide, by decide⟩))
local macro_rules | `(tactic| walk_at "ty") => `(tactic| first
  | assumption
  | exact L2.TyG.x (.base (.int _))
  | exact L2.TyG.x (.base (.str _))
  | exact L2.TyG.x (.base (.bl _))
  | exact L2.TyG.x (.base .non)
  | exact L2.TyG.x (.base (.lst (by assumption)))
  | exact L2.TyG.x (.base (.tup (by assumption)))
  | exact K01.tyR (by assumption) (by assumption)
  | exact L2.TyG.dn (by assumption))
local macro_rules | `(tactic| walk_at "cv") => `(tactic| first
  | exact L2.ClsV.ty _
  | exact L2.ClsV.own _)
local macro_rules | `(tactic| walk_at "kit") => `(tactic| first
  | exact L2.kit_ty (by decide +kernel)
  | exact K01.kR (by assumption) (by decide)
  | exact K01.kR2 (by assumption) (by decide)
  | exact K01.kR3 (by assumption))
local macro_rules | `(tactic| walk_at "s1") => `(tactic| first
  | refine ⟨_, rfl, ?_⟩
  | refine ⟨_, _, _, _, _, rfl, (by assumption), K01.clsR (by assumption), He.noat_ok (K01.a_noat_Ratio_top (by assumption)), rfl, ?_⟩
  | refine ⟨_, _, _, _, _, rfl, (by assumption), K01.clsR (by assumption), He.noat_ok (K01.a_noat_Ratio_bottom (by assumption)), rfl, ?_⟩
  | refine ⟨_, _, rfl, rfl, ?_⟩
  | refine ⟨_, _, rfl, ?_⟩
  | refine And.intro rfl ?_
  | refine L2.iteT ?_
  | refine L2.iteF ?_
  | refine L2.st_ixl (by assumption) (by rfl) ?_
  | refine L2.st_ixt (by assumption) (by rfl) ?_
  | refine L2.st_lenR (L2.lenr_l (by assumption)) ?_
  | refine L2.st_lenGR (L2.lenr_l (by assumption)) ?_
  | refine L2.st_lenGR (L2.lenr_t (by assumption)) ?_
  | refine L2.st_lenR (L2.lenr_t (by assumption)) ?_
  | refine L2.st_isG (b := false) (by walk_at "ty") (by walk_at "cv") (by walk_at "kit") ?_
  | refine L2.st_isG (b := true) (by walk_at "ty") (by walk_at "cv") (by walk_at "kit") ?_
  | refine And.intro (by walk_at "side") ?_)
local macro_rules | `(tactic| walk_at "go") => `(tactic| repeat (walk_at "s1"))
local macro_rules | `(tactic| walk_at "s2") => `(tactic| first
  | refine ⟨_, rfl, ?_⟩
  | refine ⟨_, _, _, _, _, rfl, (by assumption), K01.clsR (by assumption), He.noat_ok (K01.a_noat_Ratio_top (by assumption)), rfl, ?_⟩
  | refine ⟨_, _, _, _, _, rfl, (by assumption), K01.clsR (by assumption), He.noat_ok (K01.a_noat_Ratio_bottom (by assumption)), rfl, ?_⟩
  | refine ⟨_, _, rfl, rfl, ?_⟩
  | refine ⟨_, _, rfl, ?_⟩
  | refine And.intro rfl ?_
  | refine L2.iteT ?_
  | refine L2.iteF ?_
  | refine L2.st_ixl (by assumption) (by rfl) ?_
  | refine L2.st_ixt (by assumption) (by rfl) ?_
  | refine L2.st_lenR (L2.lenr_l (by assumption)) ?_
  | refine L2.st_lenGR (L2.lenr_l (by assumption)) ?_
  | refine L2.st_lenGR (L2.lenr_t (by assumption)) ?_
  | refine L2.st_lenR (L2.lenr_t (by assumption)) ?_
  | refine And.intro (by walk_at "side") ?_)
local macro_rules | `(tactic| walk_at "gs") => `(tactic| repeat (walk_at "s2"))
namespace K01
open PySem PySem.Spec PyProof.Rows L2 L2R TL LamX
section
variable {P : Program} {w : World} {K : PySem.W.Frag} {mg : Str → Option Value} {base : Heap}
def spTwo (K : PySem.W.Frag) : Sp := fun vs H Q _ => ∃ (b l a c : Addr) (p q : Int × Int), vs = [.ref b, .ref a, .ref c] ∧ BagAt b l H ∧ PT H a p ∧ PT H c q ∧ Low p ∧ Low q ∧ Bn 140 p ∧ Bn 140 q ∧ Tabs (tT K) H ∧
  ∀ H', BagAt b l H' → ExtB b H H' → Tabs (tT K) H' → Q (.bl true) H'
theorem G__law_two_so (T : TL K mg) (hTB : TBs K mg base) : FX P w K mg base 20 "_law_two_so" [] (spTwo K) := by
  have R := G_like (P := P) (w := w) (base := base) T 3
  obtain ⟨fdR, FR0, FR⟩ := ok_RatioI (P := P) (w := w) (base := base) T
  have bR := bRat FR0
  obtain ⟨fdA, FA0, FA⟩ := ok__add (P := P) (w := w) (base := base) T
  have bA : Binds K fdA ["self", "other"] [] := FA0.bindsN (fun _ _ _ _ _ _ us hl => match us, hl with | [_, _], _ => rfl)
  obtain ⟨fdS, FS0, FS⟩ := ok__sub (P := P) (w := w) (base := base) T
  have bS : Binds K fdS ["self", "other"] [] := FS0.bindsN (fun _ _ _ _ _ _ us hl => match us, hl with | [_, _], _ => rfl)
  obtain ⟨fdM, FM0, FM⟩ := ok__mul (P := P) (w := w) (base := base) T
  have bM : Binds K fdM ["self", "other"] [] := FM0.bindsN (fun _ _ _ _ _ _ us hl => match us, hl with | [_, _], _ => rfl)
  obtain ⟨fdN, FN0, FN⟩ := ok__neg (P := P) (w := w) (base := base) T
  have bN : Binds K fdN ["self"] [] := FN0.bindsN (fun _ _ _ _ _ _ us hl => match us, hl with | [_], _ => rfl)
  obtain ⟨fdE, FE0, FE⟩ := ok__eq (P := P) (w := w) (base := base) T
  have bE : Binds K fdE ["self", "other"] [] := FE0.bindsN (fun _ _ _ _ _ _ us hl => match us, hl with | [_, _], _ => rfl)
  obtain ⟨fdB, FB0, FB⟩ := ok_below (P := P) (w := w) (base := base) T
  have bB : Binds K fdB ["self", "other"] [] := FB0.bindsN (fun _ _ _ _ _ _ us hl => match us, hl with | [_, _], _ => rfl)
  have kB : ∀ (s : Shared) (u v : Value), BindsTo s fdB ⟨[u], [("other", v)]⟩ [("self", u), ("other", v)] := fun s u v => bindsAny FB0 (fun _ _ _ _ _ _ => rfl) s
  obtain ⟨fdO, FO0, FO⟩ := ok_over (P := P) (w := w) (base := base) T
  have bO : Binds K fdO ["self", "other"] [] := FO0.bindsN (fun _ _ _ _ _ _ us hl => match us, hl with | [_, _], _ => rfl)
  have kO : ∀ (s : Shared) (u v : Value), BindsTo s fdO ⟨[u], [("other", v)]⟩ [("self", u), ("other", v)] := fun s u v => bindsAny FO0 (fun _ _ _ _ _ _ => rfl) s
  obtain ⟨fdZ, FZ0, FZ⟩ := ok_raises (P := P) (w := w) (base := base) T 6
  have bZ : Binds K fdZ ["deed", "code", "kept"] [] := FZ0.bindsN (fun _ _ _ _ _ _ us hl => match us, hl with | [_, _, _], _ => rfl)
  have mem : (("_law_two_so", none) : He.Defn) ∈ tfL := by decide
  have hTB1 := hTB _ mem
  have hmT := tT_mem (K := K) mem
  have hu := tT_one T mem
  obtain ⟨fd, F⟩ := F__law_two_so T
  refine FX.of F (g__law_two_so T) (F.okC (p := ("_law_two_so", none)) sc__law_two_so (fun vs H Q E h => ?_) (fun cdv A outer s H vs Q E hcd hr h => ?_)) (fun _ _ _ _ _ _ us hl => match us, hl with | [_, _, _], _ => rfl)
  · obtain ⟨b, l, a, c, p, q, rfl, _⟩ := h
    rfl
  · obtain ⟨b, l, a, c, p, q, rfl, hB, ha, hc, hp, hq, bp, bq, hT, k⟩ := h
    refine ⟨_, (pss_cons (ps_asg (pe_tup (pa_cons (pe_make (mkR T) FR (hr.mono (by walk_at "lvl")) rfl (g_Ratio T) bR .nil passL (pa_cons (pe_ix ix_seq (pv 1) pe_int (fun _ _ => rfl)) (pa_cons (pe_ix ix_seq (pv 1) pe_int (fun _ _ => rfl)) pa_nil))) (pa_cons (pe_fx (G__law_given T) (hr.mono (by walk_at "lvl")) passL (pa_cons (pv 0) (pa_cons (pv 2) pa_nil))) pa_nil))) (pg_tup rfl (pgs_cons (pg_name (i := 3) sc__law_two_so.nd rfl (by first | exact Or.inl rfl | exact Or.inr rfl)) (pgs_cons (pg_name (i := 4) sc__law_two_so.nd rfl (by first | exact Or.inl rfl | exact Or.inr rfl)) pgs_nil))))
      (pss_cons (ps_set (i := 5) sc__law_two_so.nd rfl (by first | exact Or.inl rfl | exact Or.inr rfl) (pe_lst (pa_cons (pe_fx (G__law_plus T) (hr.mono (by walk_at "lvl")) passL (pa_cons (pv 1) (pa_cons (pv 2) pa_nil))) (pa_cons (pe_fx (G__law_plus T) (hr.mono (by walk_at "lvl")) passL (pa_cons (pv 1) (pa_cons (pe_fx (G__law_neg T) (hr.mono (by walk_at "lvl")) passL (pa_cons (pv 2) pa_nil)) pa_nil))) (pa_cons (pe_fx (G__law_by T) (hr.mono (by walk_at "lvl")) passL (pa_cons (pv 1) (pa_cons (pv 2) pa_nil))) (pa_cons (pe_fx (G__law_neg T) (hr.mono (by walk_at "lvl")) passL (pa_cons (pv 1) pa_nil)) pa_nil))))))
      (pss_cons (ps_if (PW.pt (pw_or (pt_not (pt_val (pe_fx R (hr.mono (by walk_at "lvl")) passL (pa_cons (pe_lst (pa_cons (pe_op (op_own2 (exOs T).1 FA (hr.mono (by walk_at "lvl")) bA) (pv 3) (pv 4)) (pa_cons (pe_op (op_own2 (exOs T).2.1 FS (hr.mono (by walk_at "lvl")) bS) (pv 3) (pv 4)) (pa_cons (pe_op (op_own2 (exOs T).2.2.1 FM (hr.mono (by walk_at "lvl")) bM) (pv 3) (pv 4)) (pa_cons (pe_un (un_negOwn (exOs T).2.2.2.2.1.at_ (exOs T).2.2.2.2.1.fn FN (hr.mono (by walk_at "lvl")) bN) (pv 3)) pa_nil))))) (pa_cons (pv 5) pa_nil))))) (pw_or (pt_not (pt_val (pe_fx (G__law_is T) (hr.mono (by walk_at "lvl")) passL (pa_cons (pe_op (op_own2 (exOs T).2.2.1 FM (hr.mono (by walk_at "lvl")) bM) (pv 3) (pv 4)) (pa_cons (pe_ix ix_seq (pv 5) pe_int (fun _ _ => rfl)) pa_nil))))) (pw_or1 (pt_not (pt_val (pe_fx (G__law_is T) (hr.mono (by walk_at "lvl")) passL (pa_cons (pe_op (op_own2 (exOs T).2.1 FS (hr.mono (by walk_at "lvl")) bS) (pv 3) (pv 4)) (pa_cons (pe_ix ix_seq (pv 5) pe_int (fun _ _ => rfl)) pa_nil)))))))))
        (pss_one (ps_ret pe_bl))
        pss_nil)
      (pss_cons (ps_set (i := 6) sc__law_two_so.nd rfl (by first | exact Or.inl rfl | exact Or.inr rfl) (pe_cmpR op_lt (pe_op op_mulI (pe_ix ix_seq (pv 1) pe_int (fun _ _ => rfl)) (pe_ix ix_seq (pv 2) pe_int (fun _ _ => rfl))) (pe_op op_mulI (pe_ix ix_seq (pv 2) pe_int (fun _ _ => rfl)) (pe_ix ix_seq (pv 1) pe_int (fun _ _ => rfl))) (nomark _)))
      (pss_cons (ps_if (pt_not (pt_val (pe_fx R (hr.mono (by walk_at "lvl")) passL (pa_cons (pe_lst (pa_cons (pe_meth (pv 3) (clsR T) (He.meth_ok (a_meth_Ratio_below T)) FB (hr.mono (by walk_at "lvl")) bB .nil passL (pa_cons (pv 4) pa_nil)) (pa_cons (pe_methK1 (pv 3) (clsR T) (He.meth_ok (a_meth_Ratio_below T)) FB (hr.mono (by walk_at "lvl")) kB passL (pv 4)) (pa_cons (pe_meth (pv 3) (clsR T) (He.meth_ok (a_meth_Ratio_below T)) FB (hr.mono (by walk_at "lvl")) bB .nil passL (pa_cons (pv 3) pa_nil)) pa_nil)))) (pa_cons (pe_lst (pa_cons (pv 6) (pa_cons (pv 6) (pa_cons pe_bl pa_nil)))) pa_nil)))))
        (pss_one (ps_ret pe_bl))
        pss_nil)
      (pss_cons (ps_if (pt_cmpR op_eq (pe_ix ix_seq (pv 2) pe_int (fun _ _ => rfl)) pe_int (nomark _))
        (pss_one (ps_ret (pe_and (pe_lamD (T := tT K) rfl (g__law_raises T) FZ0.kp FZ bZ (hr.mono (by walk_at "lvl")) passL hTB1 hcd hmT hu (lamS_by rfl) rfl (fun _ _ _ _ _ => rfl) (fun A2 outer2 s2 H2 E2 f2 c2 hrl => (pe_meth (pv 3) (clsR T) (He.meth_ok (a_meth_Ratio_over T)) FO (hrl.mono (by decide)) bO .nil (passes_call (takes_of rfl rfl rfl rfl) (fun _ _ _ _ h => h)) (pa_cons (pv 4) pa_nil))) (pa_cons pe_str (pa_cons (pv 4) pa_nil))) (pe_one (pe_fx (G__law_is T) (hr.mono (by walk_at "lvl")) passL (pa_cons (pv 3) (pa_cons (pv 1) pa_nil)))))))
        pss_nil)
      (pss_cons (ps_if (pt_not (pt_val (pe_fx R (hr.mono (by walk_at "lvl")) passL (pa_cons (pe_lst (pa_cons (pe_meth (pv 3) (clsR T) (He.meth_ok (a_meth_Ratio_over T)) FO (hr.mono (by walk_at "lvl")) bO .nil passL (pa_cons (pv 4) pa_nil)) (pa_cons (pe_methK1 (pv 3) (clsR T) (He.meth_ok (a_meth_Ratio_over T)) FO (hr.mono (by walk_at "lvl")) kO passL (pv 4)) pa_nil))) (pa_cons (pe_lst (pa_cons (pe_fx (G__law_by T) (hr.mono (by walk_at "lvl")) passL (pa_cons (pv 1) (pa_cons (pe_fx (G__law_low T) (hr.mono (by walk_at "lvl")) passL (pa_cons (pe_ix ix_seq (pv 2) pe_int (fun _ _ => rfl)) (pa_cons (pe_ix ix_seq (pv 2) pe_int (fun _ _ => rfl)) pa_nil))) pa_nil))) (pa_cons (pe_fx (G__law_by T) (hr.mono (by walk_at "lvl")) passL (pa_cons (pv 1) (pa_cons (pe_fx (G__law_low T) (hr.mono (by walk_at "lvl")) passL (pa_cons (pe_ix ix_seq (pv 2) pe_int (fun _ _ => rfl)) (pa_cons (pe_ix ix_seq (pv 2) pe_int (fun _ _ => rfl)) pa_nil))) pa_nil))) pa_nil))) pa_nil)))))
        (pss_one (ps_ret pe_bl))
        pss_nil)
      (pss_one (ps_ret (pe_and (pe_fx R (hr.mono (by walk_at "lvl")) passL (pa_cons (pe_cmpR (op_eqOwn (exOs T).2.2.2.1 FE (hr.mono (by walk_at "lvl")) bE hr.units) (pv 3) (pv 4) (nomark _)) (pa_cons (pe_and (pe_callB call_isG (by rfl) (f_isinstance T) (by decide +kernel) (pa_cons (pv 4) (pa_cons (pe_gr (g_Ratio T)) pa_nil))) (pe_one (pe_cmpR (op_eqD hr.units) (pv 1) (pv 2) (nomark _)))) pa_nil))) (pe_one (pe_fx (G__law_is T) (hr.mono (by walk_at "lvl")) passL (pa_cons (pv 3) (pa_cons (pv 1) pa_nil)))))))))))))), ?_⟩
    have ha0 : H a = some (.tup [.int p.1, .int p.2]) := ha
    walk_at "gs"
    intro r dr nr nd ne
    refine st_rat1 nr nd ne (low_two hp) (b8000 bp.2) fun H1 hr1 s1 => ⟨rfl, ?_⟩
    rw [rlow_low hp] at hr1
    have hB1 := hB.same s1
    walk_at "gs"
    refine ⟨b, l, c, q, rfl, hB1, hc.same s1, hq, bq.le (by decide), fun v H2 hv hB2 x2 => ?_⟩
    have r2 := RAt.off hB1 x2 hr1
    have a2 := PT.off hB1 x2 (ha.same s1)
    have c2 := PT.off hB1 x2 (hc.same s1)
    have T2 := Tabs.off (hT.ext s1) hB1 x2
    walk_at "gs"
    intro tp np
    generalize e0 : upd H2 tp _ = H3
    have t3 : H3 tp = some (.tup [.ref r, v]) := by rw [← e0]; exact upd_same
    have s3 : Same H2 H3 := by rw [← e0]; exact Same.new np
    clear e0
    refine st_tup2 t3 ?_
    walk_at "gs"
    refine ⟨a, c, p, q, rfl, a2.same s3, c2.same s3, low_two hp, low_two hq, bp.le (by decide), bq.le (by decide), fun d1 H4 g1 s4 => ?_⟩
    have S4 : Same H2 H4 := s3.trans s4
    walk_at "gs"
    refine ⟨c, q, rfl, c2.same S4, fun n1 H5 g2 s5 => ?_⟩
    have S5 := S4.trans s5
    walk_at "gs"
    refine ⟨a, n1, p, rneg q, rfl, a2.same S5, g2, low_two hp, low_two (neg_low hq), bp.le (by decide), (bn_neg bq).le (by decide), fun d2 H6 g3 s6 => ?_⟩
    rw [rsub_eq] at g3
    have S6 := S5.trans s6
    walk_at "gs"
    refine ⟨a, c, p, q, rfl, a2.same S6, c2.same S6, low_two hp, low_two hq, bp.le (by decide), bq.le (by decide), fun d3 H7 g4 s7 => ?_⟩
    have S7 := S6.trans s7
    walk_at "gs"
    refine ⟨a, p, rfl, a2.same S7, fun d4 H8 g5 s8 => ?_⟩
    have S8 := S7.trans s8
    walk_at "gs"
    intro L1 nL
    generalize e9 : upd H8 L1 _ = H9
    have a9 : H9 L1 = some (.lst [.ref d1, .ref d2, .ref d3, .ref d4]) := by rw [← e9]; exact upd_same
    have s9 : Same H8 H9 := by rw [← e9]; exact Same.new nL
    clear e9
    have S9 := S8.trans s9
    walk_at "gs"
    have p1 := ((((g1.same s5).same s6).same s7).same s8).same s9
    have p2 := ((g3.same s7).same s8).same s9
    have p3 := (g4.same s8).same s9
    have p4 := g5.same s9
    refine st_own (r2.same S9) (hv.same S9) hp hq bp bq fun r3 H10 h3 s10 => ?_
    walk_at "gs"
    refine st_own ((r2.same S9).same s10) ((hv.same S9).same s10) hp hq bp bq fun r4 H11 h4 s11 => ?_
    have T11 := s10.trans s11
    walk_at "gs"
    refine st_own ((r2.same S9).same T11) ((hv.same S9).same T11) hp hq bp bq fun r5 H12 h5 s12 => ?_
    have T12 := T11.trans s12
    walk_at "gs"
    obtain ⟨rx, hrx⟩ := r2
    have r2 : RAt K H2 r p := ⟨rx, hrx⟩
    refine ⟨r, rx, _, rfl, T12 _ _ (S9 _ _ hrx), r, p, rfl, (r2.same S9).same T12, hp, bp.le (by decide), fun r6 H13 h6 s13 => ?_⟩
    have T13 := T12.trans s13
    walk_at "gs"
    intro Lb nLb
    generalize e14 : upd H13 Lb _ = H14
    have a14 : H14 Lb = some (.lst [.ref r3, .ref r4, .ref r5, .ref r6]) := by rw [← e14]; exact upd_same
    have s14 : Same H13 H14 := by rw [← e14]; exact Same.new nLb
    clear e14
    have T14 := T13.trans s14
    walk_at "gs"
    refine ⟨.inr (.inr ⟨by decide, _, _, _, _, rfl, rfl, a14, T14 _ _ a9, .cons (lkR ((((h3.same s11).same s12).same s13).same s14) (p1.same T14)) (.cons (lkR (((h4.same s12).same s13).same s14) (p2.same T14)) (.cons (lkR ((h5.same s13).same s14) (p3.same T14)) (.cons (lkR (h6.same s14) (p4.same T14)) .nil))), (show (4 : Nat) ≤ 20 by decide)⟩), fun H15 s15 => ?_⟩
    have T15 := T14.trans s15
    have U15 := S9.trans T15
    have b15 := T15 _ _ a9
    walk_at "gs"
    obtain ⟨om1, om2⟩ := rmul_ok hp hq bp bq
    obtain ⟨os1, os2⟩ := rsub_ok hp hq bp bq
    refine st_own (r2.same U15) (hv.same U15) hp hq bp bq fun r7 H16 h7 s16 => ?_
    have b16 := s16 _ _ b15
    walk_at "gs"
    refine ⟨r7, d3, _, rfl, h7, (p3.same T15).same s16, om1, om2, fun H17 s17 => ?_⟩
    have b17 := s17 _ _ b16
    have V17 := s16.trans s17
    walk_at "gs"
    refine st_own ((r2.same U15).same V17) ((hv.same U15).same V17) hp hq bp bq fun r8 H18 h8 s18 => ?_
    have b18 := s18 _ _ b17
    walk_at "gs"
    refine ⟨r8, d2, _, rfl, h8, ((p2.same T15).same V17).same s18, os1, os2, fun H19 s19 => ?_⟩
    have U19 := U15.trans (V17.trans (s18.trans s19))
    walk_at "gs"
    have ha9 : H19 a = some (.tup [.int p.1, .int p.2]) := a2.same U19
    have hc9 : H19 c = some (.tup [.int q.1, .int q.2]) := c2.same U19
    have m0 : CMulG p.1 q.2 := mulG bp.1 bq.2
    have m1 : CMulG q.1 p.2 := mulG bq.1 bp.2
    walk_at "gs"
    have hr19 : H19 r = some (RIn K rx p) := U19 _ _ hrx
    refine ⟨r, rx, _, rfl, hr19, rfl, ?_⟩
    walk_at "gs"
    refine ⟨r, v, p, q, rfl, r2.same U19, hv.same U19, bp.le (by decide), bq.le (by decide), fun H20 s20 => ?_⟩
    walk_at "gs"
    refine ⟨r, rx, _, rfl, s20 _ _ hr19, rfl, ?_⟩
    walk_at "gs"
    refine ⟨r, v, p, q, rfl, (r2.same U19).same s20, (hv.same U19).same s20, bp.le (by decide), bq.le (by decide), fun H21 s21 => ?_⟩
    have S21 := s20.trans s21
    walk_at "gs"
    refine ⟨r, rx, _, rfl, S21 _ _ hr19, rfl, ?_⟩
    walk_at "gs"
    refine ⟨r, .ref r, p, p, rfl, (r2.same U19).same S21, .inl ⟨r, rfl, (r2.same U19).same S21⟩, bp.le (by decide), bp.le (by decide), fun H22 s22 => ?_⟩
    have S22 := S21.trans s22
    walk_at "gs"
    intro La na
    generalize e23 : upd H22 La _ = H23
    have a23 : H23 La = some (.lst [.bl (decide (p.1 * q.2 < q.1 * p.2)), .bl (decide (p.1 * q.2 < q.1 * p.2)), .bl (decide (p.1 * p.2 < p.1 * p.2))]) := by rw [← e23]; exact upd_same
    have s23 : Same H22 H23 := by rw [← e23]; exact Same.new na
    clear e23
    walk_at "gs"
    intro Lc nc
    generalize e24 : upd H23 Lc _ = H24
    have a24 : H24 Lc = some (.lst [.bl (decide (p.1 * q.2 < q.1 * p.2)), .bl (decide (p.1 * q.2 < q.1 * p.2)), .bl false]) := by rw [← e24]; exact upd_same
    have s24 : Same H23 H24 := by rw [← e24]; exact Same.new nc
    clear e24
    walk_at "gs"
    have zf : decide (p.1 * p.2 < p.1 * p.2) = false := decide_eq_false (Int.lt_irrefl _)
    refine ⟨.inr (.inr ⟨by decide, _, _, _, _, rfl, rfl, s24 _ _ a23, a24, .cons (.inl (.inr (.inl ⟨_, rfl, rfl⟩))) (.cons (.inl (.inr (.inl ⟨_, rfl, rfl⟩))) (.cons (.inl (.inr (.inl ⟨_, by rw [zf], rfl⟩))) .nil)), (show (3 : Nat) ≤ 20 by decide)⟩), fun H25 s25 => ?_⟩
    have U25 := U19.trans (S22.trans (s23.trans (s24.trans s25)))
    have r25 := r2.same U25
    have v25 := hv.same U25
    have a25 := a2.same U25
    have c25 := c2.same U25
    have ha25 : H25 a = some (.tup [.int p.1, .int p.2]) := a25
    have hc25 : H25 c = some (.tup [.int q.1, .int q.2]) := c25
    have B25 := hB2.same U25
    have hx25 : ExtB b H H25 := (ExtB.of ((Ext.of s1).trans (x2.trans (Ext.of U25))))
    have T25 := T2.ext U25
    clear hr19 S22 S21 V17 b18 b17 b16 b15 p1 p2 p3 p4 h3 h4 h5 h6 h7 h8 g1 g2 g3 g4 g5 a9 a14 a23 a24
    walk_at "gs"
    refine st_if (fun c0 => ?_) (fun c0 => ?_)
    · have z0 : q.1 = 0 := V.int.inj c0
      walk_at "gs"
      intro H26 f c' e26 T26 hc'
      walk_at "gs"
      refine ⟨fun _ _ h => h, ?_⟩
      refine ⟨f, _, v, rfl, ⟨rfl, rfl⟩, fun E' Q' h => ⟨hc', ?_⟩⟩
      have r26 := r25.extN e26
      obtain ⟨ry, hr26⟩ := r26
      walk_at "gs"
      refine ⟨r, ry, _, rfl, hr26, rfl, ?_⟩
      walk_at "gs"
      refine ⟨r, v, p, q, rfl, ⟨ry, hr26⟩, v25.extN e26, low_two hp, bp.le (by decide), bq.le (by decide), .inr ⟨z0, fun H27 s27 d fs H28 hx hl s28 => ?_⟩⟩
      refine h _ _ _ ⟨d, fs, 0, rfl, rfl, hx, hl, by decide, nv_vl ((((v25.extN e26).same s27).same s28)) z0, fun H29 s29 => ?_⟩
      have S29 := s27.trans (s28.trans s29)
      walk_at "gs"
      refine ⟨r, a, p, rfl, (r25.extN e26).same S29, (a25.extN e26).same S29, hp, bp.le (by decide), fun H30 s30 => ?_⟩
      have S30 := S29.trans s30
      exact k H30 ((B25.extN e26).same S30) (hx25.trans ((ExtB.ofN e26).trans (ExtB.of (Ext.of S30)))) (T26.ext S30)
    · have z0 : q.1 ≠ 0 := fun z => c0 (by rw [z])
      obtain ⟨ls, bs⟩ := swap_low hq bq z0
      obtain ⟨rx, hr25⟩ := r25
      have r25 : RAt K H25 r p := ⟨rx, hr25⟩
      walk_at "gs"
      refine ⟨r, rx, _, rfl, hr25, rfl, ?_⟩
      walk_at "gs"
      refine ⟨r, v, p, q, rfl, r25, v25, low_two hp, bp.le (by decide), bq.le (by decide), .inl ⟨z0, fun o1 H26 h1 s26 => ?_⟩⟩
      walk_at "gs"
      refine ⟨r, rx, _, rfl, s26 _ _ hr25, rfl, ?_⟩
      walk_at "gs"
      refine ⟨r, v, p, q, rfl, r25.same s26, v25.same s26, low_two hp, bp.le (by decide), bq.le (by decide), .inl ⟨z0, fun o2 H27 h2 s27 => ?_⟩⟩
      have S27 := s26.trans s27
      rw [rover hp hq z0] at h1 h2
      walk_at "gs"
      intro La na
      generalize e28 : upd H27 La _ = H28
      have a28 : H28 La = some (.lst [.ref o1, .ref o2]) := by rw [← e28]; exact upd_same
      have s28 : Same H27 H28 := by rw [← e28]; exact Same.new na
      clear e28
      have S28 := S27.trans s28
      have hc28 := S28 _ _ hc25
      walk_at "gs"
      refine ⟨b8000 bq.1, fun t1 H29 h3 s29 => ?_⟩
      have S29 := S28.trans s29
      walk_at "gs"
      refine ⟨a, t1, p, _, rfl, a25.same S29, h3, low_two hp, low_two ls, bp.le (by decide), bs.le (by decide), fun t2 H30 h4 s30 => ?_⟩
      have S30 := S29.trans s30
      have hc30 := S30 _ _ hc25
      walk_at "gs"
      refine ⟨b8000 bq.1, fun t3 H31 h5 s31 => ?_⟩
      have S31 := S30.trans s31
      walk_at "gs"
      refine ⟨a, t3, p, _, rfl, a25.same S31, h5, low_two hp, low_two ls, bp.le (by decide), bs.le (by decide), fun t4 H32 h6 s32 => ?_⟩
      have S32 := S31.trans s32
      walk_at "gs"
      intro Lc nc
      generalize e33 : upd H32 Lc _ = H33
      have a33 : H33 Lc = some (.lst [.ref t2, .ref t4]) := by rw [← e33]; exact upd_same
      have s33 : Same H32 H33 := by rw [← e33]; exact Same.new nc
      clear e33
      have q1 : Same H28 H33 := s29.trans (s30.trans (s31.trans (s32.trans s33)))
      have S33 := S32.trans s33
      walk_at "gs"
      refine ⟨.inr (.inr ⟨by decide, _, _, _, _, rfl, rfl, q1 _ _ a28, a33, .cons (lkR (((h1.same s27).same s28).same q1) (h4.same (s31.trans (s32.trans s33)))) (.cons (lkR ((h2.same s28).same q1) (h6.same s33)) .nil), (show (2 : Nat) ≤ 20 by decide)⟩), fun H34 s34 => ?_⟩
      have S34 := S33.trans s34
      have fin : ∀ H', Same H25 H' → Q (.bl true) H' := fun H' e => k H' (B25.same e) (hx25.trans (ExtB.of (Ext.of e))) (T25.ext e)
      have ha34 := S34 _ _ ha25
      have hc34 := S34 _ _ hc25
      have hr34 := S34 _ _ hr25
      clear h1 h2 h3 h4 h5 h6 a28 a33
      rcases v25.same S34 with ⟨o, rfl, ox, ho⟩ | ⟨rfl, h1⟩
      · have ty := tyR (w := w) T ho
        have k3 := kR3 T
        walk_at "go"
        refine ⟨r, rx, _, rfl, hr34, ⟨_, ty, .inl rfl⟩, ?_⟩
        refine ⟨r, .ref o, p, rfl, ⟨rx, hr34⟩, .inl ⟨o, q, rfl, ⟨ox, ho⟩, ?_⟩⟩
        walk_at "go"
        refine ⟨_, _, .tup (SqT.of ha34) (.cons (.int _) (.cons (.int _) .nil)), .tup (SqT.of hc34) (.cons (.int _) (.cons (.int _) .nil)), rfl, rfl, ?_⟩
        rw [eqvP]
        walk_at "gs"
        refine ⟨.inl ⟨by decide, .inr (.inl ⟨_, rfl, rfl⟩)⟩, fun H35 s35 => ?_⟩
        have S35 := S34.trans s35
        walk_at "gs"
        refine ⟨r, a, p, rfl, r25.same S35, a25.same S35, hp, bp.le (by decide), fun H36 s36 => ?_⟩
        exact fin H36 (S35.trans s36)
      · walk_at "go"
        refine ⟨r, rx, _, rfl, hr34, ⟨_, .x (.base (.int _)), .inr ⟨"int", by decide, rfl⟩⟩, ?_⟩
        refine ⟨r, .int q.1, p, rfl, ⟨rx, hr34⟩, .inr ⟨"int", by decide, .x (.base (.int _)), ?_⟩⟩
        walk_at "go"
        refine ⟨.inl ⟨by decide, .inr (.inl ⟨_, rfl, rfl⟩)⟩, fun H35 s35 => ?_⟩
        have S35 := S34.trans s35
        walk_at "gs"
        refine ⟨r, a, p, rfl, r25.same S35, a25.same S35, hp, bp.le (by decide), fun H36 s36 => ?_⟩
        exact fin H36 (S35.trans s36)
end
end K01
end -- a19
section -- a20
set_option Elab.async false
set_option linter.all false
set_option maxRecDepth 100000
set_option maxHeartbeats 4000000
set_option pp.maxSteps 700
local macro_rules | `(tactic| walk_at "lvl") => `(tactic| first
  | decide
  | omega
  | (simp only [Nat.add_eq]; omega))
local macro_rules | `(tactic| walk_at "side") => `(tactic| first
  | decide
  | assumption
  | omega
  | exact Nat.le_of_ble_eq_true (by rfl)
  | exact ⟨by decide, by decide⟩
  | exact ⟨by decide, by decide, by decide⟩
  | exact Or.inl (Or.inr ⟨by decide, by decide⟩)
  | exact Or.inl (Or.inl ⟨by decide, by decide⟩))
local macro_rules | `(tactic| walk_at "ty") => `(tactic| first
  | assumption
  | exact L2.TyG.x (.base (.int _))
  | exact L2.TyG.x (.base (.str _))
  | exact L2.TyG.x (.base (.bl _))
  | exact L2.TyG.x (.base .non)
  | exact L2.TyG.x (.base (.lst (by assumption)))
  | exact L2.TyG.x (.base (.tup (by assumption)))
  | exact K01.tyR (by assumption) (by assumption)
  | exact L2.TyG.dn (by assumption))
local macro_rules | `(tactic| walk_at "cv") => `(tactic| first
  | exact L2.ClsV.ty _
  | exact L2.ClsV.own _)
local macro_rules | `(tactic| walk_at "kit") => `(tactic| first
  | exact L2.kit_ty (by decide +kernel)
  | exact K01.kR (by assumption) (by decide)
  | exact K01.kR2 (by assumption) (by decide)
  | exact K01.kR3 (by assumption))
local macro_rules | `(tactic| walk_at "s1") => `(tactic| first
  | refine ⟨_, rfl, ?_⟩
  | refine ⟨_, _, _, _, _, rfl, (by assumption), K01.clsR (by assumption), He.noat_ok (K01.a_noat_Ratio_top (by assumption)), rfl, ?_⟩
  | refine ⟨_, _, _, _, _, rfl, (by assumption), K01.clsR (by assumption), He.noat_ok (K01.a_noat_Ratio_bottom (by assumption)), rfl, ?_⟩
  | refine ⟨_, _, rfl, rfl, ?_⟩
  | refine ⟨_, _, rfl, ?_⟩
  | refine And.intro rfl ?_
  | refine L2.iteT ?_
  | refine L2.iteF ?_
  | refine L2.st_ixl (by assumption) (by rfl) ?_
  | refine L2.st_ixt (by assumption) (by rfl) ?_
  | refine L2.st_lenR (L2.lenr_l (by assumption)) ?_
  | refine L2.st_lenGR (L2.lenr_l (by assumption)) ?_
  | refine L2.st_lenGR (L2.lenr_t (by assumption)) ?_
  | refine L2.st_lenR (L2.lenr_t (by assumption)) ?_
  | refine L2.st_isG (b := false) (by walk_at "ty") (by walk_at "cv") (by walk_at "kit") ?_
  | refine L2.st_isG (b := true) (by walk_at "ty") (by walk_at "cv") (by walk_at "kit") ?_
  | refine And.intro (by walk_at "side") ?_)
local macro_rules | `(tactic| walk_at "go") => `(tactic| repeat (walk_at "s1"))
local macro_rules | `(tactic| walk_at "s2") => `(tactic| first
  | refine ⟨_, rfl, ?_⟩
  | refine ⟨_, _, _, _, _, rfl, (by assumption), K01.clsR (by assumption), He.noat_ok (K01.a_noat_Ratio_top (by assumption)), rfl, ?_⟩
  | refine ⟨_, _, _, _, _, rfl, (by assumption), K01.clsR (by assumption), He.noat_ok (K01.a_noat_Ratio_bottom (by assumption)), rfl, ?_⟩
  | refine ⟨_, _, rfl, rfl, ?_⟩
  | refine ⟨_, _, rfl, ?_⟩
  | refine And.intro rfl ?_
  | refine L2.iteT ?_
  | refine L2.iteF ?_
  | refine L2.st_ixl (by assumption) (by rfl) ?_
  | refine L2.st_ixt (by assumption) (by rfl) ?_
  | refine L2.st_lenR (L2.lenr_l (by assumption)) ?_
  | refine L2.st_lenGR (L2.lenr_l (by assumption)) ?_
  | refine L2.st_lenGR (L2.lenr_t (by assumption)) ?_
  | refine L2.st_lenR (L2.lenr_t (by assumption)) ?_
  | refine And.intro (by walk_at "side") ?_)
local macro_rules | `(tactic| walk_at "gs") => `(tactic| repeat (walk_at "s2"))
namespace K01
open PySem PySem.Spec PyProof.Rows L2 L2R TL LamX
section
variable {P : Program} {w : World} {K : PySem.W.Frag} {mg : Str → Option Value} {base : Heap}
theorem op_eqOwnK {X : Cx} {C f : Addr} {k : Nat} {fd : FuncData} {ps : List Str} {sp : Sp} {K : PySem.W.Frag} {w : World} (hK : X.K = K) (hw : X.w = w) (hm : OwnEq X.K C f) (F : FnOk X.prog X.w X.K X.mg X.base (L2.CX X.prog X.w) k f fd ps sp) (hr : Room k X.A) (hb : Binds X.K fd ps []) (hu : X.A.units + 64 < cLine) : OpR X (compareOp .Eq) (rEqOwn K w C sp) := by
  subst hK
  subst hw
  exact op_eqOwn hm F hr hb hu
theorem op_neOwnK {X : Cx} {C f : Addr} {k : Nat} {fd : FuncData} {ps : List Str} {sp : Sp} {K : PySem.W.Frag} {w : World} (hK : X.K = K) (hw : X.w = w) (hm : OwnEq X.K C f) (F : FnOk X.prog X.w X.K X.mg X.base (L2.CX X.prog X.w) k f fd ps sp) (hr : Room (k + 1) X.A) (hb : Binds X.K fd ps []) : OpR X (compareOp .NotEq) (rNeOwn K w C sp) := by
  subst hK
  subst hw
  exact op_neOwn hm F hr hb
/-- a number near by -/
def Nr (p : Int × Int) (u d : Int) : Prop := d ≠ 0 ∧ rlow u d ≠ p ∧ d.natAbs < 2 ^ 142
theorem nr_of {p : Int × Int} {u d : Int} (bd : d.natAbs < 2 ^ 142) (hd : d ≠ 0) (h : p.1 * d ≠ u * p.2) : Nr p u d :=
  ⟨hd, fun z => h (by have := (low_cross (t := u) hd).2; rw [z] at this; exact this), bd⟩
theorem nr1 {p : Int × Int} (hp : Low p) (bp : Bn 140 p) : Nr p (p.1 + p.2) p.2 := nr_of (by have := bp.2; omega) (low_two hp) fun z => by
  have := Int.eq_of_mul_eq_mul_right (low_two hp) z
  have := low_two hp
  omega
theorem nr2 {p : Int × Int} (hp : Low p) (bp : Bn 140 p) : Nr p (0 - p.1 - 1) p.2 := nr_of (by have := bp.2; omega) (low_two hp) fun z => by
  have := Int.eq_of_mul_eq_mul_right (low_two hp) z
  omega
theorem nr3 {p : Int × Int} (hp : Low p) (bp : Bn 140 p) : Nr p (p.1 * 2 + 1) (p.2 * 2) := nr_of (by have := bp.2; omega) (by have := low_two hp; omega) fun z => by
  have e : p.1 * (p.2 * 2) = (p.1 * 2) * p.2 := by rw [Int.mul_comm p.2 2, ← Int.mul_assoc]
  rw [e] at z
  have := Int.eq_of_mul_eq_mul_right (low_two hp) z
  omega
def spEqs : Sp := fun vs H Q _ => ∃ (b l a c : Addr) (p t : Int × Int), vs = [.ref b, .ref a, .ref c] ∧ BagAt b l H ∧ PT H a p ∧ PT H c t ∧ Low p ∧ Bn 140 p ∧ Bn 140 t ∧ t.2 ≠ 0 ∧ rlow t.1 t.2 = p ∧
  ∀ H', BagAt b l H' → Ext b H H' → Q (.bl true) H'
theorem G__law_equals (T : TL K mg) : FX P w K mg base 9 "_law_equals" [] spEqs := by
  have R := G_like (P := P) (w := w) (base := base) T 3
  obtain ⟨fdR, FR0, FR⟩ := ok_RatioI (P := P) (w := w) (base := base) T
  have bR := bRat FR0
  obtain ⟨fdE, FE0, FE⟩ := ok__eq (P := P) (w := w) (base := base) T
  have bE : Binds K fdE ["self", "other"] [] := FE0.bindsN (fun _ _ _ _ _ _ us hl => match us, hl with | [_, _], _ => rfl)
  obtain ⟨fd, F⟩ := F__law_equals T
  refine FX.of F (g__law_equals T) (F.ok0 sc__law_equals (fun vs H Q E h => ?_) (fun cdv A outer s H vs Q E hr h => ?_)) (fun _ _ _ _ _ _ us hl => match us, hl with | [_, _, _], _ => rfl)
  · obtain ⟨b, l, a, c, p, t, rfl, _⟩ := h
    rfl
  · obtain ⟨b, l, a, c, p, t, rfl, hB, ha, hc, hp, bp, bt, ht, et, k⟩ := h
    refine ⟨_, (pss_cons (ps_asg (pe_tup (pa_cons (pe_make (mkR T) FR (hr.mono (by walk_at "lvl")) rfl (g_Ratio T) bR .nil passL (pa_cons (pe_ix ix_seq (pv 1) pe_int (fun _ _ => rfl)) (pa_cons (pe_ix ix_seq (pv 1) pe_int (fun _ _ => rfl)) pa_nil))) (pa_cons (pe_fx (G__law_of T) (hr.mono (by walk_at "lvl")) passL (pa_cons (pv 0) (pa_cons (pe_lst (pa_cons (pe_op op_sub pe_int pe_int) (pa_cons pe_int (pa_cons pe_int (pa_cons pe_int (pa_cons (pe_op op_sub pe_int pe_int) pa_nil)))))) pa_nil))) pa_nil))) (pg_tup rfl (pgs_cons (pg_name (i := 3) sc__law_equals.nd rfl (by first | exact Or.inl rfl | exact Or.inr rfl)) (pgs_cons (pg_name (i := 4) sc__law_equals.nd rfl (by first | exact Or.inl rfl | exact Or.inr rfl)) pgs_nil))))
      (pss_cons (ps_set (i := 5) sc__law_equals.nd rfl (by first | exact Or.inl rfl | exact Or.inr rfl) (pe_fx (G__law_of T) (hr.mono (by walk_at "lvl")) passL (pa_cons (pv 0) (pa_cons (pe_lst (pa_cons (pe_tup (pa_cons (pe_op op_addG (pe_ix ix_seq (pv 1) pe_int (fun _ _ => rfl)) (pe_ix ix_seq (pv 1) pe_int (fun _ _ => rfl))) (pa_cons (pe_ix ix_seq (pv 1) pe_int (fun _ _ => rfl)) pa_nil))) (pa_cons (pe_tup (pa_cons (pe_op op_sub (pe_op op_sub pe_int (pe_ix ix_seq (pv 1) pe_int (fun _ _ => rfl))) pe_int) (pa_cons (pe_ix ix_seq (pv 1) pe_int (fun _ _ => rfl)) pa_nil))) (pa_cons (pe_tup (pa_cons (pe_op op_addG (pe_op op_mulI (pe_ix ix_seq (pv 1) pe_int (fun _ _ => rfl)) pe_int) pe_int) (pa_cons (pe_op op_mulI (pe_ix ix_seq (pv 1) pe_int (fun _ _ => rfl)) pe_int) pa_nil))) pa_nil)))) pa_nil))))
      (pss_cons (ps_set (i := 6) sc__law_equals.nd rfl (by first | exact Or.inl rfl | exact Or.inr rfl) (pe_lst (pa_cons (pe_ix ix_seq (pv 1) pe_int (fun _ _ => rfl)) (pa_cons (pe_tup (pa_cons (pe_ix ix_seq (pv 1) pe_int (fun _ _ => rfl)) (pa_cons (pe_ix ix_seq (pv 1) pe_int (fun _ _ => rfl)) pa_nil))) (pa_cons (pe_fx (G__law_num_text T) (hr.mono (by walk_at "lvl")) passL (pa_cons (pv 1) pa_nil)) (pa_cons pe_non (pa_cons pe_bl pa_nil)))))))
      (pss_cons (ps_set (i := 7) sc__law_equals.nd rfl (by first | exact Or.inl rfl | exact Or.inr rfl) (pe_lst (pa_cons (pe_cmpR (op_eqOwn (exOs T).2.2.2.1 FE (hr.mono (by walk_at "lvl")) bE hr.units) (pv 3) (pe_make (mkR T) FR (hr.mono (by walk_at "lvl")) rfl (g_Ratio T) bR .nil passL (pa_cons (pe_op op_mulI (pe_ix ix_seq (pv 1) pe_int (fun _ _ => rfl)) (pv 4)) (pa_cons (pe_op op_mulI (pe_ix ix_seq (pv 1) pe_int (fun _ _ => rfl)) (pv 4)) pa_nil))) (nomark _)) (pa_cons (pe_cmpR (op_eqOwn (exOs T).2.2.2.1 FE (hr.mono (by walk_at "lvl")) bE hr.units) (pv 3) (pe_make (mkR T) FR (hr.mono (by walk_at "lvl")) rfl (g_Ratio T) bR .nil passL (pa_cons (pe_ix ix_seq (pv 2) pe_int (fun _ _ => rfl)) (pa_cons (pe_ix ix_seq (pv 2) pe_int (fun _ _ => rfl)) pa_nil))) (nomark _)) (pa_cons (pe_cmpR (op_eqOwn (exOs T).2.2.2.1 FE (hr.mono (by walk_at "lvl")) bE hr.units) (pv 3) (pe_make (mkR T) FR (hr.mono (by walk_at "lvl")) rfl (g_Ratio T) bR .nil passL (pa_cons (pe_ix ix_seq (pv 5) pe_int (fun _ _ => rfl)) (pa_cons (pe_ix ix_seq (pv 5) pe_int (fun _ _ => rfl)) pa_nil))) (nomark _)) pa_nil)))))
      (pss_cons (ps_if (PW.pt (pw_or (pt_not (pt_val (pe_fx R (hr.mono (by walk_at "lvl")) passL (pa_cons (pv 7) (pa_cons (pe_lst (pa_cons pe_bl (pa_cons pe_bl (pa_cons pe_bl pa_nil)))) pa_nil))))) (pw_or1 (pt_not (pt_val (pe_fx R (hr.mono (by walk_at "lvl")) passL (pa_cons (pe_lst (pa_cons (pe_cmpR (op_neOwn (exOs T).2.2.2.1 FE (hr.mono (by walk_at "lvl")) bE) (pv 3) (pe_make (mkR T) FR (hr.mono (by walk_at "lvl")) rfl (g_Ratio T) bR .nil passL (pa_cons (pe_ix ix_seq (pv 5) pe_int (fun _ _ => rfl)) (pa_cons (pe_ix ix_seq (pv 5) pe_int (fun _ _ => rfl)) pa_nil))) (nomark _)) (pa_cons (pe_cmpR (op_neOwn (exOs T).2.2.2.1 FE (hr.mono (by walk_at "lvl")) bE) (pv 3) (pv 3) (nomark _)) pa_nil))) (pa_cons (pe_lst (pa_cons pe_bl (pa_cons pe_bl pa_nil))) pa_nil))))))))
        (pss_one (ps_ret pe_bl))
        pss_nil)
      (pss_one (ps_ret (pe_notT (pe_lc (own := [("v", 8)]) (g := gName 8) (tt := _) rfl sc__law_equals.nd (pi_list (pv 6)) (blkOk_by (N := N__law_equals) (sc := defScope s__law_equals) (by decide +kernel)) (fun _ _ _ _ _ => pg_name (i := 8) sc__law_equals.nd rfl (Or.inl rfl)) (fun _ _ _ _ _ => pts_one (PW.pt (pw_or (pt_cmpR (op_eqOwnK (K := K) (w := w) rfl rfl (exOs T).2.2.2.1 FE (hr.mono (by walk_at "lvl")) bE hr.units) (pv 3) (pv 8) (nomark _)) (pw_or1 (pt_not (pt_cmpR (op_neOwnK (K := K) (w := w) rfl rfl (exOs T).2.2.2.1 FE (hr.mono (by walk_at "lvl")) bE) (pv 3) (pv 8) (nomark _))))))) (fun _ _ _ _ _ => (pv 8))))))))))), ?_⟩
    have ha0 : H a = some (.tup [.int p.1, .int p.2]) := ha
    have hc0 : H c = some (.tup [.int t.1, .int t.2]) := hc
    walk_at "gs"
    intro r dr nr nd ne
    refine st_rat1 nr nd ne (low_two hp) (b8000 bp.2) fun H1 hr1 s1 => ⟨rfl, ?_⟩
    rw [rlow_low hp] at hr1
    obtain ⟨rx, hr1⟩ := hr1
    have hB1 := hB.same s1
    walk_at "gs"
    refine st_ofI hB1 (by simp) (by decide) fun x H2 hx hB2 x2 => ?_
    have key : ∃ k : Int, x = .int k ∧ k ≠ 0 ∧ k.natAbs < 2 ^ 4 := by
      simp only [List.mem_cons, List.not_mem_nil, or_false] at hx
      rcases hx with rfl | rfl | rfl | rfl | rfl
      all_goals exact ⟨_, rfl, by decide, by decide⟩
    obtain ⟨g, rfl, g0, g1⟩ := key
    have ha2 := PT.off hB1 x2 (ha.same s1)
    have hc2 := PT.off hB1 x2 (hc.same s1)
    have hr2 := extOff hB1 x2 hr1 (fun _ z => nomatch z)
    have X2 : Ext b H H2 := (Ext.of s1).trans x2
    walk_at "gs"
    intro tp np
    generalize e0 : upd H2 tp _ = H3
    have t3 : H3 tp = some (.tup [.ref r, .int g]) := by rw [← e0]; exact upd_same
    have s3 : Same H2 H3 := by rw [← e0]; exact Same.new np
    clear e0
    refine st_tup2 t3 ?_
    have ha3 : H3 a = some (.tup [.int p.1, .int p.2]) := s3 _ _ ha2
    have m0 : CMulG p.1 2 := mulG (b := 2) bp.1 (by decide)
    have m1 : CMulG p.2 2 := mulG (b := 2) bp.2 (by decide)
    walk_at "gs"
    intro n1 f1
    generalize e4 : upd H3 n1 _ = H4
    have b1 : PT H4 n1 (p.1 + p.2, p.2) := by rw [← e4]; exact upd_same
    have s4 : Same H3 H4 := by rw [← e4]; exact Same.new f1
    clear e4
    have ha4 := s4 _ _ ha3
    walk_at "gs"
    intro n2 f2
    generalize e5 : upd H4 n2 _ = H5
    have b2 : PT H5 n2 (0 - p.1 - 1, p.2) := by rw [← e5]; exact upd_same
    have s5 : Same H4 H5 := by rw [← e5]; exact Same.new f2
    clear e5
    have ha5 := s5 _ _ ha4
    walk_at "gs"
    intro n3 f3
    generalize e6 : upd H5 n3 _ = H6
    have b3 : PT H6 n3 (p.1 * 2 + 1, p.2 * 2) := by rw [← e6]; exact upd_same
    have s6 : Same H5 H6 := by rw [← e6]; exact Same.new f3
    clear e6
    have S6 := s3.trans (s4.trans (s5.trans s6))
    have hB6 := hB2.same S6
    walk_at "gs"
    refine st_ofI hB6 (by simp) (show (3 : Nat) < 1000 by decide) fun x H7 hx hB7 x7 => ?_
    have key : ∃ (n : Addr) (u d : Int), x = .ref n ∧ PT H7 n (u, d) ∧ Nr p u d := by
      simp only [List.mem_cons, List.not_mem_nil, or_false] at hx
      rcases hx with rfl | rfl | rfl
      · exact ⟨n1, _, _, rfl, PT.off hB6 x7 ((b1.same s5).same s6), nr1 hp bp⟩
      · exact ⟨n2, _, _, rfl, PT.off hB6 x7 (b2.same s6), nr2 hp bp⟩
      · exact ⟨n3, _, _, rfl, PT.off hB6 x7 b3, nr3 hp bp⟩
    obtain ⟨n, u, d, rfl, hn, d0, nz, bd⟩ := key
    have ha7 : H7 a = some (.tup [.int p.1, .int p.2]) := PT.off hB6 x7 (ha2.same S6)
    have hc7 := PT.off hB6 x7 (hc2.same S6)
    have hr7 := extOff hB6 x7 (S6 _ _ hr2) (fun _ z => nomatch z)
    have X7 : Ext b H H7 := X2.trans ((Ext.of S6).trans x7)
    clear hx b1 b2 b3 f1 f2 f3 ha5 ha4 ha3 ha2 hc2 hr2
    walk_at "gs"
    intro q1 f1
    generalize e8 : upd H7 q1 _ = H8
    have b8 : H8 q1 = some (.tup [.int p.1, .int p.2]) := by rw [← e8]; exact upd_same
    have s8 : Same H7 H8 := by rw [← e8]; exact Same.new f1
    clear e8
    walk_at "gs"
    obtain ⟨x1, y1, z1⟩ := rtext_facts hp (bp.le (by decide))
    refine ⟨a, p, rfl, s8 _ _ ha7, x1, ?_⟩
    walk_at "gs"
    intro rs f9
    generalize e9 : upd H8 rs _ = H9
    have a9 : H9 rs = some (.lst [.int p.1, .ref q1, .str (rtext p), .non, .bl true]) := by rw [← e9]; exact upd_same
    have s9 : Same H8 H9 := by rw [← e9]; exact Same.new f9
    clear e9
    have S9 := s8.trans s9
    have ha9 := S9 _ _ ha7
    have hr9 := S9 _ _ hr7
    have b9 := s9 _ _ b8
    walk_at "gs"
    have m2 : CMulG p.1 g := mulG (b := 4) bp.1 g1
    have m3 : CMulG p.2 g := mulG (b := 4) bp.2 g1
    walk_at "gs"
    intro y1 dy ny nd2 ne2
    refine st_rat1 ny nd2 ne2 (Int.mul_ne_zero (low_two hp) g0) (natAbs_mul_lt bp.2 g1) fun H10 h10 s10 => ⟨rfl, ?_⟩
    rw [rlow_mul (low_two hp) g0, rlow_low hp] at h10
    obtain ⟨dy1, h10⟩ := h10
    have hr10 := s10 _ _ hr9
    refine ⟨r, rx, _, rfl, hr10, ⟨_, tyR (w := w) T h10, .inl rfl⟩, r, .ref y1, p, rfl, ⟨rx, hr10⟩, .inl ⟨y1, p, rfl, ⟨dy1, h10⟩, ?_⟩⟩
    have hc10 : H10 c = some (.tup [.int t.1, .int t.2]) := s10 _ _ (S9 _ _ hc7)
    walk_at "gs"
    intro y2 dy2 ny2 nd3 ne3
    refine st_rat1 ny2 nd3 ne3 ht (b8000 bt.2) fun H11 h11 s11 => ⟨rfl, ?_⟩
    rw [et] at h11
    obtain ⟨dy2, h11⟩ := h11
    have hr11 := s11 _ _ hr10
    refine ⟨r, rx, _, rfl, hr11, ⟨_, tyR (w := w) T h11, .inl rfl⟩, r, .ref y2, p, rfl, ⟨rx, hr11⟩, .inl ⟨y2, p, rfl, ⟨dy2, h11⟩, ?_⟩⟩
    have hn11 : H11 n = some (.tup [.int u, .int d]) := s11 _ _ (s10 _ _ (S9 _ _ hn))
    walk_at "gs"
    intro y3 dy3 ny3 nd4 ne4
    refine st_rat1 ny3 nd4 ne4 d0 (b8000 bd) fun H12 h12 s12 => ⟨rfl, ?_⟩
    obtain ⟨dy3, h12⟩ := h12
    have hr12 := s12 _ _ hr11
    have hn12 := s12 _ _ hn11
    refine ⟨r, rx, _, rfl, hr12, ⟨_, tyR (w := w) T h12, .inl rfl⟩, r, .ref y3, p, rfl, ⟨rx, hr12⟩, .inl ⟨y3, _, rfl, ⟨dy3, h12⟩, ?_⟩⟩
    have zt : decide (p = p) = true := decide_eq_true rfl
    have zf : decide (p = rlow u d) = false := decide_eq_false (fun z => nz z.symm)
    walk_at "gs"
    intro r13 f13
    generalize e13 : upd H12 r13 _ = H13
    have a13 : H13 r13 = some (.lst [.bl true, .bl true, .bl false]) := by rw [← zt, ← zf, ← e13]; exact upd_same
    have s13 : Same H12 H13 := by rw [← e13]; exact Same.new f13
    clear e13
    walk_at "gs"
    intro r14 f14
    generalize e14 : upd H13 r14 _ = H14
    have a14 : H14 r14 = some (.lst [.bl true, .bl true, .bl false]) := by rw [← e14]; exact upd_same
    have s14 : Same H13 H14 := by rw [← e14]; exact Same.new f14
    clear e14
    walk_at "gs"
    refine ⟨.inr (.inr ⟨by decide, _, _, _, _, rfl, rfl, s14 _ _ a13, a14, .cons (.inl (.inr (.inl ⟨_, rfl, rfl⟩))) (.cons (.inl (.inr (.inl ⟨_, rfl, rfl⟩))) (.cons (.inl (.inr (.inl ⟨_, rfl, rfl⟩))) .nil)), (show (3 : Nat) ≤ 20 by decide)⟩), fun H15 s15 => ?_⟩
    have S15 := s13.trans (s14.trans s15)
    have hn15 := S15 _ _ hn12
    walk_at "gs"
    intro y4 dy4 ny4 nd5 ne5
    refine st_rat1 ny4 nd5 ne5 d0 (b8000 bd) fun H16 h16 s16 => ⟨rfl, ?_⟩
    obtain ⟨dy4, h16⟩ := h16
    have hr16 := s16 _ _ (S15 _ _ hr12)
    refine ⟨r, rx, _, rfl, hr16, ⟨_, tyR (w := w) T h16, .inl rfl⟩, r, .ref y4, p, rfl, ⟨rx, hr16⟩, .inl ⟨y4, _, rfl, ⟨dy4, h16⟩, ?_⟩⟩
    walk_at "gs"
    refine ⟨r, rx, _, rfl, hr16, ⟨_, tyR (w := w) T hr16, .inl rfl⟩, r, .ref r, p, rfl, ⟨rx, hr16⟩, .inl ⟨r, _, rfl, ⟨rx, hr16⟩, ?_⟩⟩
    walk_at "gs"
    intro r17 f17
    generalize e17 : upd H16 r17 _ = H17
    have a17 : H17 r17 = some (.lst [.bl (!decide (p = rlow u d)), .bl (!decide (p = p))]) := by rw [← e17]; exact upd_same
    rw [zf, zt] at a17
    have s17 : Same H16 H17 := by rw [← e17]; exact Same.new f17
    clear e17
    walk_at "gs"
    intro r18 f18
    generalize e18 : upd H17 r18 _ = H18
    have a18 : H18 r18 = some (.lst [.bl true, .bl false]) := by rw [← e18]; exact upd_same
    have s18 : Same H17 H18 := by rw [← e18]; exact Same.new f18
    clear e18
    walk_at "gs"
    refine ⟨.inr (.inr ⟨by decide, _, _, _, _, rfl, rfl, s18 _ _ a17, a18, .cons (.inl (.inr (.inl ⟨_, rfl, rfl⟩))) (.cons (.inl (.inr (.inl ⟨_, rfl, rfl⟩))) .nil), (show (2 : Nat) ≤ 20 by decide)⟩), fun H19 s19 => ?_⟩
    have S19 := s17.trans (s18.trans s19)
    have U19 : Same H9 H19 := s10.trans (s11.trans (s12.trans (S15.trans (s16.trans S19))))
    have hr19 := U19 _ _ hr9
    have b19 := U19 _ _ b9
    have a19 := U19 _ _ a9
    have B19 : BagAt b l H19 := ((hB7.same s8).same s9).same U19
    have X19 : Ext b H H19 := X7.trans (Ext.of (S9.trans U19))
    clear a13 a14 a17 a18 h16 h12 h11 h10 hn12 hn15 hn11 hc10 hr16 hr12 hr11 hr10
    walk_at "gs"
    refine ⟨⟨_, SqL.of a19⟩, fun D nD => lc_list (xs := [.int p.1, .ref q1, .str (rtext p), .non, .bl true]) (K := K) (a := rs) (fun i H' => H' = upd H19 D (.lst [])) rfl ?_ ?_ ?_⟩
    · rintro i H' _ rfl
      refine SqL.of ?_
      rw [upd_ne (ne_of_none a19 nD)]
      exact a19
    · rintro i x H' hi rfl
      generalize e20 : upd H19 D _ = H20
      have s20 : Same H19 H20 := by rw [← e20]; exact Same.new nD
      have hr20 := s20 _ _ hr19
      have b20 := s20 _ _ b19
      have hx := List.mem_of_getElem? hi
      have key : ∃ n, n ∈ tys7 ∧ n ∈ tys ∧ TyG K w H20 x (.type n) := by
        simp only [List.mem_cons, List.not_mem_nil, or_false] at hx
        rcases hx with rfl | rfl | rfl | rfl | rfl
        · exact ⟨"int", by decide, by decide, .x (.base (.int _))⟩
        · exact ⟨"tuple", by decide, by decide, .x (.base (.tup b20))⟩
        · exact ⟨"str", by decide, by decide, .x (.base (.str _))⟩
        · exact ⟨"NoneType", by decide, by decide, .x (.base .non)⟩
        · exact ⟨"bool", by decide, by decide, .x (.base (.bl _))⟩
      obtain ⟨n, n7, nt, ty⟩ := key
      walk_at "gs"
      refine ⟨r, rx, _, rfl, hr20, ⟨_, ty, .inr ⟨n, n7, rfl⟩⟩, r, x, p, rfl, ⟨rx, hr20⟩, .inr ⟨n, nt, ty, ?_⟩⟩
      walk_at "gs"
      refine ⟨r, rx, _, rfl, hr20, ⟨_, ty, .inr ⟨n, n7, rfl⟩⟩, r, x, p, rfl, ⟨rx, hr20⟩, .inr ⟨n, nt, ty, ?_⟩⟩
      walk_at "gs"
      rfl
    · rintro H' rfl
      refine ⟨false, ?_, k _ (B19.new nD) (X19.trans (Ext.new nD))⟩
      exact .inl ⟨[], SqL.of upd_same, rfl⟩
end
end K01
end -- a20
section -- FwRep
set_option Elab.async false
set_option linter.all false
set_option maxRecDepth 100000
set_option maxHeartbeats 4000000
/-! FwRep: a text times a number; the signs of a number without leading zeros. -/
namespace L2R
open PySem PySem.Spec PyProof.Rows L2 TL
theorem op_repS {X : Cx} : OpR X (binaryOp .Mult) (fun x y H Q => ∃ (z : Str) (k : Int), x = .str z ∧ y = .int k ∧ MulOk z k ∧ Q (.str (Txt.mul z k)) H) := by
  intro pins s σ H x y v u Q I rx ry h
  obtain ⟨z, k, rfl, rfl, hz, q⟩ := h
  obtain ⟨t, rfl⟩ := rx
  obtain ⟨t', rfl⟩ := ry
  exact SB.mul hz (fun t' tk => ⟨.str (Txt.mul z k), H, I.tok _, ⟨_, rfl⟩, q⟩)
theorem mulOk20 {z : Str} (h : z.length = 20) : MulOk z 200 := by
  unfold MulOk
  rw [h]
  exact ⟨by decide, fun _ _ => by decide, fun _ _ => by decide⟩
theorem fold_toList : ∀ (L : List (Array Nat)) (a : Array Nat), (L.foldl (· ++ ·) a).toList = a.toList ++ (L.map Array.toList).flatten
  | [], a => by simp
  | b :: L, a => by
    rw [List.foldl_cons, fold_toList L, Array.toList_append, List.map_cons, List.flatten_cons, List.append_assoc]
theorem tl_mul {z : Str} (h : z.length = 20) : tl (Txt.mul z 200) = (List.replicate 200 (tl z)).flatten := by
  unfold Txt.mul
  rw [if_neg (by decide), if_neg (by rw [h]; decide)]
  show (List.foldl (· ++ ·) #[] (List.replicate 200 z.cps)).toList = _
  rw [fold_toList, List.map_replicate]
  rfl
theorem mul_facts {z : Str} (h : z.length = 20) (hd : ∀ c ∈ tl z, dg c = true) : (tl (Txt.mul z 200)).length = 4000 ∧ ∀ c ∈ tl (Txt.mul z 200), dg c = true := by
  rw [tl_mul h]
  refine ⟨?_, fun c hc => ?_⟩
  · rw [List.length_flatten, List.map_replicate, ← len_tl, h]
    decide
  · obtain ⟨l, hl, hcl⟩ := List.mem_flatten.mp hc
    rw [List.eq_of_mem_replicate hl] at hcl
    exact hd c hcl
theorem numL_back (l : List Nat) : ∀ (h : NumText.AllDigits l) (h0 : l ≠ []) (h1 : l.head? ≠ some 48), numL (NumText.digitsVal l) = l := by
  induction hn : l.length using Nat.strongRecOn generalizing l with
  | _ n ih =>
    intro h h0 h1
    rcases List.eq_nil_or_concat l with e | ⟨r, c, e⟩
    · exact absurd e h0
    · rw [List.concat_eq_append] at e
      subst e
      have hc := h c (by simp)
      rw [NumText.digitsVal_snoc]
      cases r with
      | nil =>
        have h2 : NumText.digitsVal ([] : List Nat) = 0 := rfl
        rw [h2, Nat.zero_mul, Nat.zero_add, numL_lt (by omega)]
        show [48 + (c - 48)] = [c]
        rw [show 48 + (c - 48) = c by omega]
      | cons a r =>
        have ha := h a (by simp)
        have ha2 : a ≠ 48 := fun z => h1 (by rw [z] <;> rfl)
        have hp : 0 < NumText.digitsVal (a :: r) := NumText.digitsVal_pos (by omega)
        rw [numL_step (by omega)]
        have e1 : (NumText.digitsVal (a :: r) * 10 + (c - 48)) / 10 = NumText.digitsVal (a :: r) := by omega
        have e2 : (NumText.digitsVal (a :: r) * 10 + (c - 48)) % 10 = c - 48 := by omega
        rw [e1, e2, ih (a :: r).length (by rw [← hn]; simp) (a :: r) rfl (fun x hx => h x (List.mem_append_left _ hx)) (by simp) (by simpa using ha2), show 48 + (c - 48) = c by omega]
end L2R
end -- FwRep
section -- a22h
set_option Elab.async false
set_option linter.all false
set_option maxRecDepth 100000
set_option maxHeartbeats 4000000
set_option pp.maxSteps 700
local macro_rules | `(tactic| walk_at "lvl") => `(tactic| first
  | decide
  | omega
  | (simp only [Nat.add_eq]; omega))
local macro_rules | `(tactic| walk_at "side") => `(tactic| first
  | decide
  | assumption
  | omega
  | exact Nat.le_of_ble_eq_true (by rfl)
  | exact ⟨by decide, by decide⟩
  | exact ⟨by decide, by decide, by decide⟩
  | exact Or.inl (Or.inr ⟨by decide, by decide⟩)
  | exact Or.inl (Or.inl ⟨by decide, by decide⟩))
local macro_rules | `(tactic| walk_at "ty") => `(tactic| first
  | assumption
  | exact L2.TyG.x (.base (.int _))
  | exact L2.TyG.x (.base (.str _))
  | exact L2.TyG.x (.base (.bl _))
  | exact L2.TyG.x (.base .non)
  | exact L2.TyG.x (.base (.lst (by assumption)))
  | exact L2.TyG.x (.base (.tup (by assumption)))
  | exact K01.tyR (by assumption) (by assumption)
  | exact L2.TyG.dn (by assumption))
local macro_rules | `(tactic| walk_at "cv") => `(tactic| first
  | exact L2.ClsV.ty _
  | exact L2.ClsV.own _)
local macro_rules | `(tactic| walk_at "kit") => `(tactic| first
  | exact L2.kit_ty (by decide +kernel)
  | exact K01.kR (by assumption) (by decide)
  | exact K01.kR2 (by assumption) (by decide)
  | exact K01.kR3 (by assumption))
local macro_rules | `(tactic| walk_at "s1") => `(tactic| first
  | refine ⟨_, rfl, ?_⟩
  | refine ⟨_, _, _, _, _, rfl, (by assumption), K01.clsR (by assumption), He.noat_ok (K01.a_noat_Ratio_top (by assumption)), rfl, ?_⟩
  | refine ⟨_, _, _, _, _, rfl, (by assumption), K01.clsR (by assumption), He.noat_ok (K01.a_noat_Ratio_bottom (by assumption)), rfl, ?_⟩
  | refine ⟨_, _, rfl, rfl, ?_⟩
  | refine ⟨_, _, rfl, ?_⟩
  | refine And.intro rfl ?_
  | refine L2.iteT ?_
  | refine L2.iteF ?_
  | refine L2.st_ixl (by assumption) (by rfl) ?_
  | refine L2.st_ixt (by assumption) (by rfl) ?_
  | refine L2.st_lenR (L2.lenr_l (by assumption)) ?_
  | refine L2.st_lenGR (L2.lenr_l (by assumption)) ?_
  | refine L2.st_lenGR (L2.lenr_t (by assumption)) ?_
  | refine L2.st_lenR (L2.lenr_t (by assumption)) ?_
  | refine L2.st_isG (b := false) (by walk_at "ty") (by walk_at "cv") (by walk_at "kit") ?_
  | refine L2.st_isG (b := true) (by walk_at "ty") (by walk_at "cv") (by walk_at "kit") ?_
  | refine And.intro (by walk_at "side") ?_)
local macro_rules | `(tactic| walk_at "go") => `(tactic| repeat (walk_at "s1"))
local macro_rules | `(tactic| walk_at "s2") => `(tactic| first
  | refine ⟨_, rfl, ?_⟩
  | refine ⟨_, _, _, _, _, rfl, (by assumption), K01.clsR (by assumption), He.noat_ok (K01.a_noat_Ratio_top (by assumption)), rfl, ?_⟩
  | refine ⟨_, _, _, _, _, rfl, (by assumption), K01.clsR (by assumption), He.noat_ok (K01.a_noat_Ratio_bottom (by assumption)), rfl, ?_⟩
  | refine ⟨_, _, rfl, rfl, ?_⟩
  | refine ⟨_, _, rfl, ?_⟩
  | refine And.intro rfl ?_
  | refine L2.iteT ?_
  | refine L2.iteF ?_
  | refine L2.st_ixl (by assumption) (by rfl) ?_
  | refine L2.st_ixt (by assumption) (by rfl) ?_
  | refine L2.st_lenR (L2.lenr_l (by assumption)) ?_
  | refine L2.st_lenGR (L2.lenr_l (by assumption)) ?_
  | refine L2.st_lenGR (L2.lenr_t (by assumption)) ?_
  | refine L2.st_lenR (L2.lenr_t (by assumption)) ?_
  | refine And.intro (by walk_at "side") ?_)
local macro_rules | `(tactic| walk_at "gs") => `(tactic| repeat (walk_at "s2"))
namespace K01
open PySem PySem.Spec PyProof.Rows L2 L2R TL LamX
section
variable {P : Program} {w : World} {K : PySem.W.Frag} {mg : Str → Option Value} {base : Heap}
theorem okC0 {x qual : Str} {params : Arguments} {body : List Stmt} {scope : Scope} {dvs : List V} {kws : List (Str × V)} {p : Str × Option Str} {fd : FuncData} {N ps : List Str} {k : Nat} {sp : Sp}
    (F : FunD K x qual params body scope dvs kws (He.fAd K p) fd) (S : FnScope N ps scope) (len : ∀ vs H Q E, sp vs H Q E → vs.length = ps.length)
    (hbody : ∀ (cdv : Value) (A : Around) (outer : List Env) (s : Shared) (H : Hp) (vs : List V) (Q : VK) (E : XK), cdv = .ref (He.codeOf K p) → Room k (A.deeper (envOfC qual scope s.heap.objs.size (He.fAd K p) cdv)) → sp vs H Q E →
      ∃ t, PSs (cxOf CX0 P w K mg base N qual scope (He.fAd K p) cdv A outer s H E).nox body t ∧ t { nx := fun _ H' => Q .non H', rt := Q } (start N vs) H) : FnOk P w K mg base (L2.CX P w) (k + 1) (He.fAd K p) fd ps sp :=
  (F.okC (CX := CX0) S len fun cdv A outer s H vs Q E hcd hr hsp => by
    obtain ⟨t, h, q⟩ := hbody cdv A outer s H vs Q E hcd hr hsp
    exact ⟨t, h.nox, q⟩).toX
theorem Tabs.put {T : List (Addr × Str)} {D : Addr} {xs : List V} {o : HO} {H : Hp} (t : Tabs T H) (hD : H D = some (.lst xs)) : Tabs T (upd H D o) := by
  intro p hp
  obtain ⟨ps, h1, h2, h3⟩ := t p hp
  have ne : ∀ {c : Addr} {u : HO}, H c = some u → (∀ ys, u ≠ .lst ys) → upd H D o c = some u := fun {c u} h hu => by
    rw [upd_ne (fun z => by rw [z, hD] at h; exact hu _ (Option.some.inj h).symm)]
    exact h
  refine ⟨ps, ne h1 (fun _ z => nomatch z), h2, fun pos cv hc => ?_⟩
  obtain ⟨c, e1, e2⟩ := h3 pos cv hc
  exact ⟨c, e1, ne e2 fun ys z => by unfold CodeO at z; cases z⟩
theorem ExtB.putNew {b D : Addr} {o : HO} {H H1 H2 : Hp} (e1 : ExtB b H H1) (nD : H1 D = none) (e2 : ExtB b H H2) : ExtB b H (upd H2 D o) := fun a u n h t => by
  have h1 := e1 a u n h t
  rw [upd_ne (ne_of_none h1 nD)]
  exact e2 a u n h t
theorem At0.extN {H H' : Hp} (e : ExtN H H') {v : V} (h : At0 K H v) : At0 K H' v := by
  rcases h with h | h | h | h | ⟨a, dx, i, j, h1, h2⟩
  · exact .inl h
  · exact .inr (.inl h)
  · exact .inr (.inr (.inl h))
  · exact .inr (.inr (.inr (.inl h)))
  · exact .inr (.inr (.inr (.inr ⟨a, dx, i, j, h1, e _ _ h2 fun ps z => nomatch z⟩)))
theorem Vl.extN {H H' : Hp} (e : ExtN H H') : ∀ {n : Nat} {v : V}, Vl K w n H v → Vl K w n H' v
  | 0, _, h => At0.extN e h
  | n + 1, _, h => by
    rcases h with h | ⟨a, xs, h1, h2, h3, h4⟩ | ⟨a, kvs, h1, h2, h3, h4⟩
    · exact .inl (At0.extN e h)
    · refine .inr (.inl ⟨a, xs, h1, ?_, h3, fun x hx => Vl.extN e (h4 x hx)⟩)
      rcases h2 with h2 | h2
      · exact .inl (e _ _ h2 fun ps z => nomatch z)
      · exact .inr (e _ _ h2 fun ps z => nomatch z)
    · exact .inr (.inr ⟨a, kvs, h1, e _ _ h2 (fun ps z => by have z' : HO.ext _ = HO.tbl ps := z; cases z'), h3, fun p hp => ⟨(h4 p hp).1.ext fun c xs q => e _ _ q fun ps z => (nomatch z), Vl.extN e (h4 p hp).2.1, Vl.extN e (h4 p hp).2.2⟩⟩)
def isI : V → Bool
  | .int _ => true
  | _ => false
/-- a value's class -/
inductive VC (K : PySem.W.Frag) (w : World) (H : Hp) (v : V) : Prop where
  | int (i : Int) (e : v = .int i) (h : i.natAbs ≤ 1000)
  | str (z : Str) (e : v = .str z) (h : z.length ≤ 5000)
  | rat (ty : ∀ H', ExtN H H' → TyG K w H' v (.ref (RC K))) (hi : isI v = false)
  | oth (n : String) (ty : ∀ H', ExtN H H' → TyG K w H' v (.type n)) (hn : n ∈ ["NoneType", "bool", "list", "tuple", "dict"]) (hi : isI v = false)
theorem At0.vc (T : TL K mg) {H : Hp} {v : V} (h : At0 K H v) : VC K w H v := by
  rcases h with rfl | ⟨x, rfl⟩ | ⟨i, rfl, hi⟩ | ⟨z, rfl, hz⟩ | ⟨a, dx, i, j, rfl, ha⟩
  · exact .oth "NoneType" (fun _ _ => .x (.base .non)) (by decide) rfl
  · exact .oth "bool" (fun _ _ => .x (.base (.bl _))) (by decide) rfl
  · exact .int i rfl hi
  · exact .str z rfl hz
  · exact .rat (fun H' e => tyR T (e _ _ ha fun ps z => nomatch z)) rfl
theorem Vl.vc (T : TL K mg) {H : Hp} : ∀ {n : Nat} {v : V}, Vl K w n H v → VC K w H v
  | 0, _, h => At0.vc T h
  | n + 1, _, h => by
    rcases h with h | ⟨a, xs, rfl, h | h, _, _⟩ | ⟨a, kvs, rfl, h, _, _⟩
    · exact At0.vc T h
    · exact .oth "list" (fun H' e => .x (.base (.lst (e _ _ h fun ps z => nomatch z)))) (by decide) rfl
    · exact .oth "tuple" (fun H' e => .x (.base (.tup (e _ _ h fun ps z => nomatch z)))) (by decide) rfl
    · exact .oth "dict" (fun H' e => .dn (e _ _ h fun ps z => by have z' : HO.ext _ = HO.tbl ps := z; cases z')) (by decide) rfl
theorem VC.notStr (T : TL K mg) {H : Hp} {v : V} (h : VC K w H v) : (∃ z, v = .str z) ∨ ∃ t, (∀ H', ExtN H H' → TyG K w H' v t) ∧ PySem.W.kitOne K t (.type "str") = some false := by
  cases h with
  | int i e h => exact .inr ⟨.type "int", fun H' _ => by rw [e]; exact .x (.base (.int _)), kit_ty (by decide +kernel)⟩
  | str z e h => exact .inl ⟨z, e⟩
  | rat ty hi => exact .inr ⟨_, ty, kR2 T (by decide)⟩
  | oth n ty hn hi =>
    simp only [List.mem_cons, List.not_mem_nil, or_false] at hn
    rcases hn with rfl | rfl | rfl | rfl | rfl
    all_goals exact .inr ⟨_, ty, kit_ty (by decide +kernel)⟩
theorem VC.notInt {H : Hp} {v : V} (h : VC K w H v) : (∃ i : Int, v = .int i ∧ i.natAbs ≤ 1000) ∨ (isI v = false ∧ ∃ t, (∀ H', ExtN H H' → TyG K w H' v t) ∧ NotInt K t) := by
  cases h with
  | int i e h => exact .inl ⟨i, e, h⟩
  | str z e h => exact .inr ⟨by rw [e]; rfl, .type "str", fun H' _ => by rw [e]; exact .x (.base (.str _)), .inl ⟨"str", by decide, rfl, by decide⟩⟩
  | rat ty hi => exact .inr ⟨hi, _, ty, .inr rfl⟩
  | oth n ty hn hi =>
    simp only [List.mem_cons, List.not_mem_nil, or_false] at hn
    rcases hn with rfl | rfl | rfl | rfl | rfl
    all_goals exact .inr ⟨hi, _, ty, .inl ⟨_, by decide, rfl, by decide⟩⟩
theorem new_facts {H H' : Hp} {p : Addr} {o : HO} (n : H p = none) (e : upd H p o = H') : H' p = some o ∧ Same H H' := by
  subst e
  exact ⟨upd_same, Same.new n⟩
theorem same_mk {H : Hp} {x dx : Addr} {o o' : HO} (nx : H x = none) (nd : H dx = none) : Same H (upd (upd H dx o) x o') := fun a u h => by
  rw [upd_ne (ne_of_none h nx), upd_ne (ne_of_none h nd)]
  exact h
theorem low_one (i : Int) : Low (i, 1) := ⟨(show (0 : Int) < 1 by decide), by simp⟩
/-- Ratio's keywords and its default -/
theorem bRat1 {fd : FuncData} (F : FunD K d_Ratio___init__.name d_Ratio___init__.qual d_Ratio___init__.params d_Ratio___init__.body d_Ratio___init__.scope (d_Ratio___init__.dvs K) (d_Ratio___init__.kws K) (He.fAd K d_Ratio___init__.at_) fd) : ∃ ds, Vals [V.int 1] ds ∧ Binds K fd ["self", "top", "bottom"] ds := by
  obtain ⟨ds, h1, h2⟩ := F.binds1 (ps := ["self", "top", "bottom"]) 2 0 (fun z => nomatch z) rfl (fun _ _ _ _ _ _ _ us its hu hi => match us, hu, its, hi with | [_, _], _, [_], _ => ⟨_, rfl, rfl⟩)
  exact ⟨ds, h1, h2⟩
def gTB {α : Type} (us its ws : List α) : List α := match us, ws with
  | [u], [t, b] => [u, t, b]
  | _, _ => []
def gBT {α : Type} (us its ws : List α) : List α := match us, ws with
  | [u], [b, t] => [u, t, b]
  | _, _ => []
theorem gTB_rel {vs ds zs : List V} {us its ws : List Value} (h1 : Vals vs us) (h2 : Vals ds its) (h3 : Vals zs ws) : Vals (gTB vs ds zs) (gTB us its ws) := by
  cases h1 with
  | nil => exact .nil
  | cons r h1 =>
    cases h1 with
    | cons _ _ => exact .nil
    | nil => match h3 with
      | .nil => exact .nil
      | .cons _ .nil => exact .nil
      | .cons a (.cons b .nil) => exact .cons r (.cons a (.cons b .nil))
      | .cons _ (.cons _ (.cons _ _)) => exact .nil
theorem gBT_rel {vs ds zs : List V} {us its ws : List Value} (h1 : Vals vs us) (h2 : Vals ds its) (h3 : Vals zs ws) : Vals (gBT vs ds zs) (gBT us its ws) := by
  cases h1 with
  | nil => exact .nil
  | cons r h1 =>
    cases h1 with
    | cons _ _ => exact .nil
    | nil => match h3 with
      | .nil => exact .nil
      | .cons _ .nil => exact .nil
      | .cons a (.cons b .nil) => exact .cons r (.cons b (.cons a .nil))
      | .cons _ (.cons _ (.cons _ _)) => exact .nil
theorem kRatTB {fd : FuncData} (F : FunD K d_Ratio___init__.name d_Ratio___init__.qual d_Ratio___init__.params d_Ratio___init__.body d_Ratio___init__.scope (d_Ratio___init__.dvs K) (d_Ratio___init__.kws K) (He.fAd K d_Ratio___init__.at_) fd) : ∃ its : List Value, KBn K fd ["self", "top", "bottom"] 1 ["top", "bottom"] (fun us ws => gTB us its ws) (fun vs zs => gTB vs [V.int 1] zs) :=
  F.kbindsD (ps := ["self", "top", "bottom"]) 1 ["top", "bottom"] gTB (fun z => nomatch z) gTB_rel (fun _ _ _ _ _ _ _ us its ws hu hi hw => match us, hu, its, hi, ws, hw with | [_], _, [_], _, [_, _], _ => ⟨_, rfl, rfl⟩)
theorem kRatBT {fd : FuncData} (F : FunD K d_Ratio___init__.name d_Ratio___init__.qual d_Ratio___init__.params d_Ratio___init__.body d_Ratio___init__.scope (d_Ratio___init__.dvs K) (d_Ratio___init__.kws K) (He.fAd K d_Ratio___init__.at_) fd) : ∃ its : List Value, KBn K fd ["self", "top", "bottom"] 1 ["bottom", "top"] (fun us ws => gBT us its ws) (fun vs zs => gBT vs [V.int 1] zs) :=
  F.kbindsD (ps := ["self", "top", "bottom"]) 1 ["bottom", "top"] gBT (fun z => nomatch z) gBT_rel (fun _ _ _ _ _ _ _ us its ws hu hi hw => match us, hu, its, hi, ws, hw with | [_], _, [_], _, [_, _], _ => ⟨_, rfl, rfl⟩)
end
end K01
end -- a22h
section -- a21
set_option Elab.async false
set_option linter.all false
set_option maxRecDepth 100000
set_option maxHeartbeats 4000000
set_option pp.maxSteps 700
local macro_rules | `(tactic| walk_at "lvl") => `(tactic| first
  | decide
  | omega
  | (simp only [Nat.add_eq]; omega))
local macro_rules | `(tactic| walk_at "side") => `(tactic| first
  | decide
  | assumption
  | omega
  | exact Nat.le_of_ble_eq_true (by rfl)
  | exact ⟨by decide, by decide⟩
  | exact ⟨by decide, by decide, by decide⟩
  | exact Or.inl (Or.inr ⟨by decide, by decide⟩)
  | exact Or.inl (Or.inl ⟨by decide, by decide⟩))
local macro_rules | `(tactic| walk_at "ty") => `(tactic| first
  | assumption
  | exact L2.TyG.x (.base (.int _))
  | exact L2.TyG.x (.base (.str _))
  | exact L2.TyG.x (.base (.bl _))
  | exact L2.TyG.x (.base .non)
  | exact L2.TyG.x (.base (.lst (by assumption)))
  | exact L2.TyG.x (.base (.tup (by assumption)))
  | exact K01.tyR (by assumption) (by assumption)
  | exact L2.TyG.dn (by assumption))
local macro_rules | `(tactic| walk_at "cv") => `(tactic| first
  | exact L2.ClsV.ty _
  | exact L2.ClsV.own _)
local macro_rules | `(tactic| walk_at "kit") => `(tactic| first
  | exact L2.kit_ty (by decide +kernel)
  | exact K01.kR (by assumption) (by decide)
  | exact K01.kR2 (by assumption) (by decide)
  | exact K01.kR3 (by assumption))
local macro_rules | `(tactic| walk_at "s1") => `(tactic| first
  | refine ⟨_, rfl, ?_⟩
  | refine ⟨_, _, _, _, _, rfl, (by assumption), K01.clsR (by assumption), He.noat_ok (K01.a_noat_Ratio_top (by assumption)), rfl, ?_⟩
  | refine ⟨_, _, _, _, _, rfl, (by assumption), K01.clsR (by assumption), He.noat_ok (K01.a_noat_Ratio_bottom (by assumption)), rfl, ?_⟩
  | refine ⟨_, _, rfl, rfl, ?_⟩
  | refine ⟨_, _, rfl, ?_⟩
  | refine And.intro rfl ?_
  | refine L2.iteT ?_
  | refine L2.iteF ?_
  | refine L2.st_ixl (by assumption) (by rfl) ?_
  | refine L2.st_ixt (by assumption) (by rfl) ?_
  | refine L2.st_lenR (L2.lenr_l (by assumption)) ?_
  | refine L2.st_lenGR (L2.lenr_l (by assumption)) ?_
  | refine L2.st_lenGR (L2.lenr_t (by assumption)) ?_
  | refine L2.st_lenR (L2.lenr_t (by assumption)) ?_
  | refine L2.st_isG (b := false) (by walk_at "ty") (by walk_at "cv") (by walk_at "kit") ?_
  | refine L2.st_isG (b := true) (by walk_at "ty") (by walk_at "cv") (by walk_at "kit") ?_
  | refine And.intro (by walk_at "side") ?_)
local macro_rules | `(tactic| walk_at "go") => `(tactic| repeat (walk_at "s1"))
local macro_rules | `(tactic| walk_at "s2") => `(tactic| first
  | refine ⟨_, rfl, ?_⟩
  | refine ⟨_, _, _, _, _, rfl, (by assumption), K01.clsR (by assumption), He.noat_ok (K01.a_noat_Ratio_top (by assumption)), rfl, ?_⟩
  | refine ⟨_, _, _, _, _, rfl, (by assumption), K01.clsR (by assumption), He.noat_ok (K01.a_noat_Ratio_bottom (by assumption)), rfl, ?_⟩
  | refine ⟨_, _, rfl, rfl, ?_⟩
  | refine ⟨_, _, rfl, ?_⟩
  | refine And.intro rfl ?_
  | refine L2.iteT ?_
  | refine L2.iteF ?_
  | refine L2.st_ixl (by assumption) (by rfl) ?_
  | refine L2.st_ixt (by assumption) (by rfl) ?_
  | refine L2.st_lenR (L2.lenr_l (by assumption)) ?_
  | refine L2.st_lenGR (L2.lenr_l (by assumption)) ?_
  | refine L2.st_lenGR (L2.lenr_t (by assumption)) ?_
  | refine L2.st_lenR (L2.lenr_t (by assumption)) ?_
  | refine And.intro (by walk_at "side") ?_)
local macro_rules | `(tactic| walk_at "gs") => `(tactic| repeat (walk_at "s2"))
namespace K01
open PySem PySem.Spec PyProof.Rows L2 L2R TL LamX
section
variable {P : Program} {w : World} {K : PySem.W.Frag} {mg : Str → Option Value} {base : Heap}
theorem rdS_le (l : List Nat) : (rdS l).2.length ≤ l.length := by
  unfold rdS
  split
  · simp
  · exact Nat.le_refl _
theorem rdN_den {l : List Nat} {q : Int × Int} (h : rdN l = some q) : q.2 = 1 ∨ ∃ (e : List Nat) (n : Nat), rdW e = some n ∧ q.2 = (n : Int) ∧ e.length ≤ l.length := by
  unfold rdN rdP at h
  have hl : ((rdS l).2.dropWhile (· != 47)).length ≤ l.length := Nat.le_trans (List.dropWhile_sublist _).length_le (rdS_le l)
  split at h
  · cases h
    exact .inl rfl
  · rename_i u x e h1 h2
    rw [h2] at hl
    split at h
    · rename_i v hv
      split at h
      · cases h
      · cases h
        exact .inr ⟨e, v, hv, rfl, by rw [List.length_cons] at hl; omega⟩
    · cases h
  · cases h
theorem p8000 : 10 ^ 2000 ≤ 2 ^ 8000 := by
  have : (2 : Nat) ^ 8000 = 16 ^ 2000 := by rw [show (8000 : Nat) = 4 * 2000 by rfl, Nat.pow_mul]
  rw [this]
  exact Nat.pow_le_pow_left (by decide) _
theorem den_ok {z : Str} (hz : z.length ≤ 2000) : ∀ q, rdN (tl z) = some q → q.2.natAbs < 2 ^ 8000 := fun q h => by
  rcases rdN_den h with h | ⟨e, n, h1, h2, h3⟩
  · rw [h]
    exact Nat.lt_of_lt_of_le (show (1 : Int).natAbs < 2 ^ 1 by decide) (Nat.pow_le_pow_right (by decide) (by decide))
  · rw [h2]
    have h4 := (rdW_lt h1).1
    rw [← len_tl] at h3
    exact Nat.lt_of_lt_of_le h4 (Nat.le_trans (Nat.pow_le_pow_right (by decide) (by omega)) p8000)
def spRS (K : PySem.W.Frag) : Sp := fun vs H Q _ => ∃ z : Str, vs = [.str z] ∧ z.length ≤ 2000 ∧ Tabs (tT K) H ∧ ∀ H', ExtN H H' → Tabs (tT K) H' → Q (.bl true) H'
theorem G__law_read_so (T : TL K mg) (hTB : TBs K mg base) : FX P w K mg base 20 "_law_read_so" [] (spRS K) := by
  have R := G_like (P := P) (w := w) (base := base) T 3
  obtain ⟨fdD, FD0, FD⟩ := ok_read (P := P) (w := w) (base := base) T
  have bD : Binds K fdD ["text"] [] := FD0.bindsN (fun _ _ _ _ _ _ us hl => match us, hl with | [_], _ => rfl)
  have kD : ∀ (s : Shared) (v : Value), BindsTo s fdD ⟨[], [("text", v)]⟩ [("text", v)] := fun s v => bindsAny FD0 (fun _ _ _ _ _ _ => rfl) s
  obtain ⟨fdZ, FZ0, FZ⟩ := ok_raises (P := P) (w := w) (base := base) T 6
  have bZ : Binds K fdZ ["deed", "code", "kept"] [] := FZ0.bindsN (fun _ _ _ _ _ _ us hl => match us, hl with | [_, _, _], _ => rfl)
  have mem : (("_law_read_so", none) : He.Defn) ∈ tfL := by decide
  have hTB1 := hTB _ mem
  have hmT := tT_mem (K := K) mem
  have hu := tT_one T mem
  obtain ⟨fd, F⟩ := F__law_read_so T
  refine FX.of F (g__law_read_so T) (F.okC (p := ("_law_read_so", none)) sc__law_read_so (fun vs H Q E h => ?_) (fun cdv A outer s H vs Q E hcd hr h => ?_)) (fun _ _ _ _ _ _ us hl => match us, hl with | [_], _ => rfl)
  · obtain ⟨z, rfl, _⟩ := h
    rfl
  · obtain ⟨z, rfl, hz, hT, k⟩ := h
    refine ⟨_, (pss_cons (ps_set (i := 1) sc__law_read_so.nd rfl (by first | exact Or.inl rfl | exact Or.inr rfl) (pe_fx (G__law_num_read T) (hr.mono (by walk_at "lvl")) passL (pa_cons (pv 0) pa_nil)))
      (pss_cons (ps_if (pt_cmpR op_isN (pv 1) pe_non (nomark _))
        (pss_one (ps_ret (pe_lamD (T := tT K) rfl (g__law_raises T) FZ0.kp FZ bZ (hr.mono (by walk_at "lvl")) passL hTB1 hcd hmT hu (lamS_by rfl) rfl (fun _ _ _ _ _ => rfl) (fun A2 outer2 s2 H2 E2 f2 c2 hrl => (pe_stat (pe_gr (g_Ratio T)) (sRead T) FD (hrl.mono (by decide)) bD (passes_call (takes_of rfl rfl rfl rfl) (fun _ _ _ _ h => h)) (pa_cons (pv 0) pa_nil))) (pa_cons pe_str (pa_cons (pv 0) pa_nil)))))
        pss_nil)
      (pss_one (ps_ret (pe_fx R (hr.mono (by walk_at "lvl")) passL (pa_cons (pe_statK1 (pe_gr (g_Ratio T)) (sRead T) FD (hr.mono (by walk_at "lvl")) kD passL (pv 0)) (pa_cons (pv 1) pa_nil))))))), ?_⟩
    have hd := den_ok hz
    have hz5 : z.length ≤ 5000 := by omega
    walk_at "gs"
    have vl : ∀ H', Vl K w 0 H' (.str z) := fun H' => .inr (.inr (.inr (.inl ⟨z, rfl, hz5⟩)))
    cases hq : rdN (tl z) with
    | none =>
      intro H1 s1
      have T1 := hT.ext s1
      walk_at "gs"
      intro H2 f c' e2 T2 hc'
      walk_at "gs"
      refine ⟨fun _ _ h => h, ?_⟩
      refine ⟨f, _, .str z, rfl, ⟨rfl, rfl⟩, fun E' Q' h => ⟨hc', ?_⟩⟩
      walk_at "gs"
      refine .inr ⟨z, rfl, by omega, hd, ?_⟩
      rw [hq]
      intro H3 s3 d fs H4 hx hl s4
      refine h _ _ _ ⟨d, fs, 0, rfl, rfl, hx, hl, by decide, vl _, fun H5 s5 => ?_⟩
      have S5 := s3.trans (s4.trans s5)
      exact k H5 ((ExtN.of s1).trans (e2.trans (ExtN.of S5))) (T2.ext S5)
    | some q =>
      intro r H1 hr1 s1
      have T1 := hT.ext s1
      walk_at "gs"
      refine .inr ⟨z, rfl, by omega, hd, ?_⟩
      rw [hq]
      intro r2 H2 h2 s2
      walk_at "gs"
      refine ⟨.inr (.inl ⟨by decide, lkR h2 (hr1.same s2)⟩), fun H3 s3 => ?_⟩
      have S3 := s1.trans (s2.trans s3)
      exact k H3 (ExtN.of S3) (hT.ext S3)
end
end K01
end -- a21
section -- a22
set_option Elab.async false
set_option linter.all false
set_option maxRecDepth 100000
set_option maxHeartbeats 4000000
set_option pp.maxSteps 700
local macro_rules | `(tactic| walk_at "lvl") => `(tactic| first
  | decide
  | omega
  | (simp only [Nat.add_eq]; omega))
local macro_rules | `(tactic| walk_at "side") => `(tactic| first
  | decide
  | assumption
  | omega
  | exact Nat.le_of_ble_eq_true (by rfl)
  | exact ⟨by decide, by decide⟩
  | exact ⟨by decide, by decide, by decide⟩
  | exact Or.inl (Or.inr ⟨by decide, by decide⟩)
  | exact Or.inl (Or.inl ⟨by decide, by decide⟩))
local macro_rules | `(tactic| walk_at "ty") => `(tactic| first
  | assumption
  | exact L2.TyG.x (.base (.int _))
  | exact L2.TyG.x (.base (.str _))
  | exact L2.TyG.x (.base (.bl _))
  | exact L2.TyG.x (.base .non)
  | exact L2.TyG.x (.base (.lst (by assumption)))
  | exact L2.TyG.x (.base (.tup (by assumption)))
  | exact K01.tyR (by assumption) (by assumption)
  | exact L2.TyG.dn (by assumption))
local macro_rules | `(tactic| walk_at "cv") => `(tactic| first
  | exact L2.ClsV.ty _
  | exact L2.ClsV.own _)
local macro_rules | `(tactic| walk_at "kit") => `(tactic| first
  | exact L2.kit_ty (by decide +kernel)
  | exact K01.kR (by assumption) (by decide)
  | exact K01.kR2 (by assumption) (by decide)
  | exact K01.kR3 (by assumption))
local macro_rules | `(tactic| walk_at "s1") => `(tactic| first
  | refine ⟨_, rfl, ?_⟩
  | refine ⟨_, _, _, _, _, rfl, (by assumption), K01.clsR (by assumption), He.noat_ok (K01.a_noat_Ratio_top (by assumption)), rfl, ?_⟩
  | refine ⟨_, _, _, _, _, rfl, (by assumption), K01.clsR (by assumption), He.noat_ok (K01.a_noat_Ratio_bottom (by assumption)), rfl, ?_⟩
  | refine ⟨_, _, rfl, rfl, ?_⟩
  | refine ⟨_, _, rfl, ?_⟩
  | refine And.intro rfl ?_
  | refine L2.iteT ?_
  | refine L2.iteF ?_
  | refine L2.st_ixl (by assumption) (by rfl) ?_
  | refine L2.st_ixt (by assumption) (by rfl) ?_
  | refine L2.st_lenR (L2.lenr_l (by assumption)) ?_
  | refine L2.st_lenGR (L2.lenr_l (by assumption)) ?_
  | refine L2.st_lenGR (L2.lenr_t (by assumption)) ?_
  | refine L2.st_lenR (L2.lenr_t (by assumption)) ?_
  | refine L2.st_isG (b := false) (by walk_at "ty") (by walk_at "cv") (by walk_at "kit") ?_
  | refine L2.st_isG (b := true) (by walk_at "ty") (by walk_at "cv") (by walk_at "kit") ?_
  | refine And.intro (by walk_at "side") ?_)
local macro_rules | `(tactic| walk_at "go") => `(tactic| repeat (walk_at "s1"))
local macro_rules | `(tactic| walk_at "s2") => `(tactic| first
  | refine ⟨_, rfl, ?_⟩
  | refine ⟨_, _, _, _, _, rfl, (by assumption), K01.clsR (by assumption), He.noat_ok (K01.a_noat_Ratio_top (by assumption)), rfl, ?_⟩
  | refine ⟨_, _, _, _, _, rfl, (by assumption), K01.clsR (by assumption), He.noat_ok (K01.a_noat_Ratio_bottom (by assumption)), rfl, ?_⟩
  | refine ⟨_, _, rfl, rfl, ?_⟩
  | refine ⟨_, _, rfl, ?_⟩
  | refine And.intro rfl ?_
  | refine L2.iteT ?_
  | refine L2.iteF ?_
  | refine L2.st_ixl (by assumption) (by rfl) ?_
  | refine L2.st_ixt (by assumption) (by rfl) ?_
  | refine L2.st_lenR (L2.lenr_l (by assumption)) ?_
  | refine L2.st_lenGR (L2.lenr_l (by assumption)) ?_
  | refine L2.st_lenGR (L2.lenr_t (by assumption)) ?_
  | refine L2.st_lenR (L2.lenr_t (by assumption)) ?_
  | refine And.intro (by walk_at "side") ?_)
local macro_rules | `(tactic| walk_at "gs") => `(tactic| repeat (walk_at "s2"))
namespace K01
open PySem PySem.Spec PyProof.Rows L2 L2R TL LamX
section
variable {P : Program} {w : World} {K : PySem.W.Frag} {mg : Str → Option Value} {base : Heap}
def spTx (K : PySem.W.Frag) : Sp := fun vs H Q _ => ∃ (b l a : Addr) (p : Int × Int), vs = [.ref b, .ref a] ∧ BagAt b l H ∧ PT H a p ∧ Low p ∧ Bn 140 p ∧ Tabs (tT K) H ∧
  ∀ H', BagAt b l H' → ExtB b H H' → Tabs (tT K) H' → Q (.bl true) H'
theorem PT.extB {b l r : Addr} {H H' : Hp} {p : Int × Int} (hB : BagAt b l H) (e : ExtB b H H') (h : PT H r p) : PT H' r p := extBOff hB e h (fun _ z => nomatch z) (fun _ z => nomatch z)
theorem G__law_texts_so (T : TL K mg) (hTB : TBs K mg base) : FX P w K mg base 21 "_law_texts_so" [] (spTx K) := by
  have R := G_like (P := P) (w := w) (base := base) T 3
  have RV := G_value (P := P) (w := w) (base := base) T 3
  have GR := G__law_read_so (P := P) (w := w) T hTB
  obtain ⟨fdD, FD0, FD⟩ := ok_read (P := P) (w := w) (base := base) T
  have bD : Binds K fdD ["text"] [] := FD0.bindsN (fun _ _ _ _ _ _ us hl => match us, hl with | [_], _ => rfl)
  obtain ⟨fdZ, FZ0, FZ⟩ := ok_raises (P := P) (w := w) (base := base) T 6
  have bZ : Binds K fdZ ["deed", "code", "kept"] [] := FZ0.bindsN (fun _ _ _ _ _ _ us hl => match us, hl with | [_, _, _], _ => rfl)
  have mem : (("_law_texts_so", none) : He.Defn) ∈ tfL := by decide
  have hTB1 := hTB _ mem
  have hmT := tT_mem (K := K) mem
  have hu := tT_one T mem
  obtain ⟨fd, F⟩ := F__law_texts_so T
  refine FX.of F (g__law_texts_so T) (okC0 F (p := ("_law_texts_so", none)) sc__law_texts_so (fun vs H Q E h => ?_) (fun cdv A outer s H vs Q E hcd hr h => ?_)) (fun _ _ _ _ _ _ us hl => match us, hl with | [_, _], _ => rfl)
  · obtain ⟨b, l, a, p, rfl, _⟩ := h
    rfl
  · obtain ⟨b, l, a, p, rfl, hB, ha, hp, bp, hT, k⟩ := h
    refine ⟨_, (pss_cons (ps_if (PW.pt (pw_or (pt_not (pt_val (pe_fx GR (hr.mono (by walk_at "lvl")) passL (pa_cons (pe_fx (G__law_num_odd T) (hr.mono (by walk_at "lvl")) passL (pa_cons (pv 0) (pa_cons (pv 1) pa_nil))) pa_nil)))) (pw_or1 (pt_not (pt_val (pe_fx R (hr.mono (by walk_at "lvl")) passL (pa_cons (pe_stat (pe_gr (g_Ratio T)) (sRead T) FD (hr.mono (by walk_at "lvl")) bD passL (pa_cons (pe_fx (G__law_num_odd T) (hr.mono (by walk_at "lvl")) passL (pa_cons (pv 0) (pa_cons (pv 1) pa_nil))) pa_nil)) (pa_cons (pv 1) pa_nil))))))))
        (pss_one (ps_ret pe_bl))
        pss_nil)
      (pss_cons (ps_for PassesOwn.never rfl (pi_range1 rfl (f_range T) (pa_cons pe_int pa_nil)) (pg_name (i := 2) sc__law_texts_so.nd rfl (by first | exact Or.inl rfl | exact Or.inr rfl))
        (pss_one (ps_if (pt_not (pt_val (pe_fx GR (hr.mono (by walk_at "lvl")) passL (pa_cons (pe_fx (G__law_sign_bent T) (hr.mono (by walk_at "lvl")) passL (pa_cons (pv 0) (pa_cons (pe_fx (G__law_num_odd T) (hr.mono (by walk_at "lvl")) passL (pa_cons (pv 0) (pa_cons (pv 1) pa_nil))) pa_nil))) pa_nil))))
          (pss_one (ps_ret pe_bl))
          pss_nil)))
      (pss_cons (ps_set (i := 3) sc__law_texts_so.nd rfl (by first | exact Or.inl rfl | exact Or.inr rfl) (pe_lst (pa_cons pe_str (pa_cons pe_str (pa_cons pe_str (pa_cons pe_str (pa_cons pe_str (pa_cons pe_str (pa_cons pe_str (pa_cons pe_str (pa_cons pe_str (pa_cons pe_str (pa_cons pe_str (pa_cons pe_str (pa_cons pe_str (pa_cons pe_str (pa_cons pe_str (pa_cons pe_str (pa_cons pe_str pa_nil)))))))))))))))))))
      (pss_cons (ps_if (pt_not (pt_val (pe_callB (cr_all rfl) (by rfl) (f_all T) (by decide +kernel) (pa_cons (pe_lc (own := [("mine", 4)]) (g := gName 4) (tt := tYes) rfl sc__law_texts_so.nd (pi_list (pv 3)) (blkOk_by (N := N__law_texts_so) (sc := defScope s__law_texts_so) (by decide +kernel)) (fun _ _ _ _ _ => pg_name (i := 4) sc__law_texts_so.nd rfl (Or.inl rfl)) (fun _ _ _ _ _ => pts_nil) (fun _ _ _ _ _ => (pe_fx GR (hr.mono (by walk_at "lvl")) passL (pa_cons (pv 4) pa_nil)))) pa_nil))))
        (pss_one (ps_ret pe_bl))
        pss_nil)
      (pss_cons (ps_set (i := 5) sc__law_texts_so.nd rfl (by first | exact Or.inl rfl | exact Or.inr rfl) (pe_fx RV (hr.mono (by walk_at "lvl")) passL (pa_cons (pv 0) (pa_cons pe_int pa_nil))))
      (pss_one (ps_ret (pe_or (pe_callB call_isG (by rfl) (f_isinstance T) (by decide +kernel) (pa_cons (pv 5) (pa_cons (pe_bty (n := "str") (f_str T) (by decide +kernel)) pa_nil))) (pe_one (pe_lamD (T := tT K) rfl (g__law_raises T) FZ0.kp FZ bZ (hr.mono (by walk_at "lvl")) passL hTB1 hcd hmT hu (lamS_by rfl) rfl (fun _ _ _ _ _ => rfl) (fun A2 outer2 s2 H2 E2 f2 c2 hrl => (pe_stat (pe_gr (g_Ratio T)) (sRead T) FD (hrl.mono (by decide)) bD (passes_call (takes_of rfl rfl rfl rfl) (fun _ _ _ _ h => h)) (pa_cons (pv 5) pa_nil))) (pa_cons pe_str (pa_cons (pv 5) pa_nil)))))))))))), ?_⟩
    walk_at "gs"
    refine ⟨b, l, a, p, rfl, hB, ha, hp, bp.le (by decide), fun x H1 wx hB1 x1 => ?_⟩
    have T1 := Tabs.off hT hB x1
    have ha1 := PT.off hB x1 ha
    walk_at "gs"
    have lx : x.length ≤ 2000 := Nat.le_trans wx.1 (by decide)
    walk_at "gs"
    refine fun H2 e2 T2 => ?_
    have hB2 := hB1.extN e2
    have ha2 := PT.extN ha1 e2
    have X2 : ExtB b H H2 := (ExtB.of x1).trans (ExtB.ofN e2)
    walk_at "gs"
    refine ⟨b, l, a, p, rfl, hB2, ha2, hp, bp.le (by decide), fun x3 H3 w3 hB3 x3' => ?_⟩
    have T3 := Tabs.off T2 hB2 x3'
    have ha3 := PT.off hB2 x3' ha2
    obtain ⟨hl3, q3, e3, l3, b3⟩ := w3
    have rd : ∀ q, rdN (tl x3) = some q → q.2.natAbs < 2 ^ 8000 := fun q h => by
      rw [e3] at h
      cases h
      exact b8000 b3
    walk_at "gs"
    refine .inr ⟨x3, rfl, by omega, rd, ?_⟩
    rw [e3]
    intro r4 H4 h4 s4
    rw [l3] at h4
    walk_at "gs"
    refine ⟨.inr (.inl ⟨by decide, lkR h4 (ha3.same s4)⟩), fun H5 s5 => ?_⟩
    have S5 := s4.trans s5
    have hB5 := hB3.same S5
    have ha5 := ha3.same S5
    have T5 := T3.ext S5
    have X5 : ExtB b H H5 := X2.trans ((ExtB.of x3').trans (ExtB.of (Ext.of S5)))
    clear X2 x3' x1 e2 h4 T1 T2 T3 ha1 ha2 ha3
    walk_at "gs"
    refine for_range (lo := 0) (fun i σ H' => ∃ kv : Option V, σ = [some (.ref b), some (.ref a), kv, none, none, none] ∧ BagAt b l H' ∧ PT H' a p ∧ Tabs (tT K) H' ∧ ExtB b H H') ⟨none, rfl, hB5, ha5, T5, X5⟩ ?_ ?_
    · rintro i σ H6 hi ⟨kv, rfl, hB6, ha6, T6, X6⟩
      walk_at "gs"
      refine ⟨b, l, a, p, rfl, hB6, ha6, hp, bp.le (by decide), fun x H7 wx hB7 x7 => ?_⟩
      walk_at "gs"
      refine ⟨b, l, x, rfl, hB7, Nat.le_trans wx.1 (by decide), fun y H8 ly hB8 x8 => ?_⟩
      have Y8 := x7.trans x8
      have T8 := Tabs.off T6 hB6 Y8
      walk_at "gs"
      refine fun H9 e9 T9 => ?_
      walk_at "gs"
      exact ⟨hB8.extN e9, PT.extN (PT.off hB6 Y8 ha6) e9, T9, X6.trans ((ExtB.of Y8).trans (ExtB.ofN e9))⟩
    · rintro σ H6 ⟨kv, rfl, hB6, ha6, T6, X6⟩
      walk_at "gs"
      intro L nL
      generalize e7 : upd H6 L _ = H7
      obtain ⟨sts, hsts, hl17, aL⟩ : ∃ sts : List Str, (∀ z ∈ sts, z.length ≤ 2000) ∧ sts.length = 17 ∧ H7 L = some (.lst (sts.map V.str)) := by
        refine ⟨["", "-", "/", "1/", "/2", "1/0", "0/1", "-0", "00", "01", "1/02", "--1", "1/-2", "+1", "1 ", " 1", "1/2/3"], ?_, rfl, by rw [← e7]; exact upd_same⟩
        intro z hz
        have : (["", "-", "/", "1/", "/2", "1/0", "0/1", "-0", "00", "01", "1/02", "--1", "1/-2", "+1", "1 ", " 1", "1/2/3"] : List Str).all (fun z => decide (z.length ≤ 2000)) = true := by decide
        exact of_decide_eq_true (List.all_eq_true.mp this z hz)
      have s7 : Same H6 H7 := by rw [← e7]; exact Same.new nL
      clear e7
      have hB7 := hB6.same s7
      have T7 := T6.ext s7
      have X7 := X6.trans (ExtB.of (Ext.of s7))
      clear hB6 T6 X6 s7 nL
      walk_at "gs"
      refine ⟨⟨_, SqL.of aL⟩, fun D nD => lc_list (xs := sts.map V.str) (K := K) (a := L) (fun i H' => H' D = some (.lst (List.replicate i (.bl true))) ∧ H' L = some (.lst (sts.map V.str)) ∧ BagAt b l H' ∧ Tabs (tT K) H' ∧ ExtB b H H') ?_ ?_ ?_ ?_⟩
      · refine ⟨upd_same, (by rw [upd_ne (ne_of_none aL nD)]; exact aL), hB7.new nD, T7.ext (Same.new nD), X7.trans (ExtB.of (Ext.new nD))⟩
      · rintro i H' _ ⟨_, h2, _⟩
        exact SqL.of h2
      · rintro i x H8 hi ⟨h1, h2, hB8, T8, X8⟩
        rw [List.getElem?_map] at hi
        obtain ⟨z, hz, rfl⟩ := Option.map_eq_some_iff.mp hi
        have i17 : i < 17 := by rw [← hl17]; exact (List.getElem?_eq_some_iff.mp hz).1
        have lz : z.length ≤ 2000 := hsts z (List.mem_of_getElem? hz)
        walk_at "gs"
        refine fun H9 e9 T9 => ?_
        have h9 : H9 D = some (.lst (List.replicate i (.bl true))) := e9 _ _ h1 fun _ z => nomatch z
        have g9 := e9 _ _ h2 fun _ z => nomatch z
        have nDL : L ≠ D := fun z => by rw [z] at aL; rw [aL] at nD; cases nD
        have hB9 := hB8.extN e9
        have nDb : b ≠ D := fun z => by
          obtain ⟨xs, hb⟩ := hB7.isL
          rw [z] at hb
          rw [hb] at nD
          cases nD
        have nDl : l ≠ D := fun z => by
          obtain ⟨xs, hb⟩ := hB7.isL2
          rw [z] at hb
          rw [hb] at nD
          cases nD
        refine ⟨_, h9, ?_, ?_, ?_, ?_, ?_, ?_⟩
        · rw [List.length_replicate]
          exact Nat.lt_of_lt_of_le i17 (by decide)
        · rw [upd_same, List.replicate_succ']
        · rw [upd_ne nDL]
          exact g9
        · exact hB9.two (upd_ne nDb) (upd_ne nDl)
        · exact K01.Tabs.put T9 h9
        · exact K01.ExtB.putNew X7 nD (X8.trans (ExtB.ofN e9))
      · rintro H8 ⟨h1, h2, hB8, T8, X8⟩
        walk_at "gs"
        refine ⟨D, List.replicate (sts.map V.str).length true, rfl, (by rw [List.map_replicate]; exact SqL.of h1), ?_⟩
        rw [all_rep]
        walk_at "gs"
        refine ⟨b, l, rfl, hB8, fun v H9 hv hB9 x9 => ?_⟩
        have hv3 : Vl K w 3 H9 v := hv.all
        have T9 := Tabs.off T8 hB8 x9
        have X9 : ExtB b H H9 := X8.trans (ExtB.of x9)
        walk_at "gs"
        rcases (Vl.vc T hv3).notStr T with ⟨z, rfl⟩ | ⟨t, ty, kt⟩
        · refine st_isG (b := true) (.x (.base (.str _))) (.ty _) (kit_ty (by decide +kernel)) ?_
          walk_at "gs"
          exact k H9 hB9 X9 T9
        · refine st_isG (ty _ (ExtN.refl _)) (.ty _) kt ?_
          walk_at "gs"
          intro H10 f c' e10 T10 hc'
          walk_at "gs"
          refine ⟨fun _ _ h => h, ?_⟩
          refine ⟨f, _, v, rfl, ⟨rfl, rfl⟩, fun E' Q' h => ⟨hc', ?_⟩⟩
          walk_at "gs"
          refine .inl ⟨t, ty _ e10, kt, fun d fs H11 hx hl s11 => ?_⟩
          refine h _ _ _ ⟨d, fs, 3, rfl, rfl, hx, hl, by decide, (Vl.extN e10 hv3).same s11, fun H12 s12 => ?_⟩
          have S12 := s11.trans s12
          exact k H12 ((hB9.extN e10).same S12) (X9.trans ((ExtB.ofN e10).trans (ExtB.of (Ext.of S12)))) (T10.ext S12)
end
end K01
end -- a22
section -- a23
set_option Elab.async false
set_option linter.all false
set_option maxRecDepth 100000
set_option maxHeartbeats 4000000
set_option pp.maxSteps 700
local macro_rules | `(tactic| walk_at "lvl") => `(tactic| first
  | decide
  | omega
  | (simp only [Nat.add_eq]; omega))
local macro_rules | `(tactic| walk_at "side") => `(tactic| first
  | decide
  | assumption
  | omega
  | exact Nat.le_of_ble_eq_true (by rfl)
  | exact ⟨by decide, by decide⟩
  | exact ⟨by decide, by decide, by decide⟩
  | exact Or.inl (Or.inr ⟨by decide, by decide⟩)
  | exact Or.inl (Or.inl ⟨by decide, by decide⟩))
local macro_rules | `(tactic| walk_at "ty") => `(tactic| first
  | assumption
  | exact L2.TyG.x (.base (.int _))
  | exact L2.TyG.x (.base (.str _))
  | exact L2.TyG.x (.base (.bl _))
  | exact L2.TyG.x (.base .non)
  | exact L2.TyG.x (.base (.lst (by assumption)))
  | exact L2.TyG.x (.base (.tup (by assumption)))
  | exact K01.tyR (by assumption) (by assumption)
  | exact L2.TyG.dn (by assumption))
local macro_rules | `(tactic| walk_at "cv") => `(tactic| first
  | exact L2.ClsV.ty _
  | exact L2.ClsV.own _)
local macro_rules | `(tactic| walk_at "kit") => `(tactic| first
  | exact L2.kit_ty (by decide +kernel)
  | exact K01.kR (by assumption) (by decide)
  | exact K01.kR2 (by assumption) (by decide)
  | exact K01.kR3 (by assumption))
local macro_rules | `(tactic| walk_at "s1") => `(tactic| first
  | refine ⟨_, rfl, ?_⟩
  | refine ⟨_, _, _, _, _, rfl, (by assumption), K01.clsR (by assumption), He.noat_ok (K01.a_noat_Ratio_top (by assumption)), rfl, ?_⟩
  | refine ⟨_, _, _, _, _, rfl, (by assumption), K01.clsR (by assumption), He.noat_ok (K01.a_noat_Ratio_bottom (by assumption)), rfl, ?_⟩
  | refine ⟨_, _, rfl, rfl, ?_⟩
  | refine ⟨_, _, rfl, ?_⟩
  | refine And.intro rfl ?_
  | refine L2.iteT ?_
  | refine L2.iteF ?_
  | refine L2.st_ixl (by assumption) (by rfl) ?_
  | refine L2.st_ixt (by assumption) (by rfl) ?_
  | refine L2.st_lenR (L2.lenr_l (by assumption)) ?_
  | refine L2.st_lenGR (L2.lenr_l (by assumption)) ?_
  | refine L2.st_lenGR (L2.lenr_t (by assumption)) ?_
  | refine L2.st_lenR (L2.lenr_t (by assumption)) ?_
  | refine L2.st_isG (b := false) (by walk_at "ty") (by walk_at "cv") (by walk_at "kit") ?_
  | refine L2.st_isG (b := true) (by walk_at "ty") (by walk_at "cv") (by walk_at "kit") ?_
  | refine And.intro (by walk_at "side") ?_)
local macro_rules | `(tactic| walk_at "go") => `(tactic| repeat (walk_at "s1"))
local macro_rules | `(tactic| walk_at "s2") => `(tactic| first
  | refine ⟨_, rfl, ?_⟩
  | refine ⟨_, _, _, _, _, rfl, (by assumption), K01.clsR (by assumption), He.noat_ok (K01.a_noat_Ratio_top (by assumption)), rfl, ?_⟩
  | refine ⟨_, _, _, _, _, rfl, (by assumption), K01.clsR (by assumption), He.noat_ok (K01.a_noat_Ratio_bottom (by assumption)), rfl, ?_⟩
  | refine ⟨_, _, rfl, rfl, ?_⟩
  | refine ⟨_, _, rfl, ?_⟩
  | refine And.intro rfl ?_
  | refine L2.iteT ?_
  | refine L2.iteF ?_
  | refine L2.st_ixl (by assumption) (by rfl) ?_
  | refine L2.st_ixt (by assumption) (by rfl) ?_
  | refine L2.st_lenR (L2.lenr_l (by assumption)) ?_
  | refine L2.st_lenGR (L2.lenr_l (by assumption)) ?_
  | refine L2.st_lenGR (L2.lenr_t (by assumption)) ?_
  | refine L2.st_lenR (L2.lenr_t (by assumption)) ?_
  | refine And.intro (by walk_at "side") ?_)
local macro_rules | `(tactic| walk_at "gs") => `(tactic| repeat (walk_at "s2"))
namespace K01
open PySem PySem.Spec PyProof.Rows L2 L2R TL LamX
section
variable {P : Program} {w : World} {K : PySem.W.Frag} {mg : Str → Option Value} {base : Heap}
theorem joinL_nil : ∀ L : List (List Nat), joinL [] L = L.flatten
  | [] => rfl
  | [p] => by show p = [p].flatten; simp
  | p :: q :: r => by
    show p ++ ([] ++ joinL [] (q :: r)) = _
    rw [joinL_nil (q :: r), List.nil_append, List.flatten_cons (l := p)]
theorem join_one {e : Str} (he : tl e = []) (ys : List Str) (h : ∀ y ∈ ys, (tl y).length = 1 ∧ ∀ c ∈ tl y, dg c = true) : (Txt.join e ys).length = ys.length ∧ ∀ c ∈ tl (Txt.join e ys), dg c = true := by
  rw [len_tl, join_eq, tl_join, he, joinL_nil]
  refine ⟨?_, fun c hc => ?_⟩
  · induction ys with
    | nil => rfl
    | cons y ys ih =>
      rw [List.map_cons, List.flatten_cons, List.length_append, ih fun z hz => h z (List.mem_cons_of_mem _ hz), (h y (List.mem_cons_self ..)).1, List.length_cons]
      omega
  · obtain ⟨l, hl, hcl⟩ := List.mem_flatten.mp hc
    obtain ⟨y, hy, rfl⟩ := List.mem_map.mp hl
    exact (h y hy).2 c hcl
/-- the long texts -/
structure Lng (most lead : Str) (i : Int) : Prop where
  m : (tl most).length = 4001
  no : rdN (tl (lead ++ most)) = none
  no2 : rdN (tl (Str.ofString "1/" ++ most)) = none
  rd : rdN (tl (lead ++ cutS most none (some 4000))) = some (i, 1)
  wr : lead ++ cutS most none (some 4000) = Str.ofString (toString i)
  it : intText? (lead ++ cutS most none (some 4000)) = some i
  big : i.natAbs < 10 ^ 4000
  ll : lead.length ≤ 1
  lt : (lead ++ cutS most none (some 4000)).length ≤ 4001
theorem lng_of {c : Nat} {m lead : Str} (hc : 49 ≤ c ∧ c ≤ 57) (hm : (tl m).length = 4000) (hd : ∀ c ∈ tl m, dg c = true) (hl : lead = Str.ofString "" ∨ lead = Str.ofString "-") : ∃ i, Lng ((⟨#[c]⟩ : Str) ++ m) lead i := by
  have e1 : tl ((⟨#[c]⟩ : Str) ++ m) = c :: tl m := by rw [tl_append] <;> rfl
  have l1 : (tl ((⟨#[c]⟩ : Str) ++ m)).length = 4001 := by rw [e1, List.length_cons, hm]
  have hdc : dg c = true := by unfold dg; simp only [Bool.and_eq_true, decide_eq_true_eq]; omega
  have d1 : ∀ x ∈ tl ((⟨#[c]⟩ : Str) ++ m), dg x = true := fun x hx => by
    rw [e1] at hx
    rcases List.mem_cons.mp hx with rfl | hx
    · exact hdc
    · exact hd x hx
  generalize hM : (⟨#[c]⟩ : Str) ++ m = most at e1 l1 d1
  have cut : tl (cutS most none (some 4000)) = (tl most).take 4000 := cut_to most 4000
  obtain ⟨L, hL⟩ : ∃ L, L = (tl most).take 4000 := ⟨_, rfl⟩
  rw [← hL] at cut
  have lL : L.length = 4000 := by rw [hL, List.length_take, l1]; decide
  have dL : NumText.AllDigits L := all_dg (List.all_eq_true.mpr fun x hx => d1 x (List.mem_of_mem_take (by rw [← hL]; exact hx)))
  have hL0 : L ≠ [] := fun z => by rw [z] at lL; cases lL
  have hh : L.head? = some c := by rw [hL, e1] <;> rfl
  have nb : numL (NumText.digitsVal L) = L := numL_back L dL hL0 (by rw [hh]; intro z; have := Option.some.inj z; omega)
  have vb : NumText.digitsVal L < 10 ^ 4000 := by have := digitsVal_lt L dL; rw [lL] at this; exact this
  have np : 0 < NumText.digitsVal L := by
    rw [hL, e1]
    exact NumText.digitsVal_pos hc.1
  have n47 : 47 ∉ tl most := fun z => by have := d1 47 z; exact absurd this (by decide)
  have long : rdW (tl most) = none := rdW_no (okW_long (by rw [l1]; decide))
  have noP : ∀ b, rdP b (tl most) = none := fun b => by rw [rdP_one n47, long] <;> rfl
  have c45 : c ≠ 45 := by omega
  have no2 : rdN (tl (Str.ofString "1/" ++ most)) = none := by
    rw [tl_append]
    show rdP false ([49] ++ 47 :: tl most) = none
    rw [rdP_two (by decide), long]
    rfl
  have na0 : ((NumText.digitsVal L : Nat) : Int).natAbs = NumText.digitsVal L := by omega
  have hk0 : ∀ i : Int, i.natAbs = NumText.digitsVal L → i.natAbs < 10 ^ 4000 := fun i h => by rw [h]; exact vb
  rcases hl with rfl | rfl
  · have ex : tl (Str.ofString "" ++ cutS most none (some 4000)) = L := by rw [tl_append, cut] <;> rfl
    have ei : intL ((NumText.digitsVal L : Nat) : Int) = L := by unfold intL; rw [if_neg (by omega), na0, nb]
    refine ⟨((NumText.digitsVal L : Nat) : Int), l1, ?_, no2, ?_, ?_, ?_, hk0 _ (na0), by decide, ?_⟩
    · rw [tl_append]
      show rdN (tl most) = none
      unfold rdN
      rw [rdS_head, e1]
      rw [if_neg (show ¬ (c :: tl m).head? = some 45 by simpa using c45), ← e1]
      exact noP _
    · rw [ex]
      have := rdN_int (i := ((NumText.digitsVal L : Nat) : Int)) (by rw [na0, nb, lL]; decide)
      rw [ei] at this
      exact this
    · exact ext_tl (by rw [ex, tl_int, ei])
    · have := intText_digits (x := Str.ofString "" ++ cutS most none (some 4000)) (by rw [show (Str.ofString "" ++ cutS most none (some 4000)).cps.toList = L from ex]; exact dL) (by rw [show (Str.ofString "" ++ cutS most none (some 4000)).cps.toList = L from ex]; exact hL0) (by rw [len_tl, ex, lL]; decide)
      rw [this]
      show some (((NumText.digitsVal (tl (Str.ofString "" ++ cutS most none (some 4000)))) : Nat) : Int) = _
      rw [ex]
    · rw [len_tl, ex, lL]
      decide
  · have ex : tl (Str.ofString "-" ++ cutS most none (some 4000)) = 45 :: L := by rw [tl_append, cut] <;> rfl
    have na : (-((NumText.digitsVal L : Nat) : Int)).natAbs = NumText.digitsVal L := by rw [Int.natAbs_neg, na0]
    have ei : intL (-((NumText.digitsVal L : Nat) : Int)) = 45 :: L := by unfold intL; rw [if_pos (by omega), na, nb]
    refine ⟨-((NumText.digitsVal L : Nat) : Int), l1, ?_, no2, ?_, ?_, ?_, hk0 _ na, by decide, ?_⟩
    · rw [tl_append]
      show rdP true (tl most) = none
      exact noP _
    · rw [ex]
      have := rdN_int (i := -((NumText.digitsVal L : Nat) : Int)) (by rw [na, nb, lL]; decide)
      rw [ei] at this
      exact this
    · exact ext_tl (by rw [ex, tl_int, ei])
    · exact intText_neg (x := Str.ofString "-" ++ cutS most none (some 4000)) ex dL hL0 (by rw [len_tl, ex, List.length_cons, lL]; decide)
    · rw [len_tl, ex, List.length_cons, lL]
      decide
def spLg (K : PySem.W.Frag) : Sp := fun vs H Q _ => ∃ (b l : Addr), vs = [.ref b] ∧ BagAt b l H ∧ Tabs (tT K) H ∧
  ∀ H', BagAt b l H' → ExtB b H H' → Tabs (tT K) H' → Q (.bl true) H'
theorem G__law_long_so (T : TL K mg) (hTB : TBs K mg base) : FX P w K mg base 20 "_law_long_so" [] (spLg K) := by
  have R := G_like (P := P) (w := w) (base := base) T 3
  obtain ⟨fdD, FD0, FD⟩ := ok_read (P := P) (w := w) (base := base) T
  have bD : Binds K fdD ["text"] [] := FD0.bindsN (fun _ _ _ _ _ _ us hl => match us, hl with | [_], _ => rfl)
  obtain ⟨fdT, FT0, FT⟩ := ok_text (P := P) (w := w) (base := base) T
  have bT : Binds K fdT ["self"] [] := FT0.bindsN (fun _ _ _ _ _ _ us hl => match us, hl with | [_], _ => rfl)
  obtain ⟨fdZ, FZ0, FZ⟩ := ok_raises (P := P) (w := w) (base := base) T 6
  have bZ : Binds K fdZ ["deed", "code", "kept"] [] := FZ0.bindsN (fun _ _ _ _ _ _ us hl => match us, hl with | [_, _, _], _ => rfl)
  have mem : (("_law_long_so", none) : He.Defn) ∈ tfL := by decide
  have hTB1 := hTB _ mem
  have hmT := tT_mem (K := K) mem
  have hu := tT_one T mem
  obtain ⟨fd, F⟩ := F__law_long_so T
  refine FX.of F (g__law_long_so T) (F.okC (p := ("_law_long_so", none)) sc__law_long_so (fun vs H Q E h => ?_) (fun cdv A outer s H vs Q E hcd hr h => ?_)) (fun _ _ _ _ _ _ us hl => match us, hl with | [_], _ => rfl)
  · obtain ⟨b, l, rfl, _⟩ := h
    rfl
  · obtain ⟨b, l, rfl, hB, hT, k⟩ := h
    refine ⟨_, (pss_cons (ps_set (i := 1) sc__law_long_so.nd rfl (by first | exact Or.inl rfl | exact Or.inr rfl) (pe_op op_addG (pe_fx (G__law_of T) (hr.mono (by walk_at "lvl")) passL (pa_cons (pv 0) (pa_cons pe_str pa_nil))) (pe_op op_repS (pe_m1 PySem.F.slot_str_join PySem.F.type_str_join mt_join pe_str (pe_lc (own := [("k", 2)]) (g := gName 2) (tt := tYes) rfl sc__law_long_so.nd (pi_range1 rfl (f_range T) (pa_cons pe_int pa_nil)) (blkOk_by (N := N__law_long_so) (sc := defScope s__law_long_so) (by decide +kernel)) (fun _ _ _ _ _ => pg_name (i := 2) sc__law_long_so.nd rfl (Or.inl rfl)) (fun _ _ _ _ _ => pts_nil) (fun _ _ _ _ _ => (pe_fx (G__law_of T) (hr.mono (by walk_at "lvl")) passL (pa_cons (pv 0) (pa_cons pe_str pa_nil)))))) pe_int)))
      (pss_cons (ps_asg (pe_tup (pa_cons (pe_fx (G__law_of T) (hr.mono (by walk_at "lvl")) passL (pa_cons (pv 0) (pa_cons (pe_lst (pa_cons pe_str (pa_cons pe_str pa_nil))) pa_nil))) (pa_cons (pe_slice sl_str (pv 1) po_none (po_some pe_int)) pa_nil))) (pg_tup rfl (pgs_cons (pg_name (i := 3) sc__law_long_so.nd rfl (by first | exact Or.inl rfl | exact Or.inr rfl)) (pgs_cons (pg_name (i := 4) sc__law_long_so.nd rfl (by first | exact Or.inl rfl | exact Or.inr rfl)) pgs_nil))))
      (pss_cons (ps_set (i := 5) sc__law_long_so.nd rfl (by first | exact Or.inl rfl | exact Or.inr rfl) (pe_stat (pe_gr (g_Ratio T)) (sRead T) FD (hr.mono (by walk_at "lvl")) bD passL (pa_cons (pe_op op_addG (pv 3) (pv 4)) pa_nil)))
      (pss_cons (ps_if (PW.pt (pw_or (pt_not (pt_val (pe_fx R (hr.mono (by walk_at "lvl")) passL (pa_cons (pv 5) (pa_cons (pe_tup (pa_cons (pe_callTy (T := "int") (call_intX (digF T)) rfl (f_int T) (by decide +kernel) (pa_cons (pe_op op_addG (pv 3) (pv 4)) pa_nil)) (pa_cons pe_int pa_nil))) pa_nil))))) (pw_or1 (pt_not (pt_val (pe_fx R (hr.mono (by walk_at "lvl")) passL (pa_cons (pe_meth0 (pv 5) (clsR T) (He.meth_ok (a_meth_Ratio_text T)) FT (hr.mono (by walk_at "lvl")) bT .nil passL) (pa_cons (pe_op op_addG (pv 3) (pv 4)) pa_nil))))))))
        (pss_one (ps_ret pe_bl))
        pss_nil)
      (pss_cons (ps_if (pt_not (pt_val (pe_lamD (T := tT K) rfl (g__law_raises T) FZ0.kp FZ bZ (hr.mono (by walk_at "lvl")) passL hTB1 hcd hmT hu (lamS_by rfl) rfl (fun _ _ _ _ _ => rfl) (fun A2 outer2 s2 H2 E2 f2 c2 hrl => (pe_stat (pe_gr (g_Ratio T)) (sRead T) FD (hrl.mono (by decide)) bD (passes_call (takes_of rfl rfl rfl rfl) (fun _ _ _ _ h => h)) (pa_cons (pe_op op_addG (pv 3) (pv 1)) pa_nil))) (pa_cons pe_str (pa_cons (pe_op op_addG (pv 3) (pv 1)) pa_nil)))))
        (pss_one (ps_ret pe_bl))
        pss_nil)
      (pss_one (ps_ret (pe_lamD (T := tT K) rfl (g__law_raises T) FZ0.kp FZ bZ (hr.mono (by walk_at "lvl")) passL hTB1 hcd hmT hu (lamS_by rfl) rfl (fun _ _ _ _ _ => rfl) (fun A2 outer2 s2 H2 E2 f2 c2 hrl => (pe_stat (pe_gr (g_Ratio T)) (sRead T) FD (hrl.mono (by decide)) bD (passes_call (takes_of rfl rfl rfl rfl) (fun _ _ _ _ h => h)) (pa_cons (pe_op op_addG pe_str (pv 1)) pa_nil))) (pa_cons pe_str (pa_cons (pe_op op_addG pe_str (pv 1)) pa_nil)))))))))), ?_⟩
    walk_at "gs"
    refine .inr ⟨b, l, _, rfl, hB, by decide, by decide, fun c H1 hc hB1 x1 => ?_⟩
    walk_at "gs"
    refine ⟨⟨_, rfl⟩, ?_⟩
    walk_at "gs"
    intro D nD
    have hc' : 49 ≤ c ∧ c ≤ 57 := by
      have h1 : c ∈ [49, 50, 51, 52, 53, 54, 55, 56, 57] := hc
      simp only [List.mem_cons, List.not_mem_nil, or_false] at h1
      omega
    refine lc_range (lo := 0) (fun i H' => ∃ ys : List Str, H' D = some (.lst (ys.map V.str)) ∧ ys.length = i ∧ (∀ y ∈ ys, (tl y).length = 1 ∧ ∀ c ∈ tl y, dg c = true) ∧ BagAt b l H' ∧ Ext b H H') ?_ ?_ ?_
    · exact ⟨[], upd_same, rfl, fun y hy => (nomatch hy), hB1.new nD, x1.trans (Ext.new nD)⟩
    · rintro i H2 hi ⟨ys, f1, f2, f3, hB2, f4⟩
      walk_at "gs"
      refine .inr ⟨b, l, _, rfl, hB2, by decide, by decide, fun e H3 he hB3 x3 => ?_⟩
      have g1 : H3 D = some (.lst (ys.map V.str)) := by
        refine x3 D _ (fun z => ?_) f1
        obtain ⟨xs, hb⟩ := hB1.isL
        rw [← z, nD] at hb
        cases hb
      have he' : dg e = true := by
        have h1 : e ∈ [48, 49, 50, 51, 52, 53, 54, 55, 56, 57] := he
        simp only [List.mem_cons, List.not_mem_nil, or_false] at h1
        unfold dg
        simp only [Bool.and_eq_true, decide_eq_true_eq]
        omega
      have nb : D ≠ b := notB hB1 nD
      have nl : l ≠ D := fun z => by
        obtain ⟨xs, hb⟩ := hB1.isL2
        rw [z, nD] at hb
        cases hb
      refine ⟨_, g1, ?_, ys ++ [⟨#[e]⟩], ?_, ?_, ?_, ?_, ?_⟩
      · rw [List.length_map, f2]
        exact Nat.lt_of_lt_of_le (show i < 20 from hi) (by decide)
      · rw [upd_same, List.map_append] <;> rfl
      · rw [List.length_append, f2] <;> rfl
      · intro y hy
        rcases List.mem_append.mp hy with hy | hy
        · exact f3 y hy
        · rw [List.mem_singleton.mp hy]
          exact ⟨rfl, fun c hc => by rw [show tl (⟨#[e]⟩ : Str) = [e] from rfl] at hc; rw [List.mem_singleton.mp hc]; exact he'⟩
      · exact hB3.two (upd_ne (Ne.symm nb)) (upd_ne nl)
      · intro a o ha h
        have h1 := x1 a o ha h
        rw [upd_ne (ne_of_none h1 nD)]
        exact x3 a o ha (f4 a o ha h)
    · rintro H2 ⟨ys, f1, f2, f3, hB2, x2⟩
      walk_at "gs"
      obtain ⟨j1, j2⟩ := join_one (e := Str.ofString "") rfl ys f3
      have l20 : ys.length = 20 := f2
      have sm : ∀ zs : List Str, (∀ y ∈ zs, (tl y).length = 1 ∧ ∀ c ∈ tl y, dg c = true) → (zs.map (·.length)).sum = zs.length := by
        intro zs
        induction zs with
        | nil => intro _; rfl
        | cons z zs ih =>
          intro h
          rw [List.map_cons, List.sum_cons, ih (fun y hy => h y (List.mem_cons_of_mem _ hy)), len_tl, (h z (List.mem_cons_self ..)).1, List.length_cons]
          omega
      rw [l20] at j1
      refine ⟨_, D, ys, rfl, rfl, .inl (SqL.of f1), ?_, ?_⟩
      · rw [sm ys f3, l20]
        decide
      generalize hz : Txt.join (Str.ofString "") ys = z at j1 j2
      obtain ⟨m1, m2⟩ := mul_facts j1 j2
      have mo := mulOk20 j1
      walk_at "gs"
      generalize hm : Txt.mul z 200 = m at m1 m2
      have lm : m.length = 4000 := by rw [len_tl, m1]
      have lc : (⟨#[c]⟩ : Str).length = 1 := rfl
      have hs : 10000 ≤ sizeLine := by decide
      refine ⟨by omega, ?_⟩
      have T2 := Tabs.off hT hB x2
      walk_at "gs"
      refine st_ofI hB2 (by simp) (show (2 : Nat) < 1000 by decide) fun x H3 hx hB3 x3 => ?_
      have hl : ∃ lead : Str, x = .str lead ∧ (lead = Str.ofString "" ∨ lead = Str.ofString "-") := by
        simp only [List.mem_cons, List.not_mem_nil, or_false] at hx
        rcases hx with rfl | rfl
        · exact ⟨_, rfl, .inl rfl⟩
        · exact ⟨_, rfl, .inr rfl⟩
      obtain ⟨lead, rfl, hl⟩ := hl
      have T3 := Tabs.off T2 hB2 x3
      have X3 : ExtB b H H3 := ExtB.of (x2.trans x3)
      obtain ⟨i, ⟨lg1, no1, no2, rd, wr, it, big, ll, lt⟩⟩ := lng_of hc' m1 m2 hl
      generalize hM : (⟨#[c]⟩ : Str) ++ m = most at lg1 no1 no2 rd wr it lt
      have lM : most.length = 4001 := by rw [len_tl, lg1]
      walk_at "gs"
      intro t1 n1
      generalize e4 : upd H3 t1 _ = H4
      obtain ⟨a4, s4⟩ := new_facts n1 e4
      clear e4
      refine st_tup2 a4 ?_
      have rt : rtext (i, 1) = lead ++ cutS most none (some 4000) := (if_pos rfl).trans wr.symm
      have lq : lead.length + (cutS most none (some 4000)).length ≤ sizeLine := by rw [← lenA]; omega
      have lq2 : (lead ++ cutS most none (some 4000)).length ≤ sizeLine := by omega
      have lr : lead.length + most.length ≤ sizeLine := by omega
      have lr2 : (lead ++ most).length ≤ 5000 := by rw [lenA]; omega
      have l1 : (Str.ofString "1/").length = 2 := rfl
      have lr3 : (Str.ofString "1/").length + most.length ≤ sizeLine := by omega
      have lr4 : (Str.ofString "1/" ++ most).length ≤ 5000 := by rw [lenA]; omega
      walk_at "gs"
      refine .inr ⟨_, rfl, by omega, fun q h => ?_, ?_⟩
      · rw [rd] at h
        cases h
        exact Nat.lt_of_lt_of_le (show (1 : Int).natAbs < 2 ^ 1 by decide) (Nat.pow_le_pow_right (by decide) (by decide))
      rw [rd]
      intro r5 H5 h5 s5
      rw [show rlow (i, (1 : Int)).1 (i, (1 : Int)).2 = (i, 1) from rlow_low (low_one i)] at h5
      walk_at "gs"
      refine ⟨_, i, rfl, it, lq2, ?_⟩
      walk_at "gs"
      intro t2 n2
      generalize e6 : upd H5 t2 _ = H6
      obtain ⟨a6, s6⟩ := new_facts n2 e6
      clear e6
      walk_at "gs"
      have h6 := h5.same s6
      refine ⟨.inr (.inl ⟨by decide, lkR h6 a6⟩), fun H7 s7 => ?_⟩
      obtain ⟨rx, h7⟩ := h6.same s7
      walk_at "gs"
      refine ⟨r5, rx, _, rfl, h7, rfl, r5, (i, 1), rfl, ⟨rx, h7⟩, ⟨by rw [rt]; omega, Nat.lt_of_lt_of_le big (Nat.pow_le_pow_right (by decide) (by decide)), .inl rfl⟩, ?_⟩
      walk_at "gs"
      refine ⟨.inl ⟨by decide, .inl ⟨_, by rw [rt], rfl⟩⟩, fun H8 s8 => ?_⟩
      have S8 : Same H3 H8 := s4.trans (s5.trans (s6.trans (s7.trans s8)))
      have T8 := T3.ext S8
      have hB8 := hB3.same S8
      have X8 : ExtB b H H8 := X3.trans (ExtB.of (Ext.of S8))
      clear h5 h6 h7 a4 a6
      walk_at "gs"
      intro H9 f c' e9 T9 hc9
      walk_at "gs"
      refine ⟨fun _ _ h => h, ?_⟩
      refine ⟨f, _, .str (lead ++ most), rfl, ⟨rfl, rfl⟩, fun E' Q' h => ⟨hc9, ?_⟩⟩
      walk_at "gs"
      refine .inr ⟨_, rfl, by omega, fun q h => (by rw [no1] at h; cases h), ?_⟩
      rw [no1]
      intro H10 s10 d fs H11 hx hl s11
      refine h _ _ _ ⟨d, fs, 0, rfl, rfl, hx, hl, by decide, .inr (.inr (.inr (.inl ⟨_, rfl, lr2⟩))), fun H12 s12 => ?_⟩
      have S12 := s10.trans (s11.trans s12)
      have T12 := T9.ext S12
      have hB12 := (hB8.extN e9).same S12
      have X12 : ExtB b H H12 := X8.trans ((ExtB.ofN e9).trans (ExtB.of (Ext.of S12)))
      clear hx hl hc9
      walk_at "gs"
      intro H13 f c' e13 T13 hc13
      walk_at "gs"
      refine ⟨fun _ _ h => h, ?_⟩
      refine ⟨f, _, .str (Str.ofString "1/" ++ most), rfl, ⟨rfl, rfl⟩, fun E' Q' h => ⟨hc13, ?_⟩⟩
      walk_at "gs"
      refine .inr ⟨_, rfl, by omega, fun q h => (by rw [no2] at h; cases h), ?_⟩
      rw [no2]
      intro H14 s14 d fs H15 hx hl s15
      refine h _ _ _ ⟨d, fs, 0, rfl, rfl, hx, hl, by decide, .inr (.inr (.inr (.inl ⟨_, rfl, lr4⟩))), fun H16 s16 => ?_⟩
      have S16 := s14.trans (s15.trans s16)
      exact k H16 ((hB12.extN e13).same S16) (X12.trans ((ExtB.ofN e13).trans (ExtB.of (Ext.of S16)))) (T13.ext S16)
end
end K01
end -- a23
section -- a24
set_option Elab.async false
set_option linter.all false
set_option maxRecDepth 100000
set_option maxHeartbeats 4000000
set_option pp.maxSteps 700
local macro_rules | `(tactic| walk_at "lvl") => `(tactic| first
  | decide
  | omega
  | (simp only [Nat.add_eq]; omega))
local macro_rules | `(tactic| walk_at "side") => `(tactic| first
  | decide
  | assumption
  | omega
  | exact Nat.le_of_ble_eq_true (by rfl)
  | exact ⟨by decide, by decide⟩
  | exact ⟨by decide, by decide, by decide⟩
  | exact Or.inl (Or.inr ⟨by decide, by decide⟩)
  | exact Or.inl (Or.inl ⟨by decide, by decide⟩))
local macro_rules | `(tactic| walk_at "ty") => `(tactic| first
  | assumption
  | exact L2.TyG.x (.base (.int _))
  | exact L2.TyG.x (.base (.str _))
  | exact L2.TyG.x (.base (.bl _))
  | exact L2.TyG.x (.base .non)
  | exact L2.TyG.x (.base (.lst (by assumption)))
  | exact L2.TyG.x (.base (.tup (by assumption)))
  | exact K01.tyR (by assumption) (by assumption)
  | exact L2.TyG.dn (by assumption))
local macro_rules | `(tactic| walk_at "cv") => `(tactic| first
  | exact L2.ClsV.ty _
  | exact L2.ClsV.own _)
local macro_rules | `(tactic| walk_at "kit") => `(tactic| first
  | exact L2.kit_ty (by decide +kernel)
  | exact K01.kR (by assumption) (by decide)
  | exact K01.kR2 (by assumption) (by decide)
  | exact K01.kR3 (by assumption))
local macro_rules | `(tactic| walk_at "s1") => `(tactic| first
  | refine ⟨_, rfl, ?_⟩
  | refine ⟨_, _, _, _, _, rfl, (by assumption), K01.clsR (by assumption), He.noat_ok (K01.a_noat_Ratio_top (by assumption)), rfl, ?_⟩
  | refine ⟨_, _, _, _, _, rfl, (by assumption), K01.clsR (by assumption), He.noat_ok (K01.a_noat_Ratio_bottom (by assumption)), rfl, ?_⟩
  | refine ⟨_, _, rfl, rfl, ?_⟩
  | refine ⟨_, _, rfl, ?_⟩
  | refine And.intro rfl ?_
  | refine L2.iteT ?_
  | refine L2.iteF ?_
  | refine L2.st_ixl (by assumption) (by rfl) ?_
  | refine L2.st_ixt (by assumption) (by rfl) ?_
  | refine L2.st_lenR (L2.lenr_l (by assumption)) ?_
  | refine L2.st_lenGR (L2.lenr_l (by assumption)) ?_
  | refine L2.st_lenGR (L2.lenr_t (by assumption)) ?_
  | refine L2.st_lenR (L2.lenr_t (by assumption)) ?_
  | refine L2.st_isG (b := false) (by walk_at "ty") (by walk_at "cv") (by walk_at "kit") ?_
  | refine L2.st_isG (b := true) (by walk_at "ty") (by walk_at "cv") (by walk_at "kit") ?_
  | refine And.intro (by walk_at "side") ?_)
local macro_rules | `(tactic| walk_at "go") => `(tactic| repeat (walk_at "s1"))
local macro_rules | `(tactic| walk_at "s2") => `(tactic| first
  | refine ⟨_, rfl, ?_⟩
  | refine ⟨_, _, _, _, _, rfl, (by assumption), K01.clsR (by assumption), He.noat_ok (K01.a_noat_Ratio_top (by assumption)), rfl, ?_⟩
  | refine ⟨_, _, _, _, _, rfl, (by assumption), K01.clsR (by assumption), He.noat_ok (K01.a_noat_Ratio_bottom (by assumption)), rfl, ?_⟩
  | refine ⟨_, _, rfl, rfl, ?_⟩
  | refine ⟨_, _, rfl, ?_⟩
  | refine And.intro rfl ?_
  | refine L2.iteT ?_
  | refine L2.iteF ?_
  | refine L2.st_ixl (by assumption) (by rfl) ?_
  | refine L2.st_ixt (by assumption) (by rfl) ?_
  | refine L2.st_lenR (L2.lenr_l (by assumption)) ?_
  | refine L2.st_lenGR (L2.lenr_l (by assumption)) ?_
  | refine L2.st_lenGR (L2.lenr_t (by assumption)) ?_
  | refine L2.st_lenR (L2.lenr_t (by assumption)) ?_
  | refine And.intro (by walk_at "side") ?_)
local macro_rules | `(tactic| walk_at "gs") => `(tactic| repeat (walk_at "s2"))
namespace K01
open PySem PySem.Spec PyProof.Rows L2 L2R TL LamX
section
variable {P : Program} {w : World} {K : PySem.W.Frag} {mg : Str → Option Value} {base : Heap}
/-- a pair of values -/
def PV (K : PySem.W.Frag) (w : World) (H : Hp) (x : V) : Prop := ∃ (r : Addr) (A B : V), x = .ref r ∧ H r = some (.tup [A, B]) ∧ Vl K w 2 H A ∧ Vl K w 2 H B
theorem PV.extN {H H' : Hp} {x : V} (e : ExtN H H') (h : PV K w H x) : PV K w H' x := by
  obtain ⟨r, A, B, rfl, h1, h2, h3⟩ := h
  exact ⟨r, A, B, rfl, e _ _ h1 fun ps z => (nomatch z), h2.extN e, h3.extN e⟩
theorem bn_one {i : Int} (h : i.natAbs ≤ 1000) : Bn 600 (i, 1) := ⟨Nat.lt_of_le_of_lt h (Nat.lt_of_lt_of_le (show 1000 < 2 ^ 10 by decide) (Nat.pow_le_pow_right (by decide) (by decide))), Nat.lt_of_lt_of_le (show (1 : Int).natAbs < 2 ^ 1 by decide) (Nat.pow_le_pow_right (by decide) (by decide))⟩
theorem b1000 {i : Int} (h : i.natAbs ≤ 1000) (m : Nat) (l : 10 ≤ m := by decide) : i.natAbs < 2 ^ m := Nat.lt_of_le_of_lt h (Nat.lt_of_lt_of_le (show 1000 < 2 ^ 10 by decide) (Nat.pow_le_pow_right (by decide) l))
theorem st_rat2 {x dx : Addr} {H1 : Hp} {t b : Int} {R : VK} {E : XK} (nx : H1 x = none) (nd : H1 dx = none) (ne : dx ≠ x) (hb : b ≠ 0) (hB : b.natAbs < 2 ^ 8000) (k : ∀ H', RAt K H' x (rlow t b) → Same H1 H' → R .non H') :
    spRI K w [.ref x, .int t, .int b] (upd (upd H1 dx (.own x)) x (.ins (RC K) dx [])) R E := st_rat1 nx nd ne hb hB k
theorem i_lt {A B x : V} {i : Nat} (h : [A, B][i]? = some x) : i < 2 := (List.getElem?_eq_some_iff.mp h).1
def spPs (K : PySem.W.Frag) : Sp := fun vs H Q _ => ∃ (b l : Addr), vs = [.ref b] ∧ BagAt b l H ∧ Tabs (tT K) H ∧
  ∀ H', BagAt b l H' → ExtB b H H' → Tabs (tT K) H' → Q (.bl true) H'
theorem G__law_parts_so (T : TL K mg) (hTB : TBs K mg base) : FX P w K mg base 20 "_law_parts_so" [] (spPs K) := by
  have GI := G__law_int (P := P) (w := w) (base := base) T
  have RV := G_value (P := P) (w := w) (base := base) T 2
  obtain ⟨fdR, FR0, FR⟩ := ok_RatioI (P := P) (w := w) (base := base) T
  have bR := bRat FR0
  obtain ⟨ds, vR1, bR1⟩ := bRat1 FR0
  obtain ⟨itsBT, kBT⟩ := kRatBT FR0
  obtain ⟨fdZ, FZ0, FZ⟩ := ok_raises (P := P) (w := w) (base := base) T 6
  have bZ : Binds K fdZ ["deed", "code", "kept"] [] := FZ0.bindsN (fun _ _ _ _ _ _ us hl => match us, hl with | [_, _, _], _ => rfl)
  have mem : (("_law_parts_so", none) : He.Defn) ∈ tfL := by decide
  have hTB1 := hTB _ mem
  have hmT := tT_mem (K := K) mem
  have hu := tT_one T mem
  obtain ⟨fd, F⟩ := F__law_parts_so T
  refine FX.of F (g__law_parts_so T) (okC0 F (p := ("_law_parts_so", none)) sc__law_parts_so (fun vs H Q E h => ?_) (fun cdv A outer s H vs Q E hcd hr h => ?_)) (fun _ _ _ _ _ _ us hl => match us, hl with | [_], _ => rfl)
  · obtain ⟨b, l, rfl, _⟩ := h
    rfl
  · obtain ⟨b, l, rfl, hB, hT, k⟩ := h
    refine ⟨_, (pss_cons (ps_asg (pe_tup (pa_cons (pe_fx RV (hr.mono (by walk_at "lvl")) passL (pa_cons (pv 0) (pa_cons pe_int pa_nil))) (pa_cons (pe_fx RV (hr.mono (by walk_at "lvl")) passL (pa_cons (pv 0) (pa_cons pe_int pa_nil))) pa_nil))) (pg_tup rfl (pgs_cons (pg_name (i := 1) sc__law_parts_so.nd rfl (by first | exact Or.inl rfl | exact Or.inr rfl)) (pgs_cons (pg_name (i := 2) sc__law_parts_so.nd rfl (by first | exact Or.inl rfl | exact Or.inr rfl)) pgs_nil))))
      (pss_cons (ps_for PassesOwn.never rfl (pi_list (pe_lst (pa_cons (pe_tup (pa_cons (pv 1) (pa_cons (pv 2) pa_nil))) (pa_cons (pe_tup (pa_cons pe_int (pa_cons (pv 1) pa_nil))) (pa_cons (pe_tup (pa_cons (pv 1) (pa_cons pe_int pa_nil))) (pa_cons (pe_tup (pa_cons (pv 2) (pa_cons (pv 1) pa_nil))) (pa_cons (pe_tup (pa_cons pe_int (pa_cons pe_int pa_nil))) (pa_cons (pe_tup (pa_cons pe_bl (pa_cons pe_int pa_nil))) (pa_cons (pe_tup (pa_cons pe_int (pa_cons pe_bl pa_nil))) pa_nil))))))))) (pg_tup rfl (pgs_cons (pg_name (i := 3) sc__law_parts_so.nd rfl (by first | exact Or.inl rfl | exact Or.inr rfl)) (pgs_cons (pg_name (i := 4) sc__law_parts_so.nd rfl (by first | exact Or.inl rfl | exact Or.inr rfl)) pgs_nil)))
        (pss_cons (ps_setLc (i := 5) (own := [("one", 6)]) (g := gName 6) (tt := _) rfl sc__law_parts_so.nd rfl rfl (sw_true rfl rfl rfl (by decide +kernel)) (pi_list (pe_lst (pa_cons (pv 3) (pa_cons (pv 4) pa_nil)))) (blkOk_by (N := N__law_parts_so) (sc := defScope s__law_parts_so) (by decide +kernel)) (fun _ _ _ _ _ => pg_name (i := 6) sc__law_parts_so.nd rfl (Or.inl rfl)) (fun _ _ _ _ _ => pts_one (pt_not (pt_val (pe_fx GI (hr.mono (by walk_at "lvl")) passL (pa_cons (pv 6) pa_nil))))) (fun _ _ _ _ _ => (pv 6)))
        (pss_one (ps_if (pt_truth (pv 5) (by intro _; rfl))
          (pss_one (ps_if (pt_not (pt_val (pe_lamD (T := tT K) rfl (g__law_raises T) FZ0.kp FZ bZ (hr.mono (by walk_at "lvl")) passL hTB1 hcd hmT hu (lamS_by rfl) rfl (fun _ _ _ _ _ => rfl) (fun A2 outer2 s2 H2 E2 f2 c2 hrl => (pe_make (mkR T) FR (hrl.mono (by decide)) rfl (g_Ratio T) bR .nil (passes_call (takes_of rfl rfl rfl rfl) (fun _ _ _ _ h => h)) (pa_cons (pv 3) (pa_cons (pv 4) pa_nil)))) (pa_cons pe_str (pa_cons (pe_ix ix_seq (pv 5) pe_int (fun _ _ => rfl)) pa_nil)))))
            (pss_one (ps_ret pe_bl))
            pss_nil))
          (pss_one (ps_if (pt_cmpR op_eq (pv 4) pe_int (nomark _))
            (pss_one (ps_if (pt_not (pt_val (pe_lamD (T := tT K) rfl (g__law_raises T) FZ0.kp FZ bZ (hr.mono (by walk_at "lvl")) passL hTB1 hcd hmT hu (lamS_by rfl) rfl (fun _ _ _ _ _ => rfl) (fun A2 outer2 s2 H2 E2 f2 c2 hrl => (pe_make (mkR T) FR (hrl.mono (by decide)) rfl (g_Ratio T) bR .nil (passes_call (takes_of rfl rfl rfl rfl) (fun _ _ _ _ h => h)) (pa_cons (pv 3) (pa_cons (pv 4) pa_nil)))) (pa_cons pe_str (pa_cons pe_int pa_nil)))))
              (pss_one (ps_ret pe_bl))
              pss_nil))
            (pss_one (ps_if (pt_not (pt_val (pe_fx (G__law_is T) (hr.mono (by walk_at "lvl")) passL (pa_cons (pe_makeK2 (gV := fun r y z => [r, z, y]) (mkR T) FR (hr.mono (by walk_at "lvl")) (g_Ratio T) kBT (fun _ _ _ => rfl) passL (pv 4) (pv 3)) (pa_cons (pe_fx (G__law_low T) (hr.mono (by walk_at "lvl")) passL (pa_cons (pv 3) (pa_cons (pv 4) pa_nil))) pa_nil)))))
              (pss_one (ps_ret pe_bl))
              pss_nil))))))))
      (pss_one (ps_ret (pe_ifExp (pt_not (pt_val (pe_fx (G__law_int T) (hr.mono (by walk_at "lvl")) passL (pa_cons (pv 2) pa_nil)))) (pe_lamD (T := tT K) rfl (g__law_raises T) FZ0.kp FZ bZ (hr.mono (by walk_at "lvl")) passL hTB1 hcd hmT hu (lamS_by rfl) rfl (fun _ _ _ _ _ => rfl) (fun A2 outer2 s2 H2 E2 f2 c2 hrl => (pe_make (mkR T) FR (hrl.mono (by decide)) rfl (g_Ratio T) bR1 vR1 (passes_call (takes_of rfl rfl rfl rfl) (fun _ _ _ _ h => h)) (pa_cons (pv 2) pa_nil))) (pa_cons pe_str (pa_cons (pv 2) pa_nil))) (pe_fx (G__law_is T) (hr.mono (by walk_at "lvl")) passL (pa_cons (pe_make (mkR T) FR (hr.mono (by walk_at "lvl")) rfl (g_Ratio T) bR1 vR1 passL (pa_cons (pv 2) pa_nil)) (pa_cons (pe_tup (pa_cons (pv 2) (pa_cons pe_int pa_nil))) pa_nil)))))))), ?_⟩
    walk_at "gs"
    refine ⟨b, l, rfl, hB, fun v H1 hv hB1 x1 => ?_⟩
    walk_at "gs"
    refine ⟨b, l, rfl, hB1, fun w' H2 hw hB2 x2 => ?_⟩
    have v2 : Vl K w 2 H2 v := Vl.off hB1 x2 hv.all
    have w2 : Vl K w 2 H2 w' := hw.all
    have X2 := x1.trans x2
    have T2 := Tabs.off hT hB X2
    walk_at "gs"
    intro t1 n1
    generalize e3 : upd H2 t1 _ = H3
    obtain ⟨a3, s3⟩ := new_facts n1 e3
    clear e3
    refine st_tup2 a3 ?_
    walk_at "gs"
    intro p1 m1
    generalize e4 : upd H3 p1 _ = H4
    obtain ⟨a4, s4⟩ := new_facts m1 e4
    clear e4
    walk_at "gs"
    intro p2 m2
    generalize e5 : upd H4 p2 _ = H5
    obtain ⟨a5, s5⟩ := new_facts m2 e5
    clear e5
    walk_at "gs"
    intro p3 m3
    generalize e6 : upd H5 p3 _ = H6
    obtain ⟨a6, s6⟩ := new_facts m3 e6
    clear e6
    walk_at "gs"
    intro p4 m4
    generalize e7 : upd H6 p4 _ = H7
    obtain ⟨a7, s7⟩ := new_facts m4 e7
    clear e7
    walk_at "gs"
    intro p5 m5
    generalize e8 : upd H7 p5 _ = H8
    obtain ⟨a8, s8⟩ := new_facts m5 e8
    clear e8
    walk_at "gs"
    intro p6 m6
    generalize e9 : upd H8 p6 _ = H9
    obtain ⟨a9, s9⟩ := new_facts m6 e9
    clear e9
    walk_at "gs"
    intro p7 m7
    generalize e10 : upd H9 p7 _ = H10
    obtain ⟨a10, s10⟩ := new_facts m7 e10
    clear e10
    walk_at "gs"
    intro L nL
    generalize e11 : upd H10 L _ = H11
    obtain ⟨a11, s11⟩ := new_facts nL e11
    clear e11
    have S5 := s5.trans (s6.trans (s7.trans (s8.trans (s9.trans (s10.trans s11)))))
    have S11 : Same H2 H11 := s3.trans (s4.trans S5)
    have v11 := v2.same S11
    have w11 := w2.same S11
    have at0 : ∀ i : Int, i.natAbs ≤ 1000 → Vl K w 2 H11 (.int i) := fun i hi => Vl.at0 (.inr (.inr (.inl ⟨i, rfl, hi⟩))) 2
    have atb : ∀ b : Bool, Vl K w 2 H11 (.bl b) := fun b => Vl.at0 (.inr (.inl ⟨b, rfl⟩)) 2
    obtain ⟨xs, aL, lx, px⟩ : ∃ xs : List V, H11 L = some (.lst xs) ∧ xs.length = 7 ∧ ∀ x ∈ xs, PV K w H11 x := by
      refine ⟨_, a11, rfl, fun x hx => ?_⟩
      simp only [List.mem_cons, List.not_mem_nil, or_false] at hx
      rcases hx with rfl | rfl | rfl | rfl | rfl | rfl | rfl
      · exact ⟨p1, _, _, rfl, S5 _ _ a4, v11, w11⟩
      · exact ⟨p2, _, _, rfl, (s6.trans (s7.trans (s8.trans (s9.trans (s10.trans s11))))) _ _ a5, at0 7 (by decide), v11⟩
      · exact ⟨p3, _, _, rfl, (s7.trans (s8.trans (s9.trans (s10.trans s11)))) _ _ a6, v11, at0 0 (by decide)⟩
      · exact ⟨p4, _, _, rfl, (s8.trans (s9.trans (s10.trans s11))) _ _ a7, w11, v11⟩
      · exact ⟨p5, _, _, rfl, (s9.trans (s10.trans s11)) _ _ a8, at0 0 (by decide), at0 0 (by decide)⟩
      · exact ⟨p6, _, _, rfl, (s10.trans s11) _ _ a9, atb true, at0 2 (by decide)⟩
      · exact ⟨p7, _, _, rfl, s11 _ _ a10, at0 2 (by decide), atb false⟩
    have hB11 := hB2.same S11
    have T11 := T2.ext S11
    have X11 : ExtB b H H11 := ExtB.of (X2.trans (Ext.of S11))
    clear a3 a4 a5 a6 a7 a8 a9 a10 a11 s3 s4 s5 s6 s7 s8 s9 s10 s11 S5 S11 n1 m1 m2 m3 m4 m5 m6 m7 nL v2 w2 hv hw hB1 hB2 T2 x1 x2 X2
    walk_at "gs"
    refine ⟨⟨_, SqL.of aL⟩, for_list (xs := xs) (fun i σ H' => ∃ av bv wv ov : Option V, σ = [some (.ref b), some v, some w', av, bv, wv, ov] ∧ H' L = some (.lst xs) ∧ (∀ x ∈ xs, PV K w H' x) ∧ Vl K w 2 H' w' ∧ BagAt b l H' ∧ Tabs (tT K) H' ∧ ExtB b H H') ⟨none, none, none, none, rfl, aL, px, w11, hB11, T11, X11⟩ ?_ ?_ ?_⟩
    · rintro i σ H' _ ⟨_, _, _, _, _, h, _⟩
      exact SqL.of h
    · rintro i x σ H12 hi ⟨av, bv, wv, ov, rfl, aL, px, w12, hB12, T12, X12⟩
      obtain ⟨r, A, B, rfl, hr2, vA, vB⟩ := px x (List.mem_of_getElem? hi)
      have fin : ∀ (σ' : L2.St) (H' : Hp), (∃ av bv wv ov : Option V, σ' = [some (.ref b), some v, some w', av, bv, wv, ov]) → ExtN H12 H' → Tabs (tT K) H' → (∃ av bv wv ov : Option V, σ' = [some (.ref b), some v, some w', av, bv, wv, ov] ∧ H' L = some (.lst xs) ∧ (∀ x ∈ xs, PV K w H' x) ∧ Vl K w 2 H' w' ∧ BagAt b l H' ∧ Tabs (tT K) H' ∧ ExtB b H H') := by
        rintro σ' H' ⟨av, bv, wv, ov, rfl⟩ e t
        exact ⟨av, bv, wv, ov, rfl, e _ _ aL (fun _ z => nomatch z), fun x hx => (px x hx).extN e, w12.extN e, hB12.extN e, t, X12.trans (ExtB.ofN e)⟩
      refine st_tup2 hr2 ?_
      walk_at "gs"
      intro q nq
      generalize e13 : upd H12 q _ = H13
      obtain ⟨aq, s13⟩ := new_facts nq e13
      clear e13
      have vA := vA.same s13
      have vB := vB.same s13
      have vx : ∀ x ∈ [A, B], VC K w H13 x := fun x hx => by
        rcases List.mem_cons.mp hx with rfl | hx
        · exact Vl.vc T vA
        · rw [List.mem_singleton.mp hx]
          exact Vl.vc T vB
      walk_at "gs"
      refine ⟨⟨_, SqL.of aq⟩, fun D nD => lc_list (xs := [A, B]) (K := K) (a := q) (fun i H' => H' D = some (.lst (([A, B].take i).filter fun v => !isI v)) ∧ Same H13 H') ⟨upd_same, Same.new nD⟩ ?_ ?_ ?_⟩
      · rintro i H' _ ⟨_, h⟩
        exact SqL.of (h _ _ aq)
      · rintro i x H14 hi ⟨h1, s14⟩
        have hx := List.mem_of_getElem? hi
        have tk : [A, B].take (i + 1) = [A, B].take i ++ [x] := by rw [List.take_succ, hi] <;> rfl
        have lt : (([A, B].take i).filter fun v => !isI v).length < sizeLine := Nat.lt_of_le_of_lt (Nat.le_trans (List.length_filter_le _ _) (List.length_take_le _ _)) (Nat.lt_of_lt_of_le (i_lt hi) (by decide))
        rw [tk, List.filter_append]
        rcases (vx x hx).notInt with ⟨n, rfl, _⟩ | ⟨hn, t, ty, nt⟩
        · walk_at "gs"
          refine spInt_i ?_
          walk_at "gs"
          have e0 : ([V.int n].filter fun v => !isI v) = [] := rfl
          rw [e0, List.append_nil]
          exact ⟨h1, s14⟩
        · walk_at "gs"
          refine spInt_n (ty _ (ExtN.of s14)) nt ?_
          walk_at "gs"
          have e0 : ([x].filter fun v => !isI v) = [x] := by rw [List.filter_cons_of_pos (by rw [hn] <;> rfl)] <;> rfl
          rw [e0]
          refine ⟨_, h1, lt, upd_same, fun c o h => ?_⟩
          rw [upd_ne (ne_of_none h nD)]
          exact s14 _ _ h
      · rintro H14 ⟨h1, s14⟩
        have S14 : Same H12 H14 := s13.trans s14
        have T14 := T12.ext S14
        have v14A := vA.same s14
        have v14B := vB.same s14
        have h2 : H14 D = some (.lst ([A, B].filter fun v => !isI v)) := h1
        clear h1
        rcases (vx A (by simp)).notInt with ⟨n, rfl, bn⟩ | ⟨hA, t, ty, nt⟩
        · rcases (vx B (by simp)).notInt with ⟨m, rfl, bm⟩ | ⟨hB, t, ty, nt⟩
          · have e0 : ([V.int n, V.int m].filter fun v => !isI v) = [] := rfl
            rw [e0] at h2
            walk_at "gs"
            refine ⟨false, .inl ⟨[], SqL.of h2, rfl⟩, ?_⟩
            walk_at "gs"
            refine st_if (fun c => ?_) (fun c => ?_)
            · have em : m = 0 := V.int.inj c
              subst em
              walk_at "gs"
              intro H15 f c' e15 T15 hc'
              walk_at "gs"
              refine ⟨fun _ _ h => h, ?_⟩
              refine ⟨f, _, .int 0, rfl, ⟨rfl, rfl⟩, fun E' Q' h => ⟨hc', ?_⟩⟩
              walk_at "gs"
              intro y dy ny nd ne
              refine ⟨y, dy, .int n, .int 0, rfl, upd_same, .inr (.inr (.inr ⟨n, rfl, rfl, fun d fs H16 hx hl s16 => ?_⟩))⟩
              refine h _ _ _ ⟨d, fs, 0, rfl, rfl, hx, hl, by decide, .inr (.inr (.inl ⟨0, rfl, by decide⟩)), fun H17 s17 => ?_⟩
              have S17 := (same_mk ny nd).trans (s16.trans s17)
              walk_at "gs"
              exact fin _ H17 ⟨_, _, _, _, rfl⟩ ((ExtN.of S14).trans (e15.trans (ExtN.of S17))) (T15.ext S17)
            · have em : m ≠ 0 := fun z => c (by rw [z])
              walk_at "gs"
              intro y dy ny nd ne
              refine st_rat2 ny nd ne em (b1000 bm 8000 (Nat.le_of_ble_eq_true rfl)) fun H15 h15 s15 => ⟨rfl, ?_⟩
              walk_at "gs"
              refine fun r5 H16 h16 s16 => ?_
              walk_at "gs"
              obtain ⟨lw, bw⟩ := rlow_ok (t := n) em (b1000 bn 600) (b1000 bm 600)
              refine ⟨y, r5, _, rfl, h15.same s16, h16, lw, bw, fun H17 s17 => ?_⟩
              have S17 := S14.trans (s15.trans (s16.trans s17))
              walk_at "gs"
              exact fin _ H17 ⟨_, _, _, _, rfl⟩ (ExtN.of S17) (T12.ext S17)
          · have e0 : ([V.int n, B].filter fun v => !isI v) = [B] := by
              rw [List.filter_cons_of_neg (by simp [isI]), List.filter_cons_of_pos (by rw [hB] <;> rfl)] <;> rfl
            rw [e0] at h2
            walk_at "gs"
            refine ⟨true, .inl ⟨_, SqL.of h2, rfl⟩, ?_⟩
            walk_at "gs"
            intro H15 f c' e15 T15 hc'
            have h15 : H15 D = some (.lst [B]) := e15 _ _ h2 fun _ z => nomatch z
            walk_at "gs"
            refine ⟨fun _ _ h => h, ?_⟩
            refine ⟨f, _, B, rfl, ⟨rfl, rfl⟩, fun E' Q' h => ⟨hc', ?_⟩⟩
            walk_at "gs"
            intro y dy ny nd ne
            refine ⟨y, dy, .int n, B, rfl, upd_same, .inr (.inr (.inl ⟨n, t, rfl, ty _ ((ExtN.of s14).trans (e15.trans (ExtN.of (same_mk ny nd)))), nt, fun d fs H16 hx hl s16 => ?_⟩))⟩
            refine h _ _ _ ⟨d, fs, 2, rfl, rfl, hx, hl, by decide, ((v14B.extN e15).same (same_mk ny nd)).same s16, fun H17 s17 => ?_⟩
            have S17 := (same_mk ny nd).trans (s16.trans s17)
            walk_at "gs"
            exact fin _ H17 ⟨_, _, _, _, rfl⟩ ((ExtN.of S14).trans (e15.trans (ExtN.of S17))) (T15.ext S17)
        · obtain ⟨rest, e0⟩ : ∃ rest, ([A, B].filter fun v => !isI v) = A :: rest := ⟨_, List.filter_cons_of_pos (by rw [hA] <;> rfl)⟩
          rw [e0] at h2
          walk_at "gs"
          refine ⟨true, .inl ⟨_, SqL.of h2, rfl⟩, ?_⟩
          walk_at "gs"
          intro H15 f c' e15 T15 hc'
          have h15 : H15 D = some (.lst (A :: rest)) := e15 _ _ h2 fun _ z => nomatch z
          walk_at "gs"
          refine st_ixl h15 (show atI (A :: rest) ((0 : Nat) : Int) = some A from atI_nat rfl) ?_
          walk_at "gs"
          refine ⟨fun _ _ h => h, ?_⟩
          refine ⟨f, _, A, rfl, ⟨rfl, rfl⟩, fun E' Q' h => ⟨hc', ?_⟩⟩
          walk_at "gs"
          intro y dy ny nd ne
          refine ⟨y, dy, A, B, rfl, upd_same, .inr (.inl ⟨t, ty _ ((ExtN.of s14).trans (e15.trans (ExtN.of (same_mk ny nd)))), nt, fun d fs H16 hx hl s16 => ?_⟩)⟩
          refine h _ _ _ ⟨d, fs, 2, rfl, rfl, hx, hl, by decide, ((v14A.extN e15).same (same_mk ny nd)).same s16, fun H17 s17 => ?_⟩
          have S17 := (same_mk ny nd).trans (s16.trans s17)
          walk_at "gs"
          exact fin _ H17 ⟨_, _, _, _, rfl⟩ ((ExtN.of S14).trans (e15.trans (ExtN.of S17))) (T15.ext S17)
    · rintro σ H12 ⟨av, bv, wv, ov, rfl, aL, px, w12, hB12, T12, X12⟩
      walk_at "gs"
      rcases (Vl.vc T w12).notInt with ⟨n, rfl, bn⟩ | ⟨hn, t, ty, nt⟩
      · refine spInt_i ?_
        walk_at "gs"
        intro y dy ny nd ne
        refine st_rat2 ny nd ne (by decide) (Nat.lt_of_lt_of_le (show (1 : Int).natAbs < 2 ^ 1 by decide) (Nat.pow_le_pow_right (by decide) (by decide))) fun H15 h15 s15 => ⟨rfl, ?_⟩
        rw [show rlow n 1 = (n, 1) from rlow_low (low_one n)] at h15
        walk_at "gs"
        intro u nu
        generalize e16 : upd H15 u _ = H16
        obtain ⟨u16, s16⟩ := new_facts nu e16
        clear e16
        walk_at "gs"
        refine ⟨y, u, (n, 1), rfl, h15.same s16, u16, low_one n, bn_one bn, fun H17 s17 => ?_⟩
        have S17 := s15.trans (s16.trans s17)
        exact k H17 (hB12.same S17) (X12.trans (ExtB.of (Ext.of S17))) (T12.ext S17)
      · refine spInt_n (ty _ (ExtN.refl _)) nt ?_
        walk_at "gs"
        intro H15 f c' e15 T15 hc'
        walk_at "gs"
        refine ⟨fun _ _ h => h, ?_⟩
        refine ⟨f, _, w', rfl, ⟨rfl, rfl⟩, fun E' Q' h => ⟨hc', ?_⟩⟩
        walk_at "gs"
        intro y dy ny nd ne
        refine ⟨y, dy, w', .int 1, rfl, upd_same, .inr (.inl ⟨t, ty _ (e15.trans (ExtN.of (same_mk ny nd))), nt, fun d fs H16 hx hl s16 => ?_⟩)⟩
        refine h _ _ _ ⟨d, fs, 2, rfl, rfl, hx, hl, by decide, ((w12.extN e15).same (same_mk ny nd)).same s16, fun H17 s17 => ?_⟩
        have S17 := (same_mk ny nd).trans (s16.trans s17)
        exact k H17 ((hB12.extN e15).same S17) (X12.trans ((ExtB.ofN e15).trans (ExtB.of (Ext.of S17)))) (T15.ext S17)
end
end K01
end -- a24
section -- a25
set_option Elab.async false
set_option linter.all false
set_option maxRecDepth 100000
set_option maxHeartbeats 4000000
set_option pp.maxSteps 700
local macro_rules | `(tactic| walk_at "lvl") => `(tactic| first
  | decide
  | omega
  | (simp only [Nat.add_eq]; omega))
local macro_rules | `(tactic| walk_at "side") => `(tactic| first
  | decide
  | assumption
  | omega
  | exact Nat.le_of_ble_eq_true (by rfl)
  | exact ⟨by decide, by decide⟩
  | exact ⟨by decide, by decide, by decide⟩
  | exact Or.inl (Or.inr ⟨by decide, by decide⟩)
  | exact Or.inl (Or.inl ⟨by decide, by decide⟩))
local macro_rules | `(tactic| walk_at "ty") => `(tactic| first
  | assumption
  | exact L2.TyG.x (.base (.int _))
  | exact L2.TyG.x (.base (.str _))
  | exact L2.TyG.x (.base (.bl _))
  | exact L2.TyG.x (.base .non)
  | exact L2.TyG.x (.base (.lst (by assumption)))
  | exact L2.TyG.x (.base (.tup (by assumption)))
  | exact K01.tyR (by assumption) (by assumption)
  | exact L2.TyG.dn (by assumption))
local macro_rules | `(tactic| walk_at "cv") => `(tactic| first
  | exact L2.ClsV.ty _
  | exact L2.ClsV.own _)
local macro_rules | `(tactic| walk_at "kit") => `(tactic| first
  | exact L2.kit_ty (by decide +kernel)
  | exact K01.kR (by assumption) (by decide)
  | exact K01.kR2 (by assumption) (by decide)
  | exact K01.kR3 (by assumption))
local macro_rules | `(tactic| walk_at "s1") => `(tactic| first
  | refine ⟨_, rfl, ?_⟩
  | refine ⟨_, _, _, _, _, rfl, (by assumption), K01.clsR (by assumption), He.noat_ok (K01.a_noat_Ratio_top (by assumption)), rfl, ?_⟩
  | refine ⟨_, _, _, _, _, rfl, (by assumption), K01.clsR (by assumption), He.noat_ok (K01.a_noat_Ratio_bottom (by assumption)), rfl, ?_⟩
  | refine ⟨_, _, rfl, rfl, ?_⟩
  | refine ⟨_, _, rfl, ?_⟩
  | refine And.intro rfl ?_
  | refine L2.iteT ?_
  | refine L2.iteF ?_
  | refine L2.st_ixl (by assumption) (by rfl) ?_
  | refine L2.st_ixt (by assumption) (by rfl) ?_
  | refine L2.st_lenR (L2.lenr_l (by assumption)) ?_
  | refine L2.st_lenGR (L2.lenr_l (by assumption)) ?_
  | refine L2.st_lenGR (L2.lenr_t (by assumption)) ?_
  | refine L2.st_lenR (L2.lenr_t (by assumption)) ?_
  | refine L2.st_isG (b := false) (by walk_at "ty") (by walk_at "cv") (by walk_at "kit") ?_
  | refine L2.st_isG (b := true) (by walk_at "ty") (by walk_at "cv") (by walk_at "kit") ?_
  | refine And.intro (by walk_at "side") ?_)
local macro_rules | `(tactic| walk_at "go") => `(tactic| repeat (walk_at "s1"))
local macro_rules | `(tactic| walk_at "s2") => `(tactic| first
  | refine ⟨_, rfl, ?_⟩
  | refine ⟨_, _, _, _, _, rfl, (by assumption), K01.clsR (by assumption), He.noat_ok (K01.a_noat_Ratio_top (by assumption)), rfl, ?_⟩
  | refine ⟨_, _, _, _, _, rfl, (by assumption), K01.clsR (by assumption), He.noat_ok (K01.a_noat_Ratio_bottom (by assumption)), rfl, ?_⟩
  | refine ⟨_, _, rfl, rfl, ?_⟩
  | refine ⟨_, _, rfl, ?_⟩
  | refine And.intro rfl ?_
  | refine L2.iteT ?_
  | refine L2.iteF ?_
  | refine L2.st_ixl (by assumption) (by rfl) ?_
  | refine L2.st_ixt (by assumption) (by rfl) ?_
  | refine L2.st_lenR (L2.lenr_l (by assumption)) ?_
  | refine L2.st_lenGR (L2.lenr_l (by assumption)) ?_
  | refine L2.st_lenGR (L2.lenr_t (by assumption)) ?_
  | refine L2.st_lenR (L2.lenr_t (by assumption)) ?_
  | refine And.intro (by walk_at "side") ?_)
local macro_rules | `(tactic| walk_at "gs") => `(tactic| repeat (walk_at "s2"))
namespace K01
open PySem PySem.Spec PyProof.Rows L2 L2R TL LamX
section
variable {P : Program} {w : World} {K : PySem.W.Frag} {mg : Str → Option Value} {base : Heap}
theorem rlow_bn {t d : Int} (hd : d ≠ 0) (b : Bn 140 (t, d)) : Low (rlow t d) ∧ Bn 140 (rlow t d) :=
  ⟨(low_cross hd).1, Nat.lt_of_le_of_lt (rlow_le hd).1 b.1, Nat.lt_of_le_of_lt (rlow_le hd).2 b.2⟩
def spLaw (K : PySem.W.Frag) : Sp := fun vs H Q _ => ∃ (a : Addr) (ns : List Int), vs = [.ref a] ∧ SqL K H a (ns.map V.int) ∧ ns.length ≤ 63 ∧ Tabs (tT K) H ∧ ∀ H', Q (.bl true) H'
theorem ok_law (T : TL K mg) (hTB : TBs K mg base) : ∃ fd, FunD K d_law.name d_law.qual d_law.params d_law.body d_law.scope (d_law.dvs K) (d_law.kws K) (He.fAd K d_law.at_) fd ∧ FnOk P w K mg base (L2.CX P w) 24 (He.fAd K d_law.at_) fd ["script"] (spLaw K) := by
  obtain ⟨fdR, FR0, FR⟩ := ok_RatioI (P := P) (w := w) (base := base) T
  have bR := bRat FR0
  obtain ⟨itsTB, kTB⟩ := kRatTB FR0
  have G2 := G__law_two_so (P := P) (w := w) T hTB
  have G3 := G__law_texts_so (P := P) (w := w) T hTB
  have G4 := G__law_long_so (P := P) (w := w) T hTB
  have G5 := G__law_parts_so (P := P) (w := w) T hTB
  obtain ⟨fd, F⟩ := F_law T
  refine ⟨fd, F, F.ok0 sc_law (fun vs H Q E h => ?_) (fun cdv A outer s H vs Q E hr h => ?_)⟩
  · obtain ⟨a, ns, rfl, _⟩ := h
    rfl
  · obtain ⟨sc, ns, rfl, hS, hl, hT, k⟩ := h
    refine ⟨_, (pss_cons (ps_set (i := 1) sc_law.nd rfl (by first | exact Or.inl rfl | exact Or.inr rfl) (pe_fx (G__law_bag T) (hr.mono (by walk_at "lvl")) passL (pa_cons (pv 0) pa_nil)))
      (pss_cons (ps_for PassesOwn.never rfl (pi_range1 rfl (f_range T) (pa_cons pe_int pa_nil)) (pg_name (i := 2) sc_law.nd rfl (by first | exact Or.inl rfl | exact Or.inr rfl))
        (pss_cons (ps_par (i := 3) (j := 4) (by rfl) sc_law.nd rfl rfl (by decide) rfl rfl (pa_cons (pe_fx (G__law_pair T) (hr.mono (by walk_at "lvl")) passL (pa_cons (pv 1) pa_nil)) (pa_cons (pe_fx (G__law_pair T) (hr.mono (by walk_at "lvl")) passL (pa_cons (pv 1) pa_nil)) pa_nil)) (by rfl))
        (pss_cons (ps_par (i := 5) (j := 6) (by rfl) sc_law.nd rfl rfl (by decide) rfl rfl (pa_cons (pe_fx (G__law_low T) (hr.mono (by walk_at "lvl")) passL (pa_cons (pe_ix ix_seq (pv 3) pe_int (fun _ _ => rfl)) (pa_cons (pe_ix ix_seq (pv 3) pe_int (fun _ _ => rfl)) pa_nil))) (pa_cons (pe_fx (G__law_low T) (hr.mono (by walk_at "lvl")) passL (pa_cons (pe_ix ix_seq (pv 4) pe_int (fun _ _ => rfl)) (pa_cons (pe_ix ix_seq (pv 4) pe_int (fun _ _ => rfl)) pa_nil))) pa_nil)) (by rfl))
        (pss_cons (ps_if (PW.pt (pw_or (pt_not (pt_val (pe_fx (G__law_is T) (hr.mono (by walk_at "lvl")) passL (pa_cons (pe_make (mkR T) FR (hr.mono (by walk_at "lvl")) rfl (g_Ratio T) bR .nil passL (pa_cons (pe_ix ix_seq (pv 3) pe_int (fun _ _ => rfl)) (pa_cons (pe_ix ix_seq (pv 3) pe_int (fun _ _ => rfl)) pa_nil))) (pa_cons (pv 5) pa_nil))))) (pw_or1 (pt_not (pt_val (pe_fx (G__law_is T) (hr.mono (by walk_at "lvl")) passL (pa_cons (pe_makeK2 (gV := fun r y z => [r, y, z]) (mkR T) FR (hr.mono (by walk_at "lvl")) (g_Ratio T) kTB (fun _ _ _ => rfl) passL (pe_ix ix_seq (pv 4) pe_int (fun _ _ => rfl)) (pe_ix ix_seq (pv 4) pe_int (fun _ _ => rfl))) (pa_cons (pv 6) pa_nil))))))))
          (pss_one (ps_ret pe_bl))
          pss_nil)
        (pss_cons (ps_if (PW.pt (pw_or (pt_not (pt_val (pe_fx G2 (hr.mono (by walk_at "lvl")) passL (pa_cons (pv 1) (pa_cons (pv 5) (pa_cons (pv 6) pa_nil)))))) (pw_or (pt_not (pt_val (pe_fx G2 (hr.mono (by walk_at "lvl")) passL (pa_cons (pv 1) (pa_cons (pv 6) (pa_cons (pv 5) pa_nil)))))) (pw_or1 (pt_not (pt_val (pe_fx G2 (hr.mono (by walk_at "lvl")) passL (pa_cons (pv 1) (pa_cons (pv 5) (pa_cons (pv 5) pa_nil))))))))))
          (pss_one (ps_ret pe_bl))
          pss_nil)
        (pss_cons (ps_if (PW.pt (pw_or (pt_not (pt_val (pe_fx G2 (hr.mono (by walk_at "lvl")) passL (pa_cons (pv 1) (pa_cons (pv 5) (pa_cons (pe_tup (pa_cons (pe_op op_sub (pe_fx (G__law_draw T) (hr.mono (by walk_at "lvl")) passL (pa_cons (pv 1) (pa_cons pe_int pa_nil))) pe_int) (pa_cons pe_int pa_nil))) pa_nil)))))) (pw_or1 (pt_not (pt_val (pe_fx (G__law_equals T) (hr.mono (by walk_at "lvl")) passL (pa_cons (pv 1) (pa_cons (pv 5) (pa_cons (pv 3) pa_nil)))))))))
          (pss_one (ps_ret pe_bl))
          pss_nil)
        (pss_one (ps_if (pt_not (pt_val (pe_fx G3 (hr.mono (by walk_at "lvl")) passL (pa_cons (pv 1) (pa_cons (pv 6) pa_nil)))))
          (pss_one (ps_ret pe_bl))
          pss_nil))))))))
      (pss_one (ps_ret (pe_and (pe_fx G4 (hr.mono (by walk_at "lvl")) passL (pa_cons (pv 1) pa_nil)) (pe_one (pe_fx G5 (hr.mono (by walk_at "lvl")) passL (pa_cons (pv 1) pa_nil)))))))), ?_⟩
    walk_at "gs"
    refine ⟨sc, ns, rfl, hS, hl, fun b l H1 nb hB1 s1 => ?_⟩
    have T1 := hT.ext s1
    walk_at "gs"
    refine for_range (lo := 0) (fun i σ H' => ∃ (kv v1 v2 v3 v4 : Option V), σ = [some (.ref sc), some (.ref b), kv, v1, v2, v3, v4] ∧ BagAt b l H' ∧ Tabs (tT K) H') ⟨none, none, none, none, none, rfl, hB1, T1⟩ ?_ ?_
    · rintro i σ H2 hi ⟨kv, v1, v2, v3, v4, rfl, hB2, T2⟩
      walk_at "gs"
      refine ⟨b, l, rfl, hB2, fun r t d H3 hr1 nr1 hd1 bd1 hB3 x3 => ?_⟩
      have T3 := Tabs.off T2 hB2 x3
      walk_at "gs"
      refine ⟨b, l, rfl, hB3, fun r' t' d' H4 hr2 nr2 hd2 bd2 hB4 x4 => ?_⟩
      have T4 := Tabs.off T3 hB3 x4
      have hr1 := PT.off hB3 x4 hr1
      have p5 : H4 r = some (.tup [.int t, .int d]) := hr1
      have q5 : H4 r' = some (.tup [.int t', .int d']) := hr2
      have bb1 := b8000 bd1.2
      have bb2 := b8000 bd2.2
      walk_at "gs"
      refine fun a H6 ha s6 => ?_
      have q6 := s6 _ _ q5
      walk_at "gs"
      refine fun c H8 hc s7 => ?_
      have S8 : Same H4 H8 := s6.trans s7
      have p8 : H8 r = some (.tup [.int t, .int d]) := S8 _ _ hr1
      have q8 : H8 r' = some (.tup [.int t', .int d']) := S8 _ _ hr2
      have a8 : PT H8 a (rlow t d) := ha.same s7
      have c8 : PT H8 c (rlow t' d') := hc
      obtain ⟨lp, bp⟩ := rlow_bn hd1 bd1
      obtain ⟨lq, bq⟩ := rlow_bn hd2 bd2
      have hB8 := hB4.same S8
      have T8 := T4.ext S8
      clear p5 q5 q6 ha hc hr1 hr2 T1 T2 T3 T4 hB1 hB2 hB3 hB4
      walk_at "gs"
      intro o od no nd ne
      refine st_rat1 no nd ne hd1 (b8000 bd1.2) fun H9 h9 s9 => ⟨rfl, ?_⟩
      walk_at "gs"
      refine ⟨o, a, _, rfl, h9, a8.same s9, lp, bp.le (by decide), fun H10 s10 => ?_⟩
      have S10 := s9.trans s10
      have q10 := S10 _ _ q8
      walk_at "gs"
      intro o2 od2 no2 nd2 ne2
      refine st_rat2 no2 nd2 ne2 hd2 (b8000 bd2.2) fun H11 h11 s11 => ⟨rfl, ?_⟩
      have S11 := S10.trans s11
      walk_at "gs"
      refine ⟨o2, c, _, rfl, h11, c8.same S11, lq, bq.le (by decide), fun H12 s12 => ?_⟩
      have S12 := S11.trans s12
      have hB12 := hB8.same S12
      have T12 := T8.ext S12
      have a12 := a8.same S12
      have c12 := c8.same S12
      have p12 : PT H12 r (t, d) := S12 _ _ p8
      clear q10 h9 h11 p8 q8 a8 c8 hB8 T8
      walk_at "gs"
      refine ⟨b, l, a, c, _, _, rfl, hB12, a12, c12, lp, lq, bp, bq, T12, fun H13 hB13 x13 T13 => ?_⟩
      have a13 := a12.extB hB12 x13
      have c13 := c12.extB hB12 x13
      have p13 := p12.extB hB12 x13
      walk_at "gs"
      refine ⟨b, l, c, a, _, _, rfl, hB13, c13, a13, lq, lp, bq, bp, T13, fun H14 hB14 x14 T14 => ?_⟩
      have a14 := a13.extB hB13 x14
      have c14 := c13.extB hB13 x14
      have p14 := p13.extB hB13 x14
      walk_at "gs"
      refine ⟨b, l, a, a, _, _, rfl, hB14, a14, a14, lp, lp, bp, bp, T14, fun H15 hB15 x15 T15 => ?_⟩
      have a15 := a14.extB hB14 x15
      have c15 := c14.extB hB14 x15
      have p15 := p14.extB hB14 x15
      walk_at "gs"
      refine ⟨b, l, 3, rfl, hB15, by decide, fun e H16 e0 e1 hB16 x16 => ?_⟩
      have a16 := PT.off hB15 x16 a15
      have c16 := PT.off hB15 x16 c15
      have p16 := PT.off hB15 x16 p15
      have T16 := Tabs.off T15 hB15 x16
      walk_at "gs"
      intro u nu
      generalize e0 : upd H16 u _ = H17
      have u17 : PT H17 u (e - 1, 1) := by rw [← e0]; exact upd_same
      have s17 : Same H16 H17 := by rw [← e0]; exact Same.new nu
      clear e0
      have be : Bn 140 (e - 1, 1) := ⟨Nat.lt_trans (show (e - 1).natAbs < 1000 by omega) (by decide), (show (1 : Int).natAbs < 2 ^ 140 by decide)⟩
      walk_at "gs"
      refine ⟨b, l, a, u, _, _, rfl, hB16.same s17, a16.same s17, u17, lp, low_one _, bp, be, T16.ext s17, fun H18 hB18 x18 T18 => ?_⟩
      have a18 := (a16.same s17).extB (hB16.same s17) x18
      have c18 := (c16.same s17).extB (hB16.same s17) x18
      have p18 := (p16.same s17).extB (hB16.same s17) x18
      walk_at "gs"
      refine ⟨b, l, a, r, _, _, rfl, hB18, a18, p18, lp, bp, bd1, hd1, rfl, fun H19 hB19 x19 => ?_⟩
      have c19 := PT.off hB18 x19 c18
      have T19 := Tabs.off T18 hB18 x19
      walk_at "gs"
      refine ⟨b, l, c, _, rfl, hB19, c19, lq, bq, T19, fun H20 hB20 x20 T20 => ?_⟩
      walk_at "gs"
      exact ⟨_, _, _, _, _, rfl, hB20, T20⟩
    · rintro σ H2 ⟨kv, v1, v2, v3, v4, rfl, hB2, T2⟩
      walk_at "gs"
      refine ⟨b, l, rfl, hB2, T2, fun H3 hB3 x3 T3 => ?_⟩
      walk_at "gs"
      exact ⟨b, l, rfl, hB3, T3, fun H4 hB4 x4 T4 => k H4⟩
end
end K01
end -- a25
section -- h0
set_option Elab.async false
set_option linter.all false
set_option maxRecDepth 100000
set_option maxHeartbeats 0
namespace K01
open PySem PySem.Spec PyProof.Rows L2
abbrev RR : PySem.W.OpenRow := PySem.W.OpenLaw.row PySem.Challenge.rw_fewestcells_k01_ratios_beside_pairs
abbrev QV : Program := PySem.W.view RR.prog [51]
def looseL0 : List PySem.Str := ["gcd", "CellsError", "MissingError", "InvalidRatio", "InvalidGround", "BadWord", "BadSum", "BadStanding", "BadDevice", "BadBook", "Unlike", "Unknown", "DIGITS", "MOST_DIGITS", "is_whole", "is_number", "parts_of", "read_whole", "read_number", "Ratio", "_law_bag", "_law_draw", "_law_of", "_law_low", "_law_plus", "_law_by", "_law_neg", "_law_digits", "_law_num_text", "_law_num_odd"]
def looseL1 : List PySem.Str := ["_law_given", "_law_int", "_law_like", "_law_exact", "_law_value", "_law_fate", "_law_raises", "_law_int_read", "_law_num_read", "_law_pair", "_law_is", "_law_two_so", "_law_equals", "_law_sign_bent", "_law_read_so", "_law_texts_so", "_law_long_so", "_law_parts_so"]
def looseL : List PySem.Str := looseL0 ++ (looseL1)
def asL : List Addr := [2, 3, 6, 4, 52, 65, 85, 104, 123, 142, 161, 180, 199, 218, 237, 246, 253, 260, 267, 274, 372, 383, 390, 397, 404, 411, 418, 425, 432, 439, 446, 453, 460, 465, 470, 475, 482, 489, 494, 501, 508, 515, 522, 527, 534, 541, 546, 551, 556, 563, 0, 51, 64, 84, 103, 122, 141, 160, 179, 198, 217, 236, 245, 252, 259, 266, 273, 371, 382, 389, 396, 403, 410, 417, 424, 431, 438, 445, 452, 459, 464, 469, 474, 481, 488, 493, 500, 507, 514, 521, 526, 533, 540, 545, 550, 555, 562, 50, 53, 63, 66, 82, 83, 101, 102, 120, 121, 139, 140, 158, 159, 177, 178, 196, 197, 215, 216, 234, 235, 240, 241, 242, 243, 244, 247, 248, 249, 250, 251, 254, 255, 256, 257, 258, 261, 262, 263, 264, 265, 268, 269, 270, 271, 272, 289, 296, 303, 310, 317, 324, 331, 338, 345, 352, 359, 368, 370, 373, 374, 377, 378, 379, 380, 381, 384, 385, 386, 387, 388, 391, 392, 393, 394, 395, 398, 399, 400, 401, 402, 405, 406, 407, 408, 409, 412, 413, 414, 415, 416, 419, 420, 421, 422, 423, 426, 427, 428, 429, 430, 433, 434, 435, 436, 437, 440, 441, 442, 443, 444, 447, 448, 449, 450, 451, 454, 455, 456, 457, 458, 461, 462, 463, 466, 467, 468, 471, 472, 473, 476, 477, 478, 479, 480, 483, 484, 485, 486, 487, 490, 491, 492, 495, 496, 497, 498, 499, 502, 503, 504, 505, 506, 509, 510, 511, 512, 513, 516, 517, 518, 519, 520, 523, 524, 525, 528, 529, 530, 531, 532, 535, 536, 537, 538, 539, 542, 543, 544, 547, 548, 549, 552, 553, 554, 557, 558, 559, 560, 561, 81, 100, 119, 138, 157, 176, 195, 214, 233, 288, 282, 295, 302, 309, 316, 323, 330, 337, 344, 351, 358, 366, 367, 76, 77, 78, 79, 80, 95, 96, 97, 98, 99, 114, 115, 116, 117, 118, 133, 134, 135, 136, 137, 152, 153, 154, 155, 156, 171, 172, 173, 174, 175, 190, 191, 192, 193, 194, 209, 210, 211, 212, 213, 228, 229, 230, 231, 232, 283, 284, 285, 286, 287, 290, 291, 292, 293, 294, 297, 298, 299, 300, 301, 304, 305, 306, 307, 308, 311, 312, 313, 314, 315, 318, 319, 320, 321, 322, 325, 326, 327, 328, 329, 332, 333, 334, 335, 336, 339, 340, 341, 342, 343, 346, 347, 348, 349, 350, 353, 354, 355, 356, 357, 365, 369]
abbrev HK : PySem.W.Hook := hookS asL faL fnL stL tfL exL
def obL (s : PySem.W.SharedT) : AlS := obsS asL faL fnL stL tfL exL (HandSHeadRun.getT s)
theorem obL_eq (s : PySem.W.SharedT) : obL s = HK.obs s.abs := obsS_eq (HandSHeadRun.getT_eq s)
theorem runL (w : World) : HandSHeadRun.RunEqI RR QV HK obL 12000 looseL w := by
  unfold HandSHeadRun.RunEqI
  kernel_rfl
end K01
end -- h0
section -- end
set_option Elab.async false
set_option linter.all false
set_option maxRecDepth 100000
set_option maxHeartbeats 0
namespace K01
open PySem PySem.Spec PyProof.Rows L2 LamX
theorem fund_one {K : PySem.W.Frag} {x qual : Str} {params : Arguments} {body : List Stmt} {scope : Scope} {dvs : List V} {kws : List (Str × V)} {f : Addr} {fd fd' : FuncData} (F : FunD K x qual params body scope dvs kws f fd) (F' : FunD K x qual params body scope dvs kws f fd') : fd = fd' := by
  obtain ⟨oc, od, dV, kV, doc, pm, an, cdv, ct, osl, _, lk, _⟩ := F.ex
  obtain ⟨oc', od', dV', kV', doc', pm', an', cdv', ct', osl', _, lk', _⟩ := F'.ex
  have e := Option.some.inj (lk.symm.trans lk')
  injection e with _ _ e3
  injection e3
theorem to0 {P : Program} {w : World} {K : PySem.W.Frag} {mg : Str → Option Value} {base : Heap} {k : Nat} {f : Addr} {fd : FuncData} {ps : List Str} {sp : Sp} (F : FnOk P w K mg base (L2.CX P w) k f fd ps sp) (h : ∀ vs H Q E, sp vs H Q E → sp vs H Q E0) : FnOk P w K mg base CX0 k f fd ps sp := by
  refine ⟨F.len, fun A outer s H args us vs Q E hr he hb hv hs => codeAny_mono (F.run A outer s H args us vs Q E0 hr he hb hv (h _ _ _ _ hs)) fun r s' q => ?_⟩
  cases r with
  | ok fl => cases fl <;> exact q
  | error e =>
    obtain ⟨_, _, _, _, _, _, _, _, _, _, _, _, z⟩ := q
    exact z.elim
theorem facts {P : Program} {w : World} {K : PySem.W.Frag} {h : Heap} {mg : Str → Option Value} {f : Addr} (X : K.In h) (G : h.Ns mainGlobals mg) (hfa : mg ("law" : Str) = some (.ref f)) (c : He.SaysD faL fnL K) (e : exL K = true) (cS : SaysS stL K) :
    ∃ fd : FuncData, (∀ (s : Shared) (v : Value), BindsTo s fd ⟨[v], []⟩ [("script", v)]) ∧ ∀ base : Heap, K.In base → base.Ns mainGlobals mg → TBs K mg base → FnOk P w K mg base CX0 24 f fd ["script"] (spLaw K) := by
  have T : TL K mg := ⟨tx_of X G c e, cS⟩
  obtain ⟨fd, F⟩ := F_law T
  have e1 := Option.some.inj (hfa.symm.trans (g_law T))
  have e2 : f = He.ga K "law" := by injection e1
  subst e2
  have b := FunD.bindsA (ps := ["script"]) F fun _ _ _ _ _ _ us hl => match us, hl with | [_], _ => rfl
  refine ⟨fd, fun s v => b s [v] rfl, fun base _ _ hTB => ?_⟩
  obtain ⟨fd', F', ok⟩ := ok_law (P := P) (w := w) (base := base) T hTB
  obtain rfl := fund_one F F'
  exact to0 ok fun _ _ _ _ h => h
theorem walk_ofT2 {l : PySem.W.OpenLaw} {n k : Nat} {q : Program} {loose : List Str} {XP : (Str → Option Value) → Heap → Prop} {YP : World → Heap → Prop} {d : DefRec} {CX : World → CXT} {x : Str}
    (hn : l.most = some n) (hn2 : n ≤ sizeLine) (hdf : d.params.defaults = []) (hr : Room k callerA)
    (F : ∀ (w : World) (mg : Str → Option Value) (fa : Addr) (h : Heap), YP w h → h.Ns mainGlobals mg → mg d.name = some (.ref fa) → ∃ K : PySem.W.Frag, K.In h ∧ LawAtS l w K (CX w) k n x mg fa h)
    (hCX : ∀ (w : World) (H : Hp) (s : Shared) (e : Value) (s' : Shared), CX w [] H s (fun _ _ _ => False) e s' → False) :
    PySem.W.WalkO q loose XP YP l.row.toRowW d [] (fun f vs => PySem.call f vs) := by
  refine Att.attach_callB hn hdf fun w s₀ s₁ mg mb fa o pm cd doc a vs ns G Y ho hd hcd hmg hobj hints hlen hbits hg => ?_
  obtain ⟨K, KX, fd, cs, sp, hT, nT, C, hb, hsp, hF⟩ := F w mg fa _ Y G.T.g hmg
  exact law_callTs KX G.T.g G.T.b G.T.builtins G.T.nolimit hg hT nT C G.T.bmain hobj hints (Nat.le_trans hlen hn2) hr hF hb (fun H hH hS => hsp H a ns hlen hbits hH hS) fun H e s' => hCX w H s₁ e s'
end K01
open PySem PySem.W PySem.Calls PyProof.Rows
theorem PySem.Challenge.cw_fewestcells_k01_ratios_beside_pairs_holds : PySem.Challenge.rw_fewestcells_k01_ratios_beside_pairs.Holds := by
  w_on; o_law
  refine HandSHeadRun.head_imp (r := OpenLaw.row PySem.Challenge.rw_fewestcells_k01_ratios_beside_pairs) (q := K01.QV) (H := K01.HK) (ob := K01.obL) (M := 12000) (loose := K01.looseL) (d := HandSHeadRun.topDef (OpenLaw.row PySem.Challenge.rw_fewestcells_k01_ratios_beside_pairs).prog 51) (kwd := []) K01.obL_eq
    K01.runL (by kernel_rfl) (by kernel_rfl) (by kernel_rfl) (by rfl) (by first | assumption | decide +kernel) (by decide +kernel) ⟨rfl, rfl, rfl, rfl, rfl, by decide +kernel⟩ ?hw ?hc
  case hw => w_witness2
  case hc =>
    refine K01.walk_ofT2 (l := PySem.Challenge.rw_fewestcells_k01_ratios_beside_pairs) (n := 63) (k := 24) (x := "script") (CX := fun _ => L2.CX0) rfl (by decide) (by kernel_rfl) ⟨rfl, by decide, by decide⟩ ?F (fun _ _ _ _ _ z => z)
    intro w mg fa h Y G hmg0
    obtain ⟨K, KX, c, e, cS, cC⟩ := Y
    have hmg : mg ("law" : PySem.Str) = some (.ref fa) := by
      have e : (HandSHeadRun.topDef (OpenLaw.row PySem.Challenge.rw_fewestcells_k01_ratios_beside_pairs).prog 51).name = ("law" : PySem.Str) := by kernel_rfl
      rw [← e]
      exact hmg0
    obtain ⟨fd, hb, hF⟩ := K01.facts (P := (PySem.Challenge.rw_fewestcells_k01_ratios_beside_pairs).prog) (w := w) KX G hmg c e cS
    have mp : ∀ {q : Addr × Addr}, q ∈ K01.tfL.map (He.cT K) → ∃ p ∈ K01.tfL, He.cT K p = q := fun {q} hq => List.mem_map.mp hq
    refine ⟨K, KX, fd, K01.tfL.map (He.cT K), K01.spLaw K, ?_, ?_, ?_, hb, fun H a ns hl _ hT hS => ⟨a, ns, rfl, hS, hl, ?_, fun _ => rfl⟩, fun base KB nb hTB => hF base KB nb fun p hp => hTB _ (List.mem_map.mpr ⟨p, hp, rfl⟩)⟩
    · intro q hq
      obtain ⟨p, hp, rfl⟩ := mp hq
      exact cC.empty p hp
    · intro q hq
      obtain ⟨p, hp, rfl⟩ := mp hq
      exact cC.out p hp
    · intro q hq
      obtain ⟨p, hp, rfl⟩ := mp hq
      exact PySem.W.codeHd_of_K KX (cC.hd p hp)
    · intro q hq
      obtain ⟨p, hp, rfl⟩ := List.mem_map.mp hq
      exact ⟨#[], hT _ (List.mem_map.mpr ⟨p, hp, rfl⟩), (by first | trivial | constructor), fun pos cv h => (by cases h)⟩
end -- end
