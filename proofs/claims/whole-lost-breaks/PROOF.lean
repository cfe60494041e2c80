import PyProof.Rows.All
import Wide.All
import OpenK.AllK
import Wide.FinOn
import HandS.Base
import HandS.Call
import HandS.List
import HandS.Comp
import HandS.Ends
import HandS.Dict
import HandS.Iter
import HandS.Text
import HandS.Words
import HandS.WordsDict
import HandS.IsInst
import HandS.TupAny
import HandS.TupMul
import HandS.Zip
import HandS.DictComp
import HandS.Style
import HandS.Evl
import HandS.Exc
import HandS.ExcOwn
import HandS.Small
import HandS.TryMany
import HandS.WordsExc
import HandS.Defaults
import KE.KStateDown
import HandS.Head0
import HandS.Head1
import HandS.Head2
import HandS.HeadEnd
import HandS.HeadHook1
import HandS.HeadHook2
import KE.GoesEnum
import HandS.Walk
import HandS.WideBits
import PyProof.Rows.StrMeet
import PyProof.ExcBaseAll.ValueError
import KE.BitLaws
import HandS.OwnEq
import PySem.Challenge.RW_probewright_k63_whole_lost_breaks
set_option Elab.async false
set_option linter.all false
set_option maxRecDepth 100000
set_option maxHeartbeats 2000000
/-! The layer of this proof: what an expression comes to (EW, EV), what a block does (tSs), one rule a construct. -/
namespace Pw
open PySem PySem.Spec L2
open Evl (Ex)
/-! ### data in a heap -/
mutual
inductive Is (H : Hp) : V → PyData → Prop
  | non : Is H .non .none
  | bl (b : Bool) : Is H (.bl b) (.bool b)
  | int (i : Int) : Is H (.int i) (.int i)
  | str (x : Str) : Is H (.str x) (.str x)
  | lst {a : Addr} {xs : List V} {ds : List PyData} (h : H a = some (.lst xs)) (hs : IsA H xs ds) : Is H (.ref a) (.list ds)
  | tup {a : Addr} {xs : List V} {ds : List PyData} (h : H a = some (.tup xs)) (hs : IsA H xs ds) : Is H (.ref a) (.tuple ds)
inductive IsA (H : Hp) : List V → List PyData → Prop
  | nil : IsA H [] []
  | cons {v : V} {vs : List V} {d : PyData} {ds : List PyData} (h : Is H v d) (t : IsA H vs ds) : IsA H (v :: vs) (d :: ds)
end
mutual
theorem Is.mono {H H' : Hp} (e : Ex H H') : ∀ {v : V} {d : PyData}, Is H v d → Is H' v d
  | _, _, .non => .non
  | _, _, .bl b => .bl b
  | _, _, .int i => .int i
  | _, _, .str x => .str x
  | _, _, .lst h hs => .lst (e _ _ h) (IsA.mono e hs)
  | _, _, .tup h hs => .tup (e _ _ h) (IsA.mono e hs)
theorem IsA.mono {H H' : Hp} (e : Ex H H') : ∀ {v : List V} {d : List PyData}, IsA H v d → IsA H' v d
  | _, _, .nil => .nil
  | _, _, .cons h t => .cons (Is.mono e h) (IsA.mono e t)
end
/-- tuples stay -/
def ExT (H H' : Hp) : Prop := ∀ a xs, H a = some (.tup xs) → H' a = some (.tup xs)
theorem ExT.of {H H' : Hp} (e : Ex H H') : ExT H H' := fun a xs h => e a _ h
theorem ExT.refl (H : Hp) : ExT H H := fun _ _ h => h
theorem ExT.trans {H H1 H2 : Hp} (a : ExT H H1) (b : ExT H1 H2) : ExT H H2 := fun x o h => b x o (a x o h)
theorem ExT.put {H H' : Hp} {p : Addr} {o u : HO} (e : ExT H H') (h : H' p = some u) (hu : ∀ xs, u ≠ .tup xs) : ExT H (upd H' p o) := fun a xs ha => by
  have h1 := e a xs ha
  rw [upd_ne (ne_of h1 h (fun z => hu xs z.symm))]
  exact h1
theorem ExT.new {H H' : Hp} {p : Addr} {o : HO} (e : ExT H H') (h : H' p = none) : ExT H (upd H' p o) := fun a xs ha => by
  rw [upd_ne (ne_of_none (e a xs ha) h)]
  exact e a xs ha
/-- data without lists -/
inductive TD : PyData → Prop
  | non : TD .none
  | bl (b : Bool) : TD (.bool b)
  | int (i : Int) : TD (.int i)
  | str (x : Str) : TD (.str x)
  | tup {ds : List PyData} (h : ∀ d ∈ ds, TD d) : TD (.tuple ds)
mutual
theorem Is.tmono {H H' : Hp} (e : ExT H H') : ∀ {v : V} {d : PyData}, Is H v d → TD d → Is H' v d
  | _, _, .non, _ => .non
  | _, _, .bl b, _ => .bl b
  | _, _, .int i, _ => .int i
  | _, _, .str x, _ => .str x
  | _, _, .lst h hs, t => by cases t
  | _, _, .tup h hs, t => .tup (e _ _ h) (IsA.tmono e hs (by cases t with | tup q => exact q))
theorem IsA.tmono {H H' : Hp} (e : ExT H H') : ∀ {v : List V} {d : List PyData}, IsA H v d → (∀ x ∈ d, TD x) → IsA H' v d
  | _, _, .nil, _ => .nil
  | _, _, .cons h t, q => .cons (Is.tmono e h (q _ List.mem_cons_self)) (IsA.tmono e t fun x hx => q x (List.mem_cons_of_mem _ hx))
end
section
variable {H : Hp} {v : V} {vs ws : List V} {d : PyData} {ds es : List PyData}
theorem Is.int_eq {i : Int} (h : Is H v (.int i)) : v = .int i := by cases h; rfl
theorem Is.str_eq {i : Str} (h : Is H v (.str i)) : v = .str i := by cases h; rfl
theorem Is.bl_eq {i : Bool} (h : Is H v (.bool i)) : v = .bl i := by cases h; rfl
theorem Is.non_eq (h : Is H v .none) : v = .non := by cases h; rfl
theorem IsA.length : ∀ {vs : List V} {ds : List PyData}, IsA H vs ds → vs.length = ds.length
  | _, _, .nil => rfl
  | _, _, .cons _ t => congrArg (· + 1) (IsA.length t)
theorem IsA.get : ∀ {vs : List V} {ds : List PyData} {i : Nat} {d : PyData}, IsA H vs ds → ds[i]? = some d → ∃ v, vs[i]? = some v ∧ Is H v d
  | _, _, 0, _, .cons h _, e => by simp at e; subst e; exact ⟨_, rfl, h⟩
  | _, _, i + 1, d, .cons _ t, e => by
    obtain ⟨v, h1, h2⟩ := IsA.get (i := i) (d := d) t (by simpa using e)
    exact ⟨v, by simpa using h1, h2⟩
  | _, _, _, _, .nil, e => by simp at e
theorem IsA.at_ : ∀ {vs : List V} {ds : List PyData} {i : Nat} {v : V}, IsA H vs ds → vs[i]? = some v → ∃ d, ds[i]? = some d ∧ Is H v d
  | _, _, 0, _, .cons h _, e => by simp at e; subst e; exact ⟨_, rfl, h⟩
  | _, _, i + 1, d, .cons _ t, e => by
    obtain ⟨v, h1, h2⟩ := IsA.at_ (i := i) (v := d) t (by simpa using e)
    exact ⟨v, by simpa using h1, h2⟩
  | _, _, _, _, .nil, e => by simp at e
theorem IsA.append : ∀ {vs ws : List V} {ds es : List PyData}, IsA H vs ds → IsA H ws es → IsA H (vs ++ ws) (ds ++ es)
  | _, _, _, _, .nil, s => s
  | _, _, _, _, .cons h t, s => .cons h (IsA.append t s)
theorem IsA.take : ∀ {vs : List V} {ds : List PyData} (n : Nat), IsA H vs ds → IsA H (vs.take n) (ds.take n)
  | _, _, 0, _ => .nil
  | _, _, _ + 1, .nil => .nil
  | _, _, n + 1, .cons h t => .cons h (IsA.take n t)
theorem IsA.drop : ∀ {vs : List V} {ds : List PyData} (n : Nat), IsA H vs ds → IsA H (vs.drop n) (ds.drop n)
  | _, _, 0, r => r
  | _, _, _ + 1, .nil => .nil
  | _, _, n + 1, .cons _ t => IsA.drop n t
theorem IsA.ints : ∀ (ns : List Int), IsA H (ns.map V.int) (ns.map PyData.int)
  | [] => .nil
  | i :: r => .cons (.int i) (IsA.ints r)
theorem IsA.strs : ∀ (ns : List Str), IsA H (ns.map V.str) (ns.map PyData.str)
  | [] => .nil
  | i :: r => .cons (.str i) (IsA.strs r)
theorem IsA.bls : ∀ (ns : List Bool), IsA H (ns.map V.bl) (ns.map PyData.bool)
  | [] => .nil
  | i :: r => .cons (.bl i) (IsA.bls r)
theorem IsA.ints_eq : ∀ {ns : List Int} {vs : List V}, IsA H vs (ns.map PyData.int) → vs = ns.map V.int
  | [], _, .nil => rfl
  | i :: r, _, .cons h t => by rw [h.int_eq, IsA.ints_eq t]; rfl
theorem IsA.strs_eq : ∀ {ns : List Str} {vs : List V}, IsA H vs (ns.map PyData.str) → vs = ns.map V.str
  | [], _, .nil => rfl
  | i :: r, _, .cons h t => by rw [h.str_eq, IsA.strs_eq t]; rfl
theorem IsA.bls_eq : ∀ {ns : List Bool} {vs : List V}, IsA H vs (ns.map PyData.bool) → vs = ns.map V.bl
  | [], _, .nil => rfl
  | i :: r, _, .cons h t => by rw [h.bl_eq, IsA.bls_eq t]; rfl
end
theorem Is.toDp {K : PySem.W.Frag} {H : Hp} {v : V} {d : PyData} (h : Is H v d) : Dp K H v d := by
  refine Is.rec (motive_1 := fun v d _ => Dp K H v d) (motive_2 := fun vs ds _ => DpAll K H vs ds) .non .bl .int .str ?_ ?_ .nil (fun _ _ a b => .cons a b) h
  · intro a xs ds h _ hs
    exact .lst (SqL.of h) hs
  · intro a xs ds h _ hs
    exact .tup (SqT.of h) hs
end Pw
namespace Pw
open PySem PySem.Spec L2
open Evl (Ex)
/-! ### the canonical readings -/
def tE (X : Cx) (e : Expr) : TE := fun σ H Q => ∀ (pins : List (Addr × Obj)) (s : Shared), Inv X pins σ H s → wpAny (model X.prog X.w) X.A (eval e X.env) (EP X pins σ Q) X.xe s
def tT (X : Cx) (e : Expr) : TT := fun σ H Q => ∀ (pins : List (Addr × Obj)) (s : Shared), Inv X pins σ H s → wpAny (model X.prog X.w) X.A (isTrue e X.env (eval e X.env)) (TP X pins σ Q) X.xe s
def tW (X : Cx) (e : Expr) : TT := fun σ H Q => ∀ (whole : Sem Value) (pins : List (Addr × Obj)) (s : Shared), Inv X pins σ H s → wpAny (model X.prog X.w) X.A (isTrue e X.env whole) (TP X pins σ Q) X.xe s
def tA (X : Cx) (es : List Expr) : TA := fun σ H Q => ∀ (pos : Pos) (pins : List (Addr × Obj)) (s : Shared), Inv X pins σ H s → wpAny (model X.prog X.w) X.A (spliced (backTo pos (starEach es X.env))) (AP X pins σ Q) X.xe s
def tS (X : Cx) (st : Stmt) : TS := fun D σ H => ∀ (pins : List (Addr × Obj)) (s : Shared), Inv X pins σ H s → wpAny (model X.prog X.w) X.A (exec st X.env) (SP X pins D) X.xe s
def tSs (X : Cx) (st : List Stmt) : TS := fun D σ H => ∀ (pins : List (Addr × Obj)) (s : Shared), Inv X pins σ H s → wpAny (model X.prog X.w) X.A (execs st X.env) (SP X pins D) X.xe s
section
variable {X : Cx} {e a b : Expr} {es : List Expr} {st : Stmt} {sts : List Stmt} {σ : St} {H : Hp}
theorem pE : PE X e (tE X e) := ⟨fun pins s σ H Q I h => h pins s I⟩
theorem pT : PT X e (tT X e) := ⟨fun pins s σ H Q I h => h pins s I⟩
theorem pW : PW X e (tW X e) := ⟨fun wh pins s σ H Q I h => h wh pins s I⟩
theorem pA : PA X es (tA X es) := ⟨fun pos pins s σ H Q I h => h pos pins s I⟩
theorem pS : PS X st (tS X st) := ⟨fun pins s σ H D I h => h pins s I⟩
theorem pSs : PSs X sts (tSs X sts) := ⟨fun pins s σ H D I h => h pins s I⟩
theorem toE {te : TE} {Q : VK} (h : PE X e te) (q : te σ H Q) : tE X e σ H Q := fun pins s I => h.run pins s σ H Q I q
theorem toT {te : TT} {Q : Bool → Hp → Prop} (h : PT X e te) (q : te σ H Q) : tT X e σ H Q := fun pins s I => h.run pins s σ H Q I q
theorem toW {te : TT} {Q : Bool → Hp → Prop} (h : PW X e te) (q : te σ H Q) : tW X e σ H Q := fun wh pins s I => h.run wh pins s σ H Q I q
theorem toA {te : TA} {Q : List V → Hp → Prop} (h : PA X es te) (q : te σ H Q) : tA X es σ H Q := fun pos pins s I => h.run pos pins s σ H Q I q
theorem toS {t : TS} {D : Ends} (h : PS X st t) (q : t D σ H) : tS X st D σ H := fun pins s I => h.run pins s σ H D I q
theorem toSs {t : TS} {D : Ends} (h : PSs X sts t) (q : t D σ H) : tSs X sts D σ H := fun pins s I => h.run pins s σ H D I q
end
/-! ### what comes of an expression: the heap only grows -/
abbrev PV : Type := V → Hp → Prop
/-- handed on: such a value, and it stays so -/
def Giv (H : Hp) (P : PV) (Q : VK) : Prop := ∀ v H2, Ex H H2 → (∀ H3, Ex H2 H3 → P v H3) → Q v H2
def EW (X : Cx) (σ : St) (H : Hp) (e : Expr) (P : PV) : Prop := ∀ H1, Ex H H1 → ∀ Q : VK, Giv H1 P Q → tE X e σ H1 Q
def TW (X : Cx) (σ : St) (H : Hp) (e : Expr) (b : Bool) : Prop := ∀ H1, Ex H H1 → ∀ Q : Bool → Hp → Prop, (∀ H2, Ex H1 H2 → Q b H2) → tT X e σ H1 Q
def WW (X : Cx) (σ : St) (H : Hp) (e : Expr) (b : Bool) : Prop := ∀ H1, Ex H H1 → ∀ Q : Bool → Hp → Prop, (∀ H2, Ex H1 H2 → Q b H2) → tW X e σ H1 Q
def AW (X : Cx) (σ : St) (H : Hp) (es : List Expr) (P : List V → Hp → Prop) : Prop := ∀ H1, Ex H H1 → ∀ Q : List V → Hp → Prop, (∀ vs H2, Ex H1 H2 → (∀ H3, Ex H2 H3 → P vs H3) → Q vs H2) → tA X es σ H1 Q
/-- data; a value itself -/
abbrev dat (d : PyData) : PV := fun v H => Is H v d
abbrev val (v : V) : PV := fun u _ => u = v
abbrev EV (X : Cx) (σ : St) (H : Hp) (e : Expr) (d : PyData) : Prop := EW X σ H e (dat d)
abbrev EX (X : Cx) (σ : St) (H : Hp) (e : Expr) (v : V) : Prop := EW X σ H e (val v)
abbrev AV (X : Cx) (σ : St) (H : Hp) (es : List Expr) (ds : List PyData) : Prop := AW X σ H es (fun vs H => IsA H vs ds)
section
variable {X : Cx} {e a b c : Expr} {es : List Expr} {σ : St} {H H' : Hp} {P P' R : PV} {d d' : PyData} {ds : List PyData} {v u : V} {pos : Pos} {k l : Bool} {i j : Int}
theorem EW.up (h : EW X σ H e P) (x : Ex H H') : EW X σ H' e P := fun H1 y Q q => h H1 (x.trans y) Q q
theorem TW.up (h : TW X σ H e k) (x : Ex H H') : TW X σ H' e k := fun H1 y Q q => h H1 (x.trans y) Q q
theorem AW.up {P : List V → Hp → Prop} (h : AW X σ H es P) (x : Ex H H') : AW X σ H' es P := fun H1 y Q q => h H1 (x.trans y) Q q
theorem EW.imp (h : EW X σ H e P) (w : ∀ v H1, Ex H H1 → P v H1 → P' v H1) : EW X σ H e P' := fun H1 y Q q => h H1 y Q fun v H2 x p => q v H2 x fun H3 z => w v H3 ((y.trans x).trans z) (p H3 z)
theorem EW.run {Q : VK} (h : EW X σ H e P) (q : ∀ v H2, Ex H H2 → P v H2 → Q v H2) : tE X e σ H Q := h H (Ex.refl H) Q fun v H2 x p => q v H2 x (p H2 (Ex.refl H2))
theorem TW.run {Q : Bool → Hp → Prop} (h : TW X σ H e k) (q : ∀ H2, Ex H H2 → Q k H2) : tT X e σ H Q := h H (Ex.refl H) Q q
theorem AW.run {P : List V → Hp → Prop} {Q : List V → Hp → Prop} (h : AW X σ H es P) (q : ∀ v H2, Ex H H2 → P v H2 → Q v H2) : tA X es σ H Q := h H (Ex.refl H) Q fun v H2 x p => q v H2 x (p H2 (Ex.refl H2))
theorem Giv.dat {Q : VK} (g : Giv H (dat d) Q) (x : Ex H H') (h : Is H' v d) : Q v H' := g v H' x fun H3 z => h.mono z
theorem Giv.val {Q : VK} (g : Giv H (val v) Q) (x : Ex H H') : Q v H' := g v H' x fun _ _ => rfl
theorem EV.is (h : EV X σ H e d) (q : d = d') : EV X σ H e d' := by rw [← q]; exact h
theorem TW.is (h : TW X σ H e k) (q : k = l) : TW X σ H e l := by rw [← q]; exact h
/-- an int, a text, a bool as a value and as data -/
theorem EW.ofInt (h : EV X σ H e (.int i)) : EX X σ H e (.int i) := h.imp fun v H1 _ p => p.int_eq
theorem EW.ofStr {z : Str} (h : EV X σ H e (.str z)) : EX X σ H e (.str z) := h.imp fun v H1 _ p => p.str_eq
theorem EW.ofBl (h : EV X σ H e (.bool k)) : EX X σ H e (.bl k) := h.imp fun v H1 _ p => p.bl_eq
theorem EW.toInt (h : EX X σ H e (.int i)) : EV X σ H e (.int i) := h.imp fun v H1 _ p => p ▸ .int i
theorem EW.toBl (h : EX X σ H e (.bl k)) : EV X σ H e (.bool k) := h.imp fun v H1 _ p => p ▸ .bl k
/-! names, constants -/
theorem ex_n {i : Nat} {x : Str} (hσ : σ[i]? = some (some v)) (hN : X.N[i]? = some x) (hv : Vis X.env.scope x) (hd : (x == ("__debug__" : Str)) = false := by decide) (hcd : (x == ("__classdict__" : Str)) = false := by decide) : EX X σ H (.Name x pos) v :=
  fun H1 _ Q q => toE (pe_var hN hv hd hcd) ⟨v, hσ, q.val (Ex.refl H1)⟩
theorem ev_int {i : Int} {j : Nat} : EV X σ H (.Constant (.int i) j pos) (.int i) := fun H1 _ Q q => toE pe_int (q.dat (Ex.refl H1) (.int i))
theorem ev_str {i : Str} {j : Nat} : EV X σ H (.Constant (.str i) j pos) (.str i) := fun H1 _ Q q => toE pe_str (q.dat (Ex.refl H1) (.str i))
theorem ev_bl {i : Bool} {j : Nat} : EV X σ H (.Constant (.bool i) j pos) (.bool i) := fun H1 _ Q q => toE pe_bl (q.dat (Ex.refl H1) (.bl i))
theorem ev_non {j : Nat} : EV X σ H (.Constant .none j pos) .none := fun H1 _ Q q => toE pe_non (q.dat (Ex.refl H1) .non)
theorem ex_c {w : Value} {x : Str} (hm : X.mg x = some w) (r : RelV v w) (hg : Gl X x := by rfl) (hd : (x == ("__debug__" : Str)) = false := by decide) : EX X σ H (.Name x pos) v := fun H1 _ Q q => toE (pe_glob hg hm r hd) (q.val (Ex.refl H1))
theorem ex_b {w : Value} {x : Str} (hm : X.mg x = none) (hv : bootBuiltins x = some w) (r : RelV v w) (hg : Gl X x := by rfl) (hn : x ≠ "__name__" := by decide) (hd : (x == ("__debug__" : Str)) = false := by decide) : EX X σ H (.Name x pos) v := fun H1 _ Q q => toE (pe_bltn hg hm hv r hn hd) (q.val (Ex.refl H1))
theorem EX.at_ (h : EX X σ H e v) (q : Is H v d) : EV X σ H e d := h.imp fun u H1 x p => by
  have p' : u = v := p
  rw [p']
  exact q.mono x
/-! arguments -/
theorem av_nil : AV X σ H [] [] := fun H1 _ Q q => toA pa_nil (q [] H1 (Ex.refl H1) fun _ _ => .nil)
theorem aw_nil : AW X σ H [] (fun vs _ => vs = []) := fun H1 _ Q q => toA pa_nil (q [] H1 (Ex.refl H1) fun _ _ => rfl)
theorem aw_cons {P' : List V → Hp → Prop} (h : EW X σ H e P) (t : AW X σ H es P') (hs : starEach (e :: es) X.env = (false, eval e X.env) :: starEach es X.env := by rfl) : AW X σ H (e :: es) (fun vs H1 => ∃ v r, vs = v :: r ∧ P v H1 ∧ P' r H1) := fun H1 x Q q =>
  toA (pa_cons pE pA hs) (h H1 x _ fun v H2 y p => t H2 (x.trans y) _ fun r H3 z p' => q (v :: r) H3 (y.trans z) fun H4 w => ⟨v, r, rfl, p H4 (z.trans w), p' H4 w⟩)
theorem av_cons (h : EV X σ H e d) (t : AV X σ H es ds) (hs : starEach (e :: es) X.env = (false, eval e X.env) :: starEach es X.env := by rfl) : AV X σ H (e :: es) (d :: ds) := fun H1 x Q q =>
  aw_cons h t hs H1 x Q fun vs H2 y p => q vs H2 y fun H3 z => by
    obtain ⟨v, r, e, h1, h2⟩ := p H3 z
    rw [e]
    exact .cons h1 h2
/-! displays -/
theorem sz10 {n : Nat} (h : n ≤ 100000) : n ≤ sizeLine := Nat.le_trans h (by decide)
theorem sz10' {n : Nat} (h : n ≤ 100000) : n < sizeLine := Nat.lt_of_le_of_lt h (by decide)
theorem ev_tup {x1 : Nat} (h : AV X σ H es ds) (hl : ds.length ≤ 100000 := by exact Nat.le_of_ble_eq_true rfl) : EV X σ H (.Tuple es x1 pos) (.tuple ds) := fun H1 x Q q =>
  toE (pe_tup pA) (h H1 x _ fun vs H2 y p => ⟨by rw [(p H2 (Ex.refl H2)).length]; exact sz10 hl, fun t ht => q.dat (y.trans (Ex.new ht)) (.tup upd_same (p _ (Ex.new ht)))⟩)
theorem ev_lst (h : AV X σ H es ds) (hl : ds.length ≤ 100000 := by exact Nat.le_of_ble_eq_true rfl) : EV X σ H (.List es pos) (.list ds) := fun H1 x Q q =>
  toE (pe_lst pA) (h H1 x _ fun vs H2 y p => ⟨by rw [(p H2 (Ex.refl H2)).length]; exact sz10 hl, fun t ht => q.dat (y.trans (Ex.new ht)) (.lst upd_same (p _ (Ex.new ht)))⟩)
/-! operators -/
theorem ew_op {op : Operator} {r : R2} (ho : OpR X (binaryOp op) r) (ha : EW X σ H a P) (hb : EW X σ H b P') (hr : ∀ x y H2, Ex H H2 → P x H2 → P' y H2 → ∀ Q, Giv H2 R Q → r x y H2 Q) : EW X σ H (.BinOp a op b pos) R := fun H1 x Q q =>
  toE (pe_op ho pE pE) (ha H1 x _ fun v H2 y p => hb H2 (x.trans y) _ fun u H3 z p' => hr v u H3 ((x.trans y).trans z) (p H3 z) (p' H3 (Ex.refl H3)) Q fun w H4 t g => q w H4 ((y.trans z).trans t) g)
theorem ev_opI {op : Operator} {C : Int → Int → Prop} {g : Int → Int → Int} (ho : OpR X (binaryOp op) (rI C fun i j => .int (g i j))) (ha : EV X σ H a (.int i)) (hb : EV X σ H b (.int j)) (hc : C i j) : EV X σ H (.BinOp a op b pos) (.int (g i j)) :=
  ew_op ho ha hb fun x y H2 _ p p' Q q => ⟨i, j, p.int_eq, p'.int_eq, hc, q.dat (Ex.refl H2) (.int _)⟩
theorem ev_opI0 {op : Operator} {g : Int → Int → Int} (ho : OpR X (binaryOp op) (rI0 fun i j => .int (g i j))) (ha : EV X σ H a (.int i)) (hb : EV X σ H b (.int j)) : EV X σ H (.BinOp a op b pos) (.int (g i j)) :=
  ew_op ho ha hb fun x y H2 _ p p' Q q => ⟨i, j, p.int_eq, p'.int_eq, q.dat (Ex.refl H2) (.int _)⟩
theorem ev_add (ha : EV X σ H a (.int i)) (hb : EV X σ H b (.int j)) : EV X σ H (.BinOp a .Add b pos) (.int (i + j)) := ev_opI0 op_add ha hb
theorem ev_sub (ha : EV X σ H a (.int i)) (hb : EV X σ H b (.int j)) : EV X σ H (.BinOp a .Sub b pos) (.int (i - j)) := ev_opI0 op_sub ha hb
theorem ev_mul (ha : EV X σ H a (.int i)) (hb : EV X σ H b (.int j)) (hc : -(2 ^ 64) < i ∧ i < 2 ^ 64) : EV X σ H (.BinOp a .Mult b pos) (.int (i * j)) := ev_opI op_mul ha hb (.inl hc)
theorem ev_mulR (ha : EV X σ H a (.int i)) (hb : EV X σ H b (.int j)) (hc : -(2 ^ 64) < j ∧ j < 2 ^ 64) : EV X σ H (.BinOp a .Mult b pos) (.int (i * j)) := ev_opI op_mul ha hb (.inr hc)
theorem ev_fdiv (ha : EV X σ H a (.int i)) (hb : EV X σ H b (.int j)) (hc : 0 < j ∧ j < 1073741824) : EV X σ H (.BinOp a .FloorDiv b pos) (.int (i / j)) := ev_opI op_fdiv ha hb hc
theorem ev_mod (ha : EV X σ H a (.int i)) (hb : EV X σ H b (.int j)) (hc : 0 < j) : EV X σ H (.BinOp a .Mod b pos) (.int (i % j)) := ev_opI op_mod ha hb hc
theorem ev_pow (ha : EV X σ H a (.int i)) (hb : EV X σ H b (.int j)) (hc : 0 ≤ j ∧ j ≤ 1000000 ∧ i.natAbs < 2 ^ 64) : EV X σ H (.BinOp a .Pow b pos) (.int (i ^ j.toNat)) := ev_opI op_pow ha hb hc
theorem ev_shl (ha : EV X σ H a (.int i)) (hb : EV X σ H b (.int j)) (hc : 0 ≤ j ∧ j ≤ 1000000 ∧ i.natAbs < 2 ^ 64) : EV X σ H (.BinOp a .LShift b pos) (.int (i * 2 ^ j.toNat)) := ev_opI (g := fun i j => i * 2 ^ j.toNat) op_shl ha hb hc
theorem ev_shr (ha : EV X σ H a (.int i)) (hb : EV X σ H b (.int j)) (hc : 0 ≤ j) : EV X σ H (.BinOp a .RShift b pos) (.int (i / 2 ^ j.toNat)) := ev_opI (g := fun i j => i / 2 ^ j.toNat) op_shr ha hb hc
theorem ev_band (ha : EV X σ H a (.int i)) (hb : EV X σ H b (.int j)) : EV X σ H (.BinOp a .BitAnd b pos) (.int (Builtin.bitAnd i j)) := ev_opI0 op_and ha hb
theorem ev_bor (ha : EV X σ H a (.int i)) (hb : EV X σ H b (.int j)) : EV X σ H (.BinOp a .BitOr b pos) (.int (Builtin.bitOr i j)) := ev_opI0 op_or ha hb
theorem ev_bxor (ha : EV X σ H a (.int i)) (hb : EV X σ H b (.int j)) : EV X σ H (.BinOp a .BitXor b pos) (.int (Builtin.bitXor i j)) := ev_opI0 op_xor ha hb
theorem ev_addS {i j : Str} (ha : EV X σ H a (.str i)) (hb : EV X σ H b (.str j)) (hc : i.length + j.length ≤ sizeLine) : EV X σ H (.BinOp a .Add b pos) (.str (i ++ j)) :=
  ew_op op_add_str ha hb fun x y H2 _ p p' Q q => ⟨i, j, p.str_eq, p'.str_eq, hc, q.dat (Ex.refl H2) (.str _)⟩
theorem ev_neg (ha : EV X σ H a (.int i)) : EV X σ H (.UnaryOp .USub a pos) (.int (-i)) := fun H1 x Q q =>
  toE (pe_un un_neg pE) (ha H1 x _ fun v H2 y p => ⟨i, (p H2 (Ex.refl H2)).int_eq, q.dat y (.int _)⟩)
theorem ev_cat {es' ds' : List PyData} (ha : EV X σ H a (.list es')) (hb : EV X σ H b (.list ds')) (hl : es'.length + ds'.length ≤ 100000) : EV X σ H (.BinOp a .Add b pos) (.list (es' ++ ds')) :=
  ew_op op_cat ha hb fun x y H2 _ p p' Q q => by
    cases p with
    | @lst a1 xs _ h hs =>
      cases p' with
      | @lst a2 ys _ h' hs' =>
        refine ⟨a1, a2, xs, ys, rfl, rfl, h, h', ?_, fun t ht => q.dat (Ex.new ht) (.lst upd_same ((hs.append hs').mono (Ex.new ht)))⟩
        rw [hs.length, hs'.length]
        exact sz10 hl
theorem ev_catT {es' ds' : List PyData} (ha : EV X σ H a (.tuple es')) (hb : EV X σ H b (.tuple ds')) (hl : es'.length + ds'.length ≤ 100000) : EV X σ H (.BinOp a .Add b pos) (.tuple (es' ++ ds')) :=
  ew_op op_catA ha hb fun x y H2 _ p p' Q q => by
    cases p with
    | @tup a1 xs _ h hs =>
      cases p' with
      | @tup a2 ys _ h' hs' =>
        refine ⟨a1, a2, xs, ys, rfl, rfl, SqT.of h, SqT.of h', ?_, fun e => ?_, fun _ e => ?_, fun _ _ t ht => q.dat (Ex.new ht) (.tup upd_same ((hs.append hs').mono (Ex.new ht)))⟩
        · rw [hs.length, hs'.length]
          exact sz10 hl
        · subst e
          cases hs
          exact q.dat (Ex.refl H2) (.tup h' hs')
        · subst e
          cases hs'
          rw [List.append_nil] at q
          exact q.dat (Ex.refl H2) (.tup h hs)
theorem rep_isA {H : Hp} {vs : List V} {ds : List PyData} (h : IsA H vs ds) : ∀ n : Nat, IsA H (List.replicate n vs).flatten (List.replicate n ds).flatten
  | 0 => .nil
  | n + 1 => by
    rw [List.replicate_succ, List.replicate_succ, List.flatten_cons, List.flatten_cons]
    exact h.append (rep_isA h n)
theorem ev_rep (ha : EV X σ H a (.list ds)) (hb : EV X σ H b (.int i)) (h0 : 0 ≤ i) (h1 : i ≤ 1000) (hl : ds.length ≤ 1000) : EV X σ H (.BinOp a .Mult b pos) (.list (List.replicate i.toNat ds).flatten) :=
  ew_op op_rep ha hb fun x y H2 _ p p' Q q => by
    cases p with
    | @lst a1 xs _ h hs =>
      refine ⟨a1, i, xs, rfl, p'.int_eq, h, by omega, by omega, ?_, fun t ht => q.dat (Ex.new ht) (.lst upd_same ((rep_isA hs _).mono (Ex.new ht)))⟩
      rw [hs.length]
      have a1 : ds.length * i.toNat ≤ 1000 * 1000 := Nat.mul_le_mul hl (by omega)
      exact Nat.le_trans a1 (by decide)
/-! subscripts -/
theorem ew_ix {r : R2} (ho : IxR X r) (ha : EW X σ H a P) (hb : EW X σ H b P') (hr : ∀ x y H2, Ex H H2 → P x H2 → P' y H2 → ∀ Q, Giv H2 R Q → r x y H2 Q) (hs : PlainIx b := by exact fun _ _ => rfl) : EW X σ H (.Subscript a b pos) R := fun H1 x Q q =>
  toE (pe_ix ho pE pE hs) (ha H1 x _ fun v H2 y p => hb H2 (x.trans y) _ fun u H3 z p' => hr v u H3 ((x.trans y).trans z) (p H3 z) (p' H3 (Ex.refl H3)) Q fun w H4 t g => q w H4 ((y.trans z).trans t) g)
theorem atI_is {H : Hp} {vs : List V} {ds : List PyData} {i : Int} {d : PyData} (h : IsA H vs ds) (e : atI ds i = some d) : ∃ v, atI vs i = some v ∧ Is H v d := by
  unfold atI at e ⊢
  rw [h.length]
  cases q : ixN ds.length i with
  | none => rw [q] at e; cases e
  | some k =>
    rw [q] at e
    exact h.get e
theorem ev_ixL (ha : EV X σ H a (.list ds)) (hb : EV X σ H b (.int i)) (h : atI ds i = some d) (hs : PlainIx b := by exact fun _ _ => rfl) : EV X σ H (.Subscript a b pos) d :=
  ew_ix ix_list ha hb (fun x y H2 _ p p' Q q => by
    cases p with
    | @lst a1 xs _ h1 hs1 =>
      obtain ⟨v, e, r⟩ := atI_is hs1 h
      exact ⟨a1, xs, i, v, rfl, p'.int_eq, SqL.of h1, e, q.dat (Ex.refl H2) r⟩) hs
theorem ev_ixT (ha : EV X σ H a (.tuple ds)) (hb : EV X σ H b (.int i)) (h : atI ds i = some d) (hs : PlainIx b := by exact fun _ _ => rfl) : EV X σ H (.Subscript a b pos) d :=
  ew_ix ix_tup ha hb (fun x y H2 _ p p' Q q => by
    cases p with
    | @tup a1 xs _ h1 hs1 =>
      obtain ⟨v, e, r⟩ := atI_is hs1 h
      exact ⟨a1, xs, i, v, rfl, p'.int_eq, SqT.of h1, e, q.dat (Ex.refl H2) r⟩) hs
theorem atI_n {α : Type} {xs : List α} {j : Nat} {v : α} (h : xs[j]? = some v) (i : Int) (e : i = (j : Int)) : atI xs i = some v := by
  rw [e]
  exact atI_nat h
end
end Pw
namespace Pw
open PySem PySem.Spec L2
open Evl (Ex)
section
variable {X : Cx} {e a b c : Expr} {es : List Expr} {σ : L2.St} {H H' : Hp} {P P' R : PV} {d d' : PyData} {ds : List PyData} {v u : V} {pos : Pos} {k l : Bool} {i j : Int}
/-! slices -/
theorem PO_t {o : Option Expr} {t : TO} (h : PO X o t) : PO X o t := h
theorem ev_slL {lo hi : Option Expr} {tl th : TO} {x y : Option Int} {p2 : Pos} (ha : EV X σ H a (.list ds)) (hl : PO X lo tl) (hh : PO X hi th)
    (el : ∀ H1, Ex H H1 → ∀ Q : Option Int → Hp → Prop, (∀ H2, Ex H1 H2 → Q x H2) → tl σ H1 Q) (eh : ∀ H1, Ex H H1 → ∀ Q : Option Int → Hp → Prop, (∀ H2, Ex H1 H2 → Q y H2) → th σ H1 Q) :
    EV X σ H (.Subscript a (.Slice lo hi none p2) pos) (.list ((ds.drop (HT.sIx ds.length 0 x)).take (HT.sIx ds.length ds.length y - HT.sIx ds.length 0 x))) := fun H1 z Q q =>
  toE (pe_slice sl_list pE hl hh) (ha H1 z _ fun v H2 z2 p => el H2 (z.trans z2) _ fun H3 z3 => eh H3 ((z.trans z2).trans z3) _ fun H4 z4 => by
    cases p H4 (z3.trans z4) with
    | @lst a1 xs _ h hs =>
      refine ⟨a1, xs, rfl, SqL.of h, fun t ht => q.dat (((z2.trans z3).trans z4).trans (Ex.new ht)) (.lst upd_same ?_)⟩
      unfold cutV
      rw [hs.length]
      exact (((hs.drop _).take _)).mono (Ex.new ht))
theorem ev_slT {lo hi : Option Expr} {tl th : TO} {x y : Option Int} {p2 : Pos} (ha : EV X σ H a (.tuple ds)) (hl : PO X lo tl) (hh : PO X hi th)
    (el : ∀ H1, Ex H H1 → ∀ Q : Option Int → Hp → Prop, (∀ H2, Ex H1 H2 → Q x H2) → tl σ H1 Q) (eh : ∀ H1, Ex H H1 → ∀ Q : Option Int → Hp → Prop, (∀ H2, Ex H1 H2 → Q y H2) → th σ H1 Q) :
    EV X σ H (.Subscript a (.Slice lo hi none p2) pos) (.tuple ((ds.drop (HT.sIx ds.length 0 x)).take (HT.sIx ds.length ds.length y - HT.sIx ds.length 0 x))) := fun H1 z Q q =>
  toE (pe_slice sl_tupA pE hl hh) (ha H1 z _ fun v H2 z2 p => el H2 (z.trans z2) _ fun H3 z3 => eh H3 ((z.trans z2).trans z3) _ fun H4 z4 => by
    cases p H4 (z3.trans z4) with
    | @tup a1 xs _ h hs =>
      refine ⟨a1, xs, rfl, SqT.of h, fun w => ?_, fun w t ht => q.dat (((z2.trans z3).trans z4).trans (Ex.new ht)) (.tup upd_same ?_)⟩
      · rw [hs.length] at w
        rw [w.1, w.2, List.drop_zero, Nat.sub_zero, List.take_length] at q
        exact q.dat ((z2.trans z3).trans z4) (.tup h hs)
      · unfold cutV
        rw [hs.length]
        exact (((hs.drop _).take _)).mono (Ex.new ht))
theorem eo_n {H : Hp} : ∀ H1, Ex H H1 → ∀ Q : Option Int → Hp → Prop, (∀ H2, Ex H1 H2 → Q none H2) → tNoPart σ H1 Q := fun H1 _ Q q => q H1 (Ex.refl H1)
theorem eo_s (h : EV X σ H e (.int i)) : ∀ H1, Ex H H1 → ∀ Q : Option Int → Hp → Prop, (∀ H2, Ex H1 H2 → Q (some i) H2) → tPart (tE X e) σ H1 Q := fun H1 z Q q => h H1 z _ fun v H2 z2 p => ⟨i, (p H2 (Ex.refl H2)).int_eq, q H2 z2⟩
/-! comparisons: r answers k -/
def RB (r : R2) (P P' : PV) (H : Hp) (k : Bool) : Prop := ∀ x y H2, Ex H H2 → P x H2 → P' y H2 → ∀ Q : VK, Q (.bl k) H2 → r x y H2 Q
theorem ev_cmp {op : CmpOp} {r : R2} (ho : OpR X (compareOp op) r) (hm : behindInMarks op b = false) (ha : EW X σ H a P) (hb : EW X σ H b P') (hr : RB r P P' H k) : EV X σ H (.Compare a [op] [b] pos) (.bool k) := fun H1 z Q q =>
  toE (pe_cmpR ho pE pE hm) (ha H1 z _ fun v H2 z2 p => hb H2 (z.trans z2) _ fun u H3 z3 p' => hr v u H3 ((z.trans z2).trans z3) (p H3 z3) (p' H3 (Ex.refl H3)) Q (q.dat (z2.trans z3) (.bl k)))
theorem tw_cmp {op : CmpOp} {r : R2} (ho : OpR X (compareOp op) r) (hm : behindInMarks op b = false) (ha : EW X σ H a P) (hb : EW X σ H b P') (hr : RB r P P' H k) : TW X σ H (.Compare a [op] [b] pos) k := fun H1 z Q q =>
  toT (pt_cmpR ho pE pE hm) (ha H1 z _ fun v H2 z2 p => hb H2 (z.trans z2) _ fun u H3 z3 p' => hr v u H3 ((z.trans z2).trans z3) (p H3 z3) (p' H3 (Ex.refl H3)) _ ⟨k, rfl, q H3 (z2.trans z3)⟩)
theorem rb_I {g : Int → Int → Bool} : RB (rI0 fun i j => .bl (g i j)) (dat (.int i)) (dat (.int j)) H (g i j) := fun x y H2 _ p p' Q q => ⟨i, j, p.int_eq, p'.int_eq, q⟩
theorem rb_eqI : RB rEq (dat (.int i)) (dat (.int j)) H (decide (i = j)) := fun x y H2 _ p p' Q q => by
  rw [p.int_eq, p'.int_eq]
  refine ⟨rfl, ?_⟩
  rw [show decide (V.int i = V.int j) = decide (i = j) by by_cases h : i = j <;> simp [h]]
  exact q
theorem rb_eqS {i j : Str} : RB rEq (dat (.str i)) (dat (.str j)) H (decide (i = j)) := fun x y H2 _ p p' Q q => by
  rw [p.str_eq, p'.str_eq]
  refine ⟨rfl, ?_⟩
  rw [show decide (V.str i = V.str j) = decide (i = j) by by_cases h : i = j <;> simp [h]]
  exact q
theorem rb_eqB {i j : Bool} : RB rEq (dat (.bool i)) (dat (.bool j)) H (i == j) := fun x y H2 _ p p' Q q => by
  rw [p.bl_eq, p'.bl_eq]
  refine ⟨rfl, ?_⟩
  rw [show decide (V.bl i = V.bl j) = (i == j) by cases i <;> cases j <;> rfl]
  exact q
theorem rb_neI : RB rNe (dat (.int i)) (dat (.int j)) H (!decide (i = j)) := fun x y H2 _ p p' Q q => by
  rw [p.int_eq, p'.int_eq]
  refine ⟨rfl, ?_⟩
  rw [show decide (V.int i = V.int j) = decide (i = j) by by_cases h : i = j <;> simp [h]]
  exact q
theorem rb_neS {i j : Str} : RB rNe (dat (.str i)) (dat (.str j)) H (!decide (i = j)) := fun x y H2 _ p p' Q q => by
  rw [p.str_eq, p'.str_eq]
  refine ⟨rfl, ?_⟩
  rw [show decide (V.str i = V.str j) = decide (i = j) by by_cases h : i = j <;> simp [h]]
  exact q
theorem rb_eqD (s1 : SeqAt.shaped d = true) (s2 : SeqAt.shaped d' = true) : RB (rEqD X.K) (dat d) (dat d') H (PyData.eqv d d') := fun x y H2 _ p p' Q q => ⟨d, d', p.toDp, p'.toDp, s1, s2, q⟩
theorem rb_neD (s1 : SeqAt.shaped d = true) (s2 : SeqAt.shaped d' = true) : RB (rNeD X.K) (dat d) (dat d') H (!PyData.eqv d d') := fun x y H2 _ p p' Q q => ⟨d, d', p.toDp, p'.toDp, s1, s2, q⟩
theorem rb_isN : RB (fun x y H Q => y = .non ∧ Q (.bl (decide (x = .non))) H) (val v) (dat .none) H (decide (v = .non)) := fun x y H2 _ p p' Q q => ⟨p'.non_eq, by rw [show x = v from p]; exact q⟩
theorem rb_notN : RB (fun x y H Q => y = .non ∧ Q (.bl (!decide (x = .non))) H) (val v) (dat .none) H (!decide (v = .non)) := fun x y H2 _ p p' Q q => ⟨p'.non_eq, by rw [show x = v from p]; exact q⟩
/-- in a list, a tuple of texts -/
theorem inV_strs (z : Str) : ∀ ss : List Str, inV (.str z) (ss.map V.str) = decide (z ∈ ss)
  | [] => rfl
  | s :: r => by
    have ih := inV_strs z r
    unfold inV at ih ⊢
    rw [List.map_cons, List.any_cons, ih]
    show ((s == z) || decide (z ∈ r)) = decide (z ∈ s :: r)
    by_cases h : s = z
    · subst h; simp
    · rw [beq_eq_false_iff_ne.mpr h, Bool.false_or]
      have h' : ¬ z = s := fun e => h e.symm
      simp [h']
theorem flat_strs (ss : List Str) : (ss.map V.str).all flatV = true := by
  rw [List.all_eq_true]
  intro x hx
  obtain ⟨z, _, rfl⟩ := List.mem_map.mp hx
  rfl
theorem rb_inL {z : Str} {ss : List Str} : RB (rIn X.K false) (dat (.str z)) (dat (.list (ss.map PyData.str))) H (decide (z ∈ ss)) := fun x y H2 _ p p' Q q => by
  cases p' with
  | @lst a1 xs _ h hs =>
    have e := hs.strs_eq
    subst e
    rw [p.str_eq]
    exact ⟨a1, _, rfl, .inl (SqL.of h), rfl, flat_strs ss, by rw [if_neg Bool.false_ne_true, inV_strs]; exact q⟩
theorem rb_niL {z : Str} {ss : List Str} : RB (rIn X.K true) (dat (.str z)) (dat (.list (ss.map PyData.str))) H (!decide (z ∈ ss)) := fun x y H2 _ p p' Q q => by
  cases p' with
  | @lst a1 xs _ h hs =>
    have e := hs.strs_eq
    subst e
    rw [p.str_eq]
    exact ⟨a1, _, rfl, .inl (SqL.of h), rfl, flat_strs ss, by rw [if_pos rfl, inV_strs]; exact q⟩
theorem rb_inT {z : Str} {ss : List Str} : RB (rIn X.K false) (dat (.str z)) (dat (.tuple (ss.map PyData.str))) H (decide (z ∈ ss)) := fun x y H2 _ p p' Q q => by
  cases p' with
  | @tup a1 xs _ h hs =>
    have e := hs.strs_eq
    subst e
    rw [p.str_eq]
    exact ⟨a1, _, rfl, .inr (SqT.of h), rfl, flat_strs ss, by rw [if_neg Bool.false_ne_true, inV_strs]; exact q⟩
theorem rb_niT {z : Str} {ss : List Str} : RB (rIn X.K true) (dat (.str z)) (dat (.tuple (ss.map PyData.str))) H (!decide (z ∈ ss)) := fun x y H2 _ p p' Q q => by
  cases p' with
  | @tup a1 xs _ h hs =>
    have e := hs.strs_eq
    subst e
    rw [p.str_eq]
    exact ⟨a1, _, rfl, .inr (SqT.of h), rfl, flat_strs ss, by rw [if_pos rfl, inV_strs]; exact q⟩
/-! and, or, not, if -/
theorem tw_w (h : WW X σ H e k) : TW X σ H e k := fun H1 z Q q => toT pW.pt (h H1 z Q q)
theorem ww_and1 (ha : TW X σ H a k) : WW X σ H (.BoolOp .And [a] pos) k := fun H1 z Q q => toW (pw_and1 pT) (ha H1 z Q q)
theorem ww_or1 (ha : TW X σ H a k) : WW X σ H (.BoolOp .Or [a] pos) k := fun H1 z Q q => toW (pw_or1 pT) (ha H1 z Q q)
theorem ww_and {rest : List Expr} (ha : TW X σ H a k) (hb : k = true → WW X σ H (.BoolOp .And (b :: rest) pos) l) : WW X σ H (.BoolOp .And (a :: b :: rest) pos) (k && l) := fun H1 z Q q => toW (pw_and pT pW) (ha H1 z _ fun H2 z2 => by
  cases k with
  | true => exact hb rfl H2 (z.trans z2) Q fun H3 z3 => q H3 (z2.trans z3)
  | false => exact q H2 z2)
theorem ww_or {rest : List Expr} (ha : TW X σ H a k) (hb : k = false → WW X σ H (.BoolOp .Or (b :: rest) pos) l) : WW X σ H (.BoolOp .Or (a :: b :: rest) pos) (k || l) := fun H1 z Q q => toW (pw_or pT pW) (ha H1 z _ fun H2 z2 => by
  cases k with
  | true => exact q H2 z2
  | false => exact hb rfl H2 (z.trans z2) Q fun H3 z3 => q H3 (z2.trans z3))
theorem tw_not (ha : TW X σ H a k) : TW X σ H (.UnaryOp .Not a pos) (!k) := fun H1 z Q q => toT (pt_not pT) (ha H1 z _ fun H2 z2 => q H2 z2)
theorem tw_val (h : EV X σ H e (.bool k)) (he : ∀ whole, isTrue e X.env whole = (do let v ← whole; standAt e.pos; holding [v] (truthy v)) := by exact fun _ => rfl) : TW X σ H e k := fun H1 z Q q => toT (pt_val pE he) (h H1 z _ fun v H2 z2 p => ⟨k, (p H2 (Ex.refl H2)).bl_eq, q H2 z2⟩)
theorem ev_one {op : PySem.BoolOp} (h : EW X σ H a P) : EW X σ H (.BoolOp op [a] pos) P := fun H1 z Q q => toE (pe_one pE) (h H1 z Q q)
theorem ev_and {rest : List Expr} (ha : EV X σ H a (.bool k)) (hb : k = true → EV X σ H (.BoolOp .And (b :: rest) pos) (.bool l)) : EV X σ H (.BoolOp .And (a :: b :: rest) pos) (.bool (k && l)) := fun H1 z Q q => toE (pe_and pE pE) (ha H1 z _ fun v H2 z2 p => ⟨k, (p H2 (Ex.refl H2)).bl_eq, by
  cases k with
  | true => exact hb rfl H2 (z.trans z2) Q fun w H3 z3 g => q w H3 (z2.trans z3) g
  | false => exact q.dat z2 (.bl false)⟩)
theorem ev_or {rest : List Expr} (ha : EV X σ H a (.bool k)) (hb : k = false → EV X σ H (.BoolOp .Or (b :: rest) pos) (.bool l)) : EV X σ H (.BoolOp .Or (a :: b :: rest) pos) (.bool (k || l)) := fun H1 z Q q => toE (pe_or pE pE) (ha H1 z _ fun v H2 z2 p => ⟨k, (p H2 (Ex.refl H2)).bl_eq, by
  cases k with
  | true => exact q.dat z2 (.bl true)
  | false => exact hb rfl H2 (z.trans z2) Q fun w H3 z3 g => q w H3 (z2.trans z3) g⟩)
theorem ev_not (ha : EV X σ H a (.bool k)) : EV X σ H (.UnaryOp .Not a pos) (.bool (!k)) := fun H1 z Q q => toE (pe_not pE) (ha H1 z _ fun v H2 z2 p => ⟨k, (p H2 (Ex.refl H2)).bl_eq, q.dat z2 (.bl _)⟩)
theorem ew_if (h : TW X σ H c k) (h1 : k = true → EW X σ H a P) (h2 : k = false → EW X σ H b P) : EW X σ H (.IfExp c a b pos) P := fun H1 z Q q => toE (pe_ifExp pT pE pE) (h H1 z _ fun H2 z2 => by
  cases k with
  | true => exact h1 rfl H2 (z.trans z2) Q fun w H3 z3 g => q w H3 (z2.trans z3) g
  | false => exact h2 rfl H2 (z.trans z2) Q fun w H3 z3 g => q w H3 (z2.trans z3) g)
/-! built-ins -/
theorem ew_cb {x : Str} {id : String} {p : Pos} {r : List V → Hp → VK → Prop} {PA : List V → Hp → Prop} (hc : CallR X (.builtin id) r) (hm : X.mg x = none) (hv : bootBuiltins x = some (.builtin id)) (ha : AW X σ H (e :: es) PA) (hr : ∀ vs H2, Ex H H2 → PA vs H2 → ∀ Q, Giv H2 R Q → r vs H2 Q)
    (hg : Gl X x := by rfl) (hn : x ≠ "__name__" := by decide) (hdb : (x == ("__debug__" : Str)) = false := by decide) (he : starEach (e :: es) X.env = (false, eval e X.env) :: starEach es X.env := by rfl) (hpl : (backTo pos (starEach es X.env)).any (·.1) = false := by rfl) : EW X σ H (.Call (.Name x p) (e :: es) [] pos) R := fun H1 z Q q =>
  toE (pe_callB hc hg hm hv pA hn hdb he hpl) (ha H1 z _ fun vs H2 z2 p => hr vs H2 (z.trans z2) (p H2 (Ex.refl H2)) Q fun w H3 z3 g => q w H3 (z2.trans z3) g)
theorem ew_ct {x : Str} {T : String} {p : Pos} {r : List V → Hp → VK → Prop} {PA : List V → Hp → Prop} (hc : CallR X (.type T) r) (hm : X.mg x = none) (hv : bootBuiltins x = some (.type T)) (ha : AW X σ H (e :: es) PA) (hr : ∀ vs H2, Ex H H2 → PA vs H2 → ∀ Q, Giv H2 R Q → r vs H2 Q)
    (hg : Gl X x := by rfl) (hn : x ≠ "__name__" := by decide) (hdb : (x == ("__debug__" : Str)) = false := by decide) (he : starEach (e :: es) X.env = (false, eval e X.env) :: starEach es X.env := by rfl) (hpl : (backTo pos (starEach es X.env)).any (·.1) = false := by rfl) : EW X σ H (.Call (.Name x p) (e :: es) [] pos) R := fun H1 z Q q =>
  toE (pe_callTy hc hg hm hv pA hn hdb he hpl) (ha H1 z _ fun vs H2 z2 p => hr vs H2 (z.trans z2) (p H2 (Ex.refl H2)) Q fun w H3 z3 g => q w H3 (z2.trans z3) g)
theorem IsA.one (h : IsA H vs' [d]) : ∃ v, vs' = [v] ∧ Is H v d := by
  cases h with
  | cons h t => cases t; exact ⟨_, rfl, h⟩
theorem ev_lenL {p : Pos} (hm : X.mg "len" = none) (ha : EV X σ H a (.list ds)) (hg : Gl X "len" := by rfl) (he : starEach [a] X.env = (false, eval a X.env) :: starEach [] X.env := by rfl) (hpl : (backTo pos (starEach [] X.env)).any (·.1) = false := by rfl) : EV X σ H (.Call (.Name "len" p) [a] [] pos) (.int ds.length) :=
  ew_cb call_len_seq hm boot_len (av_cons ha av_nil he) (fun vs H2 _ w Q q => by
    obtain ⟨v, rfl, h⟩ := IsA.one w
    cases h with
    | @lst a1 xs _ h hs => exact ⟨a1, xs, rfl, .inl (SqL.of h), by rw [hs.length]; exact q.dat (Ex.refl H2) (.int _)⟩) hg (by decide) (by decide) he hpl
theorem ev_lenT {p : Pos} (hm : X.mg "len" = none) (ha : EV X σ H a (.tuple ds)) (hg : Gl X "len" := by rfl) (he : starEach [a] X.env = (false, eval a X.env) :: starEach [] X.env := by rfl) (hpl : (backTo pos (starEach [] X.env)).any (·.1) = false := by rfl) : EV X σ H (.Call (.Name "len" p) [a] [] pos) (.int ds.length) :=
  ew_cb call_len_seq hm boot_len (av_cons ha av_nil he) (fun vs H2 _ w Q q => by
    obtain ⟨v, rfl, h⟩ := IsA.one w
    cases h with
    | @tup a1 xs _ h hs => exact ⟨a1, xs, rfl, .inr (SqT.of h), by rw [hs.length]; exact q.dat (Ex.refl H2) (.int _)⟩) hg (by decide) (by decide) he hpl
theorem ev_lenS {p : Pos} {z : Str} (hm : X.mg "len" = none) (ha : EV X σ H a (.str z)) (hz : z.length ≤ sizeLine) (hg : Gl X "len" := by rfl) (he : starEach [a] X.env = (false, eval a X.env) :: starEach [] X.env := by rfl) (hpl : (backTo pos (starEach [] X.env)).any (·.1) = false := by rfl) : EV X σ H (.Call (.Name "len" p) [a] [] pos) (.int z.length) :=
  ew_cb call_len_str hm boot_len (av_cons ha av_nil he) (fun vs H2 _ w Q q => by
    obtain ⟨v, rfl, h⟩ := IsA.one w
    rw [h.str_eq]
    exact ⟨z, rfl, hz, q.dat (Ex.refl H2) (.int _)⟩) hg (by decide) (by decide) he hpl
theorem boot_list' : bootBuiltins "list" = some (.type "list") := by decide +kernel
theorem boot_tuple' : bootBuiltins "tuple" = some (.type "tuple") := by decide +kernel
theorem boot_int' : bootBuiltins "int" = some (.type "int") := by decide +kernel
theorem boot_bool' : bootBuiltins "bool" = some (.type "bool") := by decide +kernel
theorem boot_str' : bootBuiltins "str" = some (.type "str") := by decide +kernel
theorem boot_sum' : bootBuiltins "sum" = some (.builtin "sum") := by decide +kernel
theorem boot_all' : bootBuiltins "all" = some (.builtin "all") := by decide +kernel
theorem boot_min' : bootBuiltins "min" = some (.builtin "min") := by decide +kernel
theorem boot_sorted' : bootBuiltins "sorted" = some (.builtin "sorted") := by decide +kernel
theorem boot_isi' : bootBuiltins "isinstance" = some (.builtin "isinstance") := by decide +kernel
theorem ev_listL {p : Pos} (hm : X.mg "list" = none) (ha : EV X σ H a (.list ds)) (hg : Gl X "list" := by rfl) (he : starEach [a] X.env = (false, eval a X.env) :: starEach [] X.env := by rfl) (hpl : (backTo pos (starEach [] X.env)).any (·.1) = false := by rfl) : EV X σ H (.Call (.Name "list" p) [a] [] pos) (.list ds) :=
  ew_ct call_list_of hm boot_list' (av_cons ha av_nil he) (fun vs H2 _ w Q q => by
    obtain ⟨v, rfl, h⟩ := IsA.one w
    cases h with
    | @lst a1 xs _ h hs => exact ⟨a1, xs, rfl, .inl (SqL.of h), fun t ht => q.dat (Ex.new ht) (.lst upd_same (hs.mono (Ex.new ht)))⟩) hg (by decide) (by decide) he hpl
theorem ev_listT {p : Pos} (hm : X.mg "list" = none) (ha : EV X σ H a (.tuple ds)) (hg : Gl X "list" := by rfl) (he : starEach [a] X.env = (false, eval a X.env) :: starEach [] X.env := by rfl) (hpl : (backTo pos (starEach [] X.env)).any (·.1) = false := by rfl) : EV X σ H (.Call (.Name "list" p) [a] [] pos) (.list ds) :=
  ew_ct call_list_of hm boot_list' (av_cons ha av_nil he) (fun vs H2 _ w Q q => by
    obtain ⟨v, rfl, h⟩ := IsA.one w
    cases h with
    | @tup a1 xs _ h hs => exact ⟨a1, xs, rfl, .inr (SqT.of h), fun t ht => q.dat (Ex.new ht) (.lst upd_same (hs.mono (Ex.new ht)))⟩) hg (by decide) (by decide) he hpl
theorem ev_tupleL {p : Pos} (hm : X.mg "tuple" = none) (ha : EV X σ H a (.list ds)) (hg : Gl X "tuple" := by rfl) (he : starEach [a] X.env = (false, eval a X.env) :: starEach [] X.env := by rfl) (hpl : (backTo pos (starEach [] X.env)).any (·.1) = false := by rfl) : EV X σ H (.Call (.Name "tuple" p) [a] [] pos) (.tuple ds) :=
  ew_ct call_tuple_of hm boot_tuple' (av_cons ha av_nil he) (fun vs H2 _ w Q q => by
    obtain ⟨v, rfl, h⟩ := IsA.one w
    cases h with
    | @lst a1 xs _ h hs => exact ⟨a1, xs, rfl, .inl ⟨SqL.of h, fun t ht => q.dat (Ex.new ht) (.tup upd_same (hs.mono (Ex.new ht)))⟩⟩) hg (by decide) (by decide) he hpl
theorem ev_tupleT {p : Pos} (hm : X.mg "tuple" = none) (ha : EV X σ H a (.tuple ds)) (hg : Gl X "tuple" := by rfl) (he : starEach [a] X.env = (false, eval a X.env) :: starEach [] X.env := by rfl) (hpl : (backTo pos (starEach [] X.env)).any (·.1) = false := by rfl) : EV X σ H (.Call (.Name "tuple" p) [a] [] pos) (.tuple ds) :=
  ew_ct call_tuple_of hm boot_tuple' (av_cons ha av_nil he) (fun vs H2 _ w Q q => by
    obtain ⟨v, rfl, h⟩ := IsA.one w
    cases h with
    | @tup a1 xs _ h hs => exact ⟨a1, xs, rfl, .inr ⟨SqT.of h, q.dat (Ex.refl H2) (.tup h hs)⟩⟩) hg (by decide) (by decide) he hpl
theorem ev_sum {p : Pos} {ns : List Int} (hm : X.mg "sum" = none) (hc : X.calm = true) (ha : EV X σ H a (.list (ns.map PyData.int))) (hg : Gl X "sum" := by rfl) (he : starEach [a] X.env = (false, eval a X.env) :: starEach [] X.env := by rfl) (hpl : (backTo pos (starEach [] X.env)).any (·.1) = false := by rfl) : EV X σ H (.Call (.Name "sum" p) [a] [] pos) (.int ns.sum) :=
  ew_cb (cr_sum hc) hm boot_sum' (av_cons ha av_nil he) (fun vs H2 _ w Q q => by
    obtain ⟨v, rfl, h⟩ := IsA.one w
    cases h with
    | @lst a1 xs _ h hs =>
      have e := hs.ints_eq
      subst e
      exact ⟨a1, ns, rfl, SqL.of h, q.dat (Ex.refl H2) (.int _)⟩) hg (by decide) (by decide) he hpl
theorem ev_all {p : Pos} {ns : List Bool} (hm : X.mg "all" = none) (hc : X.calm = true) (ha : EV X σ H a (.list (ns.map PyData.bool))) (hg : Gl X "all" := by rfl) (he : starEach [a] X.env = (false, eval a X.env) :: starEach [] X.env := by rfl) (hpl : (backTo pos (starEach [] X.env)).any (·.1) = false := by rfl) : EV X σ H (.Call (.Name "all" p) [a] [] pos) (.bool (ns.all id)) :=
  ew_cb (cr_all hc) hm boot_all' (av_cons ha av_nil he) (fun vs H2 _ w Q q => by
    obtain ⟨v, rfl, h⟩ := IsA.one w
    cases h with
    | @lst a1 xs _ h hs =>
      have e := hs.bls_eq
      subst e
      exact ⟨a1, ns, rfl, SqL.of h, q.dat (Ex.refl H2) (.bl _)⟩) hg (by decide) (by decide) he hpl
theorem ev_intI {p : Pos} (hm : X.mg "int" = none) (ha : EV X σ H a (.int i)) (hg : Gl X "int" := by rfl) (he : starEach [a] X.env = (false, eval a X.env) :: starEach [] X.env := by rfl) (hpl : (backTo pos (starEach [] X.env)).any (·.1) = false := by rfl) : EV X σ H (.Call (.Name "int" p) [a] [] pos) (.int i) :=
  ew_ct call_int1 hm boot_int' (av_cons ha av_nil he) (fun vs H2 _ w Q q => by
    obtain ⟨v, rfl, h⟩ := IsA.one w
    rw [h.int_eq]
    exact .inl ⟨i, rfl, q.dat (Ex.refl H2) (.int _)⟩) hg (by decide) (by decide) he hpl
theorem ev_strI {p : Pos} (hm : X.mg "str" = none) (ha : EV X σ H a (.int i)) (hz : i.natAbs.log2 < 1920) (hg : Gl X "str" := by rfl) (he : starEach [a] X.env = (false, eval a X.env) :: starEach [] X.env := by rfl) (hpl : (backTo pos (starEach [] X.env)).any (·.1) = false := by rfl) : EV X σ H (.Call (.Name "str" p) [a] [] pos) (.str (toString i)) :=
  ew_ct call_str_int hm boot_str' (av_cons ha av_nil he) (fun vs H2 _ w Q q => by
    obtain ⟨v, rfl, h⟩ := IsA.one w
    rw [h.int_eq]
    exact ⟨i, rfl, hz, q.dat (Ex.refl H2) (.str _)⟩) hg (by decide) (by decide) he hpl
theorem ev_min {p : Pos} (hm : X.mg "min" = none) (hc : X.calm = true) (ha : EV X σ H a (.int i)) (hb : EV X σ H b (.int j)) (hg : Gl X "min" := by rfl) (he : starEach [a, b] X.env = (false, eval a X.env) :: starEach [b] X.env := by rfl) (he2 : starEach [b] X.env = (false, eval b X.env) :: starEach [] X.env := by rfl) (hpl : (backTo pos (starEach [b] X.env)).any (·.1) = false := by rfl) : EV X σ H (.Call (.Name "min" p) [a, b] [] pos) (.int (if j < i then j else i)) :=
  ew_cb (call_min2 hc) hm boot_min' (av_cons ha (av_cons hb av_nil he2) he) (fun vs H2 _ w Q q => by
    cases w with
    | cons h t =>
      obtain ⟨u, rfl, h'⟩ := IsA.one t
      rw [h.int_eq, h'.int_eq]
      exact ⟨i, j, rfl, q.dat (Ex.refl H2) (.int _)⟩) hg (by decide) (by decide) he hpl
/-- what sorted(texts) leaves -/
def SortedOf (ss : List Str) : PV := fun v H => ∃ ys : List Str, ys.Perm ss ∧ PyProof.Rows.sortedS ys = true ∧ Is H v (.list (ys.map PyData.str))
theorem ew_sorted {p : Pos} {ss : List Str} (hm : X.mg "sorted" = none) (ha : EV X σ H a (.list (ss.map PyData.str))) (hl : ss.length < 64) (hg : Gl X "sorted" := by rfl) (he : starEach [a] X.env = (false, eval a X.env) :: starEach [] X.env := by rfl) (hpl : (backTo pos (starEach [] X.env)).any (·.1) = false := by rfl) : EW X σ H (.Call (.Name "sorted" p) [a] [] pos) (SortedOf ss) :=
  ew_cb cr_sortedS hm boot_sorted' (av_cons ha av_nil he) (fun vs H2 _ w Q q => by
    obtain ⟨v, rfl, h⟩ := IsA.one w
    cases h with
    | @lst a1 xs _ h hs =>
      have e := hs.strs_eq
      subst e
      exact ⟨a1, ss, rfl, SqL.of h, hl, fun ys p hp hs hn => q _ _ (Ex.new hn) fun H3 z => ⟨ys, hp, hs, (Is.lst upd_same (IsA.strs ys)).mono z⟩⟩) hg (by decide) (by decide) he hpl
/-! isinstance -/
def tyD : PyData → String
  | .none => "NoneType"
  | .bool _ => "bool"
  | .int _ => "int"
  | .str _ => "str"
  | .list _ => "list"
  | .tuple _ => "tuple"
  | .dict _ => "dict"
theorem Is.ty {K : PySem.W.Frag} (h : Is H v d) : TyX K H v (.type (tyD d)) := by
  cases h with
  | non => exact .base .non
  | bl b => exact .base (.bl b)
  | int b => exact .base (.int b)
  | str b => exact .base (.str b)
  | lst h _ => exact .base (.lst h)
  | tup h _ => exact .base (.tup h)
theorem ev_isi {p p2 : Pos} {x : Str} (hm : X.mg "isinstance" = none) (hm2 : X.mg x = none) (n : String) (ha : EV X σ H a d) (hb : bootBuiltins x = some (.type n)) (hk : kitB (tyD d) n = some k) (hg : Gl X "isinstance" := by rfl) (hg2 : Gl X x := by rfl)
    (he : starEach [a, .Name x p2] X.env = (false, eval a X.env) :: starEach [.Name x p2] X.env := by rfl) (he2 : starEach [.Name x p2] X.env = (false, eval (.Name x p2) X.env) :: starEach [] X.env := by rfl) (hpl : (backTo pos (starEach [.Name x p2] X.env)).any (·.1) = false := by rfl)
    (hn : x ≠ "__name__" := by decide) (hdb : (x == ("__debug__" : Str)) = false := by decide) : EV X σ H (.Call (.Name "isinstance" p) [a, .Name x p2] [] pos) (.bool k) :=
  ew_cb call_isi hm boot_isi' (aw_cons ha (aw_cons (ex_b (v := .ty n) hm2 hb rfl hg2 hn hdb) aw_nil he2) he) (fun vs H2 _ w Q q => by
    obtain ⟨v, r, rfl, h, u, r2, rfl, e, rfl⟩ := w
    have e' : u = .ty n := e
    subst e'
    exact ⟨v, .ty n, _, _, k, rfl, .ty n, h.ty, kit_ty hk, q.dat (Ex.refl H2) (.bl k)⟩) hg (by decide) (by decide) he hpl
end
end Pw
namespace Pw
open PySem PySem.Spec L2
open Evl (Ex)
/-! ### defs of the text, called -/
/-- a promise: the arguments, the heap, what the result is -/
def Pro (pre : List V → Hp → PV → Prop) : Sp := fun vs H Q _ => ∃ R, pre vs H R ∧ Giv H R Q
/-- the module's def x keeps sp -/
def Fnc (P : Program) (w : World) (K : PySem.W.Frag) (mg : Str → Option Value) (base : Heap) (k : Nat) (x : Str) (sp : Sp) : Prop :=
  ∃ (f : Addr) (fd : FuncData) (ps : List Str), FnOk P w K mg base (L2.CX P w) k f fd ps sp ∧ mg x = some (.ref f) ∧ PySem.W.keepIn K (.ref f) = true ∧ Binds K fd ps []
/-- the method m of the class at C keeps sp -/
def Mtd (P : Program) (w : World) (K : PySem.W.Frag) (mg : Str → Option Value) (base : Heap) (k : Nat) (C : Addr) (m : Str) (sp : Sp) : Prop :=
  ∃ (f : Addr) (fd : FuncData) (ps : List Str), FnOk P w K mg base (L2.CX P w) k f fd ps sp ∧ Meth K C m f ∧ Cls K C ∧ Binds K fd ps []
/-- the class x at C, its __init__ keeps sp -/
def Mkr (P : Program) (w : World) (K : PySem.W.Frag) (mg : Str → Option Value) (base : Heap) (k : Nat) (C : Addr) (x : Str) (sp : Sp) : Prop :=
  ∃ (f : Addr) (fd : FuncData) (ps : List Str), FnOk P w K mg base (L2.CX P w) k f fd ps sp ∧ Mk K C f ∧ mg x = some (.ref C) ∧ Binds K fd ps []
section
variable {X : Cx} {e a b c o : Expr} {es : List Expr} {σ : L2.St} {H H' : Hp} {P P' R : PV} {d d' : PyData} {ds : List PyData} {v u : V} {pos apos : Pos} {k l j : Nat} {x m : Str} {C : Addr} {PA : List V → Hp → Prop}
theorem ew_call {sp : Sp} {p : Pos} (F : Fnc X.prog X.w X.K X.mg X.base k x sp) (hr : Room j X.A) (hk : k ≤ j) (ha : AW X σ H (e :: es) PA) (hs : ∀ vs H2, Ex H H2 → PA vs H2 → ∀ Q, Giv H2 R Q → sp vs H2 Q E0)
    (hg : Gl X x := by rfl) (hdb : (x == ("__debug__" : Str)) = false := by decide) (he : starEach (e :: es) X.env = (false, eval e X.env) :: starEach es X.env := by rfl) (hpl : (backTo pos (starEach es X.env)).any (·.1) = false := by rfl) : EW X σ H (.Call (.Name x p) (e :: es) [] pos) R := by
  obtain ⟨f, fd, ps, F, hm, kp, hb⟩ := F
  exact fun H1 z Q q => toE (pe_call F (hr.mono hk) hg hm kp hb .nil passL pA hdb he hpl) (ha H1 z _ fun vs H2 z2 p => by
    rw [List.append_nil]
    exact hs vs H2 (z.trans z2) (p H2 (Ex.refl H2)) Q fun w H3 z3 g => q w H3 (z2.trans z3) g)
/-- by a promise of the form Pro -/
theorem ew_callP {pre : List V → Hp → PV → Prop} {p : Pos} (F : Fnc X.prog X.w X.K X.mg X.base k x (Pro pre)) (hr : Room j X.A) (hk : k ≤ j) (ha : AW X σ H (e :: es) PA) (hs : ∀ vs H2, Ex H H2 → PA vs H2 → pre vs H2 R)
    (hg : Gl X x := by rfl) (hdb : (x == ("__debug__" : Str)) = false := by decide) (he : starEach (e :: es) X.env = (false, eval e X.env) :: starEach es X.env := by rfl) (hpl : (backTo pos (starEach es X.env)).any (·.1) = false := by rfl) : EW X σ H (.Call (.Name x p) (e :: es) [] pos) R :=
  ew_call F hr hk ha (fun vs H2 y p Q q => ⟨R, hs vs H2 y p, q⟩) hg hdb he hpl
/-- o.f -/
theorem ex_fld {dx : Addr} {fs : List (Str × V)} {f : Str} (ho : EX X σ H o (.ref l)) (hH : H l = some (.ins C dx fs)) (c : Cls X.K C) (n : NoAttr X.K C f) (hl : fs.lookup f = some v) (hb : attributeBase o f X.env (eval o X.env) = eval o X.env := by rfl) : EX X σ H (.Attribute o f pos) v := fun H1 z Q q =>
  toE (pe_fld pE hb) (ho H1 z _ fun u H2 y p => ⟨l, C, dx, fs, v, p H2 (Ex.refl H2), (z.trans y) _ _ hH, c, n, hl, q.val y⟩)
/-- o.m(e, ..) -/
theorem ew_meth {sp : Sp} {dx : Addr} {fs : List (Str × V)} {pl : Sem Bool} (M : Mtd X.prog X.w X.K X.mg X.base k C m sp) (hr : Room j X.A) (hk : k ≤ j) (ho : EX X σ H o (.ref l)) (hH : H l = some (.ins C dx fs)) (hl : fs.lookup m = none) (ha : AW X σ H (e :: es) PA)
    (hs : ∀ vs H2, Ex H H2 → PA vs H2 → ∀ Q, Giv H2 R Q → sp (.ref l :: vs) H2 Q E0) (hst : starEach (e :: es) X.env = (false, eval e X.env) :: starEach es X.env := by rfl) (hpl : (backTo pos (starEach es X.env)).any (·.1) = false := by rfl)
    (ht : eval (.Call (.Attribute o m apos) (e :: es) [] pos) X.env = (do
      let ov ← eval o X.env
      standAt apos.atName
      let (f, first) ← holding [ov] (getMethod ov m pl)
      callWith pos f first (backTo pos (starEach (e :: es) X.env)) (backToKw pos (keywordEach [] X.env))) := by rfl) : EW X σ H (.Call (.Attribute o m apos) (e :: es) [] pos) R := by
  obtain ⟨f, fd, ps, F, hm, c, hb⟩ := M
  exact fun H1 z Q q => toE (pe_meth pE c hm F (hr.mono hk) hb .nil passL pA hst hpl ht) (ho H1 z _ fun u H2 y p => ⟨l, dx, fs, p H2 (Ex.refl H2), (z.trans y) _ _ hH, hl, ha H2 (z.trans y) _ fun vs H3 y2 p2 => by
    rw [List.append_nil, show u = .ref l from p H2 (Ex.refl H2)]
    exact hs vs H3 ((z.trans y).trans y2) (p2 H3 (Ex.refl H3)) Q fun w H4 z3 g => q w H4 ((y.trans y2).trans z3) g⟩)
theorem ew_meth0 {sp : Sp} {dx : Addr} {fs : List (Str × V)} {pl : Sem Bool} (M : Mtd X.prog X.w X.K X.mg X.base k C m sp) (hr : Room j X.A) (hk : k ≤ j) (ho : EX X σ H o (.ref l)) (hH : H l = some (.ins C dx fs)) (hl : fs.lookup m = none)
    (hs : ∀ H2, Ex H H2 → ∀ Q, Giv H2 R Q → sp [.ref l] H2 Q E0)
    (ht : eval (.Call (.Attribute o m apos) [] [] pos) X.env = (do
      let ov ← eval o X.env
      standAt apos.atName
      let (f, first) ← holding [ov] (getMethod ov m pl)
      callWith pos f first (backTo pos (starEach [] X.env)) (backToKw pos (keywordEach [] X.env))) := by rfl) : EW X σ H (.Call (.Attribute o m apos) [] [] pos) R := by
  obtain ⟨f, fd, ps, F, hm, c, hb⟩ := M
  exact fun H1 z Q q => toE (pe_meth0 pE c hm F (hr.mono hk) hb .nil passL ht) (ho H1 z _ fun u H2 y p => ⟨l, dx, fs, p H2 (Ex.refl H2), (z.trans y) _ _ hH, hl, by
    show sp (u :: ([] ++ [])) H2 Q E0
    rw [show u = .ref l from p H2 (Ex.refl H2)]
    exact hs H2 (z.trans y) Q fun w H3 z3 g => q w H3 (y.trans z3) g⟩)
end
/-! ### blocks -/
def tG (X : Cx) (tg : Expr) : TG := fun v σ H Q => ∀ (pins : List (Addr × Obj)) (s : Shared) (u : Value), Inv X pins σ H s → RelV v u → wpAny (model X.prog X.w) X.A (assign tg X.env u) (fun _ s' => ∃ σ' H', Inv X pins σ' H' s' ∧ Q σ' H') X.xe s
section
variable {X : Cx} {e a b c o : Expr} {es : List Expr} {st : Stmt} {sts rest : List Stmt} {σ : L2.St} {H H' : Hp} {P P' R : PV} {d d' : PyData} {ds : List PyData} {v u : V} {pos pos' : Pos} {i : Nat} {k : Bool} {x : Str} {D : Ends} {tg : Expr}
theorem pG : PG X tg (tG X tg) := ⟨fun pins s σ H v u Q I r h => h pins s u I r⟩
theorem toG {t : TG} {Q : L2.St → Hp → Prop} (h : PG X tg t) (q : t v σ H Q) : tG X tg v σ H Q := fun pins s u I r => h.run pins s σ H v u Q I r q
theorem gt_name {Q : L2.St → Hp → Prop} (hN : X.N.Nodup) (hi : X.N[i]? = some x) (q : Q (σ.set i (some v)) H) (hx : Loc X.env.scope x := by first | exact Or.inl rfl | exact Or.inr rfl) (hf : X.fn x = true ∨ X.env.scope.names.lookup x = some .local := by first | exact Or.inl rfl | exact Or.inr rfl) : tG X (.Name x pos) v σ H Q :=
  toG (pg_name hN hi hx hf) q
theorem go_nil (q : D.nx σ H) : tSs X [] D σ H := toSs pss_nil q
theorem go_cons (q : tS X st { D with nx := tSs X rest D } σ H) : tSs X (st :: rest) D σ H := toSs (pss_cons pS pSs) q
theorem go_one (q : tS X st D σ H) : tSs X [st] D σ H := toSs (pss_one pS) q
theorem st_set' (i : Nat) (h : EW X σ H e P) (q : ∀ v H1, Ex H H1 → P v H1 → D.nx (σ.set i (some v)) H1) (hN : X.N.Nodup) (hi : X.N[i]? = some x := by rfl) (hx : Loc X.env.scope x := by first | exact Or.inl rfl | exact Or.inr rfl)
    (hs : swapsWith e (some (.Name x pos')) pos.line X.env = pure false := by rfl) (hf : X.fn x = true ∨ X.env.scope.names.lookup x = some .local := by first | exact Or.inl rfl | exact Or.inr rfl) : tS X (.Assign [.Name x pos'] e pos) D σ H :=
  toS (ps_set hN hi hx pE hs hf) (h.run q)
/-- x = e, and on -/
theorem go_set (i : Nat) (hN : X.N.Nodup) (h : EW X σ H e P) (q : ∀ v H1, Ex H H1 → P v H1 → tSs X rest D (σ.set i (some v)) H1) (hi : X.N[i]? = some x := by rfl) (hx : Loc X.env.scope x := by first | exact Or.inl rfl | exact Or.inr rfl)
    (hs : swapsWith e (some (.Name x pos')) pos.line X.env = pure false := by rfl) (hf : X.fn x = true ∨ X.env.scope.names.lookup x = some .local := by first | exact Or.inl rfl | exact Or.inr rfl) : tSs X (.Assign [.Name x pos'] e pos :: rest) D σ H :=
  go_cons (st_set' i h q hN hi hx hs hf)
theorem go_ret (h : EW X σ H e P) (q : ∀ v H1, Ex H H1 → P v H1 → D.rt v H1) : tSs X (.Return (some e) pos :: rest) D σ H := go_cons (toS (ps_ret pE) (h.run q))
theorem go_if (h : TW X σ H c k) (h1 : k = true → ∀ H1, Ex H H1 → tSs X sts { D with nx := tSs X rest D } σ H1) (h2 : k = false → ∀ H1, Ex H H1 → tSs X [] { D with nx := tSs X rest D } σ H1) : tSs X (.If c sts [] pos :: rest) D σ H :=
  go_cons (toS (ps_if pT pSs pSs) (h.run fun H1 z => by
    cases k with
    | true => exact h1 rfl H1 z
    | false => exact h2 rfl H1 z))
/-- an if without else -/
theorem go_when (h : TW X σ H c k) (h1 : k = true → ∀ H1, Ex H H1 → tSs X sts { D with nx := tSs X rest D } σ H1) (h2 : k = false → ∀ H1, Ex H H1 → tSs X rest D σ H1) : tSs X (.If c sts [] pos :: rest) D σ H := go_if h h1 fun e H1 z => go_nil (h2 e H1 z)
theorem go_ifE {els : List Stmt} (h : TW X σ H c k) (h1 : k = true → ∀ H1, Ex H H1 → tSs X sts { D with nx := tSs X rest D } σ H1) (h2 : k = false → ∀ H1, Ex H H1 → tSs X els { D with nx := tSs X rest D } σ H1) : tSs X (.If c sts els pos :: rest) D σ H :=
  go_cons (toS (ps_if pT pSs pSs) (h.run fun H1 z => by
    cases k with
    | true => exact h1 rfl H1 z
    | false => exact h2 rfl H1 z))
theorem go_aug {op : Operator} {r : R2} (i : Nat) (hN : X.N.Nodup) (ho : OpR X (inplaceOp op) r) (hσ : σ[i]? = some (some u)) (h : EW X σ H e P) (q : ∀ v H1, Ex H H1 → P v H1 → r u v H1 fun z H2 => tSs X rest D (σ.set i (some z)) H2) (hi : X.N[i]? = some x := by rfl) (hx : Loc X.env.scope x := by first | exact Or.inl rfl | exact Or.inr rfl)
    (hf : X.fn x = true ∨ X.env.scope.names.lookup x = some .local := by first | exact Or.inl rfl | exact Or.inr rfl) : tSs X (.AugAssign (.Name x pos') op e pos :: rest) D σ H :=
  go_cons (toS (ps_aug hN hi hx pE ho hf) ⟨u, hσ, h.run q⟩)
theorem go_expr (h : tE X e σ H fun _ H1 => tSs X rest D σ H1) (hs : swapsWith e none pos.line X.env = pure false := by rfl) : tSs X (.Expr e pos :: rest) D σ H := go_cons (toS (ps_expr pE hs) h)
/-- e.f = value -/
theorem go_fld {y : Expr} {l C dx : Addr} {fs : List (Str × V)} {f : Str} (hv : EW X σ H y P) (ho : EX X σ H o (.ref l)) (hH : H l = some (.ins C dx fs)) (c : Cls X.K C) (n : NoAttr X.K C f) (hl : fs.length < 1000) (q : ∀ v H1, Ex H H1 → P v H1 → tSs X rest D σ (upd H1 l (.ins C dx (putF f v fs))))
    (hs : swapsWith y (some (.Attribute o f pos')) pos.line X.env = pure false := by rfl) : tSs X (.Assign [.Attribute o f pos'] y pos :: rest) D σ H :=
  go_cons (toS (ps_fld pE pE hs) (hv H (Ex.refl H) _ fun v H1 z p => ho H1 z _ fun u H2 z2 p2 => ⟨l, C, dx, fs, p2 H2 (Ex.refl H2), (z.trans z2) _ _ hH, c, n, hl, q v H2 (z.trans z2) (p H2 z2)⟩))
/-- d[key] = value, the dict tracked -/
theorem go_dput {y i : Expr} {l : Addr} {kvs : List (Key × V)} {z : Str} (hu : X.A.units + 1 < cLine) (hv : EW X σ H y P) (ho : EX X σ H o (.ref l)) (hi : EV X σ H i (.str z)) (hH : H l = some (.dK kvs)) (hl : kvs.length < 100000) (q : ∀ v H1, Ex H H1 → P v H1 → tSs X rest D σ (upd H1 l (.dK (putK kvs (.inr z) v))))
    (hs : swapsWith y (some (.Subscript o i pos')) pos.line X.env = pure false := by rfl) : tSs X (.Assign [.Subscript o i pos'] y pos :: rest) D σ H :=
  go_cons (toS (ps_dput hu pE pE pE hs) (hv H (Ex.refl H) _ fun v H1 z1 p => ho H1 z1 _ fun u H2 z2 p2 => hi H2 (z1.trans z2) _ fun w H3 z3 p3 => ⟨l, _, p2 H2 (Ex.refl H2), by
    rw [(p3 H3 (Ex.refl H3)).str_eq]
    exact DPut.k (k := .inr z) (((z1.trans z2).trans z3) _ _ hH) (sz10' (Nat.le_of_lt hl)), q v H3 ((z1.trans z2).trans z3) (p H3 (z2.trans z3))⟩))
/-- xs[i] = value, the list tracked -/
theorem go_lput {y i : Expr} {l : Addr} {xs : List V} {z : Int} {n : Nat} (hv : EW X σ H y P) (ho : EX X σ H o (.ref l)) (hi : EV X σ H i (.int z)) (hH : H l = some (.lst xs)) (hn : ixN xs.length z = some n) (q : ∀ v H1, Ex H H1 → P v H1 → tSs X rest D σ (upd H1 l (.lst (xs.set n v))))
    (hs : swapsWithSole [.Subscript o i pos'] y pos.line X.env = pure false := by rfl) (hw : swappedStores [.Subscript o i pos'] y X.env = pure none := by rfl) (h1 : (assignEach [.Subscript o i pos'] X.env).map (·.2) = [assign (.Subscript o i pos') X.env] := by rfl)
    (ha : ∀ v, assign (.Subscript o i pos') X.env v = (do
      let ov ← holding [v] (eval o X.env)
      let iv ← holding [v, ov] (eval i X.env)
      standAt pos'
      holding [v, ov, iv] (setItem ov iv v)
      release [v, ov, iv] []) := by intro _; rfl) : tSs X (.Assign [.Subscript o i pos'] y pos :: rest) D σ H :=
  go_cons (toS (ps_asg pE (pg_sub pE pE set_list ha) hs hw h1) (hv H (Ex.refl H) _ fun v H1 z1 p => ho H1 z1 _ fun u H2 z2 p2 => hi H2 (z1.trans z2) _ fun w H3 z3 p3 => by
    rw [(p3 H3 (Ex.refl H3)).int_eq]
    exact ⟨l, xs, z, n, p2 H2 (Ex.refl H2), rfl, ((z1.trans z2).trans z3) _ _ hH, hn, q v H3 ((z1.trans z2).trans z3) (p H3 (z2.trans z3))⟩))
/-- xs.append(e) -/
theorem go_app {y : Expr} {l : Addr} {xs : List V} {apos cpos : Pos} (ho : EX X σ H o (.ref l)) (hv : EW X σ H y P) (hH : H l = some (.lst xs)) (hl : xs.length < 100000) (q : ∀ v H1, Ex H H1 → P v H1 → tSs X rest D σ (upd H1 l (.lst (xs ++ [v]))))
    (hp : PE X (.Call (.Attribute o "append" apos) [y] [] cpos) (tBM X.K "list" rAppend (tE X o) (tCons (tE X y) tNil))) (hs : swapsWith (.Call (.Attribute o "append" apos) [y] [] cpos) none pos.line X.env = pure false := by rfl) : tSs X (.Expr (.Call (.Attribute o "append" apos) [y] [] cpos) pos :: rest) D σ H :=
  go_expr (toE hp (ho H (Ex.refl H) _ fun u H1 z1 p => by
    have e : u = .ref l := p H1 (Ex.refl H1)
    subst e
    exact ⟨.inl ⟨rfl, xs, SqL.of (z1 _ _ hH)⟩, hv H1 z1 _ fun v H2 z2 p2 => ⟨l, xs, v, rfl, rfl, (z1.trans z2) _ _ hH, sz10' (Nat.le_of_lt hl), q v H2 (z1.trans z2) (p2 H2 (Ex.refl H2))⟩⟩)) hs
end
end Pw
namespace Pw
open PySem PySem.Spec L2
open Evl (Ex)
/-! ### loops -/
/-- all but p stands -/
def ExB (p : Addr) (H H' : Hp) : Prop := ∀ b o, b ≠ p → H b = some o → H' b = some o
theorem ExB.refl {p : Addr} {H : Hp} : ExB p H H := fun _ _ _ h => h
theorem ExB.ex {p : Addr} {H H1 H2 : Hp} (a : ExB p H H1) (e : Ex H1 H2) : ExB p H H2 := fun b o n h => e b o (a b o n h)
theorem ExB.put {p : Addr} {H H1 : Hp} {o : HO} (a : ExB p H H1) : ExB p H (upd H1 p o) := fun b u n h => by
  rw [upd_ne n]
  exact a b u n h
theorem Ex.exB {p : Addr} {H H1 : Hp} (e : Ex H H1) : ExB p H H1 := fun b o _ h => e b o h
section
variable {X : Cx} {e a b c o iter : Expr} {es : List Expr} {st : Stmt} {sts rest body : List Stmt} {σ : L2.St} {H H' : Hp} {P P' R : PV} {d d' : PyData} {ds : List PyData} {v u : V} {pos pos' : Pos} {i : Nat} {k : Bool} {x : Str} {D : Ends} {tg : Expr}
/-- for tg in list: -/
theorem go_forL (hp : PassesOwn (model X.prog X.w) X.A X.env X.xe) (hc : X.calm = true) (hi : EV X σ H iter (.list ds))
    (q : ∀ (l : Addr) (xs : List V) (H1 : Hp), Ex H H1 → H1 l = some (.lst xs) → IsA H1 xs ds → ∃ Pv : Nat → L2.St → Hp → Prop, Pv 0 σ H1 ∧ (∀ i σ' H', Pv i σ' H' → H' l = some (.lst xs)) ∧
      (∀ i v d σ' H', xs[i]? = some v → ds[i]? = some d → Is H1 v d → Pv i σ' H' → tG X tg v σ' H' fun σ2 H2 => tSs X body { D with nx := Pv (i + 1), ct := Pv (i + 1), bk := tSs X rest D } σ2 H2) ∧ (∀ σ' H', Pv ds.length σ' H' → tSs X rest D σ' H'))
    (hs : ∀ x, foldedSetIterable iter X.env x = pure x := by intro _; rfl) : tSs X (.For tg iter body [] pos :: rest) D σ H :=
  go_cons (toS (ps_for hp hc (pi_list pE) pG pSs hs) (hi.run fun v H1 z r => by
    cases r with
    | @lst l xs _ h hs =>
      obtain ⟨Pv, h0, hl, hst, hd⟩ := q l xs H1 z h hs
      refine ⟨l, rfl, ⟨xs, SqL.of h⟩, for_list (K := X.K) (a := l) (xs := xs) Pv h0 (fun i σ' H' _ p => SqL.of (hl i σ' H' p)) (fun i v σ' H' e p => ?_) (fun σ' H' p => hd σ' H' (by rw [← hs.length]; exact p))⟩
      obtain ⟨d, e2, r⟩ := hs.at_ e
      exact hst i v d σ' H' e e2 r p))
theorem go_forT (hp : PassesOwn (model X.prog X.w) X.A X.env X.xe) (hc : X.calm = true) (hi : EV X σ H iter (.tuple ds))
    (q : ∀ (l : Addr) (xs : List V) (H1 : Hp), Ex H H1 → H1 l = some (.tup xs) → IsA H1 xs ds → ∃ Pv : Nat → L2.St → Hp → Prop, Pv 0 σ H1 ∧ (∀ i σ' H', Pv i σ' H' → H' l = some (.tup xs)) ∧
      (∀ i v d σ' H', xs[i]? = some v → ds[i]? = some d → Is H1 v d → Pv i σ' H' → tG X tg v σ' H' fun σ2 H2 => tSs X body { D with nx := Pv (i + 1), ct := Pv (i + 1), bk := tSs X rest D } σ2 H2) ∧ (∀ σ' H', Pv ds.length σ' H' → tSs X rest D σ' H'))
    (hs : ∀ x, foldedSetIterable iter X.env x = pure x := by intro _; rfl) : tSs X (.For tg iter body [] pos :: rest) D σ H :=
  go_cons (toS (ps_for hp hc (pi_tup pE) pG pSs hs) (hi.run fun v H1 z r => by
    cases r with
    | @tup l xs _ h hs =>
      obtain ⟨Pv, h0, hl, hst, hd⟩ := q l xs H1 z h hs
      refine ⟨l, rfl, ⟨xs, SqT.of h⟩, for_tup (K := X.K) (a := l) (xs := xs) Pv h0 (fun i σ' H' _ p => SqT.of (hl i σ' H' p)) (fun i v σ' H' e p => ?_) (fun σ' H' p => hd σ' H' (by rw [← hs.length]; exact p))⟩
      obtain ⟨d, e2, r⟩ := hs.at_ e
      exact hst i v d σ' H' e e2 r p))
/-- for k in range(n): -/
theorem go_forR {p : Pos} {n : Nat} (hp : PassesOwn (model X.prog X.w) X.A X.env X.xe) (hc : X.calm = true) (hm : X.mg "range" = none) (hi : EV X σ H a (.int n)) (hn : n ≤ 100000)
    (q : ∀ (H1 : Hp), Ex H H1 → ∃ Pv : Nat → L2.St → Hp → Prop, Pv 0 σ H1 ∧
      (∀ (i : Nat) σ' H', i < n → Pv i σ' H' → tG X tg (.int i) σ' H' fun σ2 H2 => tSs X body { D with nx := Pv (i + 1), ct := Pv (i + 1), bk := tSs X rest D } σ2 H2) ∧ (∀ σ' H', Pv n σ' H' → tSs X rest D σ' H'))
    (hg : Gl X "range" := by rfl) (hs1 : starEach [a] X.env = [(false, eval a X.env)] := by rfl) : tSs X (.For tg (.Call (.Name "range" p) [a] [] pos') body [] pos :: rest) D σ H :=
  go_cons (toS (ps_for hp hc (pi_range1 hg hm pA hs1) pG pSs) ((av_cons hi av_nil hs1).run fun vs H1 z r => by
    obtain ⟨Pv, h0, hst, hd⟩ := q H1 z
    obtain ⟨v, rfl, r2⟩ := IsA.one r
    rw [r2.int_eq]
    have e0 : ((n : Int)).toNat = n := by omega
    refine ⟨n, rfl, by omega, by omega, ?_⟩
    rw [e0]
    refine for_range (lo := 0) (n := n) Pv h0 (fun i σ' H' hi p => ?_) hd
    rw [Int.zero_add]
    exact hst i σ' H' hi p))
/-- the targets a, b and a, b, c of a tuple -/
theorem gt_tup2 {e1 e2 : Expr} {kk : Nat} {d1 d2 : PyData} {Q : L2.St → Hp → Prop} (hc : X.calm = true) (h : Is H v (.tuple [d1, d2])) (q : ∀ v1 v2, Is H v1 d1 → Is H v2 d2 → tG X e1 v1 σ H fun σ1 H1 => tG X e2 v2 σ1 H1 Q)
    (hn : (assignEach [e1, e2] X.env).length = 2 := by rfl) (hst : (assignEach [e1, e2] X.env).findIdx? (·.1) = none := by rfl) (hs : (assignEach [e1, e2] X.env).map (·.2) = assign e1 X.env :: (assignEach [e2] X.env).map (·.2) := by rfl) (hs2 : (assignEach [e2] X.env).map (·.2) = assign e2 X.env :: (assignEach [] X.env).map (·.2) := by rfl) :
    tG X (.Tuple [e1, e2] kk pos) v σ H Q := toG (pg_tup hc (pgs_cons pG (pgs_cons pG pgs_nil hs2) hs) hn hst) (by
  cases h with
  | @tup l xs _ h hs =>
    cases hs with
    | @cons v1 r _ _ i1 t =>
      obtain ⟨v2, rfl, i2⟩ := IsA.one t
      exact ⟨l, _, rfl, SqT.of h, rfl, v1, [v2], rfl, toG pG (fun pins s u I r => wpAny_mono (q v1 v2 i1 i2 pins s u I r) (fun _ s' ⟨σ1, H1, J, w⟩ => ⟨σ1, H1, J, v2, [], rfl, toG pG (fun pins s u I r => wpAny_mono (w pins s u I r) (fun _ s' ⟨σ1, H1, J, w⟩ => ⟨σ1, H1, J, rfl, w⟩) fun _ _ z => z)⟩) fun _ _ z => z)⟩)
theorem gt_tup3 {e1 e2 e3 : Expr} {kk : Nat} {d1 d2 d3 : PyData} {Q : L2.St → Hp → Prop} (hc : X.calm = true) (h : Is H v (.tuple [d1, d2, d3])) (q : ∀ v1 v2 v3, Is H v1 d1 → Is H v2 d2 → Is H v3 d3 → tG X e1 v1 σ H fun σ1 H1 => tG X e2 v2 σ1 H1 fun σ2 H2 => tG X e3 v3 σ2 H2 Q)
    (hn : (assignEach [e1, e2, e3] X.env).length = 3 := by rfl) (hst : (assignEach [e1, e2, e3] X.env).findIdx? (·.1) = none := by rfl) (hs : (assignEach [e1, e2, e3] X.env).map (·.2) = assign e1 X.env :: (assignEach [e2, e3] X.env).map (·.2) := by rfl) (hs2 : (assignEach [e2, e3] X.env).map (·.2) = assign e2 X.env :: (assignEach [e3] X.env).map (·.2) := by rfl) (hs3 : (assignEach [e3] X.env).map (·.2) = assign e3 X.env :: (assignEach [] X.env).map (·.2) := by rfl) :
    tG X (.Tuple [e1, e2, e3] kk pos) v σ H Q := toG (pg_tup hc (pgs_cons pG (pgs_cons pG (pgs_cons pG pgs_nil hs3) hs2) hs) hn hst) (by
  cases h with
  | @tup l xs _ h hs =>
    cases hs with
    | @cons v1 r _ _ i1 t =>
      cases t with
      | @cons v2 r _ _ i2 t =>
        obtain ⟨v3, rfl, i3⟩ := IsA.one t
        exact ⟨l, _, rfl, SqT.of h, rfl, v1, [v2, v3], rfl, toG pG (fun pins s u I r => wpAny_mono (q v1 v2 v3 i1 i2 i3 pins s u I r) (fun _ s' ⟨σ1, H1, J, w⟩ => ⟨σ1, H1, J, v2, [v3], rfl, toG pG (fun pins s u I r => wpAny_mono (w pins s u I r) (fun _ s' ⟨σ1, H1, J, w⟩ => ⟨σ1, H1, J, v3, [], rfl, toG pG (fun pins s u I r => wpAny_mono (w pins s u I r) (fun _ s' ⟨σ1, H1, J, w⟩ => ⟨σ1, H1, J, rfl, w⟩) fun _ _ z => z)⟩) fun _ _ z => z)⟩) fun _ _ z => z)⟩)
end
/-! ### list comprehensions -/
/-- the readings within a comprehension's block, for every block -/
def bE (X : Cx) (scope : Scope) (e : Expr) : TE := fun σ H Q => ∀ (s : Shared) (H0 : Hp) (C : Addr) (cl : List (Str × Addr)) (fp : List Addr), tE (X.blk s H0 scope (compEnvC scope cl C X.env) fp) e σ H Q
def bT (X : Cx) (scope : Scope) (e : Expr) : TT := fun σ H Q => ∀ (s : Shared) (H0 : Hp) (C : Addr) (cl : List (Str × Addr)) (fp : List Addr), tT (X.blk s H0 scope (compEnvC scope cl C X.env) fp) e σ H Q
def bG (X : Cx) (scope : Scope) (e : Expr) : TG := fun v σ H Q => ∀ (s : Shared) (H0 : Hp) (C : Addr) (cl : List (Str × Addr)) (fp : List Addr), tG (X.blk s H0 scope (compEnvC scope cl C X.env) fp) e v σ H Q
section
variable {X : Cx} {e a b c o iter elt tg : Expr} {σ : L2.St} {H H' : Hp} {P P' R : PV} {d d' : PyData} {ds : List PyData} {v u : V} {pos pos' : Pos} {i : Nat} {k : Bool} {x : Str} {scope : Scope} {own : List (Str × Nat)} {s : Shared} {H0 : Hp} {C : Addr} {cl : List (Str × Addr)} {fp : List Addr}
theorem pbE : PE (X.blk s H0 scope (compEnvC scope cl C X.env) fp) e (bE X scope e) := ⟨fun pins s' σ H Q I h => h s H0 C cl fp pins s' I⟩
theorem pbT : PT (X.blk s H0 scope (compEnvC scope cl C X.env) fp) e (bT X scope e) := ⟨fun pins s' σ H Q I h => h s H0 C cl fp pins s' I⟩
theorem pbG : PG (X.blk s H0 scope (compEnvC scope cl C X.env) fp) e (bG X scope e) := ⟨fun pins s' σ H v u Q I r h => h s H0 C cl fp pins s' u I r⟩
/-- in every block -/
def EB (X : Cx) (scope : Scope) (σ : L2.St) (H : Hp) (e : Expr) (P : PV) : Prop := ∀ (s : Shared) (H0 : Hp) (C : Addr) (cl : List (Str × Addr)) (fp : List Addr), EW (X.blk s H0 scope (compEnvC scope cl C X.env) fp) σ H e P
def TB (X : Cx) (scope : Scope) (σ : L2.St) (H : Hp) (e : Expr) (k : Bool) : Prop := ∀ (s : Shared) (H0 : Hp) (C : Addr) (cl : List (Str × Addr)) (fp : List Addr), TW (X.blk s H0 scope (compEnvC scope cl C X.env) fp) σ H e k
theorem EB.run {Q : VK} (h : EB X scope σ H e P) (x : Ex H H') (q : Giv H' P Q) : bE X scope e σ H' Q := fun s H0 C cl fp => h s H0 C cl fp H' x Q q
theorem TB.run {Q : Bool → Hp → Prop} (h : TB X scope σ H e k) (x : Ex H H') (q : ∀ H2, Ex H' H2 → Q k H2) : bT X scope e σ H' Q := fun s H0 C cl fp => h s H0 C cl fp H' x Q q
end
end Pw
namespace Pw
open PySem PySem.Spec L2
open Evl (Ex)
/-! ### an object put out of sight while a part runs -/
/-- the heap without the object at D -/
def delA (H : Hp) (D : Addr) : Hp := fun b => if b = D then none else H b
section
variable {H H' : Hp} {D b : Addr} {o u : HO}
theorem delA_at : delA H D D = none := if_pos rfl
theorem delA_ne (h : b ≠ D) : delA H D b = H b := if_neg h
theorem delA_ex : Ex (delA H D) H := fun b o h => by
  unfold delA at h
  by_cases e : b = D
  · rw [if_pos e] at h; cases h
  · rw [if_neg e] at h; exact h
theorem delA_upd (h : H D = none) : delA (upd H D o) D = H := by
  funext b
  by_cases e : b = D
  · rw [e, delA_at, h]
  · rw [delA_ne e, upd_ne e]
theorem delA_put (h : H' D = none) : delA (upd H' D o) D = H' := delA_upd h
/-- what leans on no other object: a list, a dict of int and text keys -/
def Alone : HO → Prop
  | .lst _ => True
  | .dK _ => True
  | _ => False
end
section
variable {X : Cx} {pins : List (Addr × Obj)} {σ : L2.St} {H : Hp} {s : Shared} {D : Addr} {o : HO}
theorem alone_obj {P : Program} {w : World} {H : Hp} {h : Heap} (a : Alone o) (x : ObjOk P w H h D o) : ∃ ob, h.get? D = some ob ∧ (∀ v, ob.data ≠ .cell v) ∧ ∀ (H2 : Hp) (h2 : Heap), h2.get? D = some ob → ObjOk P w H2 h2 D o := by
  cases o with
  | lst xs =>
    obtain ⟨z, its, n, r, e⟩ := x
    exact ⟨_, e, (fun v q => nomatch q), fun H2 h2 e2 => ⟨z, its, n, r, e2⟩⟩
  | dK kvs =>
    obtain ⟨z, y, vs, r, ob, es, ep, e, c1, c2, c3⟩ := x
    exact ⟨ob, e, (fun v q => by rw [c2] at q; cases q), fun H2 h2 e2 => ⟨z, y, vs, r, ob, es, ep, e2, c1, c2, c3⟩⟩
  | _ => exact a.elim
theorem Inv.fsFree (I : Inv X pins σ H s) {b : Addr} (hb : b ∈ X.fs) : H b = none := by
  obtain ⟨_, ob, ho, _⟩ := I.ok.funs.mem hb
  exact I.base.free b ob ho (I.ok.frf b hb) fun z => I.ok.exfs b z hb
/-- put out of sight, pinned -/
theorem Inv.hide (I : Inv X pins σ H s) (hD : H D = some o) (a : Alone o) : ∃ ob, Inv X (pins ++ [(D, ob)]) σ (delA H D) s ∧ (∀ (H2 : Hp) (h2 : Heap), h2.get? D = some ob → ObjOk X.prog X.w H2 h2 D o) := by
  obtain ⟨ob, e, nc, back⟩ := alone_obj a (I.hok D o hD)
  have nt : ∀ b xs, H b = some (.tup xs) → b ≠ D := fun b xs h z => by
    subst z; rw [hD] at h; cases h; exact a
  have no : ∀ b y, H b = some (.own y) → b ≠ D := fun b y h z => by
    subst z; rw [hD] at h; cases h; exact a
  have nf : ∀ b ob u, H b = some (.frz ob u) → b ≠ D := fun b ob u h z => by
    subst z; rw [hD] at h; cases h; exact a
  have nb : ∀ b ps, H b = some (.tbl ps) → b ≠ D := fun b ps h z => by
    subst z; rw [hD] at h; cases h; exact a
  refine ⟨ob, ⟨I.ok, I.os, I.bare, ⟨I.base.keep, I.base.slot, fun b u q n hx => ?_, I.base.there, fun b xs q => ?_, fun b u v q => ?_, fun b ps q => ?_⟩, I.loc, I.cell, ?_, fun x c q => ?_, fun p hp => ?_, fun b u q => ?_, I.len⟩, back⟩
  · have q2 := I.base.free b u q n hx
    rw [delA_ne (fun z => by rw [z, hD] at q2; cases q2)]
    exact q2
  · have q2 := I.base.tups b xs q
    rw [delA_ne (nt _ _ q2)]
    exact q2
  · have q2 := I.base.frzs b u v q
    rw [delA_ne (nf _ _ _ q2)]
    exact q2
  · obtain ⟨m, q2⟩ := I.base.tbls b ps q
    exact ⟨m, by rw [delA_ne (nb _ _ q2)]; exact q2⟩
  · by_cases z : X.env.locals = D
    · rw [z, delA_at]
    · rw [delA_ne z]; exact I.free
  · by_cases z : c = D
    · rw [z, delA_at]
    · rw [delA_ne z]; exact I.freeC x c q
  · have key : p ∈ X.pn ++ pins ∨ p = (D, ob) := by
      rcases List.mem_append.mp hp with h | h
      · exact .inl (List.mem_append_left _ h)
      · rcases List.mem_append.mp h with h | h
        · exact .inl (List.mem_append_right _ h)
        · exact .inr (by simpa using h)
    rcases key with h | h
    · obtain ⟨h1, h2, h3, h4, h5⟩ := I.pin p h
      refine ⟨h1, ?_, h3, h4, h5⟩
      by_cases z : p.1 = D
      · rw [z, delA_at]
      · rw [delA_ne z]; exact h2
    · subst h
      refine ⟨e, delA_at, ?_, ?_, nc⟩
      · intro z
        have z' : D = X.env.locals := z
        rw [z', I.free] at hD
        cases hD
      · intro z
        have z' : D ∈ X.fs := z
        rw [Inv.fsFree I z'] at hD
        cases hD
  · have nD : b ≠ D := fun z => by rw [z, delA_at] at q; cases q
    rw [delA_ne nD] at q
    exact (I.hok b u q).stay (fun c w _ r => r) (fun c r => by rw [delA_ne (no _ _ r)]; exact r) fun c xs r => by rw [delA_ne (nt _ _ r)]; exact r
/-- back in sight -/
theorem Inv.unhide {ob : Obj} {σ0 : L2.St} {H0 : Hp} {s0 : Shared} (I0 : Inv X pins σ0 H0 s0) (hD : H0 D = some o) (I : Inv X (pins ++ [(D, ob)]) σ H s) (back : ∀ (H2 : Hp) (h2 : Heap), h2.get? D = some ob → ObjOk X.prog X.w H2 h2 D o) : H D = none ∧ Inv X pins σ (upd H D o) s := by
  obtain ⟨p1, p2, p3, p4, p5⟩ := I.pin (D, ob) (List.mem_append_right _ (List.mem_append_right _ (by simp)))
  have p2 : H D = none := p2
  refine ⟨p2, ⟨I.ok, I.os, I.bare, ⟨I.base.keep, I.base.slot, fun b u q n hx => ?_, I.base.there, fun b xs q => ?_, fun b u v q => ?_, fun b ps q => ?_⟩, I.loc, I.cell, ?_, fun x c q => ?_, fun p hp => ?_, fun b u q => ?_, I.len⟩⟩
  · have nD : b ≠ D := fun z => by
      have q2 := I0.base.free b u q n hx
      rw [z, hD] at q2; cases q2
    rw [upd_ne nD]
    exact I.base.free b u q n hx
  · rw [upd_ne (ne_of_none (I.base.tups b xs q) p2)]
    exact I.base.tups b xs q
  · rw [upd_ne (ne_of_none (I.base.frzs b u v q) p2)]
    exact I.base.frzs b u v q
  · obtain ⟨m, q2⟩ := I.base.tbls b ps q
    exact ⟨m, by rw [upd_ne (ne_of_none q2 p2)]; exact q2⟩
  · rw [upd_ne (Ne.symm p3)]
    exact I.free
  · have nD : c ≠ D := fun z => by
      have q2 := I0.freeC x c q
      rw [z, hD] at q2; cases q2
    rw [upd_ne nD]
    exact I.freeC x c q
  · have hp' : p ∈ X.pn ++ (pins ++ [(D, ob)]) := by
      rcases List.mem_append.mp hp with h | h
      · exact List.mem_append_left _ h
      · exact List.mem_append_right _ (List.mem_append_left _ h)
    obtain ⟨h1, h2, h3, h4, h5⟩ := I.pin p hp'
    have nD : p.1 ≠ D := fun z => by
      have q2 := (I0.pin p hp).2.1
      rw [z, hD] at q2; cases q2
    exact ⟨h1, by rw [upd_ne nD]; exact h2, h3, h4, h5⟩
  · by_cases z : b = D
    · subst z
      rw [upd_same] at q
      cases q
      exact back _ _ p1
    · rw [upd_ne z] at q
      exact (I.hok b u q).stay (fun c w _ r => r) (fun c r => by rw [upd_ne (ne_of_none r p2)]; exact r) fun c xs r => by rw [upd_ne (ne_of_none r p2)]; exact r
/-- e runs while the object at D is out of sight -/
theorem tE_hide {e : Expr} {Q : VK} (hD : H D = some o) (a : Alone o) (h : tE X e σ (delA H D) fun v H2 => H2 D = none → Q v (upd H2 D o)) : tE X e σ H Q := fun pins s I => by
  obtain ⟨ob, I1, back⟩ := Inv.hide I hD a
  refine wpAny_mono (h _ s I1) (fun u s1 z => ?_) fun _ _ z => z
  obtain ⟨v, H2, I2, r, q⟩ := z
  obtain ⟨n, I3⟩ := Inv.unhide I hD I2 back
  exact ⟨v, _, I3, r, q n⟩
theorem tT_hide {e : Expr} {Q : Bool → Hp → Prop} (hD : H D = some o) (a : Alone o) (h : tT X e σ (delA H D) fun v H2 => H2 D = none → Q v (upd H2 D o)) : tT X e σ H Q := fun pins s I => by
  obtain ⟨ob, I1, back⟩ := Inv.hide I hD a
  refine wpAny_mono (h _ s I1) (fun u s1 z => ?_) fun _ _ z => z
  obtain ⟨H2, I2, q⟩ := z
  obtain ⟨n, I3⟩ := Inv.unhide I hD I2 back
  exact ⟨_, I3, q n⟩
/-- e while D is out of sight, by what comes of it -/
theorem EW.hide {e : Expr} {P : PV} {Q : VK} {H1 : Hp} (h : EW X σ H1 e P) (hD : H D = some o) (a : Alone o) (x : Ex H1 (delA H D)) (q : ∀ v H2, Ex (delA H D) H2 → H2 D = none → P v H2 → Q v (upd H2 D o)) : tE X e σ H Q :=
  tE_hide hD a (h _ x _ fun v H2 y p n => q v H2 y n (p H2 (Ex.refl H2)))
theorem TW.hide {e : Expr} {k : Bool} {Q : Bool → Hp → Prop} {H1 : Hp} (h : TW X σ H1 e k) (hD : H D = some o) (a : Alone o) (x : Ex H1 (delA H D)) (q : ∀ H2, Ex (delA H D) H2 → H2 D = none → Q k (upd H2 D o)) : tT X e σ H Q :=
  tT_hide hD a (h _ x _ fun H2 y n => q H2 y n)
end
end Pw
namespace Pw
open PySem PySem.Spec L2
open Evl (Ex)
/-! ### list comprehensions: J i acc H: behind i turns the new list holds acc; H is the heap without that list -/
theorem wipe1 {σ : L2.St} {j : Nat} {v : V} : wipe ((wipe σ [j]).set j (some v)) [j] = wipe σ [j] := by
  show ((σ.set j none).set j (some v)).set j none = σ.set j none
  rw [List.set_set, List.set_set]
theorem wipe1s {σ : L2.St} {j : Nat} {v : V} : (wipe σ [j]).set j (some v) = σ.set j (some v) := by
  show (σ.set j none).set j (some v) = σ.set j (some v)
  rw [List.set_set]
section
variable {X : Cx} {e a b c o iter elt tg : Expr} {σ : L2.St} {H H' : Hp} {P P' R : PV} {d d' : PyData} {ds es : List PyData} {v u : V} {pos pos' px p : Pos} {i j n : Nat} {k : Bool} {x y : Str} {scope : Scope} {D : Addr} {Q : VK} {ob : HO}
theorem bE_hide (hD : H D = some ob) (a : Alone ob) (h : bE X scope e σ (delA H D) fun v H2 => H2 D = none → Q v (upd H2 D ob)) : bE X scope e σ H Q := fun s H0 C cl fp => tE_hide hD a (h s H0 C cl fp)
theorem bT_hide {Q : Bool → Hp → Prop} (hD : H D = some ob) (a : Alone ob) (h : bT X scope e σ (delA H D) fun v H2 => H2 D = none → Q v (upd H2 D ob)) : bT X scope e σ H Q := fun s H0 C cl fp => tT_hide hD a (h s H0 C cl fp)
/-- a step of a comprehension, its tests none or one -/
def LcStep (X : Cx) (scope : Scope) (elt : Expr) (ifs : List Expr) (σ : L2.St) (J : Nat → List V → Hp → Prop) (i : Nat) (acc : List V) (H : Hp) : Prop := match ifs with
  | [] => bE X scope elt σ H fun y H2 => J (i + 1) (acc ++ [y]) H2
  | [c] => bT X scope c σ H fun b H2 => if b = true then bE X scope elt σ H2 (fun y H3 => J (i + 1) (acc ++ [y]) H3) else J (i + 1) acc H2
  | _ => False
def ttOf (X : Cx) (scope : Scope) (ifs : List Expr) : TT := match ifs with
  | [] => tYes
  | c :: _ => bT X scope c
/-- the word of the loop: the list at D -/
def LcW (D : Addr) (J : Nat → List V → Hp → Prop) (i : Nat) (H : Hp) : Prop := ∃ acc, H D = some (.lst acc) ∧ acc.length ≤ i ∧ J i acc (delA H D)
theorem lcw_turn {ifs : List Expr} {J : Nat → List V → Hp → Prop} (hi : i < 50000) (w : LcW D J i H) (st : ∀ acc, acc.length ≤ i → J i acc (delA H D) → LcStep X scope elt ifs σ J i acc (delA H D)) :
    ttOf X scope ifs σ H fun b H3 => if b = true then bE X scope elt σ H3 (fun y H4 => ∃ acc, H4 D = some (.lst acc) ∧ acc.length < sizeLine ∧ LcW D J (i + 1) (upd H4 D (.lst (acc ++ [y])))) else LcW D J (i + 1) H3 := by
  obtain ⟨acc, hD, hl, hJ⟩ := w
  have h := st acc hl hJ
  have put : ∀ {y : V} {H2 : Hp}, H2 D = none → J (i + 1) (acc ++ [y]) H2 → ∃ ac, (upd H2 D (.lst acc)) D = some (.lst ac) ∧ ac.length < sizeLine ∧ LcW D J (i + 1) (upd (upd H2 D (.lst acc)) D (.lst (ac ++ [y]))) := fun {y H2} hn q =>
    ⟨acc, upd_same, sz10' (by omega), acc ++ [y], upd_same, by rw [List.length_append]; show acc.length + 1 ≤ i + 1; omega, by rw [upd_upd, delA_put hn]; exact q⟩
  match ifs, h with
  | [], h =>
    have h : bE X scope elt σ (delA H D) fun y H2 => J (i + 1) (acc ++ [y]) H2 := h
    show (if true = true then bE X scope elt σ H (fun y H4 => ∃ acc, H4 D = some (.lst acc) ∧ acc.length < sizeLine ∧ LcW D J (i + 1) (upd H4 D (.lst (acc ++ [y])))) else LcW D J (i + 1) H)
    rw [if_pos rfl]
    refine bE_hide hD trivial (fun s H0 C cl fp pins s' I => wpAny_mono (h s H0 C cl fp pins s' I) (fun u s2 ⟨v, H2, I2, r, q⟩ => ⟨v, H2, I2, r, fun hn => put hn q⟩) fun _ _ z => z)
  | [c], h =>
    have h : bT X scope c σ (delA H D) fun b H2 => if b = true then bE X scope elt σ H2 (fun y H3 => J (i + 1) (acc ++ [y]) H3) else J (i + 1) acc H2 := h
    show bT X scope c σ H _
    refine bT_hide hD trivial (fun s H0 C cl fp pins s' I => wpAny_mono (h s H0 C cl fp pins s' I) (fun b s2 ⟨H2, I2, q⟩ => ⟨H2, I2, fun hn => ?_⟩) fun _ _ z => z)
    cases b with
    | true =>
      rw [if_pos rfl] at q ⊢
      refine bE_hide (H := upd H2 D (.lst acc)) upd_same trivial ?_
      rw [delA_put hn]
      exact fun s H0 C cl fp pins s' I => wpAny_mono (q s H0 C cl fp pins s' I) (fun u s2 ⟨v, H3, I3, r, q⟩ => ⟨v, H3, I3, r, fun hn => put hn q⟩) fun _ _ z => z
    | false =>
      rw [if_neg Bool.false_ne_true] at q ⊢
      exact ⟨acc, upd_same, by omega, by rw [delA_put hn]; exact q⟩
theorem lcw_start {J : Nat → List V → Hp → Prop} (hn : H D = none) (h : J 0 [] H) : LcW D J 0 (upd H D (.lst [])) := ⟨[], upd_same, Nat.le_refl _, by rw [delA_put hn]; exact h⟩
def OneIf (ifs : List Expr) : Prop := match ifs with
  | [] => True
  | [_] => True
  | _ => False
theorem pts_of {ifs : List Expr} (h : OneIf ifs) {s : Shared} {H0 : Hp} {C : Addr} {cl : List (Str × Addr)} {fp : List Addr} : PTs (X.blk s H0 scope (compEnvC scope cl C X.env) fp) ifs (ttOf X scope ifs) := by
  match ifs, h with
  | [], _ => exact pts_nil
  | [c], _ => exact pts_one pbT
/-- the reading of a comprehension over a list -/
theorem lc_readL {ifs : List Expr} (hi : EV X σ H iter (.list ds)) (hz : ds.length ≤ 40000)
    (q : ∀ (l : Addr) (xs : List V) (H1 : Hp), Ex H H1 → H1 l = some (.lst xs) → IsA H1 xs ds → ∃ J : Nat → List V → Hp → Prop, J 0 [] H1 ∧ (∀ i acc H', J i acc H' → H' l = some (.lst xs)) ∧
      (∀ i acc v d H', xs[i]? = some v → ds[i]? = some d → Is H1 v d → acc.length ≤ i → J i acc H' → LcStep X scope elt ifs (σ.set j (some v)) J i acc H') ∧ (∀ acc D H', J ds.length acc H' → H' D = none → Q (.ref D) (upd H' D (.lst acc)))) :
    tLc (iList X.K (tE X iter)) (gName j) (ttOf X scope ifs) (bE X scope elt) [j] σ H Q := hi.run fun v H1 z r => by
  cases r with
  | @lst l xs _ h hs =>
    obtain ⟨J, h0, hl, hst, hd⟩ := q l xs H1 z h hs
    refine ⟨l, rfl, ⟨xs, SqL.of h⟩, fun D hD => lc_list (K := X.K) (a := l) (xs := xs) (LcW D J) (lcw_start hD h0) (fun i H' _ w => ?_) (fun i v H' e w => ⟨wipe1, ?_⟩) (fun H' w => ?_)⟩
    · obtain ⟨acc, hD2, _, hJ⟩ := w
      exact SqL.of (delA_ex _ _ (hl i acc _ hJ))
    · obtain ⟨d, e2, r⟩ := hs.at_ e
      have hil : i < xs.length := (List.getElem?_eq_some_iff.mp e).1
      rw [hs.length] at hil
      rw [wipe1s]
      exact lcw_turn (by omega) w fun acc hl hJ => hst i acc v d _ e e2 r hl hJ
    · obtain ⟨acc, hD2, _, hJ⟩ := w
      rw [hs.length] at hJ
      have e : H' = upd (delA H' D) D (.lst acc) := by
        funext b
        by_cases z : b = D
        · rw [z, upd_same, hD2]
        · rw [upd_ne z, delA_ne z]
      rw [e]
      exact hd acc D _ hJ delA_at
theorem lc_readT {ifs : List Expr} (hi : EV X σ H iter (.tuple ds)) (hz : ds.length ≤ 40000)
    (q : ∀ (l : Addr) (xs : List V) (H1 : Hp), Ex H H1 → H1 l = some (.tup xs) → IsA H1 xs ds → ∃ J : Nat → List V → Hp → Prop, J 0 [] H1 ∧ (∀ i acc H', J i acc H' → H' l = some (.tup xs)) ∧
      (∀ i acc v d H', xs[i]? = some v → ds[i]? = some d → Is H1 v d → acc.length ≤ i → J i acc H' → LcStep X scope elt ifs (σ.set j (some v)) J i acc H') ∧ (∀ acc D H', J ds.length acc H' → H' D = none → Q (.ref D) (upd H' D (.lst acc)))) :
    tLc (iTup X.K (tE X iter)) (gName j) (ttOf X scope ifs) (bE X scope elt) [j] σ H Q := hi.run fun v H1 z r => by
  cases r with
  | @tup l xs _ h hs =>
    obtain ⟨J, h0, hl, hst, hd⟩ := q l xs H1 z h hs
    refine ⟨l, rfl, ⟨xs, SqT.of h⟩, fun D hD => lc_tup (K := X.K) (a := l) (xs := xs) (LcW D J) (lcw_start hD h0) (fun i H' _ w => ?_) (fun i v H' e w => ⟨wipe1, ?_⟩) (fun H' w => ?_)⟩
    · obtain ⟨acc, hD2, _, hJ⟩ := w
      exact SqT.of (delA_ex _ _ (hl i acc _ hJ))
    · obtain ⟨d, e2, r⟩ := hs.at_ e
      have hil : i < xs.length := (List.getElem?_eq_some_iff.mp e).1
      rw [hs.length] at hil
      rw [wipe1s]
      exact lcw_turn (by omega) w fun acc hl hJ => hst i acc v d _ e e2 r hl hJ
    · obtain ⟨acc, hD2, _, hJ⟩ := w
      rw [hs.length] at hJ
      have e : H' = upd (delA H' D) D (.lst acc) := by
        funext b
        by_cases z : b = D
        · rw [z, upd_same, hD2]
        · rw [upd_ne z, delA_ne z]
      rw [e]
      exact hd acc D _ hJ delA_at
theorem lc_readR {ifs : List Expr} (hi : EV X σ H a (.int n)) (hz : n ≤ 40000) (hs1 : starEach [a] X.env = [(false, eval a X.env)])
    (q : ∀ (H1 : Hp), Ex H H1 → ∃ J : Nat → List V → Hp → Prop, J 0 [] H1 ∧
      (∀ (i : Nat) acc H', i < n → acc.length ≤ i → J i acc H' → LcStep X scope elt ifs (σ.set j (some (.int i))) J i acc H') ∧ (∀ acc D H', J n acc H' → H' D = none → Q (.ref D) (upd H' D (.lst acc)))) :
    tLc (iRng1 (tA X [a])) (gName j) (ttOf X scope ifs) (bE X scope elt) [j] σ H Q := (av_cons hi av_nil hs1).run fun vs H1 z r => by
  obtain ⟨J, h0, hst, hd⟩ := q H1 z
  obtain ⟨v, rfl, r2⟩ := IsA.one r
  rw [r2.int_eq]
  have e0 : ((n : Int)).toNat = n := by omega
  refine ⟨n, rfl, by omega, by omega, fun D hD => ?_⟩
  rw [e0]
  refine lc_range (lo := 0) (n := n) (LcW D J) (lcw_start hD h0) (fun i H' hi w => ⟨wipe1, ?_⟩) (fun H' w => ?_)
  · rw [wipe1s, Int.zero_add]
    exact lcw_turn (by omega) w fun acc hl hJ => hst i acc _ hi hl hJ
  · obtain ⟨acc, hD2, _, hJ⟩ := w
    have e : H' = upd (delA H' D) D (.lst acc) := by
      funext b
      by_cases z : b = D
      · rw [z, upd_same, hD2]
      · rw [upd_ne z, delA_ne z]
    rw [e]
    exact hd acc D _ hJ delA_at
/-- the comprehension as an expression, by its reading -/
theorem tE_lc {ifs : List Expr} {wi : TI} (x : Str) (j : Nat) (hc : X.calm = true) (hN : X.N.Nodup) (hi : PI X (.Name x px) iter wi) (h : tLc wi (gName j) (ttOf X scope ifs) (bE X scope elt) [j] σ H Q) (ok : blkC X.N X.env.scope scope [(x, j)] = true := by kernel_rfl) (hj : X.N[j]? = some x := by rfl) (h1 : OneIf ifs := by exact True.intro)
    (hs : ∀ x, foldedSetIterable iter X.env x = pure x := by intro _; rfl)
    (hx : ∀ (cl : List (Str × Addr)) (C : Addr), Loc (compEnvC scope cl C X.env).scope x := by first | exact fun _ _ => Or.inl rfl | exact fun _ _ => Or.inr rfl)
    (hf : (scope.names.lookup x == some .cell) = true ∨ (∀ (cl : List (Str × Addr)) (C : Addr), (compEnvC scope cl C X.env).scope.names.lookup x = some .local) := by first | exact Or.inl rfl | exact Or.inr (fun _ _ => rfl)) : tE X (.ListComp elt [⟨.Name x px, iter, ifs, 0⟩] scope pos) σ H Q :=
  toE (pe_lc (own := [(x, j)]) hc hN hi (blkOk_by ok) (fun s H0 C cl fp => pg_name (X := X.blk s H0 scope (compEnvC scope cl C X.env) fp) hN hj (hx cl C) (by
    rcases hf with z | z
    · exact .inl z
    · exact .inr (z cl C))) (fun s H0 C cl fp => pts_of h1) (fun s H0 C cl fp => pbE) hs) h
/-- what an element comes to, item by item -/
def lcJ (H1 : Hp) (es : List PyData) : Nat → List V → Hp → Prop := fun i acc H' => Ex H1 H' ∧ IsA H' acc (es.take i)
theorem lcJ_step {H1 : Hp} {acc : List V} {d : PyData} (w : lcJ H1 es i acc H') (he : es[i]? = some d) (h : EB X scope σ H1 elt (dat d)) : LcStep X scope elt [] σ (lcJ H1 es) i acc H' :=
  h.run w.1 fun v H2 z p => ⟨w.1.trans z, by
    rw [List.take_add_one, he]
    exact (w.2.mono z).append (.cons (p H2 (Ex.refl H2)) .nil)⟩
theorem ev_lcL (x : Str) (j : Nat) (hc : X.calm = true) (hN : X.N.Nodup) (es : List PyData) (hi : EV X σ H iter (.list ds)) (hl : es.length = ds.length) (hz : ds.length ≤ 40000)
    (he : ∀ (i : Nat) (v : V) (d e : PyData) (H1 : Hp), ds[i]? = some d → es[i]? = some e → Ex H H1 → Is H1 v d → EB X scope (σ.set j (some v)) H1 elt (dat e)) (ok : blkC X.N X.env.scope scope [(x, j)] = true := by kernel_rfl) (hj : X.N[j]? = some x := by rfl)
    (hs : ∀ x, foldedSetIterable iter X.env x = pure x := by intro _; rfl)
    (hx : ∀ (cl : List (Str × Addr)) (C : Addr), Loc (compEnvC scope cl C X.env).scope x := by first | exact fun _ _ => Or.inl rfl | exact fun _ _ => Or.inr rfl)
    (hf : (scope.names.lookup x == some .cell) = true ∨ (∀ (cl : List (Str × Addr)) (C : Addr), (compEnvC scope cl C X.env).scope.names.lookup x = some .local) := by first | exact Or.inl rfl | exact Or.inr (fun _ _ => rfl)) : EV X σ H (.ListComp elt [⟨.Name x px, iter, [], 0⟩] scope pos) (.list es) := fun H1 z Q q =>
  tE_lc x j hc hN (pi_list pE) (lc_readL (hi.up z) hz fun l xs H2 z2 hl2 hs2 => ⟨lcJ H2 es, ⟨Ex.refl H2, .nil⟩, fun i acc H' w => w.1 _ _ hl2, fun i acc v d H' e1 e2 r _ w => by
    have hil : i < es.length := by
      rw [hl]
      exact (List.getElem?_eq_some_iff.mp e2).1
    exact lcJ_step w (List.getElem?_eq_getElem hil) (he i v d _ H2 e2 (List.getElem?_eq_getElem hil) (z.trans z2) r), fun acc D H' w hD => q.dat ((z2.trans w.1).trans (Ex.new hD)) (.lst upd_same (by
    have w2 := w.2
    rw [← hl, List.take_length] at w2
    exact w2.mono (Ex.new hD)))⟩) ok hj True.intro hs hx hf
theorem ev_lcT (x : Str) (j : Nat) (hc : X.calm = true) (hN : X.N.Nodup) (es : List PyData) (hi : EV X σ H iter (.tuple ds)) (hl : es.length = ds.length) (hz : ds.length ≤ 40000)
    (he : ∀ (i : Nat) (v : V) (d e : PyData) (H1 : Hp), ds[i]? = some d → es[i]? = some e → Ex H H1 → Is H1 v d → EB X scope (σ.set j (some v)) H1 elt (dat e)) (ok : blkC X.N X.env.scope scope [(x, j)] = true := by kernel_rfl) (hj : X.N[j]? = some x := by rfl)
    (hs : ∀ x, foldedSetIterable iter X.env x = pure x := by intro _; rfl)
    (hx : ∀ (cl : List (Str × Addr)) (C : Addr), Loc (compEnvC scope cl C X.env).scope x := by first | exact fun _ _ => Or.inl rfl | exact fun _ _ => Or.inr rfl)
    (hf : (scope.names.lookup x == some .cell) = true ∨ (∀ (cl : List (Str × Addr)) (C : Addr), (compEnvC scope cl C X.env).scope.names.lookup x = some .local) := by first | exact Or.inl rfl | exact Or.inr (fun _ _ => rfl)) : EV X σ H (.ListComp elt [⟨.Name x px, iter, [], 0⟩] scope pos) (.list es) := fun H1 z Q q =>
  tE_lc x j hc hN (pi_tup pE) (lc_readT (hi.up z) hz fun l xs H2 z2 hl2 hs2 => ⟨lcJ H2 es, ⟨Ex.refl H2, .nil⟩, fun i acc H' w => w.1 _ _ hl2, fun i acc v d H' e1 e2 r _ w => by
    have hil : i < es.length := by
      rw [hl]
      exact (List.getElem?_eq_some_iff.mp e2).1
    exact lcJ_step w (List.getElem?_eq_getElem hil) (he i v d _ H2 e2 (List.getElem?_eq_getElem hil) (z.trans z2) r), fun acc D H' w hD => q.dat ((z2.trans w.1).trans (Ex.new hD)) (.lst upd_same (by
    have w2 := w.2
    rw [← hl, List.take_length] at w2
    exact w2.mono (Ex.new hD)))⟩) ok hj True.intro hs hx hf
theorem ev_lcR (x : Str) (j : Nat) (hc : X.calm = true) (hN : X.N.Nodup) (es : List PyData) (hm : X.mg "range" = none) (hi : EV X σ H a (.int n)) (hl : es.length = n) (hz : n ≤ 40000)
    (he : ∀ (i : Nat) e H1, i < n → es[i]? = some e → Ex H H1 → EB X scope (σ.set j (some (.int i))) H1 elt (dat e)) (ok : blkC X.N X.env.scope scope [(x, j)] = true := by kernel_rfl) (hj : X.N[j]? = some x := by rfl) (hg : Gl X "range" := by rfl) (hs1 : starEach [a] X.env = [(false, eval a X.env)] := by rfl)
    (hx : ∀ (cl : List (Str × Addr)) (C : Addr), Loc (compEnvC scope cl C X.env).scope x := by first | exact fun _ _ => Or.inl rfl | exact fun _ _ => Or.inr rfl)
    (hf : (scope.names.lookup x == some .cell) = true ∨ (∀ (cl : List (Str × Addr)) (C : Addr), (compEnvC scope cl C X.env).scope.names.lookup x = some .local) := by first | exact Or.inl rfl | exact Or.inr (fun _ _ => rfl)) : EV X σ H (.ListComp elt [⟨.Name x px, .Call (.Name "range" p) [a] [] pos', [], 0⟩] scope pos) (.list es) := fun H1 z Q q =>
  tE_lc x j hc hN (pi_range1 hg hm pA hs1) (lc_readR (hi.up z) hz hs1 fun H2 z2 => ⟨lcJ H2 es, ⟨Ex.refl H2, .nil⟩, fun i acc H' hi _ w => by
    have hil : i < es.length := by
      rw [hl]
      exact hi
    exact lcJ_step w (List.getElem?_eq_getElem hil) (he i _ H2 hi (List.getElem?_eq_getElem hil) (z.trans z2)), fun acc D H' w hD => q.dat ((z2.trans w.1).trans (Ex.new hD)) (.lst upd_same (by
    have w2 := w.2
    rw [← hl, List.take_length] at w2
    exact w2.mono (Ex.new hD)))⟩) ok hj True.intro (by intro _; rfl) hx hf
end
end Pw
/-! The text by places. -/
namespace Pw
open PySem L2
def top (i : Nat) : Stmt := PySem.Challenge.pw_probewright_k63_whole_lost_breaks.main.body.getD i (.Pass ⟨0, 0, 0, 0⟩)
abbrev s_is_integer : Stmt := top 15
abbrev s_is_bit : Stmt := top 16
abbrev s_are_bits : Stmt := top 17
abbrev s_is_name : Stmt := top 18
abbrev s_is_stem : Stmt := top 20
abbrev s_is_pin : Stmt := top 21
abbrev s_is_short : Stmt := top 22
abbrev s_is_break : Stmt := top 23
abbrev s_check_version : Stmt := top 24
abbrev s_stuck_pin : Stmt := top 26
abbrev s_check_pattern : Stmt := top 27
abbrev s_word_of : Stmt := top 29
abbrev s_gate_word : Stmt := top 30
abbrev s_Many_init : Stmt := inClass (top 31) 0
abbrev s_Many_full : Stmt := inClass (top 31) 1
abbrev s_Many_pin : Stmt := inClass (top 31) 2
abbrev s_Many_through : Stmt := inClass (top 31) 3
abbrev s_Many_words : Stmt := inClass (top 31) 4
abbrev s_words_of : Stmt := top 32
abbrev s_responses : Stmt := top 33
abbrev s_check_breaks : Stmt := top 35
abbrev s_Press_init : Stmt := inClass (top 37) 0
abbrev s_Press_step : Stmt := inClass (top 37) 1
abbrev s_Press_fold : Stmt := inClass (top 37) 2
abbrev s_Press_press : Stmt := inClass (top 37) 3
abbrev s_Press_signature : Stmt := inClass (top 37) 4
abbrev s_hidden : Stmt := top 38
abbrev s_lost : Stmt := top 39
abbrev s_pins_allowed : Stmt := top 42
abbrev s_is_row : Stmt := top 43
abbrev s_is_gate : Stmt := top 44
abbrev s_Circuit_init : Stmt := inClass (top 45) 0
abbrev s_Circuit_check_forms : Stmt := inClass (top 45) 1
abbrev s_Circuit_check_names : Stmt := inClass (top 45) 2
abbrev s_Circuit_lines : Stmt := inClass (top 45) 3
abbrev s_Circuit_uses : Stmt := inClass (top 45) 4
abbrev s_Circuit_sources : Stmt := inClass (top 45) 5
abbrev s_Circuit_sinks : Stmt := inClass (top 45) 6
abbrev s_Circuit_sorted_gates : Stmt := inClass (top 45) 7
abbrev s_Circuit_above : Stmt := inClass (top 45) 8
abbrev s_L_draws : Stmt := top 47
abbrev s_L_draw : Stmt := top 48
abbrev s_L_same : Stmt := top 49
abbrev s_L_circuit : Stmt := top 50
abbrev s_L_sources : Stmt := top 51
abbrev s_L_lines : Stmt := top 52
abbrev s_L_sinks : Stmt := top 53
abbrev s_L_gate : Stmt := top 54
abbrev s_L_pass : Stmt := top 55
abbrev s_L_word : Stmt := top 56
abbrev s_L_bits : Stmt := top 57
abbrev s_L_words : Stmt := top 58
abbrev s_L_responses : Stmt := top 59
abbrev s_L_breaks : Stmt := top 60
abbrev s_L_above : Stmt := top 61
abbrev s_L_shorts : Stmt := top 62
abbrev s_L_patterns : Stmt := top 63
abbrev s_L_some : Stmt := top 64
abbrev s_L_press : Stmt := top 65
abbrev s_L_bits_of : Stmt := top 66
abbrev s_L_after : Stmt := top 67
abbrev s_L_signature : Stmt := top 68
abbrev s_L_fold : Stmt := top 69
abbrev s_L_signed : Stmt := top 70
abbrev s_L_tables : Stmt := top 71
abbrev s_L_told : Stmt := top 72
abbrev s_law : Stmt := top 73
end Pw
set_option maxHeartbeats 0
namespace Pw
open PySem PySem.Spec PyProof.Rows L2
/-! the defs as data -/
def d_is_integer : He.DefD := ⟨("is_integer", none), "is_integer", "is_integer", defArgs s_is_integer, defBody s_is_integer, defScope s_is_integer, [], []⟩
def d_is_bit : He.DefD := ⟨("is_bit", none), "is_bit", "is_bit", defArgs s_is_bit, defBody s_is_bit, defScope s_is_bit, [], []⟩
def d_are_bits : He.DefD := ⟨("are_bits", none), "are_bits", "are_bits", defArgs s_are_bits, defBody s_are_bits, defScope s_are_bits, [], []⟩
def d_is_name : He.DefD := ⟨("is_name", none), "is_name", "is_name", defArgs s_is_name, defBody s_is_name, defScope s_is_name, [], []⟩
def d_is_stem : He.DefD := ⟨("is_stem", none), "is_stem", "is_stem", defArgs s_is_stem, defBody s_is_stem, defScope s_is_stem, [], []⟩
def d_is_pin : He.DefD := ⟨("is_pin", none), "is_pin", "is_pin", defArgs s_is_pin, defBody s_is_pin, defScope s_is_pin, [], []⟩
def d_is_short : He.DefD := ⟨("is_short", none), "is_short", "is_short", defArgs s_is_short, defBody s_is_short, defScope s_is_short, [], []⟩
def d_is_break : He.DefD := ⟨("is_break", none), "is_break", "is_break", defArgs s_is_break, defBody s_is_break, defScope s_is_break, [], []⟩
def d_check_version : He.DefD := ⟨("check_version", none), "check_version", "check_version", defArgs s_check_version, defBody s_check_version, defScope s_check_version, [], []⟩
def d_stuck_pin : He.DefD := ⟨("stuck_pin", none), "stuck_pin", "stuck_pin", defArgs s_stuck_pin, defBody s_stuck_pin, defScope s_stuck_pin, [], []⟩
def d_check_pattern : He.DefD := ⟨("check_pattern", none), "check_pattern", "check_pattern", defArgs s_check_pattern, defBody s_check_pattern, defScope s_check_pattern, [], []⟩
def d_word_of : He.DefD := ⟨("word_of", none), "word_of", "word_of", defArgs s_word_of, defBody s_word_of, defScope s_word_of, [], []⟩
def d_gate_word : He.DefD := ⟨("gate_word", none), "gate_word", "gate_word", defArgs s_gate_word, defBody s_gate_word, defScope s_gate_word, [], []⟩
def d_Many_init : He.DefD := ⟨("Many", some "__init__"), "__init__", "Many.__init__", defArgs s_Many_init, defBody s_Many_init, defScope s_Many_init, [], []⟩
def d_Many_full : He.DefD := ⟨("Many", some "full"), "full", "Many.full", defArgs s_Many_full, defBody s_Many_full, defScope s_Many_full, [], []⟩
def d_Many_pin : He.DefD := ⟨("Many", some "pin"), "pin", "Many.pin", defArgs s_Many_pin, defBody s_Many_pin, defScope s_Many_pin, [], []⟩
def d_Many_through : He.DefD := ⟨("Many", some "through"), "through", "Many.through", defArgs s_Many_through, defBody s_Many_through, defScope s_Many_through, [], []⟩
def d_Many_words : He.DefD := ⟨("Many", some "words"), "words", "Many.words", defArgs s_Many_words, defBody s_Many_words, defScope s_Many_words, [], []⟩
def d_words_of : He.DefD := ⟨("words_of", none), "words_of", "words_of", defArgs s_words_of, defBody s_words_of, defScope s_words_of, [], []⟩
def d_responses : He.DefD := ⟨("responses", none), "responses", "responses", defArgs s_responses, defBody s_responses, defScope s_responses, [], []⟩
def d_check_breaks : He.DefD := ⟨("check_breaks", none), "check_breaks", "check_breaks", defArgs s_check_breaks, defBody s_check_breaks, defScope s_check_breaks, [], []⟩
def d_Press_init : He.DefD := ⟨("Press", some "__init__"), "__init__", "Press.__init__", defArgs s_Press_init, defBody s_Press_init, defScope s_Press_init, [], []⟩
def d_Press_step : He.DefD := ⟨("Press", some "step"), "step", "Press.step", defArgs s_Press_step, defBody s_Press_step, defScope s_Press_step, [], []⟩
def d_Press_fold : He.DefD := ⟨("Press", some "fold"), "fold", "Press.fold", defArgs s_Press_fold, defBody s_Press_fold, defScope s_Press_fold, [], []⟩
def d_Press_press : He.DefD := ⟨("Press", some "press"), "press", "Press.press", defArgs s_Press_press, defBody s_Press_press, defScope s_Press_press, [], []⟩
def d_Press_signature : He.DefD := ⟨("Press", some "signature"), "signature", "Press.signature", defArgs s_Press_signature, defBody s_Press_signature, defScope s_Press_signature, [], []⟩
def d_hidden : He.DefD := ⟨("hidden", none), "hidden", "hidden", defArgs s_hidden, defBody s_hidden, defScope s_hidden, [], []⟩
def d_lost : He.DefD := ⟨("lost", none), "lost", "lost", defArgs s_lost, defBody s_lost, defScope s_lost, [], []⟩
def d_pins_allowed : He.DefD := ⟨("pins_allowed", none), "pins_allowed", "pins_allowed", defArgs s_pins_allowed, defBody s_pins_allowed, defScope s_pins_allowed, [], []⟩
def d_is_row : He.DefD := ⟨("is_row", none), "is_row", "is_row", defArgs s_is_row, defBody s_is_row, defScope s_is_row, [], []⟩
def d_is_gate : He.DefD := ⟨("is_gate", none), "is_gate", "is_gate", defArgs s_is_gate, defBody s_is_gate, defScope s_is_gate, [], []⟩
def d_Circuit_init : He.DefD := ⟨("Circuit", some "__init__"), "__init__", "Circuit.__init__", defArgs s_Circuit_init, defBody s_Circuit_init, defScope s_Circuit_init, [], []⟩
def d_Circuit_check_forms : He.DefD := ⟨("Circuit", some "check_forms"), "check_forms", "Circuit.check_forms", defArgs s_Circuit_check_forms, defBody s_Circuit_check_forms, defScope s_Circuit_check_forms, [], []⟩
def d_Circuit_check_names : He.DefD := ⟨("Circuit", some "check_names"), "check_names", "Circuit.check_names", defArgs s_Circuit_check_names, defBody s_Circuit_check_names, defScope s_Circuit_check_names, [], []⟩
def d_Circuit_lines : He.DefD := ⟨("Circuit", some "lines"), "lines", "Circuit.lines", defArgs s_Circuit_lines, defBody s_Circuit_lines, defScope s_Circuit_lines, [], []⟩
def d_Circuit_uses : He.DefD := ⟨("Circuit", some "uses"), "uses", "Circuit.uses", defArgs s_Circuit_uses, defBody s_Circuit_uses, defScope s_Circuit_uses, [], []⟩
def d_Circuit_sources : He.DefD := ⟨("Circuit", some "sources"), "sources", "Circuit.sources", defArgs s_Circuit_sources, defBody s_Circuit_sources, defScope s_Circuit_sources, [], []⟩
def d_Circuit_sinks : He.DefD := ⟨("Circuit", some "sinks"), "sinks", "Circuit.sinks", defArgs s_Circuit_sinks, defBody s_Circuit_sinks, defScope s_Circuit_sinks, [], []⟩
def d_Circuit_sorted_gates : He.DefD := ⟨("Circuit", some "sorted_gates"), "sorted_gates", "Circuit.sorted_gates", defArgs s_Circuit_sorted_gates, defBody s_Circuit_sorted_gates, defScope s_Circuit_sorted_gates, [], []⟩
def d_Circuit_above : He.DefD := ⟨("Circuit", some "above"), "above", "Circuit.above", defArgs s_Circuit_above, defBody s_Circuit_above, defScope s_Circuit_above, [], []⟩
def d_L_draws : He.DefD := ⟨("_law_draws", none), "_law_draws", "_law_draws", defArgs s_L_draws, defBody s_L_draws, defScope s_L_draws, [], []⟩
def d_L_draw : He.DefD := ⟨("_law_draw", none), "_law_draw", "_law_draw", defArgs s_L_draw, defBody s_L_draw, defScope s_L_draw, [], []⟩
def d_L_same : He.DefD := ⟨("_law_same", none), "_law_same", "_law_same", defArgs s_L_same, defBody s_L_same, defScope s_L_same, [], []⟩
def d_L_circuit : He.DefD := ⟨("_law_circuit", none), "_law_circuit", "_law_circuit", defArgs s_L_circuit, defBody s_L_circuit, defScope s_L_circuit, [], []⟩
def d_L_sources : He.DefD := ⟨("_law_sources", none), "_law_sources", "_law_sources", defArgs s_L_sources, defBody s_L_sources, defScope s_L_sources, [], []⟩
def d_L_lines : He.DefD := ⟨("_law_lines", none), "_law_lines", "_law_lines", defArgs s_L_lines, defBody s_L_lines, defScope s_L_lines, [], []⟩
def d_L_sinks : He.DefD := ⟨("_law_sinks", none), "_law_sinks", "_law_sinks", defArgs s_L_sinks, defBody s_L_sinks, defScope s_L_sinks, [], []⟩
def d_L_gate : He.DefD := ⟨("_law_gate", none), "_law_gate", "_law_gate", defArgs s_L_gate, defBody s_L_gate, defScope s_L_gate, [], []⟩
def d_L_pass : He.DefD := ⟨("_law_pass", none), "_law_pass", "_law_pass", defArgs s_L_pass, defBody s_L_pass, defScope s_L_pass, [], []⟩
def d_L_word : He.DefD := ⟨("_law_word", none), "_law_word", "_law_word", defArgs s_L_word, defBody s_L_word, defScope s_L_word, [], []⟩
def d_L_bits : He.DefD := ⟨("_law_bits", none), "_law_bits", "_law_bits", defArgs s_L_bits, defBody s_L_bits, defScope s_L_bits, [], []⟩
def d_L_words : He.DefD := ⟨("_law_words", none), "_law_words", "_law_words", defArgs s_L_words, defBody s_L_words, defScope s_L_words, [], []⟩
def d_L_responses : He.DefD := ⟨("_law_responses", none), "_law_responses", "_law_responses", defArgs s_L_responses, defBody s_L_responses, defScope s_L_responses, [], []⟩
def d_L_breaks : He.DefD := ⟨("_law_breaks", none), "_law_breaks", "_law_breaks", defArgs s_L_breaks, defBody s_L_breaks, defScope s_L_breaks, [], []⟩
def d_L_above : He.DefD := ⟨("_law_above", none), "_law_above", "_law_above", defArgs s_L_above, defBody s_L_above, defScope s_L_above, [], []⟩
def d_L_shorts : He.DefD := ⟨("_law_shorts", none), "_law_shorts", "_law_shorts", defArgs s_L_shorts, defBody s_L_shorts, defScope s_L_shorts, [], []⟩
def d_L_patterns : He.DefD := ⟨("_law_patterns", none), "_law_patterns", "_law_patterns", defArgs s_L_patterns, defBody s_L_patterns, defScope s_L_patterns, [], []⟩
def d_L_some : He.DefD := ⟨("_law_some", none), "_law_some", "_law_some", defArgs s_L_some, defBody s_L_some, defScope s_L_some, [], []⟩
def d_L_press : He.DefD := ⟨("_law_press", none), "_law_press", "_law_press", defArgs s_L_press, defBody s_L_press, defScope s_L_press, [], []⟩
def d_L_bits_of : He.DefD := ⟨("_law_bits_of", none), "_law_bits_of", "_law_bits_of", defArgs s_L_bits_of, defBody s_L_bits_of, defScope s_L_bits_of, [], []⟩
def d_L_after : He.DefD := ⟨("_law_after", none), "_law_after", "_law_after", defArgs s_L_after, defBody s_L_after, defScope s_L_after, [], []⟩
def d_L_signature : He.DefD := ⟨("_law_signature", none), "_law_signature", "_law_signature", defArgs s_L_signature, defBody s_L_signature, defScope s_L_signature, [], []⟩
def d_L_fold : He.DefD := ⟨("_law_fold", none), "_law_fold", "_law_fold", defArgs s_L_fold, defBody s_L_fold, defScope s_L_fold, [], []⟩
def d_L_signed : He.DefD := ⟨("_law_signed", none), "_law_signed", "_law_signed", defArgs s_L_signed, defBody s_L_signed, defScope s_L_signed, [], []⟩
def d_L_tables : He.DefD := ⟨("_law_tables", none), "_law_tables", "_law_tables", defArgs s_L_tables, defBody s_L_tables, defScope s_L_tables, [], []⟩
def d_L_told : He.DefD := ⟨("_law_told", none), "_law_told", "_law_told", defArgs s_L_told, defBody s_L_told, defScope s_L_told, [], []⟩
def d_law : He.DefD := ⟨("law", none), "law", "law", defArgs s_law, defBody s_law, defScope s_law, [], []⟩
def fn : List He.DefD := [d_is_integer, d_is_bit, d_are_bits, d_is_name, d_is_stem, d_is_pin, d_is_short, d_is_break, d_check_version, d_stuck_pin, d_check_pattern, d_word_of, d_gate_word, d_Many_init, d_Many_full, d_Many_pin, d_Many_through, d_Many_words, d_words_of, d_responses, d_check_breaks, d_Press_init, d_Press_step, d_Press_fold, d_Press_press, d_Press_signature, d_hidden, d_lost, d_pins_allowed, d_is_row, d_is_gate, d_Circuit_init, d_Circuit_check_forms, d_Circuit_check_names, d_Circuit_lines, d_Circuit_uses, d_Circuit_sources, d_Circuit_sinks, d_Circuit_sorted_gates, d_Circuit_above, d_L_draws, d_L_draw, d_L_same, d_L_circuit, d_L_sources, d_L_lines, d_L_sinks, d_L_gate, d_L_pass, d_L_word, d_L_bits, d_L_words, d_L_responses, d_L_breaks, d_L_above, d_L_shorts, d_L_patterns, d_L_some, d_L_press, d_L_bits_of, d_L_after, d_L_signature, d_L_fold, d_L_signed, d_L_tables, d_L_told, d_law]
def fa : List He.Fa := [
  .glo "is_integer",
  .glo "is_bit",
  .glo "are_bits",
  .glo "is_name",
  .glo "is_stem",
  .glo "is_pin",
  .glo "is_short",
  .glo "is_break",
  .glo "check_version",
  .glo "stuck_pin",
  .glo "check_pattern",
  .glo "word_of",
  .glo "gate_word",
  .glo "words_of",
  .glo "responses",
  .glo "check_breaks",
  .glo "hidden",
  .glo "lost",
  .glo "pins_allowed",
  .glo "is_row",
  .glo "is_gate",
  .glo "_law_draws",
  .glo "_law_draw",
  .glo "_law_same",
  .glo "_law_circuit",
  .glo "_law_sources",
  .glo "_law_lines",
  .glo "_law_sinks",
  .glo "_law_gate",
  .glo "_law_pass",
  .glo "_law_word",
  .glo "_law_bits",
  .glo "_law_words",
  .glo "_law_responses",
  .glo "_law_breaks",
  .glo "_law_above",
  .glo "_law_shorts",
  .glo "_law_patterns",
  .glo "_law_some",
  .glo "_law_press",
  .glo "_law_bits_of",
  .glo "_law_after",
  .glo "_law_signature",
  .glo "_law_fold",
  .glo "_law_signed",
  .glo "_law_tables",
  .glo "_law_told",
  .glo "law",
  .glo "BadBreak",
  .glo "BadPattern",
  .glo "Many",
  .glo "Press",
  .glo "Circuit",
  .free "isinstance",
  .free "int",
  .free "bool",
  .free "tuple",
  .free "str",
  .free "list",
  .free "len",
  .free "all",
  .free "sum",
  .free "enumerate",
  .free "zip",
  .free "range",
  .free "sorted",
  .free "min",
  .int "MOST_NAME" 12,
  .int "MOST_PINS" 4,
  .int "MOST_LINES" 400,
  .int "MOST_SOURCES" 40,
  .int "MOST_WIDTH" 64,
  .str "LETTERS" "abcdefghijklmnopqrstuvwxyz",
  .str "FIGURES" "0123456789",
  .glo "KINDS",
  .cls "Many",
  .mkr "Many",
  .noat "Many" "circuit",
  .noat "Many" "version",
  .noat "Many" "mask",
  .noat "Many" "given",
  .cls "Press",
  .mkr "Press",
  .noat "Press" "width",
  .noat "Press" "taps",
  .cls "Circuit",
  .mkr "Circuit",
  .noat "Circuit" "inputs",
  .noat "Circuit" "registers",
  .noat "Circuit" "gates",
  .noat "Circuit" "outputs",
  .noat "Circuit" "gate_of",
  .noat "Circuit" "order",
  .meth "Many" "full",
  .meth "Many" "pin",
  .meth "Many" "through",
  .meth "Many" "words",
  .meth "Press" "step",
  .meth "Press" "fold",
  .meth "Press" "press",
  .meth "Press" "signature",
  .meth "Circuit" "check_forms",
  .meth "Circuit" "check_names",
  .meth "Circuit" "lines",
  .meth "Circuit" "uses",
  .meth "Circuit" "sources",
  .meth "Circuit" "sinks",
  .meth "Circuit" "sorted_gates",
  .meth "Circuit" "above",
  .exc "BadBreak",
  .exc "BadPattern",
  .exm "BadBreak" "BadBreak" true,
  .exm "BadPattern" "BadBreak" false,
  .exm "BadPattern" "BadPattern" true]
def kinds : List He.Dv := [.str "and", .str "or", .str "nand", .str "nor", .str "xor", .str "xnor", .str "not", .str "buf", .str "low", .str "high"]
def exB (K : PySem.W.Frag) : Bool := He.tupB K "KINDS" kinds
/-! the Hook: He's facts and one Bool more -/
abbrev AlM : Type := He.AlD × Bool
def obsM (n : Nat) (g : Addr → Option Obj) : AlM := (He.obsD fa fn (He.frG g (He.asD g n)), exB (He.frG g (He.asD g n)))
structure SaysM (K : PySem.W.Frag) : Prop where
  d : He.SaysD fa fn K
  ex : exB K = true
def hookM (n : Nat) : PySem.W.Hook where
  α := AlM
  obs := fun s => obsM n s.heap.get?
  val := fun _ => (He.valD fn, true)
  says := fun _ h => ∃ K : PySem.W.Frag, K.In h ∧ SaysM K
  of := fun _ _ e => ⟨_, He.frG_in, ⟨congrArg (fun z : AlM => z.1) e, congrArg (fun z : AlM => z.2) e⟩⟩
  keeps := fun _ _ _ ⟨K, hK, c⟩ k => ⟨K, PySem.W.Frag.In.keeps hK k, c⟩
abbrev Rw : PySem.W.OpenRow := PySem.W.OpenLaw.row PySem.Challenge.rw_probewright_k63_whole_lost_breaks
def depthN : Nat := 5
abbrev hk : PySem.W.Hook := hookM depthN
def ob (s : PySem.W.SharedT) : AlM := obsM depthN (HandSHeadRun.getT s)
theorem ob_eq (s : PySem.W.SharedT) : ob s = hk.obs s.abs := by
  have e : HandSHeadRun.getT s = s.abs.heap.get? := funext (HandSHeadRun.getT_eq s)
  show obsM depthN (HandSHeadRun.getT s) = obsM depthN s.abs.heap.get?
  rw [e]
def loose1 : List PySem.Str := ["_wall", "ProbeError", "BadCircuit", "BadBreak", "BadPattern", "BadSignature", "MOST_NAME", "MOST_PINS", "MOST_LINES", "MOST_SOURCES", "MOST_WIDTH", "LETTERS", "FIGURES", "is_integer", "is_bit", "are_bits", "is_name", "is_stem", "is_pin", "is_short", "is_break", "check_version", "stuck_pin", "check_pattern", "word_of", "gate_word", "Many", "words_of", "responses", "check_breaks", "Press", "hidden"]
def loose2 : List PySem.Str := ["lost", "KINDS", "pins_allowed", "is_row", "is_gate", "Circuit", "_law_draws", "_law_draw", "_law_same", "_law_circuit", "_law_sources", "_law_lines", "_law_sinks", "_law_gate", "_law_pass", "_law_word", "_law_bits", "_law_words", "_law_responses", "_law_breaks", "_law_above", "_law_shorts", "_law_patterns", "_law_some", "_law_press", "_law_bits_of", "_law_after", "_law_signature", "_law_fold", "_law_signed", "_law_tables", "_law_told"]
abbrev loose : List PySem.Str := loose1 ++ loose2
theorem run (w : World) : HandSHeadRun.RunEq Rw (PySem.W.view Rw.prog [73]) hk ob 6000 loose w := by
  intro os
  kernel_rfl
end Pw
set_option maxHeartbeats 2000000
namespace Pw
open PySem PySem.Spec L2
open Evl (Ex)
/-! ### the facts at hand -/
structure Gd (P : Program) (w : World) (K : PySem.W.Frag) (mg : Str → Option Value) (base : Heap) : Prop where
  kin : K.In base
  ns : base.Ns mainGlobals mg
  c : SaysM K
section
variable {P : Program} {w : World} {K : PySem.W.Frag} {mg : Str → Option Value} {base : Heap}
/-- a promise over data -/
def PD (rel : List PyData → PyData → Prop) : Sp := fun vs H Q _ => ∃ ds d, IsA H vs ds ∧ rel ds d ∧ Giv H (dat d) Q
theorem Gd.free (g : Gd P w K mg base) (i : Nat) {x : Str} (h : fa[i]? = some (.free x) := by rfl) : mg x = none := He.free_ok g.kin g.ns (g.c.d.fact i h)
theorem Gd.glo (g : Gd P w K mg base) (i : Nat) {x : Str} (h : fa[i]? = some (.glo x) := by rfl) : mg x = some (.ref (He.ga K x)) := He.glo_ok g.kin g.ns (g.c.d.fact i h)
theorem Gd.isi (g : Gd P w K mg base) : mg "isinstance" = none := g.free 53
theorem Gd.int (g : Gd P w K mg base) : mg "int" = none := g.free 54
theorem Gd.bool (g : Gd P w K mg base) : mg "bool" = none := g.free 55
theorem Gd.tuple (g : Gd P w K mg base) : mg "tuple" = none := g.free 56
theorem Gd.str (g : Gd P w K mg base) : mg "str" = none := g.free 57
theorem Gd.list (g : Gd P w K mg base) : mg "list" = none := g.free 58
theorem Gd.len (g : Gd P w K mg base) : mg "len" = none := g.free 59
theorem Gd.all (g : Gd P w K mg base) : mg "all" = none := g.free 60
theorem Gd.sum (g : Gd P w K mg base) : mg "sum" = none := g.free 61
theorem Gd.enumerate (g : Gd P w K mg base) : mg "enumerate" = none := g.free 62
theorem Gd.zip (g : Gd P w K mg base) : mg "zip" = none := g.free 63
theorem Gd.range (g : Gd P w K mg base) : mg "range" = none := g.free 64
theorem Gd.sorted (g : Gd P w K mg base) : mg "sorted" = none := g.free 65
theorem Gd.min (g : Gd P w K mg base) : mg "min" = none := g.free 66
theorem Gd.mName (g : Gd P w K mg base) : ∃ t, mg "MOST_NAME" = some (.int 12 t) := He.int_ok g.kin g.ns (g.c.d.fact 67 rfl)
theorem Gd.mPins (g : Gd P w K mg base) : ∃ t, mg "MOST_PINS" = some (.int 4 t) := He.int_ok g.kin g.ns (g.c.d.fact 68 rfl)
theorem Gd.mLines (g : Gd P w K mg base) : ∃ t, mg "MOST_LINES" = some (.int 400 t) := He.int_ok g.kin g.ns (g.c.d.fact 69 rfl)
theorem Gd.mSources (g : Gd P w K mg base) : ∃ t, mg "MOST_SOURCES" = some (.int 40 t) := He.int_ok g.kin g.ns (g.c.d.fact 70 rfl)
theorem Gd.mWidth (g : Gd P w K mg base) : ∃ t, mg "MOST_WIDTH" = some (.int 64 t) := He.int_ok g.kin g.ns (g.c.d.fact 71 rfl)
theorem Gd.letters (g : Gd P w K mg base) : ∃ t, mg "LETTERS" = some (.str "abcdefghijklmnopqrstuvwxyz" t) := He.str_ok g.kin g.ns (g.c.d.fact 72 rfl)
theorem Gd.figures (g : Gd P w K mg base) : ∃ t, mg "FIGURES" = some (.str "0123456789" t) := He.str_ok g.kin g.ns (g.c.d.fact 73 rfl)
theorem Gd.kinds (g : Gd P w K mg base) (H : Hp) : SqT K H (He.ga K "KINDS") (kinds.map (He.Dv.v K)) ∧ mg "KINDS" = some (.ref (He.ga K "KINDS")) := ⟨He.tupB_ok g.c.ex H, g.glo 74⟩
/-- the context of a body -/
abbrev BX (P : Program) (w : World) (K : PySem.W.Frag) (mg : Str → Option Value) (base : Heap) (N : List Str) (d : He.DefD) (f : Addr) (cdv : Value) (A : Around) (outer : List Env) (s : Shared) (H : Hp) (E : XK) : Cx :=
  cxOf (L2.CX P w) P w K mg base N d.qual d.scope f cdv A outer s H E
abbrev BD (Q : VK) : Ends := { nx := fun _ H' => Q .non H', rt := Q }
/-- a def keeps its promise, by its body -/
theorem Gd.fnOk {sp : Sp} {k : Nat} (g : Gd P w K mg base) (i : Nat) (d : He.DefD) (N ps : List Str) (S : FnScope N ps d.scope)
    (len : ∀ vs H Q E, sp vs H Q E → vs.length = ps.length)
    (body : ∀ (cdv : Value) (A : Around) (outer : List Env) (s : Shared) (H : Hp) (vs : List V) (Q : VK) (E : XK), Room k (BX P w K mg base N d (He.fAd K d.at_) cdv A outer s H E).A → sp vs H Q E → tSs (BX P w K mg base N d (He.fAd K d.at_) cdv A outer s H E) d.body (BD Q) (start N vs) H)
    (h : fn[i]? = some d := by rfl) : ∃ fd, FunD K d.name d.qual d.params d.body d.scope (d.dvs K) (d.kws K) (He.fAd K d.at_) fd ∧ FnOk P w K mg base (L2.CX P w) (k + 1) (He.fAd K d.at_) fd ps sp := by
  obtain ⟨fd, F⟩ := g.c.d.def_ i h
  exact ⟨fd, F, F.ok S len fun cdv A outer s H vs Q E hr q => ⟨_, pSs, body cdv A outer s H vs Q E hr q⟩⟩
theorem Gd.fnc {sp : Sp} {k : Nat} (g : Gd P w K mg base) (i j : Nat) (d : He.DefD) (x : Str) (N ps : List Str) (S : FnScope N ps d.scope)
    (len : ∀ vs H Q E, sp vs H Q E → vs.length = ps.length)
    (body : ∀ (cdv : Value) (A : Around) (outer : List Env) (s : Shared) (H : Hp) (vs : List V) (Q : VK) (E : XK), Room k (BX P w K mg base N d (He.fAd K d.at_) cdv A outer s H E).A → sp vs H Q E → tSs (BX P w K mg base N d (He.fAd K d.at_) cdv A outer s H E) d.body (BD Q) (start N vs) H)
    (bnd : ∀ (kV doc pm : Value) (an : Option Addr) (cdv ct : Value) (us : List Value), us.length = ps.length → bindArgs (PySem.W.fnOf d.name d.qual d.params d.body d.scope .none kV doc pm an cdv ct) ⟨us, []⟩ = pure (ps.zip us))
    (h : fn[i]? = some d := by rfl) (hg : fa[j]? = some (.glo x) := by rfl) (ha : d.at_ = (x, none) := by rfl) (hd : d.dfl = [] := by rfl) (hk : d.kwd = [] := by rfl) : Fnc P w K mg base (k + 1) x sp := by
  obtain ⟨fd, F, O⟩ := g.fnOk (k := k) i d N ps S len body h
  have e : He.fAd K d.at_ = He.ga K x := by rw [ha]; rfl
  have e1 : d.dvs K = [] := by unfold He.DefD.dvs; rw [hd]; rfl
  have e2 : d.kws K = [] := by unfold He.DefD.kws; rw [hk]; rfl
  rw [e1, e2] at F
  refine ⟨He.fAd K d.at_, fd, ps, O, ?_, F.kp, F.bindsN bnd⟩
  rw [e]
  exact g.glo j hg
theorem Gd.mtd {sp : Sp} {k : Nat} (g : Gd P w K mg base) (i j c : Nat) (d : He.DefD) (x m : Str) (N ps : List Str) (S : FnScope N ps d.scope)
    (len : ∀ vs H Q E, sp vs H Q E → vs.length = ps.length)
    (body : ∀ (cdv : Value) (A : Around) (outer : List Env) (s : Shared) (H : Hp) (vs : List V) (Q : VK) (E : XK), Room k (BX P w K mg base N d (He.fAd K d.at_) cdv A outer s H E).A → sp vs H Q E → tSs (BX P w K mg base N d (He.fAd K d.at_) cdv A outer s H E) d.body (BD Q) (start N vs) H)
    (bnd : ∀ (kV doc pm : Value) (an : Option Addr) (cdv ct : Value) (us : List Value), us.length = ps.length → bindArgs (PySem.W.fnOf d.name d.qual d.params d.body d.scope .none kV doc pm an cdv ct) ⟨us, []⟩ = pure (ps.zip us))
    (h : fn[i]? = some d := by rfl) (hm : fa[j]? = some (.meth x m) := by rfl) (hc : fa[c]? = some (.cls x) := by rfl) (ha : d.at_ = (x, some m) := by rfl) (hd : d.dfl = [] := by rfl) (hk : d.kwd = [] := by rfl) : Mtd P w K mg base (k + 1) (He.ga K x) m sp := by
  obtain ⟨fd, F, O⟩ := g.fnOk (k := k) i d N ps S len body h
  have e : He.fAd K d.at_ = He.ma K (He.ga K x) m := by rw [ha]; rfl
  have e1 : d.dvs K = [] := by unfold He.DefD.dvs; rw [hd]; rfl
  have e2 : d.kws K = [] := by unfold He.DefD.kws; rw [hk]; rfl
  rw [e1, e2] at F
  refine ⟨He.fAd K d.at_, fd, ps, O, ?_, He.cls_ok (g.c.d.fact c hc), F.bindsN bnd⟩
  rw [e]
  exact He.meth_ok (g.c.d.fact j hm)
theorem Gd.mkr {sp : Sp} {k : Nat} (g : Gd P w K mg base) (i j c : Nat) (d : He.DefD) (x : Str) (N ps : List Str) (S : FnScope N ps d.scope)
    (len : ∀ vs H Q E, sp vs H Q E → vs.length = ps.length)
    (body : ∀ (cdv : Value) (A : Around) (outer : List Env) (s : Shared) (H : Hp) (vs : List V) (Q : VK) (E : XK), Room k (BX P w K mg base N d (He.fAd K d.at_) cdv A outer s H E).A → sp vs H Q E → tSs (BX P w K mg base N d (He.fAd K d.at_) cdv A outer s H E) d.body (BD Q) (start N vs) H)
    (bnd : ∀ (kV doc pm : Value) (an : Option Addr) (cdv ct : Value) (us : List Value), us.length = ps.length → bindArgs (PySem.W.fnOf d.name d.qual d.params d.body d.scope .none kV doc pm an cdv ct) ⟨us, []⟩ = pure (ps.zip us))
    (h : fn[i]? = some d := by rfl) (hm : fa[j]? = some (.mkr x) := by rfl) (hc : fa[c]? = some (.glo x) := by rfl) (ha : d.at_ = (x, some ("__init__" : Str)) := by rfl) (hd : d.dfl = [] := by rfl) (hk : d.kwd = [] := by rfl) : Mkr P w K mg base (k + 1) (He.ga K x) x sp := by
  obtain ⟨fd, F, O⟩ := g.fnOk (k := k) i d N ps S len body h
  have e : He.fAd K d.at_ = He.ma K (He.ga K x) "__init__" := by rw [ha]; rfl
  have e1 : d.dvs K = [] := by unfold He.DefD.dvs; rw [hd]; rfl
  have e2 : d.kws K = [] := by unfold He.DefD.kws; rw [hk]; rfl
  rw [e1, e2] at F
  refine ⟨He.fAd K d.at_, fd, ps, O, ?_, g.glo c hc, F.bindsN bnd⟩
  rw [e]
  exact He.mkr_ok (g.c.d.fact j hm)
theorem Gd.fncD {rel : List PyData → PyData → Prop} {k : Nat} (g : Gd P w K mg base) (i j : Nat) (d : He.DefD) (x : Str) {N ps : List Str} (S : FnScope N ps d.scope)
    (bnd : ∀ (kV doc pm : Value) (an : Option Addr) (cdv ct : Value) (us : List Value), us.length = ps.length → bindArgs (PySem.W.fnOf d.name d.qual d.params d.body d.scope .none kV doc pm an cdv ct) ⟨us, []⟩ = pure (ps.zip us))
    (len : ∀ ds r, rel ds r → ds.length = ps.length)
    (body : ∀ (cdv : Value) (A : Around) (outer : List Env) (s : Shared) (H : Hp) (vs : List V) (Q : VK) (E : XK) (ds : List PyData) (r : PyData), Room k (BX P w K mg base N d (He.fAd K d.at_) cdv A outer s H E).A → IsA H vs ds → rel ds r → Giv H (dat r) Q → tSs (BX P w K mg base N d (He.fAd K d.at_) cdv A outer s H E) d.body (BD Q) (start N vs) H)
    (h : fn[i]? = some d := by rfl) (hg : fa[j]? = some (.glo x) := by rfl) (ha : d.at_ = (x, none) := by rfl) (hd : d.dfl = [] := by rfl) (hk : d.kwd = [] := by rfl) : Fnc P w K mg base (k + 1) x (PD rel) :=
  g.fnc i j d x N ps S (fun vs H Q E ⟨ds, r, h, rl, q⟩ => h.length.trans (len ds r rl)) (fun cdv A outer s H vs Q E hr ⟨ds, r, h, rl, q⟩ => body cdv A outer s H vs Q E ds r hr h rl q) bnd h hg ha hd hk
end
/-! ### more rules -/
theorem WW.is {X : Cx} {σ : L2.St} {H : Hp} {e : Expr} {k l : Bool} (h : WW X σ H e k) (q : k = l) : WW X σ H e l := by rw [← q]; exact h
section
variable {X : Cx} {e a b c o : Expr} {es : List Expr} {st : Stmt} {sts rest : List Stmt} {σ : L2.St} {H H' H0 : Hp} {P P' R : PV} {d d' : PyData} {ds : List PyData} {v u : V} {pos pos' : Pos} {i j k : Nat} {x : Str} {D : Ends} {tg : Expr}
/-- return e, to a promise -/
theorem go_out (h : EW X σ H e R) (z : Ex H0 H) (g : Giv H0 R D.rt) : tSs X (.Return (some e) pos :: rest) D σ H := go_cons (toS (ps_ret pE) (h H (Ex.refl H) _ fun v H2 y p => g v H2 (z.trans y) p))
theorem ev_n (i : Nat) (h : Is H v d) (hσ : σ[i]? = some (some v) := by rfl) (hN : X.N[i]? = some x := by rfl) (hv : Vis X.env.scope x := by first | exact Or.inl rfl | exact Or.inr (Or.inl rfl) | exact Or.inr (Or.inr rfl)) (hd : (x == ("__debug__" : Str)) = false := by decide) (hcd : (x == ("__classdict__" : Str)) = false := by decide) : EV X σ H (.Name x pos) d := (ex_n hσ hN hv hd hcd).at_ h
theorem ex_v (i : Nat) (hσ : σ[i]? = some (some v) := by rfl) (hN : X.N[i]? = some x := by rfl) (hv : Vis X.env.scope x := by first | exact Or.inl rfl | exact Or.inr (Or.inl rfl) | exact Or.inr (Or.inr rfl)) (hd : (x == ("__debug__" : Str)) = false := by decide) (hcd : (x == ("__classdict__" : Str)) = false := by decide) : EX X σ H (.Name x pos) v := ex_n hσ hN hv hd hcd
theorem ev_callD {rel : List PyData → PyData → Prop} {p : Pos} (F : Fnc X.prog X.w X.K X.mg X.base k x (PD rel)) (hr : Room j X.A) (hk : k ≤ j) (ha : AV X σ H (e :: es) ds) (hs : rel ds d)
    (hg : Gl X x := by rfl) (hdb : (x == ("__debug__" : Str)) = false := by decide) (he : starEach (e :: es) X.env = (false, eval e X.env) :: starEach es X.env := by rfl) (hpl : (backTo pos (starEach es X.env)).any (·.1) = false := by rfl) : EV X σ H (.Call (.Name x p) (e :: es) [] pos) d :=
  ew_call F hr hk ha (fun vs H2 y p Q q => ⟨ds, d, p, hs, q⟩) hg hdb he hpl
end
section
variable {H : Hp} {vs : List V} {d d1 d2 d3 d4 : PyData}
theorem IsA.one' (h : IsA H vs [d]) : ∃ v, vs = [v] ∧ Is H v d := by
  cases h with
  | @cons v r _ _ h1 t =>
    cases t
    exact ⟨v, rfl, h1⟩
theorem IsA.two (h : IsA H vs [d1, d2]) : ∃ v1 v2, vs = [v1, v2] ∧ Is H v1 d1 ∧ Is H v2 d2 := by
  cases h with
  | @cons v r _ _ h1 t =>
    obtain ⟨v2, rfl, h2⟩ := IsA.one' t
    exact ⟨v, v2, rfl, h1, h2⟩
theorem IsA.three (h : IsA H vs [d1, d2, d3]) : ∃ v1 v2 v3, vs = [v1, v2, v3] ∧ Is H v1 d1 ∧ Is H v2 d2 ∧ Is H v3 d3 := by
  cases h with
  | @cons v r _ _ h1 t =>
    obtain ⟨v2, v3, rfl, h2, h3⟩ := IsA.two t
    exact ⟨v, v2, v3, rfl, h1, h2, h3⟩
theorem IsA.four (h : IsA H vs [d1, d2, d3, d4]) : ∃ v1 v2 v3 v4, vs = [v1, v2, v3, v4] ∧ Is H v1 d1 ∧ Is H v2 d2 ∧ Is H v3 d3 ∧ Is H v4 d4 := by
  cases h with
  | @cons v r _ _ h1 t =>
    obtain ⟨v2, v3, v4, rfl, h2, h3, h4⟩ := IsA.three t
    exact ⟨v, v2, v3, v4, rfl, h1, h2, h3, h4⟩
end
end Pw
namespace Pw
open PySem PySem.Spec PyProof.Rows L2
open Evl (Ex)
/-! ### enumerate over a tuple -/
theorem mk_enumT (tt : Addr) (its : Array Value) :
    Meets (Builtin.«enumerate.__new__» ⟨[.type "enumerate", .ref tt], []⟩) (fun _ R s1 => s1.heap.IsTuple tt its ∧
      R (.ok (.ret (.ref (s1.heap.push { cls := .type "tuple_iterator", data := .fields #[.ref tt, .int 0 0] }).objs.size)))
        { s1 with heap := (s1.heap.push { cls := .type "tuple_iterator", data := .fields #[.ref tt, .int 0 0] }).push { cls := .type "enumerate", data := .fields #[.none, .bool false, .ref s1.heap.objs.size, rawInt 0, .none, .none] } }) :=
  .of_wp fun pr wo Ar Rr s1 hh => by
    obtain ⟨hp1, g1, d1, tk1, os1⟩ := s1; obtain ⟨hT1, hh⟩ := hh
    have hsub := sub_enumerate
    have q1 : ∀ {A' : Around} {E : Value → Shared → Prop} {Q : Value → Shared → Prop}, Q (.ref hp1.objs.size) ⟨hp1.push { cls := .type "tuple_iterator", data := .fields #[.ref tt, .int 0 0] }, g1, d1, tk1, os1⟩ → wpAny (model pr wo) A' (pyIter (.ref tt)) Q E ⟨hp1, g1, d1, tk1, os1⟩ :=
      fun q => (begins_tuple tt its).iter pr wo _ _ ⟨hp1, g1, d1, tk1, os1⟩ _ hT1 q
    wp_walk using q1
    refine wpAny_stack_any fun st1 => wpAny_pure ?_
    split
    · rename_i c1 _ _ _ _ _
      cases (c1 == Value.type "enumerate") <;> (wp_walk using q1; exact ⟨_, rfl, hh⟩)
    · wp_walk using q1
      exact ⟨_, rfl, hh⟩
theorem call_enumT {prog : Program} {w : World} {A : Around} {E : Value → Shared → Prop} {s : Shared} {tt : Addr} {its : Array Value} {Q : Value → Shared → Prop} (hT : s.heap.IsTuple tt its)
    (hq : ∀ h2, IsEnum h2 (s.heap.objs.size + 1) s.heap.objs.size 0 .none → h2.IsTupleIter s.heap.objs.size tt 0 → (∀ b o, s.heap.get? b = some o → h2.get? b = some o) → Q (.ref (s.heap.objs.size + 1)) { s with heap := h2 }) :
    wpAny (model prog w) A (call (.type "enumerate") [.ref tt]) Q E s := by
  refine callType_new F.called_enumerate (by decide) (F.typeCall_enumerate_1 _) (F.newCall_enumerate_1 _) (fun ob => F.args_object_init_2 ob _) F.entry_enumerate_new (mk_enumT tt its) ⟨hT, ?_⟩
  have z1 : (s.heap.push { cls := .type "tuple_iterator", data := .fields #[.ref tt, .int 0 0] }).objs.size = s.heap.objs.size + 1 := Heap.size_push ..
  show _ ∧ _
  rw [z1]
  have ee : IsEnum ((s.heap.push { cls := .type "tuple_iterator", data := .fields #[.ref tt, .int 0 0] }).push { cls := .type "enumerate", data := .fields #[.none, .bool false, .ref s.heap.objs.size, rawInt 0, .none, .none] }) (s.heap.objs.size + 1) s.heap.objs.size 0 .none := by
    have z2 := Heap.get?_push_size (s.heap.push { cls := .type "tuple_iterator", data := .fields #[.ref tt, .int 0 0] }) (o := { cls := .type "enumerate", data := .fields #[.none, .bool false, .ref s.heap.objs.size, rawInt 0, .none, .none] }) rfl
    rw [z1] at z2; exact z2
  exact ⟨⟨_, ee, rfl⟩, hq _ ee ⟨_, Heap.get?_push_of_some _ (Heap.get?_push_size _ rfl), rfl, rfl⟩ fun b o x => Heap.get?_push_of_some _ (Heap.get?_push_of_some _ x)⟩
/-- the tuple at a, each item in a new pair -/
def ItE (K : PySem.W.Frag) (a : Addr) : It :=
  ⟨fun i H => ∃ (xs : List V) (x : V), SqT K H a xs ∧ xs[i]? = some x, fun i H v H' => ∃ T x, v = .ref T ∧ H T = none ∧ H' = upd H T (.tup [.int (i : Nat), x]) ∧ ∀ xs, SqT K H a xs → xs[i]? = some x, fun i H => ∃ xs : List V, SqT K H a xs ∧ xs.length = i⟩
theorem turn_enT {P : Program} {w : World} {K : PySem.W.Frag} {elts : List Expr} {kk : Nat} {tpos : Pos} (a e it : Addr) (hia : a ≠ it) (hea : e ≠ a) :
    Turn P w K (.Tuple elts kk tpos) (ItE K a) [e, it] e (fun i h => (∃ old, IsEnum h e it ((i : Nat) : Int) old) ∧ h.IsTupleIter it a i ∧ e ≠ it) where
  mem := by simp
  obj := fun i h st b hb => by
    obtain ⟨⟨old, he⟩, ⟨o, ho, hc, hd⟩, _⟩ := st
    have ob : b = e ∨ b = it := by simpa using hb
    rcases ob with z | z
    · subst z; exact ⟨_, he, fun v q => nomatch q⟩
    · subst z; exact ⟨o, ho, fun v q => by rw [hd] at q; cases q⟩
  keep := fun i h h2 st k => let ⟨⟨old, he⟩, hi, ne⟩ := st; ⟨⟨old, k e (by simp) _ he⟩, hi.at fun o q => k it (by simp) o q, ne⟩
  item := by
    intro X hP hw hK hc i pins s σ H E I hf st hg
    subst hP hw hK
    obtain ⟨⟨old, he⟩, hit, ne⟩ := st
    obtain ⟨xs, x, hq, hx⟩ := hg
    obtain ⟨its, rv, p, hz⟩ := I.tuple hq
    obtain ⟨u, hu, ru⟩ := rv.get hx
    have le : e < s.heap.objs.size := Heap.lt_size he
    have li : it < s.heap.objs.size := by obtain ⟨_, q, _⟩ := hit; exact Heap.lt_size q
    have D := Draws.tuple (prog := X.prog) (w := X.w) (A := X.A.in1) (I.ok.hd hc) it a hia its.toArray
    refine wpAny_pyNext_enum_itemC D he ⟨hit, p⟩ (by have := (List.getElem?_eq_some_iff.mp hu).1; simpa using this) ne (by simp [ne, hea]) fun u2 h1 tk1 hu2 ho hst hT hsz hk => ?_
    have eu : u2 = u := by
      have q2 : its[i]? = some u2 := by simpa using hu2
      rw [hu] at q2; exact (Option.some.inj q2).symm
    subst eu
    refine ⟨_, rfl, wpAny_letOwnedTupleGo_enum (s := { s with heap := h1, toks := tk1 + 1 }) ho fun h3 he3 sb => ?_⟩
    have hT2 : h3.get? s.heap.objs.size = some { cls := .type "tuple", data := .seq #[.int i tk1, u2] } := (sb.2 _ (Nat.ne_of_gt le)).trans hT
    have nw : ObjOk X.prog X.w (upd H s.heap.objs.size (.tup [.int (i : Nat), x])) h3 s.heap.objs.size (.tup [.int (i : Nat), x]) :=
      ⟨by show 2 ≤ sizeLine; decide, [.int i tk1, u2], .cons ⟨_, rfl⟩ (.cons ru .nil), ⟨_, hT2, rfl, _, rfl⟩⟩
    have I1 : Inv X pins σ (upd H s.heap.objs.size (.tup [.int (i : Nat), x])) { s with heap := h3, toks := tk1 + 1 } :=
      I.turnedNew (ch := [e, it]) (fun b ob hb q => (sb.2 b (fun z => hb (by simp [z]))).trans (hk b ob (fun z => hb (by simp [z])) (fun z => hb (by simp [z])) q)) hf (Nat.le_refl _) nw
    refine ⟨.ref s.heap.objs.size, _, I1, rfl, ⟨_, x, rfl, I.hok.fresh (Nat.le_refl _), rfl, fun ys hy => by rw [I.tuple_inj hy hq]; exact hx⟩, ⟨⟨u2, ?_⟩, hst.1.at fun o q => (sb.2 it (Ne.symm ne)).trans q, ne⟩, fun b hb => ?_⟩
    · have e1 : ((i + 1 : Nat) : Int) = (i : Int) + 1 := by omega
      rw [e1]; exact he3
    · have lb : b < s.heap.objs.size := by
        have ob : b = e ∨ b = it := by simpa using hb
        rcases ob with z | z
        · subst z; exact le
        · subst z; exact li
      rw [upd_ne (Nat.ne_of_lt lb)]
      exact (hf b hb).1
  done := by
    intro X hP hw hK hc i pins s σ H E I hf st hg
    subst hP hw hK
    obtain ⟨⟨old, he⟩, hit, ne⟩ := st
    obtain ⟨xs, hq, hx⟩ := hg
    obtain ⟨its, rv, p, hz⟩ := I.tuple hq
    obtain ⟨f0, f1, f2, f3, f4, f5⟩ := hf it (by simp)
    have hl := rv.length
    have D := Draws.tuple (prog := X.prog) (w := X.w) (A := X.A.in1) (I.ok.hd hc) it a hia its.toArray
    have en : its.toArray.size = i := by rw [List.size_toArray, ← hl, hx]
    refine wpAny_pyNext_enum_endD D he ⟨by rw [en]; exact hit, p⟩ fun h1 eb => ⟨rfl, I.turned (t' := s.toks) (fun b o hb q => eb b o hb q) f0 f1 f3 f4 f5⟩
  self := fun A i s Q E st h => let ⟨⟨_, he⟩, _⟩ := st; wpAny_pyIter_enum he h
def iEnT (K : PySem.W.Frag) (ta : TA) : TI := fun σ H R => ta σ H fun vs H1 => ∃ a xs, vs = [.ref a] ∧ SqT K H1 a xs ∧ R (ItE K a) H1
theorem pi_enT {X : Cx} {e : Expr} {ta : TA} {p pos tpos : Pos} {elts : List Expr} {kk : Nat} (hg : Gl X "enumerate") (hm : X.mg "enumerate" = none) (ha : PA X [e] ta) (hs1 : starEach [e] X.env = [(false, eval e X.env)] := by rfl) :
    PI X (.Tuple elts kk tpos) (.Call (.Name "enumerate" p) [e] [] pos) (iEnT X.K ta) := by
  refine ⟨fun pins s σ H R I hI => ?_⟩
  refine Call_ (ld_blt I hg hm boot_enumerate (PyProof.Rows.callWith_type1 (thn (ha.run pos pins s σ H _ I hI) fun us s1 ⟨vs, H1, I1, r1, q1⟩ => ?_) hs1 rfl))
  obtain ⟨a, xs, ex, hq, q⟩ := q1
  subst ex
  cases r1 with
  | cons r rr =>
    cases rr
    cases r
    obtain ⟨its, rv, pt, hz⟩ := I1.tuple hq
    have la : a < s1.heap.objs.size := by obtain ⟨o, e1, _⟩ := id pt; exact Heap.lt_size e1
    refine call_enumT pt fun h2 he hit hk => wpAny_pyIter_enum he ?_
    have I2 : Inv X pins σ H1 { s1 with heap := h2 } := I1.kept (t' := s1.toks) hk
    refine ⟨s1.heap.objs.size + 1, [s1.heap.objs.size + 1, s1.heap.objs.size], _, _, H1, rfl, I2, turn_enT a (s1.heap.objs.size + 1) s1.heap.objs.size (Nat.ne_of_lt la) (Nat.ne_of_gt (Nat.lt_succ_of_lt la)), ⟨⟨.none, he⟩, hit, Nat.succ_ne_self _⟩, fun b hb => ?_, q⟩
    have ob : b = s1.heap.objs.size + 1 ∨ b = s1.heap.objs.size := by simpa using hb
    have lb : s1.heap.objs.size ≤ b := by
      rcases ob with z | z
      · subst z; exact Nat.le_add_right _ _
      · subst z; exact Nat.le_refl _
    exact I1.fpOk lb (I1.hok.fresh lb)
theorem walk_enT {K : PySem.W.Frag} {a : Addr} {xs : List V} : Walk (ItE K a) xs.length (fun H => SqT K H a xs) (YPair (fun i => some (.int (i : Nat))) (fun i => xs[i]?)) := by
  refine ⟨fun i _ hi q => ⟨xs, xs[i], q, by simp [hi]⟩, fun _ q => ⟨xs, q, rfl⟩, fun i H v H' _ q y => ?_⟩
  obtain ⟨T, x, h1, h2, h3, h4⟩ := y
  exact ⟨T, .int (i : Nat), x, h1, h2, h3, rfl, h4 xs q⟩
end Pw
namespace Pw
open PySem PySem.Spec L2
open Evl (Ex)
section
variable {X : Cx} {e a b c o iter : Expr} {es : List Expr} {st : Stmt} {sts rest body elts : List Stmt} {σ : L2.St} {H H' : Hp} {P P' R : PV} {d d' : PyData} {ds : List PyData} {v u : V} {pos pos' : Pos} {i : Nat} {k : Bool} {x : Str} {D : Ends} {tg : Expr}
abbrev LoopE (X : Cx) (rest : List Stmt) (D : Ends) (N : L2.St → Hp → Prop) : Ends := { D with nx := N, ct := N, bk := tSs X rest D }
/-- for a, b in enumerate(tuple): -/
theorem go_forET {p tp : Pos} {kk : Nat} {tgs : List Expr} (hp : PassesOwn (model X.prog X.w) X.A X.env X.xe) (hc : X.calm = true) (hm : X.mg "enumerate" = none) (hi : EV X σ H a (.tuple ds))
    (q : ∀ (l : Addr) (xs : List V) (H1 : Hp), Ex H H1 → H1 l = some (.tup xs) → IsA H1 xs ds → ∃ Pv : Nat → L2.St → Hp → Prop, Pv 0 σ H1 ∧ (∀ i σ' H', Pv i σ' H' → H' l = some (.tup xs)) ∧
      (∀ (i : Nat) v d σ' H' T, xs[i]? = some v → ds[i]? = some d → Is H1 v d → Pv i σ' H' → H' T = none → tG X (.Tuple tgs kk tp) (.ref T) σ' (upd H' T (.tup [.int i, v])) fun σ2 H2 => tSs X body (LoopE X rest D (Pv (i + 1))) σ2 H2) ∧ (∀ σ' H', Pv ds.length σ' H' → tSs X rest D σ' H'))
    (hg : Gl X "enumerate" := by rfl) (hs1 : starEach [a] X.env = [(false, eval a X.env)] := by rfl) : tSs X (.For (.Tuple tgs kk tp) (.Call (.Name "enumerate" p) [a] [] pos') body [] pos :: rest) D σ H :=
  go_cons (toS (ps_for hp hc (pi_enT hg hm pA hs1) pG pSs) ((av_cons hi av_nil hs1).run fun vs H1 z r => by
    obtain ⟨v, rfl, r2⟩ := IsA.one r
    cases r2 with
    | @tup l xs _ hl hs =>
      obtain ⟨Pv, h0, hk, hst, hd⟩ := q l xs H1 z hl hs
      refine ⟨l, xs, rfl, SqT.of hl, for_it (walk_enT (K := X.K)) Pv h0 (fun i σ' H' _ p => SqT.of (hk i σ' H' p)) (fun i v σ' H' H'' hi p y => ?_) (fun σ' H' p => hd σ' H' (by rw [← hs.length]; exact p))⟩
      obtain ⟨T, x, y1, rfl, hT, rfl, e1, e2⟩ := y
      cases (Option.some.inj e1)
      obtain ⟨d, e3, r⟩ := hs.at_ e2
      exact hst i y1 d σ' H' T e2 e3 r p hT))
/-- for a, b in enumerate(list): -/
theorem go_forEL {p tp : Pos} {kk : Nat} {tgs : List Expr} (hp : PassesOwn (model X.prog X.w) X.A X.env X.xe) (hc : X.calm = true) (hm : X.mg "enumerate" = none) (hi : EV X σ H a (.list ds))
    (q : ∀ (l : Addr) (xs : List V) (H1 : Hp), Ex H H1 → H1 l = some (.lst xs) → IsA H1 xs ds → ∃ Pv : Nat → L2.St → Hp → Prop, Pv 0 σ H1 ∧ (∀ i σ' H', Pv i σ' H' → H' l = some (.lst xs)) ∧
      (∀ (i : Nat) v d σ' H' T, xs[i]? = some v → ds[i]? = some d → Is H1 v d → Pv i σ' H' → H' T = none → tG X (.Tuple tgs kk tp) (.ref T) σ' (upd H' T (.tup [.int i, v])) fun σ2 H2 => tSs X body (LoopE X rest D (Pv (i + 1))) σ2 H2) ∧ (∀ σ' H', Pv ds.length σ' H' → tSs X rest D σ' H'))
    (hg : Gl X "enumerate" := by rfl) (hs1 : starEach [a] X.env = [(false, eval a X.env)] := by rfl) : tSs X (.For (.Tuple tgs kk tp) (.Call (.Name "enumerate" p) [a] [] pos') body [] pos :: rest) D σ H :=
  go_cons (toS (ps_for hp hc (pi_enum hg hm pA hs1) pG pSs) ((av_cons hi av_nil hs1).run fun vs H1 z r => by
    obtain ⟨v, rfl, r2⟩ := IsA.one r
    cases r2 with
    | @lst l xs _ hl hs =>
      obtain ⟨Pv, h0, hk, hst, hd⟩ := q l xs H1 z hl hs
      refine ⟨l, xs, rfl, SqL.of hl, for_it (walk_enum (K := X.K)) Pv h0 (fun i σ' H' _ p => SqL.of (hk i σ' H' p)) (fun i v σ' H' H'' hi p y => ?_) (fun σ' H' p => hd σ' H' (by rw [← hs.length]; exact p))⟩
      obtain ⟨T, x, y1, rfl, hT, rfl, e1, e2⟩ := y
      cases (Option.some.inj e1)
      obtain ⟨d, e3, r⟩ := hs.at_ e2
      exact hst i y1 d σ' H' T e2 e3 r p hT))
/-- for c in text: -/
theorem go_forS {z : Str} (hp : PassesOwn (model X.prog X.w) X.A X.env X.xe) (hc : X.calm = true) (hi : EV X σ H iter (.str z))
    (q : ∀ (H1 : Hp), Ex H H1 → ∃ Pv : Nat → L2.St → Hp → Prop, Pv 0 σ H1 ∧
      (∀ (i : Nat) c σ' H', z.cps[i]? = some c → Pv i σ' H' → tG X tg (.str ⟨#[c]⟩) σ' H' fun σ2 H2 => tSs X body (LoopE X rest D (Pv (i + 1))) σ2 H2) ∧ (∀ σ' H', Pv z.cps.size σ' H' → tSs X rest D σ' H'))
    (hs : ∀ x, foldedSetIterable iter X.env x = pure x := by intro _; rfl) : tSs X (.For tg iter body [] pos :: rest) D σ H :=
  go_cons (toS (ps_for hp hc (pi_str pE) pG pSs hs) (hi.run fun v H1 y r => by
    obtain ⟨Pv, h0, hst, hd⟩ := q H1 y
    refine ⟨z, r.str_eq, for_it walk_str Pv h0 (fun _ _ _ _ _ => True.intro) (fun i v σ' H' H'' hi p y => ?_) hd⟩
    obtain ⟨rfl, c, e, rfl⟩ := y
    exact hst i c σ' _ e p))
/-- for x in dict: (the dict locked) -/
theorem go_forK {l : Addr} {kvs : List (Key × V)} (hp : PassesOwn (model X.prog X.w) X.A X.env X.xe) (hc : X.calm = true) (hl : H l = some (.dK kvs)) (hi : ∀ H', EX X σ H' iter (.ref l))
    (q : ∀ od H1, Ex (upd H l (.frz od (.dK kvs))) H1 → ∃ Pv : Nat → L2.St → Hp → Prop, Pv 0 σ H1 ∧ (∀ i σ' H', Pv i σ' H' → H' l = some (.frz od (.dK kvs))) ∧
      (∀ (i : Nat) k v σ' H', kvs[i]? = some (k, v) → Pv i σ' H' → tG X tg (kV k) σ' H' fun σ2 H2 => tSs X body { nx := Pv (i + 1), ct := Pv (i + 1), bk := fun σ' H' => H' l = some (.frz od (.dK kvs)) ∧ tSs X rest D σ' (upd H' l (.dK kvs)), rt := fun v H' => H' l = some (.frz od (.dK kvs)) ∧ D.rt v (upd H' l (.dK kvs)) } σ2 H2) ∧ (∀ σ' H', Pv kvs.length σ' H' → tSs X rest D σ' (upd H' l (.dK kvs))))
    (hs : ∀ x, foldedSetIterable iter X.env x = pure x := by intro _; rfl) : tSs X (.For tg iter body [] pos :: rest) D σ H :=
  go_cons (toS (ps_lock (ps_for hp hc (pi_keys pE) pG pSs hs)) ⟨l, .dK kvs, hl, True.intro, fun od => by
    refine (hi _).run fun v H1 y r => ?_
    have r : v = .ref l := r
    have hl1 : H1 l = some (.frz od (.dK kvs)) := y _ _ upd_same
    obtain ⟨Pv, h0, hk, hst, hd⟩ := q od H1 y
    subst r
    refine ⟨l, od, rfl, .inl ⟨kvs, hl1, for_it walk_keys Pv h0 (fun i σ' H' _ p => hk i σ' H' p) (fun i v σ' H' H'' hi p y => ?_) (fun σ' H' p => ⟨hk _ _ _ p, hd σ' H' p⟩)⟩⟩
    obtain ⟨rfl, k, v1, e, rfl⟩ := y
    exact hst i k v1 σ' _ e p⟩)
end
end Pw
namespace Pw
open PySem PySem.Spec L2
abbrev N_is_integer : List Str := ["value", "least", "greatest"]
abbrev A_is_integer : List Str := ["value", "least", "greatest"]
theorem sc_is_integer : FnScope N_is_integer A_is_integer d_is_integer.scope := ⟨rfl, rfl, rfl, by decide +kernel, rfl, by decide +kernel, by decide +kernel⟩
theorem bn_is_integer (kV doc pm : Value) (an : Option Addr) (cdv ct : Value) (us : List Value) (hl : us.length = A_is_integer.length) : bindArgs (PySem.W.fnOf d_is_integer.name d_is_integer.qual d_is_integer.params d_is_integer.body d_is_integer.scope .none kV doc pm an cdv ct) ⟨us, []⟩ = pure (List.zip A_is_integer us) := match us, hl with | [_, _, _], _ => rfl
abbrev N_is_bit : List Str := ["value"]
abbrev A_is_bit : List Str := ["value"]
theorem sc_is_bit : FnScope N_is_bit A_is_bit d_is_bit.scope := ⟨rfl, rfl, rfl, by decide +kernel, rfl, by decide +kernel, by decide +kernel⟩
theorem bn_is_bit (kV doc pm : Value) (an : Option Addr) (cdv ct : Value) (us : List Value) (hl : us.length = A_is_bit.length) : bindArgs (PySem.W.fnOf d_is_bit.name d_is_bit.qual d_is_bit.params d_is_bit.body d_is_bit.scope .none kV doc pm an cdv ct) ⟨us, []⟩ = pure (List.zip A_is_bit us) := match us, hl with | [_], _ => rfl
abbrev N_are_bits : List Str := ["value", "count", "item"]
abbrev A_are_bits : List Str := ["value", "count"]
theorem sc_are_bits : FnScope N_are_bits A_are_bits d_are_bits.scope := ⟨rfl, rfl, rfl, by decide +kernel, rfl, by decide +kernel, by decide +kernel⟩
theorem bn_are_bits (kV doc pm : Value) (an : Option Addr) (cdv ct : Value) (us : List Value) (hl : us.length = A_are_bits.length) : bindArgs (PySem.W.fnOf d_are_bits.name d_are_bits.qual d_are_bits.params d_are_bits.body d_are_bits.scope .none kV doc pm an cdv ct) ⟨us, []⟩ = pure (List.zip A_are_bits us) := match us, hl with | [_, _], _ => rfl
abbrev N_is_name : List Str := ["value", "character"]
abbrev A_is_name : List Str := ["value"]
theorem sc_is_name : FnScope N_is_name A_is_name d_is_name.scope := ⟨rfl, rfl, rfl, by decide +kernel, rfl, by decide +kernel, by decide +kernel⟩
theorem bn_is_name (kV doc pm : Value) (an : Option Addr) (cdv ct : Value) (us : List Value) (hl : us.length = A_is_name.length) : bindArgs (PySem.W.fnOf d_is_name.name d_is_name.qual d_is_name.params d_is_name.body d_is_name.scope .none kV doc pm an cdv ct) ⟨us, []⟩ = pure (List.zip A_is_name us) := match us, hl with | [_], _ => rfl
abbrev N_is_stem : List Str := ["circuit", "value"]
abbrev A_is_stem : List Str := ["circuit", "value"]
theorem sc_is_stem : FnScope N_is_stem A_is_stem d_is_stem.scope := ⟨rfl, rfl, rfl, by decide +kernel, rfl, by decide +kernel, by decide +kernel⟩
theorem bn_is_stem (kV doc pm : Value) (an : Option Addr) (cdv ct : Value) (us : List Value) (hl : us.length = A_is_stem.length) : bindArgs (PySem.W.fnOf d_is_stem.name d_is_stem.qual d_is_stem.params d_is_stem.body d_is_stem.scope .none kV doc pm an cdv ct) ⟨us, []⟩ = pure (List.zip A_is_stem us) := match us, hl with | [_, _], _ => rfl
abbrev N_is_pin : List Str := ["circuit", "value"]
abbrev A_is_pin : List Str := ["circuit", "value"]
theorem sc_is_pin : FnScope N_is_pin A_is_pin d_is_pin.scope := ⟨rfl, rfl, rfl, by decide +kernel, rfl, by decide +kernel, by decide +kernel⟩
theorem bn_is_pin (kV doc pm : Value) (an : Option Addr) (cdv ct : Value) (us : List Value) (hl : us.length = A_is_pin.length) : bindArgs (PySem.W.fnOf d_is_pin.name d_is_pin.qual d_is_pin.params d_is_pin.body d_is_pin.scope .none kV doc pm an cdv ct) ⟨us, []⟩ = pure (List.zip A_is_pin us) := match us, hl with | [_, _], _ => rfl
abbrev N_is_short : List Str := ["circuit", "value", "lines"]
abbrev A_is_short : List Str := ["circuit", "value"]
theorem sc_is_short : FnScope N_is_short A_is_short d_is_short.scope := ⟨rfl, rfl, rfl, by decide +kernel, rfl, by decide +kernel, by decide +kernel⟩
theorem bn_is_short (kV doc pm : Value) (an : Option Addr) (cdv ct : Value) (us : List Value) (hl : us.length = A_is_short.length) : bindArgs (PySem.W.fnOf d_is_short.name d_is_short.qual d_is_short.params d_is_short.body d_is_short.scope .none kV doc pm an cdv ct) ⟨us, []⟩ = pure (List.zip A_is_short us) := match us, hl with | [_, _], _ => rfl
abbrev N_is_break : List Str := ["circuit", "value"]
abbrev A_is_break : List Str := ["circuit", "value"]
theorem sc_is_break : FnScope N_is_break A_is_break d_is_break.scope := ⟨rfl, rfl, rfl, by decide +kernel, rfl, by decide +kernel, by decide +kernel⟩
theorem bn_is_break (kV doc pm : Value) (an : Option Addr) (cdv ct : Value) (us : List Value) (hl : us.length = A_is_break.length) : bindArgs (PySem.W.fnOf d_is_break.name d_is_break.qual d_is_break.params d_is_break.body d_is_break.scope .none kV doc pm an cdv ct) ⟨us, []⟩ = pure (List.zip A_is_break us) := match us, hl with | [_, _], _ => rfl
abbrev N_check_version : List Str := ["circuit", "version"]
abbrev A_check_version : List Str := ["circuit", "version"]
theorem sc_check_version : FnScope N_check_version A_check_version d_check_version.scope := ⟨rfl, rfl, rfl, by decide +kernel, rfl, by decide +kernel, by decide +kernel⟩
theorem bn_check_version (kV doc pm : Value) (an : Option Addr) (cdv ct : Value) (us : List Value) (hl : us.length = A_check_version.length) : bindArgs (PySem.W.fnOf d_check_version.name d_check_version.qual d_check_version.params d_check_version.body d_check_version.scope .none kV doc pm an cdv ct) ⟨us, []⟩ = pure (List.zip A_check_version us) := match us, hl with | [_, _], _ => rfl
abbrev N_stuck_pin : List Str := ["version", "gate", "index"]
abbrev A_stuck_pin : List Str := ["version", "gate", "index"]
theorem sc_stuck_pin : FnScope N_stuck_pin A_stuck_pin d_stuck_pin.scope := ⟨rfl, rfl, rfl, by decide +kernel, rfl, by decide +kernel, by decide +kernel⟩
theorem bn_stuck_pin (kV doc pm : Value) (an : Option Addr) (cdv ct : Value) (us : List Value) (hl : us.length = A_stuck_pin.length) : bindArgs (PySem.W.fnOf d_stuck_pin.name d_stuck_pin.qual d_stuck_pin.params d_stuck_pin.body d_stuck_pin.scope .none kV doc pm an cdv ct) ⟨us, []⟩ = pure (List.zip A_stuck_pin us) := match us, hl with | [_, _, _], _ => rfl
abbrev N_check_pattern : List Str := ["circuit", "pattern"]
abbrev A_check_pattern : List Str := ["circuit", "pattern"]
theorem sc_check_pattern : FnScope N_check_pattern A_check_pattern d_check_pattern.scope := ⟨rfl, rfl, rfl, by decide +kernel, rfl, by decide +kernel, by decide +kernel⟩
theorem bn_check_pattern (kV doc pm : Value) (an : Option Addr) (cdv ct : Value) (us : List Value) (hl : us.length = A_check_pattern.length) : bindArgs (PySem.W.fnOf d_check_pattern.name d_check_pattern.qual d_check_pattern.params d_check_pattern.body d_check_pattern.scope .none kV doc pm an cdv ct) ⟨us, []⟩ = pure (List.zip A_check_pattern us) := match us, hl with | [_, _], _ => rfl
abbrev N_word_of : List Str := ["bits", "word", "index", "bit"]
abbrev A_word_of : List Str := ["bits"]
theorem sc_word_of : FnScope N_word_of A_word_of d_word_of.scope := ⟨rfl, rfl, rfl, by decide +kernel, rfl, by decide +kernel, by decide +kernel⟩
theorem bn_word_of (kV doc pm : Value) (an : Option Addr) (cdv ct : Value) (us : List Value) (hl : us.length = A_word_of.length) : bindArgs (PySem.W.fnOf d_word_of.name d_word_of.qual d_word_of.params d_word_of.body d_word_of.scope .none kV doc pm an cdv ct) ⟨us, []⟩ = pure (List.zip A_word_of us) := match us, hl with | [_], _ => rfl
abbrev N_gate_word : List Str := ["kind", "words", "mask", "word", "other"]
abbrev A_gate_word : List Str := ["kind", "words", "mask"]
theorem sc_gate_word : FnScope N_gate_word A_gate_word d_gate_word.scope := ⟨rfl, rfl, rfl, by decide +kernel, rfl, by decide +kernel, by decide +kernel⟩
theorem bn_gate_word (kV doc pm : Value) (an : Option Addr) (cdv ct : Value) (us : List Value) (hl : us.length = A_gate_word.length) : bindArgs (PySem.W.fnOf d_gate_word.name d_gate_word.qual d_gate_word.params d_gate_word.body d_gate_word.scope .none kV doc pm an cdv ct) ⟨us, []⟩ = pure (List.zip A_gate_word us) := match us, hl with | [_, _, _], _ => rfl
abbrev N_Many_init : List Str := ["self", "circuit", "version", "patterns", "index", "line", "pattern"]
abbrev A_Many_init : List Str := ["self", "circuit", "version", "patterns"]
theorem sc_Many_init : FnScope N_Many_init A_Many_init d_Many_init.scope := ⟨rfl, rfl, rfl, by decide +kernel, rfl, by decide +kernel, by decide +kernel⟩
theorem bn_Many_init (kV doc pm : Value) (an : Option Addr) (cdv ct : Value) (us : List Value) (hl : us.length = A_Many_init.length) : bindArgs (PySem.W.fnOf d_Many_init.name d_Many_init.qual d_Many_init.params d_Many_init.body d_Many_init.scope .none kV doc pm an cdv ct) ⟨us, []⟩ = pure (List.zip A_Many_init us) := match us, hl with | [_, _, _, _], _ => rfl
abbrev N_Many_full : List Str := ["self", "bit"]
abbrev A_Many_full : List Str := ["self", "bit"]
theorem sc_Many_full : FnScope N_Many_full A_Many_full d_Many_full.scope := ⟨rfl, rfl, rfl, by decide +kernel, rfl, by decide +kernel, by decide +kernel⟩
theorem bn_Many_full (kV doc pm : Value) (an : Option Addr) (cdv ct : Value) (us : List Value) (hl : us.length = A_Many_full.length) : bindArgs (PySem.W.fnOf d_Many_full.name d_Many_full.qual d_Many_full.params d_Many_full.body d_Many_full.scope .none kV doc pm an cdv ct) ⟨us, []⟩ = pure (List.zip A_Many_full us) := match us, hl with | [_, _], _ => rfl
abbrev N_Many_pin : List Str := ["self", "gate", "index", "known", "version", "stuck"]
abbrev A_Many_pin : List Str := ["self", "gate", "index", "known", "version"]
theorem sc_Many_pin : FnScope N_Many_pin A_Many_pin d_Many_pin.scope := ⟨rfl, rfl, rfl, by decide +kernel, rfl, by decide +kernel, by decide +kernel⟩
theorem bn_Many_pin (kV doc pm : Value) (an : Option Addr) (cdv ct : Value) (us : List Value) (hl : us.length = A_Many_pin.length) : bindArgs (PySem.W.fnOf d_Many_pin.name d_Many_pin.qual d_Many_pin.params d_Many_pin.body d_Many_pin.scope .none kV doc pm an cdv ct) ⟨us, []⟩ = pure (List.zip A_Many_pin us) := match us, hl with | [_, _, _, _, _], _ => rfl
abbrev N_Many_through : List Str := ["self", "version", "forced", "known", "line", "word", "gate", "words", "index"]
abbrev A_Many_through : List Str := ["self", "version", "forced"]
theorem sc_Many_through : FnScope N_Many_through A_Many_through d_Many_through.scope := ⟨rfl, rfl, rfl, by decide +kernel, rfl, by decide +kernel, by decide +kernel⟩
theorem bn_Many_through (kV doc pm : Value) (an : Option Addr) (cdv ct : Value) (us : List Value) (hl : us.length = A_Many_through.length) : bindArgs (PySem.W.fnOf d_Many_through.name d_Many_through.qual d_Many_through.params d_Many_through.body d_Many_through.scope .none kV doc pm an cdv ct) ⟨us, []⟩ = pure (List.zip A_Many_through us) := match us, hl with | [_, _, _], _ => rfl
abbrev N_Many_words : List Str := ["self", "version", "forced", "known", "one", "other", "word"]
abbrev A_Many_words : List Str := ["self"]
theorem sc_Many_words : FnScope N_Many_words A_Many_words d_Many_words.scope := ⟨rfl, rfl, rfl, by decide +kernel, rfl, by decide +kernel, by decide +kernel⟩
theorem bn_Many_words (kV doc pm : Value) (an : Option Addr) (cdv ct : Value) (us : List Value) (hl : us.length = A_Many_words.length) : bindArgs (PySem.W.fnOf d_Many_words.name d_Many_words.qual d_Many_words.params d_Many_words.body d_Many_words.scope .none kV doc pm an cdv ct) ⟨us, []⟩ = pure (List.zip A_Many_words us) := match us, hl with | [_], _ => rfl
abbrev N_words_of : List Str := ["circuit", "version", "patterns", "pattern"]
abbrev A_words_of : List Str := ["circuit", "version", "patterns"]
theorem sc_words_of : FnScope N_words_of A_words_of d_words_of.scope := ⟨rfl, rfl, rfl, by decide +kernel, rfl, by decide +kernel, by decide +kernel⟩
theorem bn_words_of (kV doc pm : Value) (an : Option Addr) (cdv ct : Value) (us : List Value) (hl : us.length = A_words_of.length) : bindArgs (PySem.W.fnOf d_words_of.name d_words_of.qual d_words_of.params d_words_of.body d_words_of.scope .none kV doc pm an cdv ct) ⟨us, []⟩ = pure (List.zip A_words_of us) := match us, hl with | [_, _, _], _ => rfl
abbrev N_responses : List Str := ["circuit", "version", "patterns", "words", "rows", "line", "index", "row"]
abbrev A_responses : List Str := ["circuit", "version", "patterns"]
theorem sc_responses : FnScope N_responses A_responses d_responses.scope := ⟨rfl, rfl, rfl, by decide +kernel, rfl, by decide +kernel, by decide +kernel⟩
theorem bn_responses (kV doc pm : Value) (an : Option Addr) (cdv ct : Value) (us : List Value) (hl : us.length = A_responses.length) : bindArgs (PySem.W.fnOf d_responses.name d_responses.qual d_responses.params d_responses.body d_responses.scope .none kV doc pm an cdv ct) ⟨us, []⟩ = pure (List.zip A_responses us) := match us, hl with | [_, _, _], _ => rfl
abbrev N_check_breaks : List Str := ["circuit", "breaks", "broken"]
abbrev A_check_breaks : List Str := ["circuit", "breaks"]
theorem sc_check_breaks : FnScope N_check_breaks A_check_breaks d_check_breaks.scope := ⟨rfl, rfl, rfl, by decide +kernel, rfl, by decide +kernel, by decide +kernel⟩
theorem bn_check_breaks (kV doc pm : Value) (an : Option Addr) (cdv ct : Value) (us : List Value) (hl : us.length = A_check_breaks.length) : bindArgs (PySem.W.fnOf d_check_breaks.name d_check_breaks.qual d_check_breaks.params d_check_breaks.body d_check_breaks.scope .none kV doc pm an cdv ct) ⟨us, []⟩ = pure (List.zip A_check_breaks us) := match us, hl with | [_, _], _ => rfl
abbrev N_Press_init : List Str := ["self", "width", "taps", "index", "tap"]
abbrev A_Press_init : List Str := ["self", "width", "taps"]
theorem sc_Press_init : FnScope N_Press_init A_Press_init d_Press_init.scope := ⟨rfl, rfl, rfl, by decide +kernel, rfl, by decide +kernel, by decide +kernel⟩
theorem bn_Press_init (kV doc pm : Value) (an : Option Addr) (cdv ct : Value) (us : List Value) (hl : us.length = A_Press_init.length) : bindArgs (PySem.W.fnOf d_Press_init.name d_Press_init.qual d_Press_init.params d_Press_init.body d_Press_init.scope .none kV doc pm an cdv ct) ⟨us, []⟩ = pure (List.zip A_Press_init us) := match us, hl with | [_, _, _], _ => rfl
abbrev N_Press_step : List Str := ["self", "state", "word", "back", "tap", "moved", "one", "other"]
abbrev A_Press_step : List Str := ["self", "state", "word"]
theorem sc_Press_step : FnScope N_Press_step A_Press_step d_Press_step.scope := ⟨rfl, rfl, rfl, by decide +kernel, rfl, by decide +kernel, by decide +kernel⟩
theorem bn_Press_step (kV doc pm : Value) (an : Option Addr) (cdv ct : Value) (us : List Value) (hl : us.length = A_Press_step.length) : bindArgs (PySem.W.fnOf d_Press_step.name d_Press_step.qual d_Press_step.params d_Press_step.body d_Press_step.scope .none kV doc pm an cdv ct) ⟨us, []⟩ = pure (List.zip A_Press_step us) := match us, hl with | [_, _, _], _ => rfl
abbrev N_Press_fold : List Str := ["self", "response", "word", "index", "bit"]
abbrev A_Press_fold : List Str := ["self", "response"]
theorem sc_Press_fold : FnScope N_Press_fold A_Press_fold d_Press_fold.scope := ⟨rfl, rfl, rfl, by decide +kernel, rfl, by decide +kernel, by decide +kernel⟩
theorem bn_Press_fold (kV doc pm : Value) (an : Option Addr) (cdv ct : Value) (us : List Value) (hl : us.length = A_Press_fold.length) : bindArgs (PySem.W.fnOf d_Press_fold.name d_Press_fold.qual d_Press_fold.params d_Press_fold.body d_Press_fold.scope .none kV doc pm an cdv ct) ⟨us, []⟩ = pure (List.zip A_Press_fold us) := match us, hl with | [_, _], _ => rfl
abbrev N_Press_press : List Str := ["self", "words", "state", "word"]
abbrev A_Press_press : List Str := ["self", "words"]
theorem sc_Press_press : FnScope N_Press_press A_Press_press d_Press_press.scope := ⟨rfl, rfl, rfl, by decide +kernel, rfl, by decide +kernel, by decide +kernel⟩
theorem bn_Press_press (kV doc pm : Value) (an : Option Addr) (cdv ct : Value) (us : List Value) (hl : us.length = A_Press_press.length) : bindArgs (PySem.W.fnOf d_Press_press.name d_Press_press.qual d_Press_press.params d_Press_press.body d_Press_press.scope .none kV doc pm an cdv ct) ⟨us, []⟩ = pure (List.zip A_Press_press us) := match us, hl with | [_, _], _ => rfl
abbrev N_Press_signature : List Str := ["self", "table", "response"]
abbrev A_Press_signature : List Str := ["self", "table"]
theorem sc_Press_signature : FnScope N_Press_signature A_Press_signature d_Press_signature.scope := ⟨rfl, rfl, rfl, by decide +kernel, rfl, by decide +kernel, by decide +kernel⟩
theorem bn_Press_signature (kV doc pm : Value) (an : Option Addr) (cdv ct : Value) (us : List Value) (hl : us.length = A_Press_signature.length) : bindArgs (PySem.W.fnOf d_Press_signature.name d_Press_signature.qual d_Press_signature.params d_Press_signature.body d_Press_signature.scope .none kV doc pm an cdv ct) ⟨us, []⟩ = pure (List.zip A_Press_signature us) := match us, hl with | [_, _], _ => rfl
abbrev N_hidden : List Str := ["press", "one", "other"]
abbrev A_hidden : List Str := ["press", "one", "other"]
theorem sc_hidden : FnScope N_hidden A_hidden d_hidden.scope := ⟨rfl, rfl, rfl, by decide +kernel, rfl, by decide +kernel, by decide +kernel⟩
theorem bn_hidden (kV doc pm : Value) (an : Option Addr) (cdv ct : Value) (us : List Value) (hl : us.length = A_hidden.length) : bindArgs (PySem.W.fnOf d_hidden.name d_hidden.qual d_hidden.params d_hidden.body d_hidden.scope .none kV doc pm an cdv ct) ⟨us, []⟩ = pure (List.zip A_hidden us) := match us, hl with | [_, _, _], _ => rfl
abbrev N_lost : List Str := ["circuit", "breaks", "patterns", "press", "right", "rows", "broken"]
abbrev A_lost : List Str := ["circuit", "breaks", "patterns", "press"]
theorem sc_lost : FnScope N_lost A_lost d_lost.scope := ⟨rfl, rfl, rfl, by decide +kernel, rfl, by decide +kernel, by decide +kernel⟩
theorem bn_lost (kV doc pm : Value) (an : Option Addr) (cdv ct : Value) (us : List Value) (hl : us.length = A_lost.length) : bindArgs (PySem.W.fnOf d_lost.name d_lost.qual d_lost.params d_lost.body d_lost.scope .none kV doc pm an cdv ct) ⟨us, []⟩ = pure (List.zip A_lost us) := match us, hl with | [_, _, _, _], _ => rfl
abbrev N_pins_allowed : List Str := ["kind", "count"]
abbrev A_pins_allowed : List Str := ["kind", "count"]
theorem sc_pins_allowed : FnScope N_pins_allowed A_pins_allowed d_pins_allowed.scope := ⟨rfl, rfl, rfl, by decide +kernel, rfl, by decide +kernel, by decide +kernel⟩
theorem bn_pins_allowed (kV doc pm : Value) (an : Option Addr) (cdv ct : Value) (us : List Value) (hl : us.length = A_pins_allowed.length) : bindArgs (PySem.W.fnOf d_pins_allowed.name d_pins_allowed.qual d_pins_allowed.params d_pins_allowed.body d_pins_allowed.scope .none kV doc pm an cdv ct) ⟨us, []⟩ = pure (List.zip A_pins_allowed us) := match us, hl with | [_, _], _ => rfl
abbrev N_is_row : List Str := ["value", "size", "item"]
abbrev A_is_row : List Str := ["value", "size"]
theorem sc_is_row : FnScope N_is_row A_is_row d_is_row.scope := ⟨rfl, rfl, rfl, by decide +kernel, rfl, by decide +kernel, by decide +kernel⟩
theorem bn_is_row (kV doc pm : Value) (an : Option Addr) (cdv ct : Value) (us : List Value) (hl : us.length = A_is_row.length) : bindArgs (PySem.W.fnOf d_is_row.name d_is_row.qual d_is_row.params d_is_row.body d_is_row.scope .none kV doc pm an cdv ct) ⟨us, []⟩ = pure (List.zip A_is_row us) := match us, hl with | [_, _], _ => rfl
abbrev N_is_gate : List Str := ["value", "pin"]
abbrev A_is_gate : List Str := ["value"]
theorem sc_is_gate : FnScope N_is_gate A_is_gate d_is_gate.scope := ⟨rfl, rfl, rfl, by decide +kernel, rfl, by decide +kernel, by decide +kernel⟩
theorem bn_is_gate (kV doc pm : Value) (an : Option Addr) (cdv ct : Value) (us : List Value) (hl : us.length = A_is_gate.length) : bindArgs (PySem.W.fnOf d_is_gate.name d_is_gate.qual d_is_gate.params d_is_gate.body d_is_gate.scope .none kV doc pm an cdv ct) ⟨us, []⟩ = pure (List.zip A_is_gate us) := match us, hl with | [_], _ => rfl
abbrev N_Circuit_init : List Str := ["self", "inputs", "registers", "gates", "outputs", "gate"]
abbrev A_Circuit_init : List Str := ["self", "inputs", "registers", "gates", "outputs"]
theorem sc_Circuit_init : FnScope N_Circuit_init A_Circuit_init d_Circuit_init.scope := ⟨rfl, rfl, rfl, by decide +kernel, rfl, by decide +kernel, by decide +kernel⟩
theorem bn_Circuit_init (kV doc pm : Value) (an : Option Addr) (cdv ct : Value) (us : List Value) (hl : us.length = A_Circuit_init.length) : bindArgs (PySem.W.fnOf d_Circuit_init.name d_Circuit_init.qual d_Circuit_init.params d_Circuit_init.body d_Circuit_init.scope .none kV doc pm an cdv ct) ⟨us, []⟩ = pure (List.zip A_Circuit_init us) := match us, hl with | [_, _, _, _, _], _ => rfl
abbrev N_Circuit_check_forms : List Str := ["self", "name", "cell", "gate"]
abbrev A_Circuit_check_forms : List Str := ["self"]
theorem sc_Circuit_check_forms : FnScope N_Circuit_check_forms A_Circuit_check_forms d_Circuit_check_forms.scope := ⟨rfl, rfl, rfl, by decide +kernel, rfl, by decide +kernel, by decide +kernel⟩
theorem bn_Circuit_check_forms (kV doc pm : Value) (an : Option Addr) (cdv ct : Value) (us : List Value) (hl : us.length = A_Circuit_check_forms.length) : bindArgs (PySem.W.fnOf d_Circuit_check_forms.name d_Circuit_check_forms.qual d_Circuit_check_forms.params d_Circuit_check_forms.body d_Circuit_check_forms.scope .none kV doc pm an cdv ct) ⟨us, []⟩ = pure (List.zip A_Circuit_check_forms us) := match us, hl with | [_], _ => rfl
abbrev N_Circuit_check_names : List Str := ["self", "seen", "name"]
abbrev A_Circuit_check_names : List Str := ["self"]
theorem sc_Circuit_check_names : FnScope N_Circuit_check_names A_Circuit_check_names d_Circuit_check_names.scope := ⟨rfl, rfl, rfl, by decide +kernel, rfl, by decide +kernel, by decide +kernel⟩
theorem bn_Circuit_check_names (kV doc pm : Value) (an : Option Addr) (cdv ct : Value) (us : List Value) (hl : us.length = A_Circuit_check_names.length) : bindArgs (PySem.W.fnOf d_Circuit_check_names.name d_Circuit_check_names.qual d_Circuit_check_names.params d_Circuit_check_names.body d_Circuit_check_names.scope .none kV doc pm an cdv ct) ⟨us, []⟩ = pure (List.zip A_Circuit_check_names us) := match us, hl with | [_], _ => rfl
abbrev N_Circuit_lines : List Str := ["self", "gate"]
abbrev A_Circuit_lines : List Str := ["self"]
theorem sc_Circuit_lines : FnScope N_Circuit_lines A_Circuit_lines d_Circuit_lines.scope := ⟨rfl, rfl, rfl, by decide +kernel, rfl, by decide +kernel, by decide +kernel⟩
theorem bn_Circuit_lines (kV doc pm : Value) (an : Option Addr) (cdv ct : Value) (us : List Value) (hl : us.length = A_Circuit_lines.length) : bindArgs (PySem.W.fnOf d_Circuit_lines.name d_Circuit_lines.qual d_Circuit_lines.params d_Circuit_lines.body d_Circuit_lines.scope .none kV doc pm an cdv ct) ⟨us, []⟩ = pure (List.zip A_Circuit_lines us) := match us, hl with | [_], _ => rfl
abbrev N_Circuit_uses : List Str := ["self", "names", "gate", "pin", "cell"]
abbrev A_Circuit_uses : List Str := ["self"]
theorem sc_Circuit_uses : FnScope N_Circuit_uses A_Circuit_uses d_Circuit_uses.scope := ⟨rfl, rfl, rfl, by decide +kernel, rfl, by decide +kernel, by decide +kernel⟩
theorem bn_Circuit_uses (kV doc pm : Value) (an : Option Addr) (cdv ct : Value) (us : List Value) (hl : us.length = A_Circuit_uses.length) : bindArgs (PySem.W.fnOf d_Circuit_uses.name d_Circuit_uses.qual d_Circuit_uses.params d_Circuit_uses.body d_Circuit_uses.scope .none kV doc pm an cdv ct) ⟨us, []⟩ = pure (List.zip A_Circuit_uses us) := match us, hl with | [_], _ => rfl
abbrev N_Circuit_sources : List Str := ["self", "cell"]
abbrev A_Circuit_sources : List Str := ["self"]
theorem sc_Circuit_sources : FnScope N_Circuit_sources A_Circuit_sources d_Circuit_sources.scope := ⟨rfl, rfl, rfl, by decide +kernel, rfl, by decide +kernel, by decide +kernel⟩
theorem bn_Circuit_sources (kV doc pm : Value) (an : Option Addr) (cdv ct : Value) (us : List Value) (hl : us.length = A_Circuit_sources.length) : bindArgs (PySem.W.fnOf d_Circuit_sources.name d_Circuit_sources.qual d_Circuit_sources.params d_Circuit_sources.body d_Circuit_sources.scope .none kV doc pm an cdv ct) ⟨us, []⟩ = pure (List.zip A_Circuit_sources us) := match us, hl with | [_], _ => rfl
abbrev N_Circuit_sinks : List Str := ["self", "cell"]
abbrev A_Circuit_sinks : List Str := ["self"]
theorem sc_Circuit_sinks : FnScope N_Circuit_sinks A_Circuit_sinks d_Circuit_sinks.scope := ⟨rfl, rfl, rfl, by decide +kernel, rfl, by decide +kernel, by decide +kernel⟩
theorem bn_Circuit_sinks (kV doc pm : Value) (an : Option Addr) (cdv ct : Value) (us : List Value) (hl : us.length = A_Circuit_sinks.length) : bindArgs (PySem.W.fnOf d_Circuit_sinks.name d_Circuit_sinks.qual d_Circuit_sinks.params d_Circuit_sinks.body d_Circuit_sinks.scope .none kV doc pm an cdv ct) ⟨us, []⟩ = pure (List.zip A_Circuit_sinks us) := match us, hl with | [_], _ => rfl
abbrev N_Circuit_sorted_gates : List Str := ["self", "known", "name", "order", "waiting", "later", "gate", "pin"]
abbrev A_Circuit_sorted_gates : List Str := ["self"]
theorem sc_Circuit_sorted_gates : FnScope N_Circuit_sorted_gates A_Circuit_sorted_gates d_Circuit_sorted_gates.scope := ⟨rfl, rfl, rfl, by decide +kernel, rfl, by decide +kernel, by decide +kernel⟩
theorem bn_Circuit_sorted_gates (kV doc pm : Value) (an : Option Addr) (cdv ct : Value) (us : List Value) (hl : us.length = A_Circuit_sorted_gates.length) : bindArgs (PySem.W.fnOf d_Circuit_sorted_gates.name d_Circuit_sorted_gates.qual d_Circuit_sorted_gates.params d_Circuit_sorted_gates.body d_Circuit_sorted_gates.scope .none kV doc pm an cdv ct) ⟨us, []⟩ = pure (List.zip A_Circuit_sorted_gates us) := match us, hl with | [_], _ => rfl
abbrev N_Circuit_above : List Str := ["self", "line", "found", "gate", "pin"]
abbrev A_Circuit_above : List Str := ["self", "line"]
theorem sc_Circuit_above : FnScope N_Circuit_above A_Circuit_above d_Circuit_above.scope := ⟨rfl, rfl, rfl, by decide +kernel, rfl, by decide +kernel, by decide +kernel⟩
theorem bn_Circuit_above (kV doc pm : Value) (an : Option Addr) (cdv ct : Value) (us : List Value) (hl : us.length = A_Circuit_above.length) : bindArgs (PySem.W.fnOf d_Circuit_above.name d_Circuit_above.qual d_Circuit_above.params d_Circuit_above.body d_Circuit_above.scope .none kV doc pm an cdv ct) ⟨us, []⟩ = pure (List.zip A_Circuit_above us) := match us, hl with | [_, _], _ => rfl
abbrev N_L_draws : List Str := ["_law_script"]
abbrev A_L_draws : List Str := ["_law_script"]
theorem sc_L_draws : FnScope N_L_draws A_L_draws d_L_draws.scope := ⟨rfl, rfl, rfl, by decide +kernel, rfl, by decide +kernel, by decide +kernel⟩
theorem bn_L_draws (kV doc pm : Value) (an : Option Addr) (cdv ct : Value) (us : List Value) (hl : us.length = A_L_draws.length) : bindArgs (PySem.W.fnOf d_L_draws.name d_L_draws.qual d_L_draws.params d_L_draws.body d_L_draws.scope .none kV doc pm an cdv ct) ⟨us, []⟩ = pure (List.zip A_L_draws us) := match us, hl with | [_], _ => rfl
abbrev N_L_draw : List Str := ["_law_draws_here", "_law_limit", "_law_cell", "_law_value"]
abbrev A_L_draw : List Str := ["_law_draws_here", "_law_limit"]
theorem sc_L_draw : FnScope N_L_draw A_L_draw d_L_draw.scope := ⟨rfl, rfl, rfl, by decide +kernel, rfl, by decide +kernel, by decide +kernel⟩
theorem bn_L_draw (kV doc pm : Value) (an : Option Addr) (cdv ct : Value) (us : List Value) (hl : us.length = A_L_draw.length) : bindArgs (PySem.W.fnOf d_L_draw.name d_L_draw.qual d_L_draw.params d_L_draw.body d_L_draw.scope .none kV doc pm an cdv ct) ⟨us, []⟩ = pure (List.zip A_L_draw us) := match us, hl with | [_, _], _ => rfl
abbrev N_L_same : List Str := ["_law_actual", "_law_expected", "_law_k"]
abbrev A_L_same : List Str := ["_law_actual", "_law_expected"]
theorem sc_L_same : FnScope N_L_same A_L_same d_L_same.scope := ⟨rfl, rfl, rfl, by decide +kernel, rfl, by decide +kernel, by decide +kernel⟩
theorem bn_L_same (kV doc pm : Value) (an : Option Addr) (cdv ct : Value) (us : List Value) (hl : us.length = A_L_same.length) : bindArgs (PySem.W.fnOf d_L_same.name d_L_same.qual d_L_same.params d_L_same.body d_L_same.scope .none kV doc pm an cdv ct) ⟨us, []⟩ = pure (List.zip A_L_same us) := match us, hl with | [_, _], _ => rfl
abbrev N_L_circuit : List Str := ["_law_draws_here", "_law_most", "_law_gates", "_law_many", "_law_held", "_law_inputs", "_law_k", "_law_lines_here", "_law_rows", "_law_kinds", "_law_kind", "_law_count", "_law_near", "_law_pins", "_law_j", "_law_name", "_law_turn", "_law_outputs", "_law_registers"]
abbrev A_L_circuit : List Str := ["_law_draws_here", "_law_most", "_law_gates"]
theorem sc_L_circuit : FnScope N_L_circuit A_L_circuit d_L_circuit.scope := ⟨rfl, rfl, rfl, by decide +kernel, rfl, by decide +kernel, by decide +kernel⟩
theorem bn_L_circuit (kV doc pm : Value) (an : Option Addr) (cdv ct : Value) (us : List Value) (hl : us.length = A_L_circuit.length) : bindArgs (PySem.W.fnOf d_L_circuit.name d_L_circuit.qual d_L_circuit.params d_L_circuit.body d_L_circuit.scope .none kV doc pm an cdv ct) ⟨us, []⟩ = pure (List.zip A_L_circuit us) := match us, hl with | [_, _, _], _ => rfl
abbrev N_L_sources : List Str := ["_law_parts", "_law_row"]
abbrev A_L_sources : List Str := ["_law_parts"]
theorem sc_L_sources : FnScope N_L_sources A_L_sources d_L_sources.scope := ⟨rfl, rfl, rfl, by decide +kernel, rfl, by decide +kernel, by decide +kernel⟩
theorem bn_L_sources (kV doc pm : Value) (an : Option Addr) (cdv ct : Value) (us : List Value) (hl : us.length = A_L_sources.length) : bindArgs (PySem.W.fnOf d_L_sources.name d_L_sources.qual d_L_sources.params d_L_sources.body d_L_sources.scope .none kV doc pm an cdv ct) ⟨us, []⟩ = pure (List.zip A_L_sources us) := match us, hl with | [_], _ => rfl
abbrev N_L_lines : List Str := ["_law_parts", "_law_gate_here"]
abbrev A_L_lines : List Str := ["_law_parts"]
theorem sc_L_lines : FnScope N_L_lines A_L_lines d_L_lines.scope := ⟨rfl, rfl, rfl, by decide +kernel, rfl, by decide +kernel, by decide +kernel⟩
theorem bn_L_lines (kV doc pm : Value) (an : Option Addr) (cdv ct : Value) (us : List Value) (hl : us.length = A_L_lines.length) : bindArgs (PySem.W.fnOf d_L_lines.name d_L_lines.qual d_L_lines.params d_L_lines.body d_L_lines.scope .none kV doc pm an cdv ct) ⟨us, []⟩ = pure (List.zip A_L_lines us) := match us, hl with | [_], _ => rfl
abbrev N_L_sinks : List Str := ["_law_parts", "_law_row"]
abbrev A_L_sinks : List Str := ["_law_parts"]
theorem sc_L_sinks : FnScope N_L_sinks A_L_sinks d_L_sinks.scope := ⟨rfl, rfl, rfl, by decide +kernel, rfl, by decide +kernel, by decide +kernel⟩
theorem bn_L_sinks (kV doc pm : Value) (an : Option Addr) (cdv ct : Value) (us : List Value) (hl : us.length = A_L_sinks.length) : bindArgs (PySem.W.fnOf d_L_sinks.name d_L_sinks.qual d_L_sinks.params d_L_sinks.body d_L_sinks.scope .none kV doc pm an cdv ct) ⟨us, []⟩ = pure (List.zip A_L_sinks us) := match us, hl with | [_], _ => rfl
abbrev N_L_gate : List Str := ["_law_kind", "_law_words_here", "_law_full", "_law_word_here", "_law_other"]
abbrev A_L_gate : List Str := ["_law_kind", "_law_words_here", "_law_full"]
theorem sc_L_gate : FnScope N_L_gate A_L_gate d_L_gate.scope := ⟨rfl, rfl, rfl, by decide +kernel, rfl, by decide +kernel, by decide +kernel⟩
theorem bn_L_gate (kV doc pm : Value) (an : Option Addr) (cdv ct : Value) (us : List Value) (hl : us.length = A_L_gate.length) : bindArgs (PySem.W.fnOf d_L_gate.name d_L_gate.qual d_L_gate.params d_L_gate.body d_L_gate.scope .none kV doc pm an cdv ct) ⟨us, []⟩ = pure (List.zip A_L_gate us) := match us, hl with | [_, _, _], _ => rfl
abbrev N_L_pass : List Str := ["_law_parts", "_law_given", "_law_full", "_law_forced", "_law_pin", "_law_known", "_law_line", "_law_turn", "_law_name", "_law_kind", "_law_pins", "_law_one", "_law_words_here"]
abbrev A_L_pass : List Str := ["_law_parts", "_law_given", "_law_full", "_law_forced", "_law_pin"]
theorem sc_L_pass : FnScope N_L_pass A_L_pass d_L_pass.scope := ⟨rfl, rfl, rfl, by decide +kernel, rfl, by decide +kernel, by decide +kernel⟩
theorem bn_L_pass (kV doc pm : Value) (an : Option Addr) (cdv ct : Value) (us : List Value) (hl : us.length = A_L_pass.length) : bindArgs (PySem.W.fnOf d_L_pass.name d_L_pass.qual d_L_pass.params d_L_pass.body d_L_pass.scope .none kV doc pm an cdv ct) ⟨us, []⟩ = pure (List.zip A_L_pass us) := match us, hl with | [_, _, _, _, _], _ => rfl
abbrev N_L_word : List Str := ["_law_bits_here", "_law_word_here", "_law_bit"]
abbrev A_L_word : List Str := ["_law_bits_here"]
theorem sc_L_word : FnScope N_L_word A_L_word d_L_word.scope := ⟨rfl, rfl, rfl, by decide +kernel, rfl, by decide +kernel, by decide +kernel⟩
theorem bn_L_word (kV doc pm : Value) (an : Option Addr) (cdv ct : Value) (us : List Value) (hl : us.length = A_L_word.length) : bindArgs (PySem.W.fnOf d_L_word.name d_L_word.qual d_L_word.params d_L_word.body d_L_word.scope .none kV doc pm an cdv ct) ⟨us, []⟩ = pure (List.zip A_L_word us) := match us, hl with | [_], _ => rfl
abbrev N_L_bits : List Str := ["_law_word_here", "_law_many", "_law_bits_here", "_law_k"]
abbrev A_L_bits : List Str := ["_law_word_here", "_law_many"]
theorem sc_L_bits : FnScope N_L_bits A_L_bits d_L_bits.scope := ⟨rfl, rfl, rfl, by decide +kernel, rfl, by decide +kernel, by decide +kernel⟩
theorem bn_L_bits (kV doc pm : Value) (an : Option Addr) (cdv ct : Value) (us : List Value) (hl : us.length = A_L_bits.length) : bindArgs (PySem.W.fnOf d_L_bits.name d_L_bits.qual d_L_bits.params d_L_bits.body d_L_bits.scope .none kV doc pm an cdv ct) ⟨us, []⟩ = pure (List.zip A_L_bits us) := match us, hl with | [_, _], _ => rfl
abbrev N_L_words : List Str := ["_law_parts", "_law_version", "_law_patterns_here", "_law_full", "_law_sources_here", "_law_given", "_law_k", "_law_pattern", "_law_forced", "_law_plain", "_law_one", "_law_other", "_law_word_here", "_law_pin"]
abbrev A_L_words : List Str := ["_law_parts", "_law_version", "_law_patterns_here"]
theorem sc_L_words : FnScope N_L_words A_L_words d_L_words.scope := ⟨rfl, rfl, rfl, by decide +kernel, rfl, by decide +kernel, by decide +kernel⟩
theorem bn_L_words (kV doc pm : Value) (an : Option Addr) (cdv ct : Value) (us : List Value) (hl : us.length = A_L_words.length) : bindArgs (PySem.W.fnOf d_L_words.name d_L_words.qual d_L_words.params d_L_words.body d_L_words.scope .none kV doc pm an cdv ct) ⟨us, []⟩ = pure (List.zip A_L_words us) := match us, hl with | [_, _, _], _ => rfl
abbrev N_L_responses : List Str := ["_law_parts", "_law_version", "_law_patterns_here", "_law_known", "_law_rows", "_law_line", "_law_j", "_law_row"]
abbrev A_L_responses : List Str := ["_law_parts", "_law_version", "_law_patterns_here"]
theorem sc_L_responses : FnScope N_L_responses A_L_responses d_L_responses.scope := ⟨rfl, rfl, rfl, by decide +kernel, rfl, by decide +kernel, by decide +kernel⟩
theorem bn_L_responses (kV doc pm : Value) (an : Option Addr) (cdv ct : Value) (us : List Value) (hl : us.length = A_L_responses.length) : bindArgs (PySem.W.fnOf d_L_responses.name d_L_responses.qual d_L_responses.params d_L_responses.body d_L_responses.scope .none kV doc pm an cdv ct) ⟨us, []⟩ = pure (List.zip A_L_responses us) := match us, hl with | [_, _, _], _ => rfl
abbrev N_L_breaks : List Str := ["_law_parts", "_law_found", "_law_line", "_law_name", "_law_kind", "_law_pins", "_law_k"]
abbrev A_L_breaks : List Str := ["_law_parts"]
theorem sc_L_breaks : FnScope N_L_breaks A_L_breaks d_L_breaks.scope := ⟨rfl, rfl, rfl, by decide +kernel, rfl, by decide +kernel, by decide +kernel⟩
theorem bn_L_breaks (kV doc pm : Value) (an : Option Addr) (cdv ct : Value) (us : List Value) (hl : us.length = A_L_breaks.length) : bindArgs (PySem.W.fnOf d_L_breaks.name d_L_breaks.qual d_L_breaks.params d_L_breaks.body d_L_breaks.scope .none kV doc pm an cdv ct) ⟨us, []⟩ = pure (List.zip A_L_breaks us) := match us, hl with | [_], _ => rfl
abbrev N_L_above : List Str := ["_law_parts", "_law_line", "_law_found", "_law_turn", "_law_name", "_law_kind", "_law_pins", "_law_one"]
abbrev A_L_above : List Str := ["_law_parts", "_law_line"]
theorem sc_L_above : FnScope N_L_above A_L_above d_L_above.scope := ⟨rfl, rfl, rfl, by decide +kernel, rfl, by decide +kernel, by decide +kernel⟩
theorem bn_L_above (kV doc pm : Value) (an : Option Addr) (cdv ct : Value) (us : List Value) (hl : us.length = A_L_above.length) : bindArgs (PySem.W.fnOf d_L_above.name d_L_above.qual d_L_above.params d_L_above.body d_L_above.scope .none kV doc pm an cdv ct) ⟨us, []⟩ = pure (List.zip A_L_above us) := match us, hl with | [_, _], _ => rfl
abbrev N_L_shorts : List Str := ["_law_parts", "_law_lines_here", "_law_found", "_law_k", "_law_other"]
abbrev A_L_shorts : List Str := ["_law_parts"]
theorem sc_L_shorts : FnScope N_L_shorts A_L_shorts d_L_shorts.scope := ⟨rfl, rfl, rfl, by decide +kernel, rfl, by decide +kernel, by decide +kernel⟩
theorem bn_L_shorts (kV doc pm : Value) (an : Option Addr) (cdv ct : Value) (us : List Value) (hl : us.length = A_L_shorts.length) : bindArgs (PySem.W.fnOf d_L_shorts.name d_L_shorts.qual d_L_shorts.params d_L_shorts.body d_L_shorts.scope .none kV doc pm an cdv ct) ⟨us, []⟩ = pure (List.zip A_L_shorts us) := match us, hl with | [_], _ => rfl
abbrev N_L_patterns : List Str := ["_law_draws_here", "_law_parts", "_law_most", "_law_size", "_law_j", "_law_k"]
abbrev A_L_patterns : List Str := ["_law_draws_here", "_law_parts", "_law_most"]
theorem sc_L_patterns : FnScope N_L_patterns A_L_patterns d_L_patterns.scope := ⟨rfl, rfl, rfl, by decide +kernel, rfl, by decide +kernel, by decide +kernel⟩
theorem bn_L_patterns (kV doc pm : Value) (an : Option Addr) (cdv ct : Value) (us : List Value) (hl : us.length = A_L_patterns.length) : bindArgs (PySem.W.fnOf d_L_patterns.name d_L_patterns.qual d_L_patterns.params d_L_patterns.body d_L_patterns.scope .none kV doc pm an cdv ct) ⟨us, []⟩ = pure (List.zip A_L_patterns us) := match us, hl with | [_, _, _], _ => rfl
abbrev N_L_some : List Str := ["_law_draws_here", "_law_rows", "_law_most", "_law_k"]
abbrev A_L_some : List Str := ["_law_draws_here", "_law_rows", "_law_most"]
theorem sc_L_some : FnScope N_L_some A_L_some d_L_some.scope := ⟨rfl, rfl, rfl, by decide +kernel, rfl, by decide +kernel, by decide +kernel⟩
theorem bn_L_some (kV doc pm : Value) (an : Option Addr) (cdv ct : Value) (us : List Value) (hl : us.length = A_L_some.length) : bindArgs (PySem.W.fnOf d_L_some.name d_L_some.qual d_L_some.params d_L_some.body d_L_some.scope .none kV doc pm an cdv ct) ⟨us, []⟩ = pure (List.zip A_L_some us) := match us, hl with | [_, _, _], _ => rfl
abbrev N_L_press : List Str := ["_law_draws_here", "_law_most", "_law_width", "_law_taps", "_law_k"]
abbrev A_L_press : List Str := ["_law_draws_here", "_law_most"]
theorem sc_L_press : FnScope N_L_press A_L_press d_L_press.scope := ⟨rfl, rfl, rfl, by decide +kernel, rfl, by decide +kernel, by decide +kernel⟩
theorem bn_L_press (kV doc pm : Value) (an : Option Addr) (cdv ct : Value) (us : List Value) (hl : us.length = A_L_press.length) : bindArgs (PySem.W.fnOf d_L_press.name d_L_press.qual d_L_press.params d_L_press.body d_L_press.scope .none kV doc pm an cdv ct) ⟨us, []⟩ = pure (List.zip A_L_press us) := match us, hl with | [_, _], _ => rfl
abbrev N_L_bits_of : List Str := ["_law_draws_here", "_law_size", "_law_k"]
abbrev A_L_bits_of : List Str := ["_law_draws_here", "_law_size"]
theorem sc_L_bits_of : FnScope N_L_bits_of A_L_bits_of d_L_bits_of.scope := ⟨rfl, rfl, rfl, by decide +kernel, rfl, by decide +kernel, by decide +kernel⟩
theorem bn_L_bits_of (kV doc pm : Value) (an : Option Addr) (cdv ct : Value) (us : List Value) (hl : us.length = A_L_bits_of.length) : bindArgs (PySem.W.fnOf d_L_bits_of.name d_L_bits_of.qual d_L_bits_of.params d_L_bits_of.body d_L_bits_of.scope .none kV doc pm an cdv ct) ⟨us, []⟩ = pure (List.zip A_L_bits_of us) := match us, hl with | [_, _], _ => rfl
abbrev N_L_after : List Str := ["_law_width", "_law_taps", "_law_state", "_law_word_here", "_law_back", "_law_tap", "_law_rows", "_law_k"]
abbrev A_L_after : List Str := ["_law_width", "_law_taps", "_law_state", "_law_word_here"]
theorem sc_L_after : FnScope N_L_after A_L_after d_L_after.scope := ⟨rfl, rfl, rfl, by decide +kernel, rfl, by decide +kernel, by decide +kernel⟩
theorem bn_L_after (kV doc pm : Value) (an : Option Addr) (cdv ct : Value) (us : List Value) (hl : us.length = A_L_after.length) : bindArgs (PySem.W.fnOf d_L_after.name d_L_after.qual d_L_after.params d_L_after.body d_L_after.scope .none kV doc pm an cdv ct) ⟨us, []⟩ = pure (List.zip A_L_after us) := match us, hl with | [_, _, _, _], _ => rfl
abbrev N_L_signature : List Str := ["_law_width", "_law_taps", "_law_words_here", "_law_state", "_law_word_here"]
abbrev A_L_signature : List Str := ["_law_width", "_law_taps", "_law_words_here"]
theorem sc_L_signature : FnScope N_L_signature A_L_signature d_L_signature.scope := ⟨rfl, rfl, rfl, by decide +kernel, rfl, by decide +kernel, by decide +kernel⟩
theorem bn_L_signature (kV doc pm : Value) (an : Option Addr) (cdv ct : Value) (us : List Value) (hl : us.length = A_L_signature.length) : bindArgs (PySem.W.fnOf d_L_signature.name d_L_signature.qual d_L_signature.params d_L_signature.body d_L_signature.scope .none kV doc pm an cdv ct) ⟨us, []⟩ = pure (List.zip A_L_signature us) := match us, hl with | [_, _, _], _ => rfl
abbrev N_L_fold : List Str := ["_law_width", "_law_bits_here", "_law_k", "_law_j"]
abbrev A_L_fold : List Str := ["_law_width", "_law_bits_here"]
theorem sc_L_fold : FnScope N_L_fold A_L_fold d_L_fold.scope := ⟨rfl, rfl, rfl, by decide +kernel, rfl, by decide +kernel, by decide +kernel⟩
theorem bn_L_fold (kV doc pm : Value) (an : Option Addr) (cdv ct : Value) (us : List Value) (hl : us.length = A_L_fold.length) : bindArgs (PySem.W.fnOf d_L_fold.name d_L_fold.qual d_L_fold.params d_L_fold.body d_L_fold.scope .none kV doc pm an cdv ct) ⟨us, []⟩ = pure (List.zip A_L_fold us) := match us, hl with | [_, _], _ => rfl
abbrev N_L_signed : List Str := ["_law_width", "_law_taps", "_law_table", "_law_row"]
abbrev A_L_signed : List Str := ["_law_width", "_law_taps", "_law_table"]
theorem sc_L_signed : FnScope N_L_signed A_L_signed d_L_signed.scope := ⟨rfl, rfl, rfl, by decide +kernel, rfl, by decide +kernel, by decide +kernel⟩
theorem bn_L_signed (kV doc pm : Value) (an : Option Addr) (cdv ct : Value) (us : List Value) (hl : us.length = A_L_signed.length) : bindArgs (PySem.W.fnOf d_L_signed.name d_L_signed.qual d_L_signed.params d_L_signed.body d_L_signed.scope .none kV doc pm an cdv ct) ⟨us, []⟩ = pure (List.zip A_L_signed us) := match us, hl with | [_, _, _], _ => rfl
abbrev N_L_tables : List Str := ["_law_draws_here", "_law_size", "_law_one", "_law_k", "_law_other", "_law_at", "_law_place"]
abbrev A_L_tables : List Str := ["_law_draws_here"]
theorem sc_L_tables : FnScope N_L_tables A_L_tables d_L_tables.scope := ⟨rfl, rfl, rfl, by decide +kernel, rfl, by decide +kernel, by decide +kernel⟩
theorem bn_L_tables (kV doc pm : Value) (an : Option Addr) (cdv ct : Value) (us : List Value) (hl : us.length = A_L_tables.length) : bindArgs (PySem.W.fnOf d_L_tables.name d_L_tables.qual d_L_tables.params d_L_tables.body d_L_tables.scope .none kV doc pm an cdv ct) ⟨us, []⟩ = pure (List.zip A_L_tables us) := match us, hl with | [_], _ => rfl
abbrev N_L_told : List Str := ["_law_circuit_here", "_law_breaks_here", "_law_patterns_here", "_law_press_here"]
abbrev A_L_told : List Str := ["_law_circuit_here", "_law_breaks_here", "_law_patterns_here", "_law_press_here"]
theorem sc_L_told : FnScope N_L_told A_L_told d_L_told.scope := ⟨rfl, rfl, rfl, by decide +kernel, rfl, by decide +kernel, by decide +kernel⟩
theorem bn_L_told (kV doc pm : Value) (an : Option Addr) (cdv ct : Value) (us : List Value) (hl : us.length = A_L_told.length) : bindArgs (PySem.W.fnOf d_L_told.name d_L_told.qual d_L_told.params d_L_told.body d_L_told.scope .none kV doc pm an cdv ct) ⟨us, []⟩ = pure (List.zip A_L_told us) := match us, hl with | [_, _, _, _], _ => rfl
abbrev N_law : List Str := ["_law_script", "_law_draws_here", "_law_width", "_law_taps", "_law_press_here", "_law_one", "_law_other", "_law_due", "_law_parts", "_law_circuit_here", "_law_breaks_here", "_law_patterns_here", "_law_right", "_law_gone", "_law_broken", "_law_wrong", "_law_bad", "_law_longer"]
abbrev A_law : List Str := ["_law_script"]
theorem sc_law : FnScope N_law A_law d_law.scope := ⟨rfl, rfl, rfl, by decide +kernel, rfl, by decide +kernel, by decide +kernel⟩
theorem bn_law (kV doc pm : Value) (an : Option Addr) (cdv ct : Value) (us : List Value) (hl : us.length = A_law.length) : bindArgs (PySem.W.fnOf d_law.name d_law.qual d_law.params d_law.body d_law.scope .none kV doc pm an cdv ct) ⟨us, []⟩ = pure (List.zip A_law us) := match us, hl with | [_], _ => rfl
end Pw
namespace Pw
open PySem PySem.Spec L2
open Evl (Ex)
theorem gems {α β : Type} {f : α → β} {xs : List α} {i : Nat} {y : β} (h : (xs.map f)[i]? = some y) : ∃ x, xs[i]? = some x ∧ y = f x := by
  rw [List.getElem?_map] at h
  cases q : xs[i]? with
  | none => rw [q] at h; cases h
  | some x => rw [q] at h; exact ⟨x, rfl, (Option.some.inj h).symm⟩
theorem memAt {α : Type} {xs : List α} {i : Nat} {y : α} (h : xs[i]? = some y) : y ∈ xs := List.mem_of_getElem? h
/-! ### data -/
def bi (b : Bool) : Int := if b then 1 else 0
abbrev bitsD (bs : List Bool) : List PyData := bs.map fun b => PyData.int (bi b)
abbrev wsD (ws : List Nat) : List PyData := ws.map fun (n : Nat) => PyData.int (n : Int)
abbrev strsD (ss : List Str) : List PyData := ss.map PyData.str
section
variable {X : Cx} {e a b c o iter elt : Expr} {es : List Expr} {st : Stmt} {sts rest body : List Stmt} {σ : L2.St} {H H' H0 : Hp} {P P' R : PV} {d d' : PyData} {ds : List PyData} {v u : V} {pos pos' px p : Pos} {i j k : Nat} {x : Str} {D : Ends} {tg : Expr} {scope : Scope}
/-! constants of the module -/
theorem ev_cI {i : Int} (hm : ∃ t, X.mg x = some (.int i t)) (hg : Gl X x := by rfl) (hd : (x == ("__debug__" : Str)) = false := by decide) : EV X σ H (.Name x pos) (.int i) := by
  obtain ⟨t, hm⟩ := hm
  exact (ex_c (v := .int i) hm ⟨t, rfl⟩ hg hd).at_ (.int i)
theorem ev_cS {i : Str} (hm : ∃ t, X.mg x = some (.str i t)) (hg : Gl X x := by rfl) (hd : (x == ("__debug__" : Str)) = false := by decide) : EV X σ H (.Name x pos) (.str i) := by
  obtain ⟨t, hm⟩ := hm
  exact (ex_c (v := .str i) hm ⟨t, rfl⟩ hg hd).at_ (.str i)
/-- text[i] -/
theorem ev_ixS {z : Str} {i : Int} {c : Nat} (ha : EV X σ H a (.str z)) (hb : EV X σ H b (.int i)) (hz : z.length ≤ sizeLine) (h : atI z.cps.toList i = some c) (hs : PlainIx b := by exact fun _ _ => rfl) : EV X σ H (.Subscript a b pos) (.str ⟨#[c]⟩) :=
  ew_ix ix_str ha hb (fun x y H2 _ p p' Q q => ⟨z, i, c, p.str_eq, p'.int_eq, hz, h, q.dat (Ex.refl H2) (.str _)⟩) hs
theorem rb_niC {c : Nat} {z : Str} : RB (fun x y H Q => ∃ c z, x = V.str ⟨#[c]⟩ ∧ y = .str z ∧ Q (.bl !decide (c ∈ z.cps.toList)) H) (dat (.str ⟨#[c]⟩)) (dat (.str z)) H (!decide (c ∈ z.cps.toList)) := fun x y H2 _ p p' Q q => ⟨c, z, p.str_eq, p'.str_eq, q⟩
/-- i op= e of ints -/
theorem go_augI {op : Operator} {g : Int → Int → Int} {m n : Int} (i : Nat) (hN : X.N.Nodup) (ho : OpR X (inplaceOp op) (rI0 fun i j => .int (g i j))) (h : EV X σ H e (.int n)) (q : ∀ H1, Ex H H1 → tSs X rest D (σ.set i (some (.int (g m n)))) H1) (hσ : σ[i]? = some (some (.int m)) := by rfl) (hi : X.N[i]? = some x := by rfl) (hx : Loc X.env.scope x := by first | exact Or.inl rfl | exact Or.inr rfl)
    (hf : X.fn x = true ∨ X.env.scope.names.lookup x = some .local := by first | exact Or.inl rfl | exact Or.inr rfl) : tSs X (.AugAssign (.Name x pos') op e pos :: rest) D σ H :=
  go_aug i hN ho hσ h (fun v H1 z p => ⟨m, n, rfl, p.int_eq, q H1 z⟩) hi hx hf
theorem gt_n {Q : L2.St → Hp → Prop} (i : Nat) (hN : X.N.Nodup) (q : Q (σ.set i (some v)) H) (hi : X.N[i]? = some x := by rfl) (hx : Loc X.env.scope x := by first | exact Or.inl rfl | exact Or.inr rfl) (hf : X.fn x = true ∨ X.env.scope.names.lookup x = some .local := by first | exact Or.inl rfl | exact Or.inr rfl) : tG X (.Name x pos) v σ H Q := gt_name hN hi q hx hf
/-! slices -/
theorem sIx_nat (n d j : Nat) : HT.sIx n d (some (j : Int)) = min j n := by
  unfold HT.sIx
  simp
  omega
theorem ev_slLf {i : Int} {p2 : Pos} (j : Nat) (ha : EV X σ H a (.list ds)) (hb : EV X σ H b (.int i)) (hj : HT.sIx ds.length 0 (some i) = min j ds.length) : EV X σ H (.Subscript a (.Slice (some b) none none p2) pos) (.list (ds.drop j)) :=
  EV.is (ev_slL ha (po_some pE) po_none (fun H1 z => eo_s (hb.up z) H1 (Ex.refl H1)) eo_n) (by
    rw [hj]
    show PyData.list ((ds.drop (min j ds.length)).take (ds.length - min j ds.length)) = _
    rw [List.take_of_length_le (by rw [List.length_drop]; omega)]
    congr 1
    rcases Nat.le_total j ds.length with h | h
    · rw [Nat.min_eq_left h]
    · rw [Nat.min_eq_right h, List.drop_of_length_le (Nat.le_refl _), List.drop_of_length_le h])
theorem ev_slLt {i : Int} {p2 : Pos} (j : Nat) (ha : EV X σ H a (.list ds)) (hb : EV X σ H b (.int i)) (hj : HT.sIx ds.length ds.length (some i) = min j ds.length) : EV X σ H (.Subscript a (.Slice none (some b) none p2) pos) (.list (ds.take j)) :=
  EV.is (ev_slL ha po_none (po_some pE) eo_n (fun H1 z => eo_s (hb.up z) H1 (Ex.refl H1))) (by
    rw [hj]
    show PyData.list ((ds.drop 0).take (min j ds.length - 0)) = _
    rw [List.drop_zero, Nat.sub_zero]
    congr 1
    rcases Nat.le_total j ds.length with h | h
    · rw [Nat.min_eq_left h]
    · rw [Nat.min_eq_right h, List.take_of_length_le (Nat.le_refl _), List.take_of_length_le h])
theorem ev_slTf {i : Int} {p2 : Pos} (j : Nat) (ha : EV X σ H a (.tuple ds)) (hb : EV X σ H b (.int i)) (hj : HT.sIx ds.length 0 (some i) = min j ds.length) : EV X σ H (.Subscript a (.Slice (some b) none none p2) pos) (.tuple (ds.drop j)) :=
  EV.is (ev_slT ha (po_some pE) po_none (fun H1 z => eo_s (hb.up z) H1 (Ex.refl H1)) eo_n) (by
    rw [hj]
    show PyData.tuple ((ds.drop (min j ds.length)).take (ds.length - min j ds.length)) = _
    rw [List.take_of_length_le (by rw [List.length_drop]; omega)]
    congr 1
    rcases Nat.le_total j ds.length with h | h
    · rw [Nat.min_eq_left h]
    · rw [Nat.min_eq_right h, List.drop_of_length_le (Nat.le_refl _), List.drop_of_length_le h])
theorem ev_slTt {i : Int} {p2 : Pos} (j : Nat) (ha : EV X σ H a (.tuple ds)) (hb : EV X σ H b (.int i)) (hj : HT.sIx ds.length ds.length (some i) = min j ds.length) : EV X σ H (.Subscript a (.Slice none (some b) none p2) pos) (.tuple (ds.take j)) :=
  EV.is (ev_slT ha po_none (po_some pE) eo_n (fun H1 z => eo_s (hb.up z) H1 (Ex.refl H1))) (by
    rw [hj]
    show PyData.tuple ((ds.drop 0).take (min j ds.length - 0)) = _
    rw [List.drop_zero, Nat.sub_zero]
    congr 1
    rcases Nat.le_total j ds.length with h | h
    · rw [Nat.min_eq_left h]
    · rw [Nat.min_eq_right h, List.take_of_length_le (Nat.le_refl _), List.take_of_length_le h])
/-! comprehensions, item by item -/
theorem ev_lcTm {α : Type} {xs : List α} {enc : α → PyData} (x : Str) (j : Nat) (f : α → PyData) (hN : X.N.Nodup) (hi : EV X σ H iter (.tuple (xs.map enc))) (hz : xs.length ≤ 40000)
    (he : ∀ (v : V) (y : α) (H1 : Hp), y ∈ xs → Ex H H1 → Is H1 v (enc y) → EB X scope (σ.set j (some v)) H1 elt (dat (f y))) (hc : X.calm = true := by rfl) (ok : blkC X.N X.env.scope scope [(x, j)] = true := by kernel_rfl) (hj : X.N[j]? = some x := by rfl)
    (hs : ∀ x, foldedSetIterable iter X.env x = pure x := by intro _; rfl)
    (hx : ∀ (cl : List (Str × Addr)) (C : Addr), Loc (compEnvC scope cl C X.env).scope x := by first | exact fun _ _ => Or.inl rfl | exact fun _ _ => Or.inr rfl)
    (hf : (scope.names.lookup x == some .cell) = true ∨ (∀ (cl : List (Str × Addr)) (C : Addr), (compEnvC scope cl C X.env).scope.names.lookup x = some .local) := by first | exact Or.inl rfl | exact Or.inr (fun _ _ => rfl)) : EV X σ H (.ListComp elt [⟨.Name x px, iter, [], 0⟩] scope pos) (.list (xs.map f)) :=
  ev_lcT x j hc hN (xs.map f) hi (by rw [List.length_map, List.length_map]) (by rw [List.length_map]; exact hz) (fun i v d e H1 e1 e2 z r => by
    obtain ⟨y, h1, rfl⟩ := gems e1
    obtain ⟨y', h2, rfl⟩ := gems e2
    rw [h1] at h2
    cases h2
    exact he v y H1 (memAt h1) z r) ok hj hs hx hf
theorem ev_lcLm {α : Type} {xs : List α} {enc : α → PyData} (x : Str) (j : Nat) (f : α → PyData) (hN : X.N.Nodup) (hi : EV X σ H iter (.list (xs.map enc))) (hz : xs.length ≤ 40000)
    (he : ∀ (v : V) (y : α) (H1 : Hp), y ∈ xs → Ex H H1 → Is H1 v (enc y) → EB X scope (σ.set j (some v)) H1 elt (dat (f y))) (hc : X.calm = true := by rfl) (ok : blkC X.N X.env.scope scope [(x, j)] = true := by kernel_rfl) (hj : X.N[j]? = some x := by rfl)
    (hs : ∀ x, foldedSetIterable iter X.env x = pure x := by intro _; rfl)
    (hx : ∀ (cl : List (Str × Addr)) (C : Addr), Loc (compEnvC scope cl C X.env).scope x := by first | exact fun _ _ => Or.inl rfl | exact fun _ _ => Or.inr rfl)
    (hf : (scope.names.lookup x == some .cell) = true ∨ (∀ (cl : List (Str × Addr)) (C : Addr), (compEnvC scope cl C X.env).scope.names.lookup x = some .local) := by first | exact Or.inl rfl | exact Or.inr (fun _ _ => rfl)) : EV X σ H (.ListComp elt [⟨.Name x px, iter, [], 0⟩] scope pos) (.list (xs.map f)) :=
  ev_lcL x j hc hN (xs.map f) hi (by rw [List.length_map, List.length_map]) (by rw [List.length_map]; exact hz) (fun i v d e H1 e1 e2 z r => by
    obtain ⟨y, h1, rfl⟩ := gems e1
    obtain ⟨y', h2, rfl⟩ := gems e2
    rw [h1] at h2
    cases h2
    exact he v y H1 (memAt h1) z r) ok hj hs hx hf
theorem ev_lcRm {n : Nat} {kk : Int} (x : Str) (j : Nat) (f : Nat → PyData) (hN : X.N.Nodup) (hm : X.mg "range" = none) (hi : EV X σ H a (.int kk)) (hk : kk = (n : Int)) (hz : n ≤ 40000)
    (he : ∀ (y : Nat) (H1 : Hp), y < n → Ex H H1 → EB X scope (σ.set j (some (.int y))) H1 elt (dat (f y))) (hc : X.calm = true := by rfl) (ok : blkC X.N X.env.scope scope [(x, j)] = true := by kernel_rfl) (hj : X.N[j]? = some x := by rfl) (hg : Gl X "range" := by rfl) (hs1 : starEach [a] X.env = [(false, eval a X.env)] := by rfl)
    (hx : ∀ (cl : List (Str × Addr)) (C : Addr), Loc (compEnvC scope cl C X.env).scope x := by first | exact fun _ _ => Or.inl rfl | exact fun _ _ => Or.inr rfl)
    (hf : (scope.names.lookup x == some .cell) = true ∨ (∀ (cl : List (Str × Addr)) (C : Addr), (compEnvC scope cl C X.env).scope.names.lookup x = some .local) := by first | exact Or.inl rfl | exact Or.inr (fun _ _ => rfl)) : EV X σ H (.ListComp elt [⟨.Name x px, .Call (.Name "range" p) [a] [] pos', [], 0⟩] scope pos) (.list ((List.range n).map f)) := by
  subst hk
  exact ev_lcR x j hc hN ((List.range n).map f) hm hi (by rw [List.length_map, List.length_range]) hz (fun i e H1 hi e2 z => by
    obtain ⟨y, h2, rfl⟩ := gems e2
    have : y = i := by
      rw [List.getElem?_range hi] at h2
      exact (Option.some.inj h2).symm
    subst this
    exact he y H1 hi z) ok hj hg hs1 hx hf
end
end Pw
namespace Pw
open PySem PySem.Spec L2
open Evl (Ex)
section
variable {X : Cx} {e a b c o iter elt : Expr} {es : List Expr} {σ : L2.St} {H H' H0 : Hp} {pos pos' px p : Pos} {i j k : Nat}
theorem tw_inT (ss : List Str) {z : Str} (ha : EV X σ H a (.str z)) (hb : AV X σ H es (strsD ss)) (hl : ss.length ≤ 100000 := by decide) (hm : behindInMarks .In (.Tuple es k p) = false := by rfl) : TW X σ H (.Compare a [.In] [.Tuple es k p] pos) (decide (z ∈ ss)) :=
  tw_cmp op_in_seq hm ha (ev_tup hb (by rw [List.length_map]; exact hl)) rb_inT
theorem tw_inL (ss : List Str) {z : Str} (ha : EV X σ H a (.str z)) (hb : AV X σ H es (strsD ss)) (hl : ss.length ≤ 100000 := by decide) (hm : behindInMarks .In (.List es p) = false := by rfl) : TW X σ H (.Compare a [.In] [.List es p] pos) (decide (z ∈ ss)) :=
  tw_cmp op_in_seq hm ha (ev_lst hb (by rw [List.length_map]; exact hl)) rb_inL
end
/-! ### words of bits -/
def wd : List Bool → Nat
  | [] => 0
  | b :: r => b.toNat + 2 * wd r
theorem orI (m n : Nat) : Builtin.bitOr (m : Int) (n : Int) = ((m ||| n : Nat) : Int) := by
  have := Bits.bitOr_pp (x := (m : Int)) (y := (n : Int)) (by omega) (by omega)
  simpa using this
theorem andI (m n : Nat) : Builtin.bitAnd (m : Int) (n : Int) = ((m &&& n : Nat) : Int) := by
  have := PyProof.Rows.bitAnd_pp (x := (m : Int)) (y := (n : Int)) (by omega) (by omega)
  simpa using this
theorem xorI (m n : Nat) : Builtin.bitXor (m : Int) (n : Int) = ((m ^^^ n : Nat) : Int) := by
  have := Bits.bitXor_pp (x := (m : Int)) (y := (n : Int)) (by omega) (by omega)
  simpa using this
theorem wd_lt : ∀ bs : List Bool, wd bs < 2 ^ bs.length
  | [] => by decide
  | b :: r => by
    have := wd_lt r
    show b.toNat + 2 * wd r < 2 ^ (r.length + 1)
    rw [Nat.pow_succ]
    cases b <;> simp <;> omega
theorem wd_snoc (b : Bool) : ∀ bs : List Bool, wd (bs ++ [b]) = wd bs + b.toNat * 2 ^ bs.length
  | [] => by simp [wd]
  | c :: r => by
    show c.toNat + 2 * wd (r ++ [b]) = c.toNat + 2 * wd r + b.toNat * 2 ^ (r.length + 1)
    rw [wd_snoc b r, Nat.pow_succ]
    cases b <;> simp <;> omega
theorem bi_nat (b : Bool) : bi b = (b.toNat : Int) := by cases b <;> rfl
theorem pow_cast (i : Nat) : (2 : Int) ^ i = ((2 ^ i : Nat) : Int) := by simp
theorem wd_step (bs : List Bool) (b : Bool) : Builtin.bitOr ((wd bs : Nat) : Int) (bi b * 2 ^ ((bs.length : Int)).toNat) = ((wd (bs ++ [b]) : Nat) : Int) := by
  have h := wd_lt bs
  rw [Int.toNat_natCast, bi_nat, Bits.bitOr_join (by omega) (by rw [pow_cast]; omega) (by omega), wd_snoc, pow_cast]
  simp
section
variable {P : Program} {w : World} {K : PySem.W.Frag} {mg : Str → Option Value} {base : Heap}
theorem ok_word_of (g : Gd P w K mg base) : Fnc P w K mg base 1 "word_of" (PD fun ds r => ∃ bs, ds = [.list (bitsD bs)] ∧ bs.length ≤ 1000 ∧ r = .int ((wd bs : Nat) : Int)) := by
  refine g.fncD 11 11 d_word_of "word_of" sc_word_of bn_word_of ?_ ?_
  · rintro ds r ⟨bs, rfl, _, rfl⟩
    rfl
  · rintro cdv A outer s H vs Q E ds r hr h ⟨bs, rfl, hl, rfl⟩ q
    obtain ⟨v1, rfl, h1⟩ := h.one'
    refine go_set 1 sc_word_of.nd ev_int fun w1 H1 z1 p1 => ?_
    rw [p1.int_eq]
    refine go_forEL (passes_of rfl) rfl g.enumerate (ev_n 0 (h1.mono z1)) fun l xs H2 z2 hl2 hs2 => ⟨fun i σ' H' => ∃ x y, σ' = [some v1, some (.int ((wd (bs.take i) : Nat) : Int)), x, y] ∧ Ex H2 H', ⟨none, none, rfl, Ex.refl _⟩, fun i σ' H' p => ?_, fun i v d σ' H' T e1 e2 r p hT => ?_, fun σ' H' p => ?_⟩
    · obtain ⟨x, y, rfl, z⟩ := p
      exact z _ _ hl2
    · obtain ⟨x, y, rfl, z⟩ := p
      obtain ⟨b, e3, rfl⟩ := gems e2
      have il : i < bs.length := (List.getElem?_eq_some_iff.mp e3).1
      refine gt_tup2 rfl (.tup upd_same (.cons (.int (i : Nat)) (.cons (r.mono (z.trans (Ex.new hT))) .nil))) fun v1 v2 i1 i2 => ?_
      refine gt_n 2 sc_word_of.nd (gt_n 3 sc_word_of.nd ?_)
      refine go_augI 1 sc_word_of.nd iop_or (ev_shl (ev_n 3 i2) (ev_n 2 i1) ⟨by omega, by omega, by cases b <;> decide⟩) fun H3 z3 => go_nil ⟨some v1, some v2, ?_, (z.trans (Ex.new hT)).trans z3⟩
      have e4 : bs.take (i + 1) = bs.take i ++ [b] := by rw [List.take_add_one, e3]; rfl
      have e5 := wd_step (bs.take i) b
      rw [List.length_take, Nat.min_eq_left (Nat.le_of_lt il)] at e5
      rw [e4, ← e5]
      rfl
    · obtain ⟨x, y, rfl, z⟩ := p
      rw [List.length_map, List.take_length]
      exact go_out (ev_n 1 (.int _)) (z1.trans (z2.trans z)) q
end
end Pw
namespace Pw
open PySem PySem.Spec L2
open Evl (Ex)
/-! ### gates -/
def gOp (k : Str) (x y : Nat) : Nat := if k ∈ (["and", "nand"] : List Str) then x &&& y else if k ∈ (["or", "nor"] : List Str) then x ||| y else x ^^^ y
def gW (k : Str) (ws : List Nat) (mask : Nat) : Nat := if k ∈ (["low", "high"] : List Str) then (if k = ("high" : Str) then mask else 0) else
  if k ∈ (["nand", "nor", "xnor", "not"] : List Str) then (ws.drop 1).foldl (gOp k) (ws.headD 0) ^^^ mask else (ws.drop 1).foldl (gOp k) (ws.headD 0)
def KdOk (k : Str) (n : Nat) : Prop := (k ∈ (["low", "high"] : List Str) ∧ n = 0) ∨ (k ∈ (["not", "buf"] : List Str) ∧ n = 1) ∨ (k ∈ (["and", "or", "nand", "nor", "xor", "xnor"] : List Str) ∧ 1 ≤ n ∧ n ≤ 4)
section
variable {P : Program} {w : World} {K : PySem.W.Frag} {mg : Str → Option Value} {base : Heap}
theorem ok_gate_word (g : Gd P w K mg base) : Fnc P w K mg base 1 "gate_word" (PD fun ds r => ∃ k ws mask, ds = [.str k, .list (wsD ws), .int ((mask : Nat) : Int)] ∧ KdOk k ws.length ∧ r = .int ((gW k ws mask : Nat) : Int)) := by
  refine g.fncD 12 12 d_gate_word "gate_word" sc_gate_word bn_gate_word ?_ ?_
  · rintro ds r ⟨k, ws, mask, rfl, _, rfl⟩
    rfl
  · rintro cdv A outer s H vs Q E ds r hr h ⟨k, ws, mask, rfl, hk, rfl⟩ q
    obtain ⟨v1, v2, v3, rfl, h1, h2, h3⟩ := h.three
    refine go_when (tw_inT ["low", "high"] (ev_n 0 h1) (av_cons ev_str (av_cons ev_str av_nil))) (fun e H1 z => ?_) fun e H1 z => ?_
    · have e := of_decide_eq_true e
      refine go_out (ew_if (tw_cmp op_eq rfl (ev_n 0 (h1.mono z)) ev_str rb_eqS) (fun e2 => (?_ : EV _ _ _ _ _)) fun e2 => (?_ : EV _ _ _ _ _)) z q
      · have e2 := of_decide_eq_true e2
        exact EV.is (ev_n 2 (h3.mono z)) (by unfold gW; rw [if_pos e, if_pos e2])
      · have e2 := of_decide_eq_false e2
        exact EV.is ev_int (by unfold gW; rw [if_pos e, if_neg e2]; rfl)
    · have e := of_decide_eq_false e
      have hn : 1 ≤ ws.length := by
        rcases hk with ⟨a, _⟩ | ⟨_, a⟩ | ⟨_, a, _⟩
        · exact absurd a e
        · omega
        · exact a
      obtain ⟨w0, wr, rfl⟩ : ∃ w0 wr, ws = w0 :: wr := by
        cases ws with
        | nil => simp at hn
        | cons a b => exact ⟨a, b, rfl⟩
      refine go_set 3 sc_gate_word.nd (ev_ixL (d := .int ((w0 : Nat) : Int)) (ev_n 1 (h2.mono z)) ev_int (atI_n (j := 0) rfl 0 rfl)) fun v4 H2 z2 p2 => ?_
      rw [p2.int_eq]
      have h1' := h1.mono (z.trans z2)
      have h2' := h2.mono (z.trans z2)
      have h3' := h3.mono (z.trans z2)
      refine go_forL (ds := wsD wr) (passes_of rfl) rfl (ev_slLf 1 (ev_n 1 h2') ev_int (sIx_nat _ _ 1)) fun l xs H3 z3 hl3 hs3 => ⟨fun i σ' H' => ∃ y, σ' = [some v1, some v2, some v3, some (.int (((wr.take i).foldl (gOp k) w0 : Nat) : Int)), y] ∧ Ex H3 H', ⟨none, rfl, Ex.refl _⟩, fun i σ' H' p => ?_, fun i v d σ' H' e1 e2 r p => ?_, fun σ' H' p => ?_⟩
      · obtain ⟨y, rfl, z⟩ := p
        exact z _ _ hl3
      · obtain ⟨y, rfl, z4⟩ := p
        obtain ⟨x, e3, rfl⟩ := gems e2
        have e4 : (wr.take (i + 1)).foldl (gOp k) w0 = gOp k ((wr.take i).foldl (gOp k) w0) x := by rw [List.take_add_one, e3]; simp
        have zz := z3.trans z4
        rw [r.int_eq]
        refine gt_n 4 sc_gate_word.nd (go_ifE (tw_inT ["and", "nand"] (ev_n 0 (h1'.mono zz)) (av_cons ev_str (av_cons ev_str av_nil))) (fun a H5 z5 => ?_) fun a H5 z5 => ?_)
        · refine go_augI 3 sc_gate_word.nd iop_and (ev_n 4 (.int _)) fun H6 z6 => go_nil (go_nil ⟨some (.int x), ?_, (z4.trans z5).trans z6⟩)
          rw [e4, andI]
          unfold gOp
          rw [if_pos (of_decide_eq_true a)]
          rfl
        · refine go_ifE (tw_inT ["or", "nor"] (ev_n 0 ((h1'.mono zz).mono z5)) (av_cons ev_str (av_cons ev_str av_nil))) (fun b H6 z6 => ?_) fun b H6 z6 => ?_
          · refine go_augI 3 sc_gate_word.nd iop_or (ev_n 4 (.int _)) fun H7 z7 => go_nil (go_nil (go_nil ⟨some (.int x), ?_, ((z4.trans z5).trans z6).trans z7⟩))
            rw [e4, orI]
            unfold gOp
            rw [if_neg (of_decide_eq_false a), if_pos (of_decide_eq_true b)]
            rfl
          · refine go_augI 3 sc_gate_word.nd iop_xor (ev_n 4 (.int _)) fun H7 z7 => go_nil (go_nil (go_nil ⟨some (.int x), ?_, ((z4.trans z5).trans z6).trans z7⟩))
            rw [e4, xorI]
            unfold gOp
            rw [if_neg (of_decide_eq_false a), if_neg (of_decide_eq_false b)]
            rfl
      · obtain ⟨y, rfl, z4⟩ := p
        rw [List.length_map, List.take_length]
        have zz := z3.trans z4
        have zq := (z.trans z2).trans zz
        refine go_when (tw_inT ["nand", "nor", "xnor", "not"] (ev_n 0 (h1'.mono zz)) (av_cons ev_str (av_cons ev_str (av_cons ev_str (av_cons ev_str av_nil))))) (fun a H5 z5 => ?_) fun a H5 z5 => ?_
        · refine go_augI 3 sc_gate_word.nd iop_xor (ev_n 2 (((h3'.mono zz).mono z5))) fun H6 z6 => go_nil (go_out (EV.is (ev_n 3 (.int _)) ?_) (zq.trans (z5.trans z6)) q)
          unfold gW
          rw [if_neg e, if_pos (of_decide_eq_true a), xorI]
          rfl
        · refine go_out (EV.is (ev_n 3 (.int _)) ?_) (zq.trans z5) q
          unfold gW
          rw [if_neg e, if_neg (of_decide_eq_false a)]
          rfl
end
end Pw
namespace Pw
open PySem PySem.Spec L2
open Evl (Ex)
/-! ### the law's gates: the same words -/
def lOp (k : Str) (x y : Nat) : Nat := if k ∈ (["and", "nand"] : List Str) then x &&& y else if k ∈ (["or", "nor", "not", "buf"] : List Str) then x ||| y else x ^^^ y
def lS (k : Str) (full : Nat) : Nat := if k ∈ (["and", "nand"] : List Str) then full else 0
def lW (k : Str) (ws : List Nat) (full : Nat) : Nat := if k = ("high" : Str) then full else ws.foldl (lOp k) (lS k full)
theorem lOp_lt {k : Str} {x y n : Nat} (h1 : x < 2 ^ n) (h2 : y < 2 ^ n) : lOp k x y < 2 ^ n := by
  unfold lOp
  split
  · exact Nat.and_lt_two_pow _ h2
  · split
    · exact Nat.or_lt_two_pow h1 h2
    · exact Nat.xor_lt_two_pow h1 h2
theorem lfold_lt {k : Str} {n : Nat} : ∀ {ws : List Nat} {x : Nat}, x < 2 ^ n → (∀ w ∈ ws, w < 2 ^ n) → ws.foldl (lOp k) x < 2 ^ n
  | [], _, h, _ => h
  | w :: r, x, h, hw => lfold_lt (ws := r) (lOp_lt h (hw w List.mem_cons_self)) fun z hz => hw z (List.mem_cons_of_mem _ hz)
theorem pow_m1 (n : Nat) : 2 ^ n - 1 < 2 ^ n := by
  have := Nat.two_pow_pos n
  omega
theorem lW_lt {k : Str} {n : Nat} {ws : List Nat} (hw : ∀ w ∈ ws, w < 2 ^ n) : lW k ws (2 ^ n - 1) < 2 ^ n := by
  unfold lW
  split
  · exact pow_m1 n
  · refine lfold_lt ?_ hw
    unfold lS
    split
    · exact pow_m1 n
    · exact Nat.two_pow_pos n
theorem xor_mask {x n : Nat} (h : x < 2 ^ n) : x ^^^ (2 ^ n - 1) = 2 ^ n - 1 - x := by
  apply Nat.eq_of_testBit_eq
  intro i
  rw [Nat.sub_sub, Nat.add_comm 1 x, Nat.testBit_two_pow_sub_succ h, Nat.testBit_xor, Nat.testBit_two_pow_sub_one]
  by_cases hi : i < n
  · simp [hi]
  · simp [hi]
    exact Nat.testBit_lt_two_pow (Nat.lt_of_lt_of_le h (Nat.pow_le_pow_right (by decide) (by omega)))
theorem ops_eq {k : Str} (h : ¬ k ∈ (["not", "buf"] : List Str)) : lOp k = gOp k := by
  funext x y
  unfold lOp gOp
  have : k ∈ (["or", "nor", "not", "buf"] : List Str) ↔ k ∈ (["or", "nor"] : List Str) := by
    simp only [List.mem_cons, List.mem_nil_iff, or_false] at h ⊢
    constructor
    · rintro (a | a | a | a)
      · exact .inl a
      · exact .inr a
      · exact absurd (.inl a) h
      · exact absurd (.inr a) h
    · rintro (a | a)
      · exact .inl a
      · exact .inr (.inl a)
  simp only [this]
/-- the law's word is the program's -/
theorem gW_eq {k : Str} {ws : List Nat} {n : Nat} (hk : KdOk k ws.length) (hw : ∀ w ∈ ws, w < 2 ^ n) :
    gW k ws (2 ^ n - 1) = if k ∈ (["nand", "nor", "xnor", "not"] : List Str) then 2 ^ n - 1 - lW k ws (2 ^ n - 1) else lW k ws (2 ^ n - 1) := by
  by_cases hlh : k ∈ (["low", "high"] : List Str)
  · have hws : ws = [] := by
      rcases hk with ⟨_, a⟩ | ⟨b, _⟩ | ⟨b, _⟩
      · exact List.eq_nil_of_length_eq_zero a
      · simp only [List.mem_cons, List.mem_nil_iff, or_false] at hlh b
        rcases hlh with rfl | rfl <;> rcases b with b | b <;> exact absurd b (by decide)
      · simp only [List.mem_cons, List.mem_nil_iff, or_false] at hlh b
        rcases hlh with rfl | rfl <;> rcases b with b | b | b | b | b | b <;> exact absurd b (by decide)
    subst hws
    unfold gW
    rw [if_pos hlh]
    simp only [List.mem_cons, List.mem_nil_iff, or_false] at hlh
    rcases hlh with rfl | rfl
    · rw [if_neg (by decide), if_neg (by decide)]
      unfold lW lS
      rw [if_neg (by decide), if_neg (by decide)]
      rfl
    · rw [if_pos rfl, if_neg (by decide)]
      unfold lW
      rw [if_pos rfl]
  · have nh : ¬ k = ("high" : Str) := fun e => hlh (by rw [e]; decide)
    obtain ⟨w0, wr, rfl⟩ : ∃ w0 wr, ws = w0 :: wr := by
      cases ws with
      | nil =>
        rcases hk with ⟨a, _⟩ | ⟨_, a⟩ | ⟨_, a, _⟩
        · exact absurd a hlh
        · cases a
        · simp at a
      | cons a b => exact ⟨a, b, rfl⟩
    have h0 := hw w0 List.mem_cons_self
    have key : lW k (w0 :: wr) (2 ^ n - 1) = (List.drop 1 (w0 :: wr)).foldl (gOp k) ((w0 :: wr).headD 0) := by
      unfold lW
      rw [if_neg nh]
      show wr.foldl (lOp k) (lOp k (lS k (2 ^ n - 1)) w0) = wr.foldl (gOp k) w0
      have e0 : lOp k (lS k (2 ^ n - 1)) w0 = w0 := by
        unfold lOp lS
        split
        · rw [Nat.and_comm, Nat.and_two_pow_sub_one_eq_mod, Nat.mod_eq_of_lt h0]
        · split
          · exact Nat.zero_or _
          · exact Nat.zero_xor _
      rw [e0]
      by_cases hb : k ∈ (["not", "buf"] : List Str)
      · have : wr = [] := by
          rcases hk with ⟨a, _⟩ | ⟨_, a⟩ | ⟨a, _⟩
          · exact absurd a hlh
          · exact List.eq_nil_of_length_eq_zero (by simpa using a)
          · simp only [List.mem_cons, List.mem_nil_iff, or_false] at a hb
            rcases hb with rfl | rfl <;> rcases a with b | b | b | b | b | b <;> exact absurd b (by decide)
        rw [this]
        rfl
      · rw [ops_eq hb]
    unfold gW
    rw [if_neg hlh, key]
    split
    · rw [xor_mask]
      rw [← key]
      exact lW_lt hw
    · rfl
section
variable {P : Program} {w : World} {K : PySem.W.Frag} {mg : Str → Option Value} {base : Heap}
theorem ok_L_gate (g : Gd P w K mg base) : Fnc P w K mg base 1 "_law_gate" (PD fun ds r => ∃ k ws n, ds = [.str k, .list (wsD ws), .int ((2 ^ n - 1 : Nat) : Int)] ∧ KdOk k ws.length ∧ (∀ w ∈ ws, w < 2 ^ n) ∧ r = .int ((gW k ws (2 ^ n - 1) : Nat) : Int)) := by
  refine g.fncD 47 28 d_L_gate "_law_gate" sc_L_gate bn_L_gate ?_ ?_
  · rintro ds r ⟨k, ws, n, rfl, _, _, rfl⟩
    rfl
  · rintro cdv A outer s H vs Q E ds r hr h ⟨k, ws, n, rfl, hk, hw, rfl⟩ q
    obtain ⟨v1, v2, v3, rfl, h1, h2, h3⟩ := h.three
    have hln : ws.length ≤ 4 := by
      rcases hk with ⟨_, a⟩ | ⟨_, a⟩ | ⟨_, _, a⟩ <;> omega
    rw [h3.int_eq]
    generalize hm : 2 ^ n - 1 = m at *
    refine go_set (P := dat (.int ((lS k m : Nat) : Int))) 3 sc_L_gate.nd (ew_if (tw_inL ["and", "nand"] (ev_n 0 h1) (av_cons ev_str (av_cons ev_str av_nil))) (fun a => (?_ : EV _ _ _ _ _)) fun a => (?_ : EV _ _ _ _ _)) fun w1 H1 z1 p1 => ?_
    · exact EV.is (ev_n 2 (.int _)) (by unfold lS; rw [if_pos (of_decide_eq_true a)])
    · exact EV.is ev_int (by unfold lS; rw [if_neg (of_decide_eq_false a)]; rfl)
    rw [p1.int_eq]
    have h1' := h1.mono z1
    refine go_forL (passes_of rfl) rfl (ev_n 1 (h2.mono z1)) fun l xs H3 z3 hl3 hs3 => ⟨fun i σ' H' => ∃ y, σ' = [some v1, some v2, some (.int m), some (.int (((ws.take i).foldl (lOp k) (lS k m) : Nat) : Int)), y] ∧ Ex H3 H', ⟨none, rfl, Ex.refl _⟩, fun i σ' H' p => ?_, fun i v d σ' H' e1 e2 r p => ?_, fun σ' H' p => ?_⟩
    · obtain ⟨y, rfl, z⟩ := p
      exact z _ _ hl3
    · obtain ⟨y, rfl, z4⟩ := p
      obtain ⟨x, e3, rfl⟩ := gems e2
      have e4 : (ws.take (i + 1)).foldl (lOp k) (lS k m) = lOp k ((ws.take i).foldl (lOp k) (lS k m)) x := by rw [List.take_add_one, e3]; simp
      have zz := z3.trans z4
      rw [r.int_eq]
      refine gt_n 4 sc_L_gate.nd (go_ifE (tw_inL ["and", "nand"] (ev_n 0 (h1'.mono zz)) (av_cons ev_str (av_cons ev_str av_nil))) (fun a H5 z5 => ?_) fun a H5 z5 => ?_)
      · refine go_set 3 sc_L_gate.nd (ev_band (ev_n 3 (.int _)) (ev_n 4 (.int _))) fun w6 H6 z6 p6 => go_nil (go_nil ⟨some (.int x), ?_, (z4.trans z5).trans z6⟩)
        rw [p6.int_eq, e4, andI]
        unfold lOp
        rw [if_pos (of_decide_eq_true a)]
        rfl
      · refine go_ifE (tw_inL ["or", "nor", "not", "buf"] (ev_n 0 ((h1'.mono zz).mono z5)) (av_cons ev_str (av_cons ev_str (av_cons ev_str (av_cons ev_str av_nil))))) (fun b H6 z6 => ?_) fun b H6 z6 => ?_
        · refine go_set 3 sc_L_gate.nd (ev_bor (ev_n 3 (.int _)) (ev_n 4 (.int _))) fun w7 H7 z7 p7 => go_nil (go_nil (go_nil ⟨some (.int x), ?_, ((z4.trans z5).trans z6).trans z7⟩))
          rw [p7.int_eq, e4, orI]
          unfold lOp
          rw [if_neg (of_decide_eq_false a), if_pos (of_decide_eq_true b)]
          rfl
        · refine go_set 3 sc_L_gate.nd (ev_bxor (ev_n 3 (.int _)) (ev_n 4 (.int _))) fun w7 H7 z7 p7 => go_nil (go_nil (go_nil ⟨some (.int x), ?_, ((z4.trans z5).trans z6).trans z7⟩))
          rw [p7.int_eq, e4, xorI]
          unfold lOp
          rw [if_neg (of_decide_eq_false a), if_neg (of_decide_eq_false b)]
          rfl
    · obtain ⟨y, rfl, z4⟩ := p
      rw [List.length_map, List.take_length]
      have zz := z3.trans z4
      have h1a := h1'.mono zz
      have fin : ∀ H5, Ex H' H5 → tSs (BX P w K mg base N_L_gate d_L_gate (He.fAd K d_L_gate.at_) cdv A outer s H E) (d_L_gate.body.drop 3) (BD Q) [some v1, some v2, some (.int m), some (.int ((lW k ws m : Nat) : Int)), y] H5 := fun H5 z5 => by
        have hle : lW k ws m ≤ m := by
          have := lW_lt (k := k) hw
          rw [hm] at this
          have := Nat.two_pow_pos n
          omega
        refine go_out (ew_if (tw_inL ["nand", "nor", "xnor", "not"] (ev_n 0 (h1a.mono z5)) (av_cons ev_str (av_cons ev_str (av_cons ev_str (av_cons ev_str av_nil))))) (fun a => (?_ : EV _ _ _ _ _)) fun a => (?_ : EV _ _ _ _ _)) (z1.trans (zz.trans z5)) q
        · refine EV.is (ev_sub (ev_n 2 (.int _)) (ev_n 3 (.int _))) ?_
          have := gW_eq hk hw
          rw [hm] at this
          rw [this, if_pos (of_decide_eq_true a)]
          congr 1
          omega
        · refine EV.is (ev_n 3 (.int _)) ?_
          have := gW_eq hk hw
          rw [hm] at this
          rw [this, if_neg (of_decide_eq_false a)]
      refine go_when (tw_cmp op_eq rfl (ev_n 0 h1a) ev_str rb_eqS) (fun a H5 z5 => ?_) fun a H5 z5 => ?_
      · refine go_set 3 sc_L_gate.nd (ev_n 2 (.int _)) fun w6 H6 z6 p6 => go_nil ?_
        have e := fin H6 (z5.trans z6)
        unfold lW at e
        rw [if_pos (of_decide_eq_true a)] at e
        rw [p6.int_eq]
        exact e
      · have e := fin H5 z5
        unfold lW at e
        rw [if_neg (of_decide_eq_false a)] at e
        exact e
end
end Pw
namespace Pw
open PySem PySem.Spec L2
open Evl (Ex)
theorem none_of {H H' : Hp} {t : Addr} (z : Ex H H') (h : H' t = none) : H t = none := by
  cases q : H t with
  | none => rfl
  | some o => rw [z _ _ q] at h; cases h
theorem Ex.put {H H' : Hp} {t : Addr} {o : HO} (z : Ex H H') (h : H t = none) : Ex H (upd H' t o) := fun b u e => by
  rw [upd_ne (ne_of_none e h)]
  exact z _ _ e
/-- a list that was not there -/
def Fr (H : Hp) (ds : List PyData) : PV := fun v H2 => ∃ l xs, v = .ref l ∧ H l = none ∧ H2 l = some (.lst xs) ∧ IsA H2 xs ds
/-- a dict that was not there -/
def FrD (H : Hp) (kvs : List (Key × V)) : PV := fun v H2 => ∃ l, v = .ref l ∧ H l = none ∧ H2 l = some (.dK kvs)
theorem IsA.reverse {H : Hp} : ∀ {vs : List V} {ds : List PyData}, IsA H vs ds → IsA H vs.reverse ds.reverse
  | _, _, .nil => .nil
  | _, _, .cons h t => by
    rw [List.reverse_cons, List.reverse_cons]
    exact (IsA.reverse t).append (.cons h .nil)
section
variable {X : Cx} {e a b c o iter elt f : Expr} {es : List Expr} {st : Stmt} {sts rest body : List Stmt} {σ : L2.St} {H H' H0 : Hp} {P P' R : PV} {d d' : PyData} {ds es' ds' : List PyData} {v u : V} {pos pos' px p cpos apos : Pos} {i j k : Nat} {x : Str} {D : Ends} {tg : Expr} {scope : Scope}
theorem Giv.fr {Q : VK} {H1 : Hp} {t : Addr} {xs : List V} (q : Giv H1 (Fr H ds) Q) (z : Ex H1 H') (zz : Ex H H1) (ht : H' t = none) (h : IsA H' xs ds) : Q (.ref t) (upd H' t (.lst xs)) :=
  q _ _ (z.trans (Ex.new ht)) fun H3 z3 => ⟨t, xs, rfl, none_of (zz.trans z) ht, z3 _ _ upd_same, (h.mono (Ex.new ht)).mono z3⟩
theorem EW.frD (h : EW X σ H e (Fr H ds)) : EV X σ H e (.list ds) := h.imp fun v H1 _ ⟨l, xs, e, _, h, hs⟩ => by rw [e]; exact .lst h hs
theorem ef_lst (h : AV X σ H es ds) (hl : ds.length ≤ 100000 := by exact Nat.le_of_ble_eq_true rfl) : EW X σ H (.List es pos) (Fr H ds) := fun H1 x Q q =>
  toE (pe_lst pA) (h H1 x _ fun vs H2 y p => ⟨by rw [(p H2 (Ex.refl H2)).length]; exact sz10 hl, fun t ht => q.fr y x ht (p H2 (Ex.refl H2))⟩)
theorem ef_cat (ha : EV X σ H a (.list es')) (hb : EV X σ H b (.list ds')) (hl : es'.length + ds'.length ≤ 100000) : EW X σ H (.BinOp a .Add b pos) (Fr H (es' ++ ds')) :=
  ew_op op_cat ha hb fun x y H2 z p p' Q q => by
    cases p with
    | @lst a1 xs _ h hs =>
      cases p' with
      | @lst a2 ys _ h' hs' =>
        refine ⟨a1, a2, xs, ys, rfl, rfl, h, h', ?_, fun t ht => q.fr (Ex.refl H2) z ht (hs.append hs')⟩
        rw [hs.length, hs'.length]
        exact sz10 hl
theorem ef_rep {i : Int} (ha : EV X σ H a (.list ds)) (hb : EV X σ H b (.int i)) (h0 : 0 ≤ i) (h1 : i ≤ 1000) (hl : ds.length ≤ 1000) : EW X σ H (.BinOp a .Mult b pos) (Fr H (List.replicate i.toNat ds).flatten) :=
  ew_op op_rep ha hb fun x y H2 z p p' Q q => by
    cases p with
    | @lst a1 xs _ h hs =>
      refine ⟨a1, i, xs, rfl, p'.int_eq, h, by omega, by omega, ?_, fun t ht => q.fr (Ex.refl H2) z ht (rep_isA hs _)⟩
      rw [hs.length]
      have a1 : ds.length * i.toNat ≤ 1000 * 1000 := Nat.mul_le_mul hl (by omega)
      exact Nat.le_trans a1 (by decide)
theorem ev_rev {k : Nat} {p1 p2 p3 : Pos} (ha : EV X σ H a (.list ds)) : EV X σ H (.Subscript a (.Slice none none (some (.UnaryOp .USub (.Constant (.int 1) k p1) p2)) p3) pos) (.list ds.reverse) := fun H1 z Q q =>
  toE (pe_revL pE) (ha H1 z _ fun v H2 y p => by
    cases p H2 (Ex.refl H2) with
    | @lst l xs _ h hs => exact ⟨l, xs, rfl, SqL.of h, fun t ht => q.dat (y.trans (Ex.new ht)) (.lst upd_same (hs.reverse.mono (Ex.new ht)))⟩)
/-! dicts -/
theorem ew_dnew : EW X σ H (.Dict [] [] pos) (FrD H []) := fun H1 z Q q => toE pe_dnewK fun t ht => q _ _ (Ex.new ht) fun H3 z3 => ⟨t, rfl, none_of z ht, z3 _ _ upd_same⟩
theorem ew_disp1 {z : Str} (hk : EV X σ H a (.str z)) (hv : EX X σ H b v) : EW X σ H (.Dict [some a] [b] pos) (FrD H [(.inr z, v)]) := fun H1 y Q q =>
  toE (pe_disp (pps_cons pE pE pps_nil) rfl rfl (by simp) (by simp)) fun t ht => hk _ (y.trans (Ex.new ht)) _ fun k1 H2 z2 p2 => hv H2 ((y.trans (Ex.new ht)).trans z2) _ fun v1 H3 z3 p3 => by
    have e : v1 = v := p3 H3 (Ex.refl H3)
    subst e
    rw [(p2 H2 (Ex.refl H2)).str_eq]
    have hH := z3 _ _ (z2 _ _ (upd_same (H := H1) (a := t) (o := .dK [])))
    exact ⟨hH, [(.inr z, v1)], rfl, by simp, q _ _ ((fun b o hb => by
      rw [upd_ne (ne_of_none hb ht)]
      exact z3 _ _ (z2 _ _ (Ex.new ht _ _ hb)))) fun H4 z4 => ⟨t, rfl, none_of y ht, z4 _ _ upd_same⟩⟩
theorem ew_disp2 {z z' : Str} {e2 f2 : Expr} {v2 : V} (hk : EV X σ H a (.str z)) (hv : EX X σ H b v) (hk2 : EV X σ H e2 (.str z')) (hv2 : EX X σ H f2 v2) (hne : z ≠ z') : EW X σ H (.Dict [some a, some e2] [b, f2] pos) (FrD H [(.inr z, v), (.inr z', v2)]) := fun H1 y Q q =>
  toE (pe_disp (pps_cons pE pE (pps_cons pE pE pps_nil)) rfl rfl (by simp) (by simp)) fun t ht => hk _ (y.trans (Ex.new ht)) _ fun k1 H2 z2 p2 => hv H2 ((y.trans (Ex.new ht)).trans z2) _ fun v1 H3 z3 p3 => hk2 H3 (((y.trans (Ex.new ht)).trans z2).trans z3) _ fun k3 H4 z4 p4 => hv2 H4 ((((y.trans (Ex.new ht)).trans z2).trans z3).trans z4) _ fun v5 H5 z5 p5 => by
    have e : v1 = v := p3 H3 (Ex.refl H3)
    subst e
    have e : v5 = v2 := p5 H5 (Ex.refl H5)
    subst e
    rw [(p2 H2 (Ex.refl H2)).str_eq, (p4 H4 (Ex.refl H4)).str_eq]
    have hH := z5 _ _ (z4 _ _ (z3 _ _ (z2 _ _ (upd_same (H := H1) (a := t) (o := .dK [])))))
    refine ⟨hH, [(.inr z, v1), (.inr z', v5)], rfl, by simp, q _ _ ((fun b o hb => by
      rw [upd_ne (ne_of_none hb ht)]
      exact z5 _ _ (z4 _ _ (z3 _ _ (z2 _ _ (Ex.new ht _ _ hb)))))) fun H4 z4 => ⟨t, rfl, none_of y ht, ?_⟩⟩
    have e : mergeK [] [((.inr z : Key), v1), ((.inr z' : Key), v5)] = [((.inr z : Key), v1), ((.inr z' : Key), v5)] := by
      show putK (putK [] (.inr z : Key) v1) (.inr z' : Key) v5 = _
      rw [show putK ([] : List (Key × V)) (.inr z) v1 = [(.inr z, v1)] from rfl, putK_new]
      · rfl
      · rw [valV_neg (fun q => hne (Sum.inr.inj q))]
        rfl
    have w := z4 _ _ (upd_same (H := H5) (a := t))
    rw [e] at w
    exact w
theorem ex_dget {l : Addr} {kvs : List (Key × V)} {z : Str} (hr : Room k X.A) (ho : EX X σ H o (.ref l)) (hi : EV X σ H e (.str z)) (hH : Rd H l (.dK kvs)) (hv : valV kvs (.inr z) = some v) (hs : NoSl e := by exact fun _ _ => rfl) : EX X σ H (.Subscript o e pos) v := fun H1 y Q q =>
  toE (pe_dget (by have := hr.units; omega) pE pE hs) (ho H1 y _ fun u H2 y2 p2 => hi H2 (y.trans y2) _ fun w H3 y3 p3 => ⟨l, v, p2 H2 (Ex.refl H2), .inl ⟨kvs, .inr z, by
    have ex := (y.trans y2).trans y3
    rcases hH with h | ⟨ob, h⟩
    · exact .inl (ex _ _ h)
    · exact .inr ⟨ob, ex _ _ h⟩, (p3 H3 (Ex.refl H3)).str_eq, hv.symm⟩, q.val (y2.trans y3)⟩)
theorem tw_din {l : Addr} {kvs : List (Key × V)} {z : Str} (hr : Room k X.A) (hi : EV X σ H e (.str z)) (ho : EX X σ H o (.ref l)) (hH : Rd H l (.dK kvs)) (hm : behindInMarks .In o = false := by rfl) : TW X σ H (.Compare e [.In] [o] pos) (valV kvs (.inr z)).isSome := fun H1 y Q q =>
  toT (pt_cmp (pc_din (by have := hr.units; omega) pE pE) hm) (hi H1 y _ fun w H2 y2 p2 => ho H2 (y.trans y2) _ fun u H3 y3 p3 => ⟨l, _, p3 H3 (Ex.refl H3), .inl ⟨kvs, .inr z, by
    have ex := (y.trans y2).trans y3
    rcases hH with h | ⟨ob, h⟩
    · exact .inl (ex _ _ h)
    · exact .inr ⟨ob, ex _ _ h⟩, (p2 H2 (Ex.refl H2)).str_eq, rfl⟩, ⟨_, rfl, q _ (y2.trans y3)⟩⟩)
theorem tw_dni {l : Addr} {kvs : List (Key × V)} {z : Str} (hr : Room k X.A) (hi : EV X σ H e (.str z)) (ho : EX X σ H o (.ref l)) (hH : Rd H l (.dK kvs)) (hm : behindInMarks .NotIn o = false := by rfl) : TW X σ H (.Compare e [.NotIn] [o] pos) (!(valV kvs (.inr z)).isSome) := fun H1 y Q q =>
  toT (pt_cmp (pc_dnotin (by have := hr.units; omega) pE pE) hm) (hi H1 y _ fun w H2 y2 p2 => ho H2 (y.trans y2) _ fun u H3 y3 p3 => ⟨l, _, p3 H3 (Ex.refl H3), .inl ⟨kvs, .inr z, by
    have ex := (y.trans y2).trans y3
    rcases hH with h | ⟨ob, h⟩
    · exact .inl (ex _ _ h)
    · exact .inr ⟨ob, ex _ _ h⟩, (p2 H2 (Ex.refl H2)).str_eq, rfl⟩, ⟨_, rfl, q _ (y2.trans y3)⟩⟩)
theorem ev_din {l : Addr} {kvs : List (Key × V)} {z : Str} (hr : Room k X.A) (hi : EV X σ H e (.str z)) (ho : EX X σ H o (.ref l)) (hH : Rd H l (.dK kvs)) (hm : behindInMarks .In o = false := by rfl) : EV X σ H (.Compare e [.In] [o] pos) (.bool (valV kvs (.inr z)).isSome) := fun H1 y Q q =>
  toE (pe_cmp (pc_din (by have := hr.units; omega) pE pE) hm) (hi H1 y _ fun w H2 y2 p2 => ho H2 (y.trans y2) _ fun u H3 y3 p3 => ⟨l, _, p3 H3 (Ex.refl H3), .inl ⟨kvs, .inr z, by
    have ex := (y.trans y2).trans y3
    rcases hH with h | ⟨ob, h⟩
    · exact .inl (ex _ _ h)
    · exact .inr ⟨ob, ex _ _ h⟩, (p2 H2 (Ex.refl H2)).str_eq, rfl⟩, q.dat (y2.trans y3) (.bl _)⟩)
/-- d.get(k, x) -/
theorem ex_dget2 {l : Addr} {kvs : List (Key × V)} {z : Str} {ov : Option V} (hr : Room k X.A) (ho : EX X σ H o (.ref l)) (hi : EV X σ H e (.str z)) (hf : EX X σ H f u) (hH : Rd H l (.dK kvs)) (hv : valV kvs (.inr z) = ov) (m : M2 X o "get" apos e f cpos := by exact ⟨rfl, rfl, rfl, rfl⟩) : EX X σ H (.Call (.Attribute o "get" apos) [e, f] [] cpos) (ov.getD u) := fun H1 y Q q => by
  have rd : ∀ H2, Ex H1 H2 → Rd H2 l (.dK kvs) := fun H2 y2 => by
    have ex := y.trans y2
    rcases hH with h | ⟨ob, h⟩
    · exact .inl (ex _ _ h)
    · exact .inr ⟨ob, ex _ _ h⟩
  exact toE (pe_dget2 (by have := hr.units; omega) pE pE pE m) (ho H1 y _ fun u1 H2 y2 p2 => ⟨l, p2 H2 (Ex.refl H2), .inl ⟨kvs, rd H2 y2⟩, hi H2 (y.trans y2) _ fun w H3 y3 p3 => hf H3 ((y.trans y2).trans y3) _ fun x1 H4 y4 p4 => ⟨ov, .inl ⟨kvs, .inr z, rd H4 ((y2.trans y3).trans y4), (p3 H4 y4).str_eq, hv.symm⟩, by
    have e : x1 = u := p4 H4 (Ex.refl H4)
    subst e
    exact q.val ((y2.trans y3).trans y4)⟩⟩)
/-- xs.extend(e) -/
theorem go_ext {y : Expr} {l : Addr} {xs : List V} {apos cpos : Pos} (ho : EX X σ H o (.ref l)) (hv : EV X σ H y (.list ds)) (hH : H l = some (.lst xs)) (hl : xs.length + ds.length ≤ 100000) (q : ∀ zs H1, Ex H H1 → IsA H1 zs ds → tSs X rest D σ (upd H1 l (.lst (xs ++ zs))))
    (hp : PE X (.Call (.Attribute o "extend" apos) [y] [] cpos) (tBM X.K "list" rExtend (tE X o) (tCons (tE X y) tNil))) (hs : swapsWith (.Call (.Attribute o "extend" apos) [y] [] cpos) none pos.line X.env = pure false := by rfl) : tSs X (.Expr (.Call (.Attribute o "extend" apos) [y] [] cpos) pos :: rest) D σ H :=
  go_expr (toE hp (ho H (Ex.refl H) _ fun u H1 z1 p => by
    have e : u = .ref l := p H1 (Ex.refl H1)
    subst e
    exact ⟨.inl ⟨rfl, xs, SqL.of (z1 _ _ hH)⟩, hv H1 z1 _ fun v H2 z2 p2 => by
      cases p2 H2 (Ex.refl H2) with
      | @lst b zs _ hb hs => exact ⟨l, b, xs, zs, rfl, rfl, (z1.trans z2) _ _ hH, hb, by rw [hs.length]; exact sz10 hl, q zs H2 (z1.trans z2) hs⟩⟩)) hs
theorem go_push {y : Expr} {l : Addr} {xs : List V} (ho : EX X σ H o (.ref l)) (hv : EW X σ H y P) (hH : H l = some (.lst xs)) (hl : xs.length < 100000) (q : ∀ v H1, Ex H H1 → P v H1 → tSs X rest D σ (upd H1 l (.lst (xs ++ [v]))))
    (hbase : attributeBase o "append" X.env (eval o X.env) = eval o X.env := by rfl)
    (hfew : ((backTo cpos (starEach [y] X.env)).all (fun x => !x.1) && (backToKw cpos (keywordEach [] X.env)).all (fun x => x.1.isSome) && decide (([y] : List Expr).length + ([] : List Keyword).length + (if ([] : List Keyword).isEmpty then 0 else 1) < 30)) = true := by rfl)
    (hline : (apos.endLine == cpos.line) = true := by rfl) (hst : starEach [y] X.env = (false, eval y X.env) :: starEach [] X.env := by rfl) (hplain : (backTo cpos (starEach [] X.env)).any (·.1) = false := by rfl)
    (hs : swapsWith (.Call (.Attribute o "append" apos) [y] [] cpos) none pos.line X.env = pure false := by rfl) : tSs X (.Expr (.Call (.Attribute o "append" apos) [y] [] cpos) pos :: rest) D σ H :=
  go_app ho hv hH hl q (pe_bm PySem.F.plainAttrs_list PySem.F.slot_list_append PySem.F.type_list_append mt_append pE (pa_cons pE pa_nil hst) hbase hfew hline hst hplain) hs
theorem go_extend {y : Expr} {l : Addr} {xs : List V} (ho : EX X σ H o (.ref l)) (hv : EV X σ H y (.list ds)) (hH : H l = some (.lst xs)) (hl : xs.length + ds.length ≤ 100000) (q : ∀ zs H1, Ex H H1 → IsA H1 zs ds → tSs X rest D σ (upd H1 l (.lst (xs ++ zs))))
    (hbase : attributeBase o "extend" X.env (eval o X.env) = eval o X.env := by rfl)
    (hfew : ((backTo cpos (starEach [y] X.env)).all (fun x => !x.1) && (backToKw cpos (keywordEach [] X.env)).all (fun x => x.1.isSome) && decide (([y] : List Expr).length + ([] : List Keyword).length + (if ([] : List Keyword).isEmpty then 0 else 1) < 30)) = true := by rfl)
    (hline : (apos.endLine == cpos.line) = true := by rfl) (hst : starEach [y] X.env = (false, eval y X.env) :: starEach [] X.env := by rfl) (hplain : (backTo cpos (starEach [] X.env)).any (·.1) = false := by rfl)
    (hs : swapsWith (.Call (.Attribute o "extend" apos) [y] [] cpos) none pos.line X.env = pure false := by rfl) : tSs X (.Expr (.Call (.Attribute o "extend" apos) [y] [] cpos) pos :: rest) D σ H :=
  go_ext ho hv hH hl q (pe_bm PySem.F.plainAttrs_list PySem.F.slot_list_extend PySem.F.type_list_extend mt_extend pE (pa_cons pE pa_nil hst) hbase hfew hline hst hplain) hs
end
end Pw
namespace Pw
open PySem PySem.Spec L2
open Evl (Ex)
section
variable {P : Program} {w : World} {K : PySem.W.Frag} {mg : Str → Option Value} {base : Heap}
theorem ok_L_word (g : Gd P w K mg base) : Fnc P w K mg base 1 "_law_word" (PD fun ds r => ∃ bs, ds = [.list (bitsD bs)] ∧ r = .int ((wd bs : Nat) : Int)) := by
  refine g.fncD 49 30 d_L_word "_law_word" sc_L_word bn_L_word ?_ ?_
  · rintro ds r ⟨bs, rfl, rfl⟩
    rfl
  · rintro cdv A outer s H vs Q E ds r hr h ⟨bs, rfl, rfl⟩ q
    obtain ⟨v1, rfl, h1⟩ := h.one'
    refine go_set 1 sc_L_word.nd ev_int fun w1 H1 z1 p1 => ?_
    rw [p1.int_eq]
    refine go_forL (ds := bitsD bs.reverse) (passes_of rfl) rfl (EV.is (ev_rev (ev_n 0 (h1.mono z1))) (congrArg PyData.list List.map_reverse.symm)) fun l xs H2 z2 hl2 hs2 => ⟨fun i σ' H' => ∃ y, σ' = [some v1, some (.int ((wd (bs.reverse.take i).reverse : Nat) : Int)), y] ∧ Ex H2 H', ⟨none, rfl, Ex.refl _⟩, fun i σ' H' p => ?_, fun i v d σ' H' e1 e2 r p => ?_, fun σ' H' p => ?_⟩
    · obtain ⟨y, rfl, z⟩ := p
      exact z _ _ hl2
    · obtain ⟨y, rfl, z⟩ := p
      obtain ⟨b, e3, rfl⟩ := gems e2
      rw [r.int_eq]
      refine gt_n 2 sc_L_word.nd (go_set 1 sc_L_word.nd (ev_add (ev_mul ev_int (ev_n 1 (.int _)) (by decide)) (ev_n 2 (.int _))) fun w5 H5 z5 p5 => go_nil ⟨some (.int (bi b)), ?_, z.trans z5⟩)
      rw [p5.int_eq, List.take_add_one, e3]
      show _ = [some v1, some (.int ((wd ((bs.reverse.take i) ++ [b]).reverse : Nat) : Int)), _]
      rw [List.reverse_append]
      show _ = [some v1, some (.int ((b.toNat + 2 * wd (bs.reverse.take i).reverse : Nat) : Int)), _]
      have : ((b.toNat + 2 * wd (bs.reverse.take i).reverse : Nat) : Int) = 2 * ((wd (bs.reverse.take i).reverse : Nat) : Int) + bi b := by
        rw [bi_nat]
        omega
      rw [this]
      rfl
    · obtain ⟨y, rfl, z⟩ := p
      have e : (bs.reverse.take (bitsD bs.reverse).length).reverse = bs := by
        rw [List.length_map, List.take_length, List.reverse_reverse]
      rw [e]
      exact go_out (ev_n 1 (.int _)) (z1.trans (z2.trans z)) q
/-- the bits of a word, the lowest first -/
def bitsOf (n w : Nat) : List Bool := (List.range n).map fun k => w.testBit k
theorem bit_mod (w k : Nat) : ((w / 2 ^ k : Nat) : Int) % 2 = bi (w.testBit k) := by
  rw [bi_nat, Nat.testBit_eq_decide_div_mod_eq]
  rcases Nat.mod_two_eq_zero_or_one (w / 2 ^ k) with h | h
  · rw [h]
    have : ((w / 2 ^ k : Nat) : Int) % 2 = ((w / 2 ^ k % 2 : Nat) : Int) := by omega
    rw [this, h]
    rfl
  · rw [h]
    have : ((w / 2 ^ k : Nat) : Int) % 2 = ((w / 2 ^ k % 2 : Nat) : Int) := by omega
    rw [this, h]
    rfl
theorem ok_L_bits (g : Gd P w K mg base) : Fnc P w K mg base 1 "_law_bits" (PD fun ds r => ∃ (wo n : Nat), ds = [.int (wo : Int), .int (n : Int)] ∧ n ≤ 1000 ∧ r = .list (bitsD (bitsOf n wo))) := by
  refine g.fncD 50 31 d_L_bits "_law_bits" sc_L_bits bn_L_bits ?_ ?_
  · rintro ds r ⟨wo, n, rfl, _, rfl⟩
    rfl
  · rintro cdv A outer s H vs Q E ds r hr h ⟨wo, n, rfl, hn, rfl⟩ q
    obtain ⟨v1, v2, rfl, h1, h2⟩ := h.two
    rw [h1.int_eq, h2.int_eq]
    refine go_set 2 sc_L_bits.nd (ef_lst av_nil) fun w1 H1 z1 ⟨l, xs, e1, hn1, hl1, hs1⟩ => ?_
    subst e1
    cases hs1
    refine go_forR (n := n) (passes_of rfl) rfl g.range (ev_n 1 (.int _)) (by omega) fun H2 z2 => ⟨fun i σ' H' => ∃ y, σ' = [some (.int ((wo / 2 ^ i : Nat) : Int)), some (.int n), some (.ref l), y] ∧ Ex H H' ∧ H' l = some (.lst ((bitsOf i wo).map fun b => V.int (bi b))), ⟨none, by rw [Nat.pow_zero, Nat.div_one]; rfl, z1.trans z2, z2 _ _ hl1⟩, fun i σ' H' hi p => ?_, fun σ' H' p => ?_⟩
    · obtain ⟨y, rfl, z, hl⟩ := p
      have hle : ((bitsOf i wo).map fun b => V.int (bi b)).length < 100000 := by
        unfold bitsOf
        rw [List.length_map, List.length_map, List.length_range]
        omega
      refine gt_n 3 sc_L_bits.nd (go_push (ex_v 2) (ev_mod (ev_intI g.int (ev_n 0 (.int _))) ev_int (by decide)) hl hle fun v H3 z3 p3 => ?_)
      have zz : Ex H (upd H3 l (.lst ((bitsOf i wo).map (fun b => V.int (bi b)) ++ [v]))) := Ex.put (z.trans z3) hn1
      refine go_set 0 sc_L_bits.nd (ev_fdiv (ev_n 0 (.int _)) ev_int (by decide)) fun w5 H5 z5 p5 => go_nil ⟨some (.int i), ?_, zz.trans z5, ?_⟩
      · rw [p5.int_eq]
        have : ((wo / 2 ^ (i + 1) : Nat) : Int) = ((wo / 2 ^ i : Nat) : Int) / 2 := by
          rw [Nat.pow_succ, ← Nat.div_div_eq_div_mul]
          omega
        rw [this]
        rfl
      · refine z5 _ _ ?_
        rw [upd_same, p3.int_eq, bit_mod]
        congr 2
        unfold bitsOf
        rw [List.range_succ]
        simp
    · obtain ⟨y, rfl, z, hl⟩ := p
      refine go_out (ev_n 2 (.lst hl ?_)) z q
      rw [show bitsD (bitsOf n wo) = ((bitsOf n wo).map bi).map PyData.int by simp, show ((bitsOf n wo).map fun b => V.int (bi b)) = ((bitsOf n wo).map bi).map V.int by simp]
      exact IsA.ints _
end
end Pw
namespace Pw
open PySem PySem.Spec L2
open Evl (Ex)
/-! ### circuits as data -/
structure G where
  nm : Str
  kd : Str
  ps : List Str
structure Pt where
  ins : List Str
  regs : List (Str × Str)
  gs : List G
  outs : List Str
abbrev gD (g : G) : PyData := .tuple [.str g.nm, .str g.kd, .tuple (strsD g.ps)]
abbrev rD (r : Str × Str) : PyData := .tuple [.str r.1, .str r.2]
abbrev ptD (p : Pt) : PyData := .tuple [.tuple (strsD p.ins), .tuple (p.regs.map rD), .tuple (p.gs.map gD), .tuple (strsD p.outs)]
def Pt.src (p : Pt) : List Str := p.ins ++ p.regs.map (·.1)
def Pt.lns (p : Pt) : List Str := p.src ++ p.gs.map (·.nm)
def Pt.snk (p : Pt) : List Str := p.outs ++ p.regs.map (·.2)
structure Sm (p : Pt) : Prop where
  ins : p.ins.length ≤ 5
  regs : p.regs.length ≤ 5
  gs : p.gs.length ≤ 10
  outs : p.outs.length ≤ 3
  ps : ∀ g ∈ p.gs, g.ps.length ≤ 4
theorem Sm.src {p : Pt} (h : Sm p) : p.src.length ≤ 10 := by
  have := h.ins; have := h.regs
  unfold Pt.src
  rw [List.length_append, List.length_map]
  omega
theorem Sm.lns {p : Pt} (h : Sm p) : p.lns.length ≤ 20 := by
  have := h.src; have := h.gs
  unfold Pt.lns
  rw [List.length_append, List.length_map]
  omega
theorem Sm.snk {p : Pt} (h : Sm p) : p.snk.length ≤ 8 := by
  have := h.outs; have := h.regs
  unfold Pt.snk
  rw [List.length_append, List.length_map]
  omega
section
variable {P : Program} {w : World} {K : PySem.W.Frag} {mg : Str → Option Value} {base : Heap}
theorem ok_L_sources (g : Gd P w K mg base) : Fnc P w K mg base 1 "_law_sources" (PD fun ds r => ∃ p, ds = [ptD p] ∧ Sm p ∧ r = .list (strsD p.src)) := by
  refine g.fncD 44 25 d_L_sources "_law_sources" sc_L_sources bn_L_sources ?_ ?_
  · rintro ds r ⟨p, rfl, _, rfl⟩
    rfl
  · rintro cdv A outer s H vs Q E ds r hr h ⟨p, rfl, sm, rfl⟩ q
    obtain ⟨v1, rfl, h1⟩ := h.one'
    have := sm.ins; have := sm.regs
    refine go_out (EV.is (ev_cat (ev_listT g.list (ev_ixT (ev_n 0 h1) ev_int (atI_n (j := 0) rfl 0 rfl))) (ev_lcTm (xs := p.regs) (enc := rD) "_law_row" 1 (fun r => .str r.1) sc_L_sources.nd (ev_ixT (ev_n 0 h1) ev_int (atI_n (j := 1) rfl 1 rfl)) (by omega) fun v r H1 hm z ri s1 H0 C cl fp => ev_ixT (ev_n 1 ri) ev_int (atI_n (j := 0) rfl 0 rfl)) (by rw [List.length_map, List.length_map]; omega)) ?_) (Ex.refl H) q
    unfold Pt.src strsD
    rw [List.map_append, List.map_map]
    rfl
theorem ok_L_sinks (g : Gd P w K mg base) : Fnc P w K mg base 1 "_law_sinks" (PD fun ds r => ∃ p, ds = [ptD p] ∧ Sm p ∧ r = .list (strsD p.snk)) := by
  refine g.fncD 46 27 d_L_sinks "_law_sinks" sc_L_sinks bn_L_sinks ?_ ?_
  · rintro ds r ⟨p, rfl, _, rfl⟩
    rfl
  · rintro cdv A outer s H vs Q E ds r hr h ⟨p, rfl, sm, rfl⟩ q
    obtain ⟨v1, rfl, h1⟩ := h.one'
    have := sm.outs; have := sm.regs
    refine go_out (EV.is (ev_cat (ev_listT g.list (ev_ixT (ev_n 0 h1) ev_int (atI_n (j := 3) rfl 3 rfl))) (ev_lcTm (xs := p.regs) (enc := rD) "_law_row" 1 (fun r => .str r.2) sc_L_sinks.nd (ev_ixT (ev_n 0 h1) ev_int (atI_n (j := 1) rfl 1 rfl)) (by omega) fun v r H1 hm z ri s1 H0 C cl fp => ev_ixT (ev_n 1 ri) ev_int (atI_n (j := 1) rfl 1 rfl)) (by rw [List.length_map, List.length_map]; omega)) ?_) (Ex.refl H) q
    unfold Pt.snk strsD
    rw [List.map_append, List.map_map]
    rfl
theorem ok_L_lines (g : Gd P w K mg base) : Fnc P w K mg base 2 "_law_lines" (PD fun ds r => ∃ p, ds = [ptD p] ∧ Sm p ∧ r = .list (strsD p.lns)) := by
  refine g.fncD 45 26 d_L_lines "_law_lines" sc_L_lines bn_L_lines ?_ ?_
  · rintro ds r ⟨p, rfl, _, rfl⟩
    rfl
  · rintro cdv A outer s H vs Q E ds r hr h ⟨p, rfl, sm, rfl⟩ q
    obtain ⟨v1, rfl, h1⟩ := h.one'
    have := sm.src; have := sm.gs
    refine go_out (EV.is (ev_cat (ev_callD (ok_L_sources g) hr (Nat.le_refl _) (av_cons (ev_n 0 h1) av_nil) ⟨p, rfl, sm, rfl⟩) (ev_lcTm (xs := p.gs) (enc := gD) "_law_gate_here" 1 (fun r => .str r.nm) sc_L_lines.nd (ev_ixT (ev_n 0 h1) ev_int (atI_n (j := 2) rfl 2 rfl)) (by omega) fun v r H1 hm z ri s1 H0 C cl fp => ev_ixT (ev_n 1 ri) ev_int (atI_n (j := 0) rfl 0 rfl)) (by rw [List.length_map, List.length_map]; omega)) ?_) (Ex.refl H) q
    unfold Pt.lns strsD
    rw [List.map_append, List.map_map]
    rfl
end
end Pw
namespace Pw
open PySem PySem.Spec L2
open Evl (Ex)
section
variable {X : Cx} {e a b c o iter elt f cnd : Expr} {es : List Expr} {σ : L2.St} {H H' H0 : Hp} {pos pos' px p : Pos} {i j k : Nat} {x : Str} {scope : Scope}
/-- [e for x in tuple if c] -/
theorem ev_lcTf {α : Type} {xs : List α} {enc : α → PyData} (x : Str) (j : Nat) (f : α → PyData) (t : α → Bool) (hN : X.N.Nodup) (hi : EV X σ H iter (.tuple (xs.map enc))) (hz : xs.length ≤ 40000)
    (ht : ∀ (v : V) (y : α) (H1 : Hp), y ∈ xs → Ex H H1 → Is H1 v (enc y) → TB X scope (σ.set j (some v)) H1 cnd (t y))
    (he : ∀ (v : V) (y : α) (H1 : Hp), y ∈ xs → Ex H H1 → Is H1 v (enc y) → EB X scope (σ.set j (some v)) H1 elt (dat (f y))) (hc : X.calm = true := by rfl) (ok : blkC X.N X.env.scope scope [(x, j)] = true := by kernel_rfl) (hj : X.N[j]? = some x := by rfl)
    (hs : ∀ x, foldedSetIterable iter X.env x = pure x := by intro _; rfl)
    (hx : ∀ (cl : List (Str × Addr)) (C : Addr), Loc (compEnvC scope cl C X.env).scope x := by first | exact fun _ _ => Or.inl rfl | exact fun _ _ => Or.inr rfl)
    (hf : (scope.names.lookup x == some .cell) = true ∨ (∀ (cl : List (Str × Addr)) (C : Addr), (compEnvC scope cl C X.env).scope.names.lookup x = some .local) := by first | exact Or.inl rfl | exact Or.inr (fun _ _ => rfl)) : EV X σ H (.ListComp elt [⟨.Name x px, iter, [cnd], 0⟩] scope pos) (.list ((xs.filter t).map f)) := fun H1 z Q q =>
  tE_lc x j hc hN (pi_tup pE) (lc_readT (hi.up z) (by rw [List.length_map]; exact hz) fun l ys H2 z2 hl2 hs2 => ⟨fun i acc H' => Ex H2 H' ∧ IsA H' acc (((xs.take i).filter t).map f), ⟨Ex.refl H2, .nil⟩, fun i acc H' w => w.1 _ _ hl2, fun i acc v d H' e1 e2 r _ w => by
    obtain ⟨y, h1, rfl⟩ := gems e2
    refine (ht v y H2 (memAt h1) (z.trans z2) r).run w.1 fun H3 z3 => ?_
    have e3 : (xs.take (i + 1)).filter t = (xs.take i).filter t ++ (if t y = true then [y] else []) := by
      rw [List.take_add_one, h1, List.filter_append]
      show _ ++ List.filter t [y] = _
      cases ty : t y <;> simp [ty]
    cases ty : t y with
    | true =>
      rw [if_pos rfl]
      rw [ty, if_pos rfl] at e3
      exact (he v y H2 (memAt h1) (z.trans z2) r).run (w.1.trans z3) fun v H4 z4 p => ⟨(w.1.trans z3).trans z4, by
        rw [e3, List.map_append]
        exact (w.2.mono (z3.trans z4)).append (.cons (p H4 (Ex.refl H4)) .nil)⟩
    | false =>
      rw [if_neg Bool.false_ne_true]
      rw [ty, if_neg Bool.false_ne_true, List.append_nil] at e3
      exact ⟨w.1.trans z3, by rw [e3]; exact w.2.mono z3⟩, fun acc D H' w hD => q.dat ((z2.trans w.1).trans (Ex.new hD)) (.lst upd_same (by
    have w2 := w.2
    rw [List.length_map, List.take_length] at w2
    exact w2.mono (Ex.new hD)))⟩) ok hj True.intro hs hx hf
end
theorem TD.str' (ss : List Str) : ∀ x ∈ strsD ss, TD x := fun x hx => by
  obtain ⟨z, _, rfl⟩ := List.mem_map.mp hx
  exact .str z
/-- a tuple list's items stay when a list is put -/
theorem IsA.tput {H : Hp} {l : Addr} {xs vs : List V} {ds : List PyData} {o : HO} (h : IsA H vs ds) (t : ∀ x ∈ ds, TD x) (hl : H l = some (.lst xs)) : IsA (upd H l o) vs ds := h.tmono ((ExT.refl H).put hl fun _ z => nomatch z) t
theorem IsA.cast {H : Hp} {vs : List V} {ds es : List PyData} (h : IsA H vs ds) (e : ds = es) : IsA H vs es := e ▸ h
/-! ### versions -/
inductive Vn where
  | stem (l : Str) (b : Bool)
  | pin (g : Str) (i : Nat) (b : Bool)
  | short (a b : Str) (k : Bool)
def opS (k : Bool) : Str := if k then "and" else "or"
def vD : Vn → PyData
  | .stem l b => .tuple [.str "stem", .str l, .int (bi b)]
  | .pin g i b => .tuple [.str "pin", .str g, .int (i : Int), .int (bi b)]
  | .short a b k => .tuple [.str "short", .str a, .str b, .str (opS k)]
theorem TD.vn (v : Vn) : TD (vD v) := by
  cases v with
  | stem l b =>
    refine .tup fun d hd => ?_
    simp only [List.mem_cons, List.mem_nil_iff, or_false] at hd
    rcases hd with rfl | rfl | rfl
    · exact .str _
    · exact .str _
    · exact .int _
  | pin g i b =>
    refine .tup fun d hd => ?_
    simp only [List.mem_cons, List.mem_nil_iff, or_false] at hd
    rcases hd with rfl | rfl | rfl | rfl
    · exact .str _
    · exact .str _
    · exact .int _
    · exact .int _
  | short a b k =>
    refine .tup fun d hd => ?_
    simp only [List.mem_cons, List.mem_nil_iff, or_false] at hd
    rcases hd with rfl | rfl | rfl | rfl <;> exact .str _
theorem TD.vns (vs : List Vn) : ∀ x ∈ vs.map vD, TD x := fun x hx => by
  obtain ⟨z, _, rfl⟩ := List.mem_map.mp hx
  exact .vn z
def brS (l : Str) : List Vn := [.stem l false, .stem l true]
def brP (g : G) (k : Nat) : List Vn := [.pin g.nm k false, .pin g.nm k true]
def Pt.brk (p : Pt) : List Vn := p.lns.flatMap brS ++ p.gs.flatMap fun g => (List.range g.ps.length).flatMap (brP g)
theorem flatMap_snoc {α β : Type} (f : α → List β) (xs : List α) (i : Nat) {x : α} (h : xs[i]? = some x) : (xs.take (i + 1)).flatMap f = (xs.take i).flatMap f ++ f x := by
  rw [List.take_add_one, h, List.flatMap_append]
  simp
theorem len_flatMap {α β : Type} {f : α → List β} {m : Nat} : ∀ {xs : List α}, (∀ x ∈ xs, (f x).length ≤ m) → (xs.flatMap f).length ≤ m * xs.length
  | [], _ => by simp
  | x :: r, h => by
    rw [List.flatMap_cons, List.length_append, List.length_cons]
    have h1 := h x List.mem_cons_self
    have h2 := len_flatMap (xs := r) fun y hy => h y (List.mem_cons_of_mem _ hy)
    rw [Nat.mul_succ]
    omega
section
variable {P : Program} {w : World} {K : PySem.W.Frag} {mg : Str → Option Value} {base : Heap}
theorem brP_len {p : Pt} (sm : Sm p) : ∀ g ∈ p.gs, ((List.range g.ps.length).flatMap (brP g)).length ≤ 8 := fun g hg => by
  have h1 := len_flatMap (f := brP g) (m := 2) (xs := List.range g.ps.length) fun _ _ => Nat.le_refl _
  rw [List.length_range] at h1
  have := sm.ps g hg
  omega
theorem ok_L_breaks (g : Gd P w K mg base) : Fnc P w K mg base 3 "_law_breaks" (PD fun ds r => ∃ p, ds = [ptD p] ∧ Sm p ∧ r = .list (p.brk.map vD)) := by
  refine g.fncD 53 34 d_L_breaks "_law_breaks" sc_L_breaks bn_L_breaks ?_ ?_
  · rintro ds r ⟨p, rfl, _, rfl⟩
    rfl
  · rintro cdv A outer s H vs Q E ds r hr h ⟨p, rfl, sm, rfl⟩ q
    obtain ⟨v1, rfl, h1⟩ := h.one'
    have l1 := sm.lns; have l2 := sm.gs
    refine go_set 1 sc_L_breaks.nd (ef_lst av_nil) fun w1 H1 z1 ⟨l, xs, e1, hn1, hl1, hs1⟩ => ?_
    subst e1
    cases hs1
    refine go_forL (passes_of rfl) rfl (ev_callD (ok_L_lines g) hr (Nat.le_refl _) (av_cons (ev_n 0 (h1.mono z1)) av_nil) ⟨p, rfl, sm, rfl⟩) fun l2 xs2 H2 z2 hl2 hs2 => ⟨fun i σ' H' => ∃ y, σ' = [some v1, some (.ref l), y, none, none, none, none] ∧ Ex H H' ∧ H' l2 = some (.lst xs2) ∧ ∃ ys, H' l = some (.lst ys) ∧ IsA H' ys (((p.lns.take i).flatMap brS).map vD), ⟨none, rfl, z1.trans z2, hl2, [], z2 _ _ hl1, .nil⟩, fun i σ' H' pv => ?_, fun i v d σ' H' e1 e2 ri pv => ?_, fun σ' H' pv => ?_⟩
    · obtain ⟨_, _, _, h, _⟩ := pv
      exact h
    · obtain ⟨y, rfl, z, hl2', ys, hl, hys⟩ := pv
      obtain ⟨x, e3, rfl⟩ := gems e2
      have hne : l2 ≠ l := fun e => by
        subst e
        rw [z2 _ _ hl1] at hl2
        cases hl2
        cases e1
      have len := len_flatMap (f := brS) (m := 2) (xs := p.lns.take i) fun _ _ => Nat.le_refl _
      rw [List.length_take] at len
      rw [ri.str_eq]
      have hv : vD <$> brS x = [.tuple [.str "stem", .str x, .int 0], .tuple [.str "stem", .str x, .int 1]] := rfl
      refine gt_n 2 sc_L_breaks.nd (go_extend (ds := (brS x).map vD) (ex_v 1) (ev_lst (av_cons (ev_tup (av_cons ev_str (av_cons (ev_n 2 (.str x)) (av_cons ev_int av_nil)))) (av_cons (ev_tup (av_cons ev_str (av_cons (ev_n 2 (.str x)) (av_cons ev_int av_nil)))) av_nil)) (by rw [List.length_map]; exact Nat.le_trans (Nat.le_refl 2) (by decide))) hl (by rw [hys.length, List.length_map, List.length_map]; show _ + 2 ≤ _; omega) fun zs H3 z3 hzs => go_nil ?_)
      have hl3 := z3 _ _ hl
      refine ⟨some (.str x), rfl, Ex.put (z.trans z3) hn1, by rw [upd_ne hne]; exact z3 _ _ hl2', _, upd_same, ?_⟩
      rw [flatMap_snoc brS p.lns i e3, List.map_append]
      exact ((hys.mono z3).tput (TD.vns _) hl3).append (hzs.tput (TD.vns _) hl3)
    · obtain ⟨y, rfl, z, _, ys, hl, hys⟩ := pv
      rw [List.length_map, List.take_length] at hys
      have len := len_flatMap (f := brS) (m := 2) (xs := p.lns) fun _ _ => Nat.le_refl _
      refine go_forT (ds := p.gs.map gD) (passes_of rfl) rfl (ev_ixT (ev_n 0 (h1.mono z)) ev_int (atI_n (j := 2) rfl 2 rfl)) fun l3 xs3 H3 z3 hl3 hs3 => ⟨fun i σ' H' => ∃ y1 y2 y3 y4, σ' = [some v1, some (.ref l), y, y1, y2, y3, y4] ∧ Ex H H' ∧ H' l3 = some (.tup xs3) ∧ ExT H3 H' ∧ ∃ ys, H' l = some (.lst ys) ∧ IsA H' ys ((p.lns.flatMap brS ++ (p.gs.take i).flatMap fun g => (List.range g.ps.length).flatMap (brP g)).map vD), ⟨none, none, none, none, rfl, z.trans z3, hl3, ExT.refl _, ys, z3 _ _ hl, by simpa using hys.mono z3⟩, fun i σ' H' pv => ?_, fun i v d σ' H' e1 e2 ri pv => ?_, fun σ' H' pv => ?_⟩
      · obtain ⟨_, _, _, _, _, _, h, _⟩ := pv
        exact h
      · obtain ⟨y1, y2, y3, y4, rfl, z, hl3', xt, ys, hl, hys⟩ := pv
        obtain ⟨x, e3, rfl⟩ := gems e2
        have tdg : TD (gD x) := .tup fun d hd => by
          simp only [List.mem_cons, List.mem_nil_iff, or_false] at hd
          rcases hd with rfl | rfl | rfl
          · exact .str _
          · exact .str _
          · exact .tup (TD.str' _)
        have len2 := len_flatMap (f := fun g => (List.range g.ps.length).flatMap (brP g)) (m := 8) (xs := p.gs.take i) fun g hg => brP_len sm g (List.mem_of_mem_take hg)
        rw [List.length_take] at len2
        refine gt_tup3 rfl (ri.tmono xt tdg) fun u1 u2 u3 i1 i2 i3 => gt_n 3 sc_L_breaks.nd (gt_n 4 sc_L_breaks.nd (gt_n 5 sc_L_breaks.nd ?_))
        refine go_forR (n := x.ps.length) (passes_of rfl) rfl g.range (EV.is (ev_lenT g.len (ev_n 5 i3)) (by rw [List.length_map])) (by have := sm.ps x (memAt e3); omega) fun H4 z4 => ⟨fun j σ' H' => ∃ y4, σ' = [some v1, some (.ref l), y, some u1, some u2, some u3, y4] ∧ Ex H H' ∧ H' l3 = some (.tup xs3) ∧ ExT H3 H' ∧ ∃ ys, H' l = some (.lst ys) ∧ IsA H' ys ((p.lns.flatMap brS ++ ((p.gs.take i).flatMap (fun g => (List.range g.ps.length).flatMap (brP g)) ++ (List.range j).flatMap (brP x))).map vD), ⟨y4, rfl, z.trans z4, z4 _ _ hl3', xt.trans (.of z4), ys, z4 _ _ hl, by simpa using hys.mono z4⟩, fun j σ' H' hj pv => ?_, fun σ' H' pv => ?_⟩
        · obtain ⟨y5, rfl, z, hl3', xt, ys, hl, hys⟩ := pv
          have len3 := len_flatMap (f := brP x) (m := 2) (xs := List.range j) fun _ _ => Nat.le_refl _
          rw [List.length_range] at len3
          have len4 := sm.ps x (memAt e3)
          rw [i1.str_eq]
          refine gt_n 6 sc_L_breaks.nd (go_extend (ds := (brP x j).map vD) (ex_v 1) (ev_lst (av_cons (ev_tup (av_cons ev_str (av_cons (ev_n 3 (.str _)) (av_cons (ev_n 6 (.int _)) (av_cons ev_int av_nil))))) (av_cons (ev_tup (av_cons ev_str (av_cons (ev_n 3 (.str _)) (av_cons (ev_n 6 (.int _)) (av_cons ev_int av_nil))))) av_nil)) (by rw [List.length_map]; exact Nat.le_trans (Nat.le_refl 2) (by decide))) hl (by rw [hys.length, List.length_map, List.length_append, List.length_append, List.length_map]; show _ + 2 ≤ _; omega) fun zs H5 z5 hzs => go_nil ?_)
          have hl5 := z5 _ _ hl
          refine ⟨some (.int j), rfl, Ex.put (z.trans z5) hn1, ?_, (xt.trans (.of z5)).put hl5 (fun _ q => nomatch q), _, upd_same, ?_⟩
          · rw [upd_ne (ne_of (z5 _ _ hl3') hl5 (fun q => nomatch q))]
            exact z5 _ _ hl3'
          · rw [List.range_succ, List.flatMap_append, ← List.append_assoc, ← List.append_assoc, List.map_append]
            refine (((hys.mono z5).tput (TD.vns _) hl5).append (hzs.tput (TD.vns _) hl5)).cast ?_
            simp
        · obtain ⟨y5, rfl, z, hl3', xt, ys, hl, hys⟩ := pv
          refine go_nil ⟨_, _, _, _, rfl, z, hl3', xt, ys, hl, hys.cast ?_⟩
          rw [flatMap_snoc _ p.gs i e3]
      · obtain ⟨y1, y2, y3, y4, rfl, z, _, _, ys, hl, hys⟩ := pv
        rw [List.length_map, List.take_length] at hys
        exact go_out (ev_n 1 (.lst hl hys)) z q
end
end Pw
namespace Pw
open PySem PySem.Spec L2
open Evl (Ex)
section
variable {X : Cx} {e a b c o iter elt f cnd : Expr} {es : List Expr} {σ : L2.St} {H H' H0 : Hp} {pos pos' px p : Pos} {i j k : Nat}
theorem tw_inl {z : Str} {ss : List Str} (ha : EV X σ H a (.str z)) (hb : EV X σ H b (.list (strsD ss))) (hm : behindInMarks .In b = false := by rfl) : TW X σ H (.Compare a [.In] [b] pos) (decide (z ∈ ss)) := tw_cmp op_in_seq hm ha hb rb_inL
theorem tw_nil {z : Str} {ss : List Str} (ha : EV X σ H a (.str z)) (hb : EV X σ H b (.list (strsD ss))) (hm : behindInMarks .NotIn b = false := by rfl) : TW X σ H (.Compare a [.NotIn] [b] pos) (!decide (z ∈ ss)) := tw_cmp op_notIn_seq hm ha hb rb_niL
end
/-! ### above, by the law -/
def laG (f : List Str) (g : G) : List Str := if g.nm ∈ f then f ++ g.ps.filter (fun x => !decide (x ∈ f)) else f
def laN (gs : List G) (l : Str) : Nat → List Str
  | 0 => [l]
  | n + 1 => gs.foldl laG (laN gs l n)
def Pt.la (p : Pt) (l : Str) : List Str := laN p.gs l p.gs.length
theorem laG_len {f : List Str} {g : G} (h : g.ps.length ≤ 4) : (laG f g).length ≤ f.length + 4 := by
  unfold laG
  split
  · rw [List.length_append]
    have := List.length_filter_le (fun x => !decide (x ∈ f)) g.ps
    omega
  · omega
theorem laF_len : ∀ {gs : List G} {f : List Str}, (∀ g ∈ gs, g.ps.length ≤ 4) → (gs.foldl laG f).length ≤ f.length + 4 * gs.length
  | [], f, _ => by simp
  | g :: r, f, h => by
    have h1 := laG_len (f := f) (h g List.mem_cons_self)
    have h2 := laF_len (gs := r) (f := laG f g) fun x hx => h x (List.mem_cons_of_mem _ hx)
    rw [List.foldl_cons, List.length_cons]
    omega
theorem laN_len {gs : List G} {l : Str} (h : ∀ g ∈ gs, g.ps.length ≤ 4) : ∀ n, (laN gs l n).length ≤ 1 + 4 * gs.length * n
  | 0 => by simp [laN]
  | n + 1 => by
    have h1 := laN_len (l := l) h n
    have h2 := laF_len (gs := gs) (f := laN gs l n) h
    show (gs.foldl laG (laN gs l n)).length ≤ _
    rw [Nat.mul_succ]
    omega
section
variable {P : Program} {w : World} {K : PySem.W.Frag} {mg : Str → Option Value} {base : Heap}
theorem ok_L_above (g : Gd P w K mg base) : Fnc P w K mg base 1 "_law_above" (PD fun ds r => ∃ p l, ds = [ptD p, .str l] ∧ Sm p ∧ r = .list (strsD (p.la l))) := by
  refine g.fncD 54 35 d_L_above "_law_above" sc_L_above bn_L_above ?_ ?_
  · rintro ds r ⟨p, l, rfl, _, rfl⟩
    rfl
  · rintro cdv A outer s H vs Q E ds r hr h ⟨p, l, rfl, sm, rfl⟩ q
    obtain ⟨v1, v2, rfl, h1, h2⟩ := h.two
    rw [h2.str_eq]
    have l2 := sm.gs
    refine go_set (P := Fr H [.str l]) 2 sc_L_above.nd (ef_lst (av_cons (ev_n 1 (.str _)) av_nil)) fun w1 H1 z1 ⟨a, xs, e1, hn1, hl1, hs1⟩ => ?_
    subst e1
    have e2 := IsA.strs_eq (ns := [l]) hs1
    subst e2
    refine go_forR (n := p.gs.length) (passes_of rfl) rfl g.range (EV.is (ev_lenT g.len (ev_ixT (ds := [_, _, _, _]) (d := .tuple (p.gs.map gD)) (ev_n 0 (h1.mono z1)) ev_int (atI_n (j := 2) rfl 2 rfl))) (by rw [List.length_map])) (by omega) fun H2 z2 => ⟨fun t σ' H' => ∃ y1 y2 y3 y4, σ' = [some v1, some (.str l), some (.ref a), y1, y2, y3, y4, none] ∧ Ex H H' ∧ H' a = some (.lst ((laN p.gs l t).map V.str)), ⟨none, none, none, none, rfl, z1.trans z2, z2 _ _ hl1⟩, fun t σ' H' ht pv => ?_, fun σ' H' pv => ?_⟩
    · obtain ⟨y1, y2, y3, y4, rfl, z, hl⟩ := pv
      have lt := laN_len (l := l) sm.ps t
      have lt2 : 4 * p.gs.length * t ≤ 40 * 10 := Nat.mul_le_mul (by omega) (by omega)
      refine gt_n 3 sc_L_above.nd ?_
      refine go_forT (ds := p.gs.map gD) (passes_of rfl) rfl (ev_ixT (ev_n 0 (h1.mono z)) ev_int (atI_n (j := 2) rfl 2 rfl)) fun l3 xs3 H3 z3 hl3 hs3 => ⟨fun i σ' H' => ∃ y2 y3 y4, σ' = [some v1, some (.str l), some (.ref a), some (.int t), y2, y3, y4, none] ∧ Ex H H' ∧ H' l3 = some (.tup xs3) ∧ ExT H3 H' ∧ H' a = some (.lst (((p.gs.take i).foldl laG (laN p.gs l t)).map V.str)), ⟨y2, y3, y4, rfl, z.trans z3, hl3, ExT.refl _, z3 _ _ hl⟩, fun i σ' H' pv => ?_, fun i v d σ' H' e1 e2 ri pv => ?_, fun σ' H' pv => ?_⟩
      · obtain ⟨_, _, _, _, _, h, _⟩ := pv
        exact h
      · obtain ⟨y2, y3, y4, rfl, z, hl3', xt, hl⟩ := pv
        obtain ⟨x, e3, rfl⟩ := gems e2
        have hx := sm.ps x (memAt e3)
        have e4 : (p.gs.take (i + 1)).foldl laG (laN p.gs l t) = laG ((p.gs.take i).foldl laG (laN p.gs l t)) x := by rw [List.take_add_one, e3]; simp
        have lf := laF_len (gs := p.gs.take i) (f := laN p.gs l t) fun g hg => sm.ps g (List.mem_of_mem_take hg)
        rw [List.length_take] at lf
        generalize hF : (p.gs.take i).foldl laG (laN p.gs l t) = F at *
        have tdg : TD (gD x) := .tup fun d hd => by
          simp only [List.mem_cons, List.mem_nil_iff, or_false] at hd
          rcases hd with rfl | rfl | rfl
          · exact .str _
          · exact .str _
          · exact .tup (TD.str' _)
        refine gt_tup3 rfl (ri.tmono xt tdg) fun u1 u2 u3 i1 i2 i3 => gt_n 4 sc_L_above.nd (gt_n 5 sc_L_above.nd (gt_n 6 sc_L_above.nd ?_))
        refine go_when (tw_inl (ss := F) (ev_n 4 i1) (ev_n 2 (.lst hl (IsA.strs _)))) (fun t1 H5 z5 => ?_) fun t1 H5 z5 => ?_
        · have hl5 := z5 _ _ hl
          refine go_extend (ds := strsD (x.ps.filter fun y => !decide (y ∈ F))) (ex_v 2) (ev_lcTf (xs := x.ps) (enc := PyData.str) "_law_one" 7 PyData.str (fun y => !decide (y ∈ F)) sc_L_above.nd (ev_n 6 (i3.mono z5)) (by omega) (fun v y H6 _ z6 r6 s1 H0 C cl fp => tw_nil (ev_n 7 r6) (ev_n 2 (.lst (z6 _ _ hl5) (IsA.strs _)))) fun v y H6 _ z6 r6 s1 H0 C cl fp => ev_n 7 r6) hl5 (by rw [List.length_map, List.length_map]; have := List.length_filter_le (fun y => !decide (y ∈ F)) x.ps; omega) fun zs H6 z6 hzs => go_nil (go_nil ?_)
          have hl6 := z6 _ _ hl5
          refine ⟨some u1, some u2, some u3, rfl, Ex.put (z.trans (z5.trans z6)) hn1, ?_, (xt.trans (.of (z5.trans z6))).put hl6 (fun _ q => nomatch q), ?_⟩
          · rw [upd_ne (ne_of (z6 _ _ (z5 _ _ hl3')) hl6 (fun q => nomatch q))]
            exact z6 _ _ (z5 _ _ hl3')
          · rw [upd_same, e4, hzs.strs_eq]
            unfold laG
            rw [if_pos (of_decide_eq_true t1), List.map_append]
        · refine go_nil ⟨some u1, some u2, some u3, rfl, z.trans z5, z5 _ _ hl3', xt.trans (.of z5), ?_⟩
          rw [e4]
          unfold laG
          rw [if_neg (of_decide_eq_false t1)]
          exact z5 _ _ hl
      · obtain ⟨y2, y3, y4, rfl, z, _, _, hl⟩ := pv
        rw [List.length_map, List.take_length] at hl
        exact go_nil ⟨some (.int t), y2, y3, y4, rfl, z, hl⟩
    · obtain ⟨y1, y2, y3, y4, rfl, z, hl⟩ := pv
      exact go_out (ev_n 2 (.lst hl (IsA.strs _))) z q
end
end Pw
namespace Pw
open PySem PySem.Spec L2
open Evl (Ex)
section
variable {X : Cx} {a b iter tg : Expr} {σ : L2.St} {H : Hp} {pos p2 : Pos} {ds : List PyData} {rest body : List Stmt} {D : Ends}
theorem ef_slLf {i : Int} (j : Nat) (ha : EV X σ H a (.list ds)) (hb : EV X σ H b (.int i)) (hj : HT.sIx ds.length 0 (some i) = min j ds.length) : EW X σ H (.Subscript a (.Slice (some b) none none p2) pos) (Fr H (ds.drop j)) := fun H1 z Q q =>
  toE (pe_slice sl_list pE (po_some pE) po_none) (ha H1 z _ fun v H2 z2 p => eo_s (hb.up (z.trans z2)) H2 (Ex.refl H2) _ fun H3 z3 => eo_n H3 (Ex.refl H3) _ fun H4 z4 => by
    cases p H4 (z3.trans z4) with
    | @lst a1 xs _ h hs =>
      refine ⟨a1, xs, rfl, SqL.of h, fun t ht => q.fr ((z2.trans z3).trans z4) z ht ?_⟩
      unfold cutV
      rw [hs.length, hj]
      show IsA H4 ((xs.drop (min j ds.length)).take (ds.length - min j ds.length)) _
      rw [List.take_of_length_le (by rw [List.length_drop, hs.length]; omega)]
      rcases Nat.le_total j ds.length with h | h
      · rw [Nat.min_eq_left h]
        exact hs.drop _
      · rw [Nat.min_eq_right h, List.drop_of_length_le (by rw [hs.length]; exact Nat.le_refl _), List.drop_of_length_le h]
        exact .nil)
/-- for over a list that was not there -/
theorem go_forLF (hp : PassesOwn (model X.prog X.w) X.A X.env X.xe) (hc : X.calm = true) (hi : EW X σ H iter (Fr H ds))
    (q : ∀ (l : Addr) (xs : List V) (H1 : Hp), H l = none → Ex H H1 → H1 l = some (.lst xs) → IsA H1 xs ds → ∃ Pv : Nat → L2.St → Hp → Prop, Pv 0 σ H1 ∧ (∀ i σ' H', Pv i σ' H' → H' l = some (.lst xs)) ∧
      (∀ i v d σ' H', xs[i]? = some v → ds[i]? = some d → Is H1 v d → Pv i σ' H' → tG X tg v σ' H' fun σ2 H2 => tSs X body (LoopE X rest D (Pv (i + 1))) σ2 H2) ∧ (∀ σ' H', Pv ds.length σ' H' → tSs X rest D σ' H'))
    (hs : ∀ x, foldedSetIterable iter X.env x = pure x := by intro _; rfl) : tSs X (.For tg iter body [] pos :: rest) D σ H :=
  go_cons (toS (ps_for hp hc (pi_list pE) pG pSs hs) (hi.run fun v H1 z r => by
    obtain ⟨l, xs, rfl, hn, h, hs⟩ := r
    obtain ⟨Pv, h0, hl, hst, hd⟩ := q l xs H1 hn z h hs
    refine ⟨l, rfl, ⟨xs, SqL.of h⟩, for_list (K := X.K) (a := l) (xs := xs) Pv h0 (fun i σ' H' _ p => SqL.of (hl i σ' H' p)) (fun i v σ' H' e p => ?_) (fun σ' H' p => hd σ' H' (by rw [← hs.length]; exact p))⟩
    obtain ⟨d, e2, r⟩ := hs.at_ e
    exact hst i v d σ' H' e e2 r p))
end
/-! ### texts in order -/
def slt (a b : Str) : Prop := a.cps.toList < b.cps.toList
theorem rise_all : ∀ {ss : List Str} {x : Str}, PyProof.Rows.risingS x ss = true → ∀ y ∈ ss, x.cps.toList ≤ y.cps.toList
  | [], _, _, y, hy => by cases hy
  | z :: r, x, h, y, hy => by
    have h' : (!ltCps z.cps.toList x.cps.toList && PyProof.Rows.risingS z r) = true := h
    simp only [Bool.and_eq_true, Bool.not_eq_true'] at h'
    have h1 : x.cps.toList ≤ z.cps.toList := List.not_lt.mp (by
      have h2 := h'.1
      rw [PyProof.Rows.ltCps_eq] at h2
      exact of_decide_eq_false h2)
    rcases List.mem_cons.mp hy with e | hy
    · rw [e]; exact h1
    · exact List.le_trans h1 (rise_all h'.2 y hy)
theorem sorted_drop : ∀ {ss : List Str} {k : Nat} {a b : Str}, PyProof.Rows.sortedS ss = true → ss[k]? = some a → b ∈ ss.drop (k + 1) → a.cps.toList ≤ b.cps.toList
  | [], k, a, b, _, h, _ => by simp at h
  | x :: r, 0, a, b, hs, h, hb => by
    have e : x = a := by simpa using h
    subst e
    exact rise_all hs b (by simpa using hb)
  | x :: r, k + 1, a, b, hs, h, hb => by
    have hr : PyProof.Rows.sortedS r = true := by
      cases r with
      | nil => rfl
      | cons y t =>
        have h' : (!ltCps y.cps.toList x.cps.toList && PyProof.Rows.risingS y t) = true := hs
        simp only [Bool.and_eq_true] at h'
        exact h'.2
    exact sorted_drop (ss := r) (k := k) hr (by simpa using h) (by simpa using hb)
theorem str_ext {a b : Str} (h : a.cps.toList = b.cps.toList) : a = b := by
  obtain ⟨⟨x⟩⟩ := a
  obtain ⟨⟨y⟩⟩ := b
  have h : x = y := h
  rw [h]
theorem slt_of {ss : List Str} {k : Nat} {a b : Str} (nd : ss.Nodup) (hs : PyProof.Rows.sortedS ss = true) (h : ss[k]? = some a) (hb : b ∈ ss.drop (k + 1)) : slt a b := by
  have h1 := sorted_drop hs h hb
  have ne : a ≠ b := fun e => by
    subst e
    obtain ⟨j, hj⟩ := List.getElem?_of_mem hb
    rw [List.getElem?_drop] at hj
    have e := (List.getElem?_inj (List.getElem?_eq_some_iff.mp h).1 nd).mp (h.trans hj.symm)
    omega
  unfold slt
  by_cases h2 : a.cps.toList < b.cps.toList
  · exact h2
  · exact absurd (str_ext (List.le_antisymm h1 (List.not_lt.mp h2))) ne
/-- a short that the law draws -/
def ShOk (p : Pt) (v : Vn) : Prop := ∃ a b k, v = .short a b k ∧ a ∈ p.lns ∧ b ∈ p.lns ∧ slt a b ∧ a ∉ p.la b ∧ b ∉ p.la a
def ShR (p : Pt) : PV := fun v H2 => ∃ ws : List Vn, Is H2 v (.list (ws.map vD)) ∧ (∀ x ∈ ws, ShOk p x) ∧ ws.length ≤ 2000
section
variable {P : Program} {w : World} {K : PySem.W.Frag} {mg : Str → Option Value} {base : Heap}
def spShorts : Sp := fun vs H Q _ => ∃ p v, vs = [v] ∧ Is H v (ptD p) ∧ Sm p ∧ p.lns.Nodup ∧ Giv H (ShR p) Q
theorem ok_L_shorts (g : Gd P w K mg base) : Fnc P w K mg base 3 "_law_shorts" spShorts := by
  refine g.fnc 55 36 d_L_shorts "_law_shorts" _ _ sc_L_shorts ?_ ?_ bn_L_shorts
  · rintro vs H Q E ⟨p, v, rfl, _⟩
    rfl
  · rintro cdv A outer s H vs Q E hr ⟨p, v1, rfl, h1, sm, nd, q⟩
    have sl := sm.lns
    refine go_set 1 sc_L_shorts.nd (ew_sorted (ss := p.lns) g.sorted (ev_callD (ok_L_lines g) hr (Nat.le_refl _) (av_cons (ev_n 0 h1) av_nil) ⟨p, rfl, sm, rfl⟩) (by omega)) fun v2 H1 z1 ⟨ys, pm, srt, h2⟩ => ?_
    have ly : ys.length ≤ 20 := by rw [pm.length_eq]; exact sl
    refine go_set 2 sc_L_shorts.nd (ef_lst av_nil) fun w1 H2 z2 ⟨a, xs, e1, hn1, hl1, hs1⟩ => ?_
    subst e1
    cases hs1
    refine go_forR (n := ys.length) (passes_of rfl) rfl g.range (EV.is (ev_lenL g.len (ev_n 1 (h2.mono z2))) (by rw [List.length_map])) (by omega) fun H3 z3 => ⟨fun k σ' H' => ∃ y1 y2, σ' = [some v1, some v2, some (.ref a), y1, y2] ∧ Ex H1 H' ∧ ∃ (ws : List Vn) (xs : List V), H' a = some (.lst xs) ∧ IsA H' xs (ws.map vD) ∧ (∀ x ∈ ws, ShOk p x) ∧ ws.length ≤ 40 * k, ⟨none, none, rfl, z2.trans z3, [], [], z3 _ _ hl1, .nil, fun x h => absurd h List.not_mem_nil, Nat.le_refl _⟩, fun k σ' H' hk pv => ?_, fun σ' H' pv => ?_⟩
    · obtain ⟨y1, y2, rfl, z, ws, xs, hl, hxs, hw, hlen⟩ := pv
      obtain ⟨la, hla⟩ : ∃ la, ys[k]? = some la := ⟨ys[k], List.getElem?_eq_getElem hk⟩
      refine gt_n 3 sc_L_shorts.nd (go_forLF (ds := strsD (ys.drop (k + 1))) (passes_of rfl) rfl (EW.imp (ef_slLf (k + 1) (ev_n 1 (h2.mono z)) (ev_add (ev_n 3 (.int _)) ev_int) (sIx_nat _ _ (k + 1))) fun v H1 _ p => by rw [← List.map_drop] at p; exact p) fun l3 xs3 H3 nl3 z3 hl3 hs3 => ⟨fun i σ' H' => ∃ y2, σ' = [some v1, some v2, some (.ref a), some (.int k), y2] ∧ Ex H1 H' ∧ H' l3 = some (.lst xs3) ∧ ∃ (ws : List Vn) (xs : List V), H' a = some (.lst xs) ∧ IsA H' xs (ws.map vD) ∧ (∀ x ∈ ws, ShOk p x) ∧ ws.length ≤ 40 * k + 2 * i, ⟨y2, rfl, z.trans z3, hl3, ws, xs, z3 _ _ hl, hxs.mono z3, hw, by omega⟩, fun i σ' H' pv => ?_, fun i v d σ' H' e1 e2 ri pv => ?_, fun σ' H' pv => ?_⟩)
      · obtain ⟨_, _, _, h, _⟩ := pv
        exact h
      · have hne : l3 ≠ a := fun e => by rw [e, hl] at nl3; cases nl3
        obtain ⟨y2, rfl, z, hl3', ws, xs, hl, hxs, hw, hlen⟩ := pv
        obtain ⟨o, e3, rfl⟩ := gems e2
        have hil : i < ys.length := by
          have := (List.getElem?_eq_some_iff.mp e3).1
          rw [List.length_drop] at this
          omega
        rw [ri.str_eq]
        have hz1 := h1.mono (z1.trans z)
        refine gt_n 4 sc_L_shorts.nd (go_when (k := (!decide (la ∈ p.la o)) && (!decide (o ∈ p.la la))) (tw_w (ww_and (tw_nil (ev_ixL (d := .str la) (ev_n 1 (h2.mono z)) (ev_n 3 (.int _)) (atI_n (j := k) (by rw [List.getElem?_map, hla]; rfl) k rfl)) (ev_callD (ok_L_above g) (hr.mono (by omega)) (Nat.le_refl _) (av_cons (ev_n 0 hz1) (av_cons (ev_n 4 (.str _)) av_nil)) ⟨p, o, rfl, sm, rfl⟩)) fun _ => ww_and1 (tw_nil (ev_n 4 (.str _)) (ev_callD (ok_L_above g) (hr.mono (by omega)) (Nat.le_refl _) (av_cons (ev_n 0 hz1) (av_cons (ev_ixL (d := .str la) (ev_n 1 (h2.mono z)) (ev_n 3 (.int _)) (atI_n (j := k) (by rw [List.getElem?_map, hla]; rfl) k rfl)) av_nil)) ⟨p, la, rfl, sm, rfl⟩)))) (fun t H5 z5 => ?_) fun t H5 z5 => ?_)
        · have hl5 := z5 _ _ hl
          refine go_extend (ds := [Vn.short la o true, Vn.short la o false].map vD) (ex_v 2) (ev_lst (av_cons (ev_tup (av_cons ev_str (av_cons (ev_ixL (d := .str la) (ev_n 1 (h2.mono (z.trans z5))) (ev_n 3 (.int _)) (atI_n (j := k) (by rw [List.getElem?_map, hla]; rfl) k rfl)) (av_cons (ev_n 4 (.str _)) (av_cons ev_str av_nil))))) (av_cons (ev_tup (av_cons ev_str (av_cons (ev_ixL (d := .str la) (ev_n 1 (h2.mono (z.trans z5))) (ev_n 3 (.int _)) (atI_n (j := k) (by rw [List.getElem?_map, hla]; rfl) k rfl)) (av_cons (ev_n 4 (.str _)) (av_cons ev_str av_nil))))) av_nil)) (Nat.le_of_ble_eq_true rfl)) hl5 (by rw [hxs.length, List.length_map]; show _ + 2 ≤ _; omega) fun zs H6 z6 hzs => go_nil (go_nil ?_)
          have hl6 := z6 _ _ hl5
          have ok : ∀ b, ShOk p (.short la o b) := fun b => by
            simp only [Bool.and_eq_true, Bool.not_eq_true', decide_eq_false_iff_not] at t
            exact ⟨la, o, b, rfl, pm.mem_iff.mp (memAt hla), pm.mem_iff.mp (List.mem_of_mem_drop (memAt e3)), slt_of (pm.nodup_iff.mpr nd) srt hla (memAt e3), t.1, t.2⟩
          refine ⟨some (.str o), rfl, Ex.put (z.trans (z5.trans z6)) (none_of (Ex.refl _) hn1), by rw [upd_ne hne]; exact z6 _ _ (z5 _ _ hl3'), ws ++ [.short la o true, .short la o false], _, upd_same, ?_, ?_, by rw [List.length_append]; show _ + 2 ≤ _; omega⟩
          · rw [List.map_append]
            exact ((hxs.mono (z5.trans z6)).tput (TD.vns _) hl6).append (hzs.tput (TD.vns _) hl6)
          · intro x hx
            rcases List.mem_append.mp hx with hx | hx
            · exact hw x hx
            · simp only [List.mem_cons, List.mem_nil_iff, or_false] at hx
              rcases hx with rfl | rfl
              · exact ok true
              · exact ok false
        · exact go_nil ⟨some (.str o), rfl, z.trans z5, z5 _ _ hl3', ws, xs, z5 _ _ hl, hxs.mono z5, hw, by omega⟩
      · obtain ⟨y2, rfl, z, _, ws, xs, hl, hxs, hw, hlen⟩ := pv
        rw [List.length_map, List.length_drop] at hlen
        exact go_nil ⟨some (.int k), y2, rfl, z, ws, xs, hl, hxs, hw, by omega⟩
    · obtain ⟨y1, y2, rfl, z, ws, xs, hl, hxs, hw, hlen⟩ := pv
      refine go_out (R := ShR p) (EW.imp (ev_n 2 (.lst hl hxs)) fun v H5 z5 p5 => ⟨ws, p5, hw, by omega⟩) (z1.trans z) q
end
end Pw
namespace Pw
open PySem PySem.Spec L2
open Evl (Ex)
/-! ### maps from lines to words -/
abbrev Wm := List (Str × Nat)
def lkp (m : Wm) (x : Str) : Option Nat := (m.find? fun p => decide (p.1 = x)).map (·.2)
def encI (m : Wm) : List (Key × V) := m.map fun p => ((.inr p.1 : Key), V.int (p.2 : Int))
theorem lkp_cons_pos {a : Str} {n : Nat} {m : Wm} {x : Str} (h : a = x) : lkp ((a, n) :: m) x = some n := by simp [lkp, h]
theorem lkp_cons_neg {a : Str} {n : Nat} {m : Wm} {x : Str} (h : ¬ a = x) : lkp ((a, n) :: m) x = lkp m x := by simp [lkp, h]
theorem val_enc (x : Str) : ∀ m : Wm, valV (encI m) (.inr x) = (lkp m x).map fun (n : Nat) => V.int (n : Int)
  | [] => rfl
  | (a, n) :: m => by
    by_cases h : a = x
    · rw [lkp_cons_pos h]
      exact valV_pos (p := ((.inr a : Key), V.int (n : Int))) (congrArg Sum.inr h)
    · rw [lkp_cons_neg h, ← val_enc x m]
      exact valV_neg (p := ((.inr a : Key), V.int (n : Int))) fun e => h (Sum.inr.inj e)
theorem val_none {m : Wm} {x : Str} (h : lkp m x = none) : valV (encI m) (.inr x) = none := by rw [val_enc, h]; rfl
theorem val_some {m : Wm} {x : Str} {n : Nat} (h : lkp m x = some n) : valV (encI m) (.inr x) = some (.int (n : Int)) := by rw [val_enc, h]; rfl
theorem put_enc {m : Wm} {x : Str} {n : Nat} (h : lkp m x = none) : putK (encI m) (.inr x) (.int (n : Int)) = encI (m ++ [(x, n)]) := by
  rw [putK_new _ (val_none h)]
  unfold encI
  rw [List.map_append]
  rfl
theorem lkp_append (x : Str) (m2 : Wm) : ∀ m1 : Wm, lkp (m1 ++ m2) x = (lkp m1 x).or (lkp m2 x)
  | [] => by simp [lkp]
  | (a, n) :: m => by
    by_cases h : a = x
    · rw [List.cons_append, lkp_cons_pos h, lkp_cons_pos h]; rfl
    · rw [List.cons_append, lkp_cons_neg h, lkp_cons_neg h, lkp_append x m2 m]
theorem lkp_mem {m : Wm} {x : Str} {n : Nat} (h : lkp m x = some n) : (x, n) ∈ m := by
  unfold lkp at h
  obtain ⟨p, h1, h2⟩ := Option.map_eq_some_iff.mp h
  have h3 := List.find?_some h1
  have h4 := List.mem_of_find?_eq_some h1
  have e1 : p.1 = x := of_decide_eq_true h3
  rw [← e1, ← h2]
  exact h4
theorem lkp_none {m : Wm} {x : Str} : lkp m x = none ↔ x ∉ m.map (·.1) := by
  unfold lkp
  rw [Option.map_eq_none_iff, List.find?_eq_none]
  constructor
  · intro h hx
    obtain ⟨p, hp, e⟩ := List.mem_map.mp hx
    exact h p hp (decide_eq_true e)
  · intro h p hp e
    exact h (List.mem_map.mpr ⟨p, hp, of_decide_eq_true e⟩)
theorem lkp_some_of {m : Wm} {x : Str} (h : x ∈ m.map (·.1)) : ∃ n, lkp m x = some n := by
  cases q : lkp m x with
  | none => exact absurd h (lkp_none.mp q)
  | some n => exact ⟨n, rfl⟩
theorem lkp_nodup {x : Str} {n : Nat} : ∀ {m : Wm}, (m.map (·.1)).Nodup → (x, n) ∈ m → lkp m x = some n
  | (a, k) :: m, nd, h => by
    have nd' := List.nodup_cons.mp nd
    rcases List.mem_cons.mp h with e | h
    · cases e
      exact lkp_cons_pos rfl
    · have ne : ¬ a = x := fun e => nd'.1 (by
        show a ∈ _
        rw [e]
        exact List.mem_map.mpr ⟨(x, n), h, rfl⟩)
      rw [lkp_cons_neg ne]
      exact lkp_nodup nd'.2 h
/-- m1 is kept in m2 -/
def Sub (m1 m2 : Wm) : Prop := ∀ x n, lkp m1 x = some n → lkp m2 x = some n
theorem Sub.refl (m : Wm) : Sub m m := fun _ _ h => h
theorem Sub.trans {a b c : Wm} (h : Sub a b) (g : Sub b c) : Sub a c := fun x n q => g x n (h x n q)
theorem Sub.app (m r : Wm) : Sub m (m ++ r) := fun x n h => by rw [lkp_append, h]; rfl
/-! ### a pass -/
abbrev Pn := Option (Str × Nat × Bool)
def pinF (pin : Pn) (nm : Str) (ws : List Nat) (full : Nat) : List Nat := match pin with
  | some (g, i, b) => if g = nm then ws.set i (if b then full else 0) else ws
  | none => ws
def wsAt (m : Wm) (g : G) : List Nat := g.ps.map fun x => (lkp m x).getD 0
def gvAt (F : Wm) (pin : Pn) (full : Nat) (m : Wm) (g : G) : Nat := (lkp F g.nm).getD (gW g.kd (pinF pin g.nm (wsAt m g) full) full)
def seed (F gv : Wm) : Wm := gv.map fun p => (p.1, (lkp F p.1).getD p.2)
def canG (m : Wm) (g : G) : Bool := (lkp m g.nm).isNone && g.ps.all fun x => (lkp m x).isSome
def lpG (F : Wm) (pin : Pn) (full : Nat) (m : Wm) (g : G) : Wm := if canG m g = true then m ++ [(g.nm, gvAt F pin full m g)] else m
def lpN (F : Wm) (pin : Pn) (full : Nat) (gs : List G) (m : Wm) : Nat → Wm
  | 0 => m
  | n + 1 => gs.foldl (lpG F pin full) (lpN F pin full gs m n)
def prG (F : Wm) (pin : Pn) (full : Nat) (m : Wm) (g : G) : Wm := m ++ [(g.nm, gvAt F pin full m g)]
/-- a map's words below 2 ^ n -/
def Bd (n : Nat) (m : Wm) : Prop := ∀ p ∈ m, p.2 < 2 ^ n
theorem Bd.lkp {n : Nat} {m : Wm} (h : Bd n m) {x : Str} {k : Nat} (e : lkp m x = some k) : k < 2 ^ n := h (x, k) (lkp_mem e)
theorem Bd.get {n : Nat} {m : Wm} (h : Bd n m) (x : Str) : (Pw.lkp m x).getD 0 < 2 ^ n := by
  cases q : Pw.lkp m x with
  | none => exact Nat.two_pow_pos n
  | some k => exact h.lkp q
theorem pinF_len {pin : Pn} {nm : Str} {ws : List Nat} {full : Nat} : (pinF pin nm ws full).length = ws.length := by
  unfold pinF
  split
  · split
    · exact List.length_set
    · rfl
  · rfl
theorem pinF_lt {pin : Pn} {nm : Str} {ws : List Nat} {n : Nat} (h : ∀ w ∈ ws, w < 2 ^ n) : ∀ w ∈ pinF pin nm ws (2 ^ n - 1), w < 2 ^ n := by
  unfold pinF
  split
  · split
    · intro w hw
      rcases List.mem_or_eq_of_mem_set hw with hw | e
      · exact h w hw
      · rw [e]
        split
        · exact pow_m1 n
        · exact Nat.two_pow_pos n
    · exact h
  · exact h
theorem wsAt_lt {m : Wm} {g : G} {n : Nat} (h : Bd n m) : ∀ w ∈ wsAt m g, w < 2 ^ n := fun w hw => by
  obtain ⟨x, _, rfl⟩ := List.mem_map.mp hw
  exact h.get x
theorem gW_lt {k : Str} {ws : List Nat} {n : Nat} (hk : KdOk k ws.length) (hw : ∀ w ∈ ws, w < 2 ^ n) : gW k ws (2 ^ n - 1) < 2 ^ n := by
  rw [gW_eq hk hw]
  have h1 := lW_lt (k := k) hw
  have h2 := Nat.two_pow_pos n
  split <;> omega
theorem gvAt_lt {F : Wm} {pin : Pn} {n : Nat} {m : Wm} {g : G} (hF : Bd n F) (hm : Bd n m) (hk : KdOk g.kd g.ps.length) : gvAt F pin (2 ^ n - 1) m g < 2 ^ n := by
  unfold gvAt
  cases q : lkp F g.nm with
  | some k => exact hF.lkp q
  | none =>
    refine gW_lt ?_ (pinF_lt (wsAt_lt hm))
    rw [pinF_len]
    unfold wsAt
    rw [List.length_map]
    exact hk
theorem Bd.snoc {n : Nat} {m : Wm} {x : Str} {k : Nat} (h : Bd n m) (hk : k < 2 ^ n) : Bd n (m ++ [(x, k)]) := fun p hp => by
  rcases List.mem_append.mp hp with hp | hp
  · exact h p hp
  · rw [List.mem_singleton.mp hp]
    exact hk
theorem Bd.seed {n : Nat} {F gv : Wm} (hF : Bd n F) (hg : Bd n gv) : Bd n (seed F gv) := fun p hp => by
  obtain ⟨q, hq, rfl⟩ := List.mem_map.mp hp
  show (Pw.lkp F q.1).getD q.2 < 2 ^ n
  cases e : Pw.lkp F q.1 with
  | some k => exact hF.lkp e
  | none => exact hg q hq
theorem Bd.lpG {n : Nat} {F : Wm} {pin : Pn} {m : Wm} {g : G} (hF : Bd n F) (hm : Bd n m) (hk : KdOk g.kd g.ps.length) : Bd n (lpG F pin (2 ^ n - 1) m g) := by
  unfold Pw.lpG
  split
  · exact hm.snoc (gvAt_lt hF hm hk)
  · exact hm
theorem Bd.lpF {n : Nat} {F : Wm} {pin : Pn} (hF : Bd n F) : ∀ {gs : List G} {m : Wm}, Bd n m → (∀ g ∈ gs, KdOk g.kd g.ps.length) → Bd n (gs.foldl (Pw.lpG F pin (2 ^ n - 1)) m)
  | [], _, hm, _ => hm
  | g :: r, m, hm, hk => Bd.lpF hF (gs := r) (hF.lpG hm (hk g List.mem_cons_self)) fun x hx => hk x (List.mem_cons_of_mem _ hx)
theorem Bd.lpN {n : Nat} {F : Wm} {pin : Pn} {gs : List G} {m : Wm} (hF : Bd n F) (hm : Bd n m) (hk : ∀ g ∈ gs, KdOk g.kd g.ps.length) : ∀ t, Bd n (lpN F pin (2 ^ n - 1) gs m t)
  | 0 => hm
  | t + 1 => hF.lpF (Bd.lpN hF hm hk t) hk
/-! sizes -/
theorem lpG_len {F : Wm} {pin : Pn} {f : Nat} {m : Wm} {g : G} : (lpG F pin f m g).length ≤ m.length + 1 := by
  unfold lpG
  split
  · rw [List.length_append]; exact Nat.le_refl _
  · omega
theorem lpF_len {F : Wm} {pin : Pn} {f : Nat} : ∀ {gs : List G} {m : Wm}, (gs.foldl (lpG F pin f) m).length ≤ m.length + gs.length
  | [], m => by simp
  | g :: r, m => by
    have h1 := lpG_len (F := F) (pin := pin) (f := f) (m := m) (g := g)
    have h2 := lpF_len (F := F) (pin := pin) (f := f) (gs := r) (m := lpG F pin f m g)
    rw [List.foldl_cons, List.length_cons]
    omega
theorem lpN_len {F : Wm} {pin : Pn} {f : Nat} {gs : List G} {m : Wm} : ∀ t, (lpN F pin f gs m t).length ≤ m.length + gs.length * t
  | 0 => by simp [lpN]
  | t + 1 => by
    have h1 := lpN_len (F := F) (pin := pin) (f := f) (gs := gs) (m := m) t
    have h2 := lpF_len (F := F) (pin := pin) (f := f) (gs := gs) (m := lpN F pin f gs m t)
    show (gs.foldl (lpG F pin f) (lpN F pin f gs m t)).length ≤ _
    rw [Nat.mul_succ]
    omega
/-! ### what a circuit's words must be -/
structure Sol (src : List Str) (gs : List G) (F : Wm) (pin : Pn) (full : Nat) (m0 m : Wm) : Prop where
  src : ∀ x ∈ src, lkp m x = lkp m0 x
  gate : ∀ g ∈ gs, lkp m g.nm = some (gvAt F pin full m g)
/-- in an order in which the pins come first -/
def Topo (S : List Str) (ord : List G) : Prop := ∀ k g, ord[k]? = some g → ∀ x ∈ g.ps, x ∈ S ++ (ord.take k).map (·.nm)
theorem wsAt_eq {m m' : Wm} {g : G} (h : ∀ x ∈ g.ps, lkp m x = lkp m' x) : wsAt m g = wsAt m' g := by
  unfold wsAt
  exact List.map_congr_left fun x hx => by rw [h x hx]
theorem gvAt_eq {F : Wm} {pin : Pn} {f : Nat} {m m' : Wm} {g : G} (h : ∀ x ∈ g.ps, lkp m x = lkp m' x) : gvAt F pin f m g = gvAt F pin f m' g := by
  unfold gvAt
  rw [wsAt_eq h]
/-- two solutions agree -/
theorem Sol.uniq {S : List Str} {gs ord : List G} {F : Wm} {pin : Pn} {full : Nat} {m0 m m' : Wm} (h : Sol S gs F pin full m0 m) (h' : Sol S gs F pin full m0 m') (pm : ord.Perm gs) (tp : Topo S ord) :
    ∀ k, ∀ x ∈ S ++ (ord.take k).map (·.nm), lkp m x = lkp m' x
  | 0, x, hx => by
    have hx : x ∈ S := by simpa using hx
    rw [h.src x hx, h'.src x hx]
  | k + 1, x, hx => by
    have ih := Sol.uniq h h' pm tp k
    cases q : ord[k]? with
    | none =>
      rw [List.take_add_one, q] at hx
      exact ih x (by simpa using hx)
    | some g =>
      rw [List.take_add_one, q, List.map_append, ← List.append_assoc] at hx
      rcases List.mem_append.mp hx with hx | hx
      · exact ih x hx
      · have e : x = g.nm := by simpa using hx
        have hg : g ∈ gs := pm.mem_iff.mp (memAt q)
        rw [e, h.gate g hg, h'.gate g hg, gvAt_eq fun y hy => ih y (tp k g q y hy)]
theorem Sol.eq {S : List Str} {gs ord : List G} {F : Wm} {pin : Pn} {full : Nat} {m0 m m' : Wm} (h : Sol S gs F pin full m0 m) (h' : Sol S gs F pin full m0 m') (pm : ord.Perm gs) (tp : Topo S ord) : ∀ x ∈ S ++ gs.map (·.nm), lkp m x = lkp m' x := fun x hx => by
  refine Sol.uniq h h' pm tp ord.length x ?_
  rw [List.take_length]
  rcases List.mem_append.mp hx with hx | hx
  · exact List.mem_append_left _ hx
  · exact List.mem_append_right _ ((pm.map _).mem_iff.mpr hx)
/-! ### both ways give one -/
theorem Sub.eq {m m' : Wm} (h : Sub m m') {x : Str} (i : (lkp m x).isSome = true) : lkp m x = lkp m' x := by
  obtain ⟨n, e⟩ := Option.isSome_iff_exists.mp i
  rw [e, h x n e]
theorem Sub.some {m m' : Wm} (h : Sub m m') {x : Str} (i : (lkp m x).isSome = true) : (lkp m' x).isSome = true := by rw [← h.eq i]; exact i
theorem lkp_key {m : Wm} {x : Str} : (lkp m x).isSome = true ↔ x ∈ m.map (·.1) := by
  constructor
  · intro h
    obtain ⟨n, e⟩ := Option.isSome_iff_exists.mp h
    exact List.mem_map.mpr ⟨(x, n), lkp_mem e, rfl⟩
  · intro h
    obtain ⟨n, e⟩ := lkp_some_of h
    rw [e]; rfl
theorem snoc_new {m : Wm} {x : Str} {n : Nat} (h : lkp m x = none) : lkp (m ++ [(x, n)]) x = some n := by
  rw [lkp_append, h, lkp_cons_pos rfl]
  rfl
theorem snoc_old {m : Wm} {x y : Str} {n : Nat} (h : ¬ x = y) : lkp (m ++ [(x, n)]) y = lkp m y := by
  rw [lkp_append, lkp_cons_neg h]
  cases lkp m y <;> rfl
section
variable {S : List Str} {gs ord : List G} {F : Wm} {pin : Pn} {full : Nat} {m0 : Wm}
theorem prog_keys (m : Wm) : ∀ gs : List G, (gs.foldl (prG F pin full) m).map (·.1) = m.map (·.1) ++ gs.map (·.nm) := fun gs => by
  induction gs generalizing m with
  | nil => simp
  | cons g r ih =>
    rw [List.foldl_cons, ih]
    unfold prG
    simp
theorem prog_inv (hk : m0.map (·.1) = S) (nd : (S ++ ord.map (·.nm)).Nodup) (tp : Topo S ord) : ∀ k, k ≤ ord.length → Sub m0 ((ord.take k).foldl (prG F pin full) m0) ∧ ∀ j g, j < k → ord[j]? = some g → lkp ((ord.take k).foldl (prG F pin full) m0) g.nm = some (gvAt F pin full ((ord.take k).foldl (prG F pin full) m0) g)
  | 0, _ => ⟨Sub.refl _, fun j g h => absurd h (Nat.not_lt_zero _)⟩
  | k + 1, hk1 => by
    obtain ⟨h1, h2⟩ := prog_inv hk nd tp k (by omega)
    have ek : ord[k]? = some ord[k] := List.getElem?_eq_getElem (by omega)
    have e : (ord.take (k + 1)).foldl (prG F pin full) m0 = prG F pin full ((ord.take k).foldl (prG F pin full) m0) ord[k] := by
      rw [List.take_add_one, ek, List.foldl_append]
      rfl
    have keys := prog_keys (F := F) (pin := pin) (full := full) m0 (ord.take k)
    rw [hk] at keys
    rw [e]
    generalize hM : (ord.take k).foldl (prG F pin full) m0 = M at *
    have sub : Sub M (prG F pin full M ord[k]) := Sub.app _ _
    have pins : ∀ j g, j ≤ k → ord[j]? = some g → ∀ x ∈ g.ps, (lkp M x).isSome = true := fun j g hj hg x hx => by
      rw [lkp_key, keys]
      rcases List.mem_append.mp (tp j g hg x hx) with q | q
      · exact List.mem_append_left _ q
      · refine List.mem_append_right _ ?_
        obtain ⟨y, hy, ey⟩ := List.mem_map.mp q
        exact List.mem_map.mpr ⟨y, (List.take_subset_take_left ord hj) hy, ey⟩
    refine ⟨h1.trans sub, fun j g hj hg => ?_⟩
    have eg : gvAt F pin full (prG F pin full M ord[k]) g = gvAt F pin full M g := (gvAt_eq fun x hx => sub.eq (pins j g (by omega) hg x hx)).symm
    rw [eg]
    rcases Nat.lt_or_ge j k with q | q
    · rw [← sub.eq (by rw [h2 j g q hg]; rfl)]
      exact h2 j g q hg
    · have ej : j = k := by omega
      subst ej
      rw [ek] at hg
      cases hg
      refine snoc_new (lkp_none.mpr ?_)
      rw [keys]
      have hs : (ord.take (j + 1)).map (·.nm) = (ord.take j).map (·.nm) ++ [ord[j].nm] := by
        rw [List.take_add_one, ek, List.map_append]
        rfl
      have nd2 : (S ++ (ord.take (j + 1)).map (·.nm)).Nodup := by
        refine nd.sublist (List.Sublist.append (List.Sublist.refl _) ((List.take_sublist _ _).map _))
      rw [hs, ← List.append_assoc] at nd2
      intro hx
      exact (List.nodup_append.mp nd2).2.2 _ hx _ (by simp) rfl
theorem prog_sol (hk : m0.map (·.1) = S) (nd : (S ++ gs.map (·.nm)).Nodup) (pm : ord.Perm gs) (tp : Topo S ord) : Sol S gs F pin full m0 (ord.foldl (prG F pin full) m0) := by
  have nd' : (S ++ ord.map (·.nm)).Nodup := ((List.Perm.append_left S (pm.map _)).nodup_iff).mpr nd
  obtain ⟨h1, h2⟩ := prog_inv (F := F) (pin := pin) (full := full) hk nd' tp ord.length (Nat.le_refl _)
  rw [List.take_length] at h1 h2
  refine ⟨fun x hx => (h1.eq (by rw [lkp_key, hk]; exact hx)).symm, fun g hg => ?_⟩
  obtain ⟨j, hj⟩ := List.getElem?_of_mem (pm.mem_iff.mpr hg)
  exact h2 j g (List.getElem?_eq_some_iff.mp hj).1 hj
structure LI (gs : List G) (F : Wm) (pin : Pn) (full : Nat) (m0 m : Wm) : Prop where
  sub : Sub m0 m
  gate : ∀ g ∈ gs, (lkp m g.nm).isSome = true → (∀ x ∈ g.ps, (lkp m x).isSome = true) ∧ lkp m g.nm = some (gvAt F pin full m g)
theorem nm_inj (nd : (gs.map (·.nm)).Nodup) {g g' : G} (h : g ∈ gs) (h' : g' ∈ gs) (e : g.nm = g'.nm) : g = g' := by
  obtain ⟨i, hi⟩ := List.getElem?_of_mem h
  obtain ⟨j, hj⟩ := List.getElem?_of_mem h'
  have e1 : (gs.map (·.nm))[i]? = some g.nm := by rw [List.getElem?_map, hi]; rfl
  have e2 : (gs.map (·.nm))[j]? = some g.nm := by rw [List.getElem?_map, hj, e]; rfl
  have e3 := (List.getElem?_inj (List.getElem?_eq_some_iff.mp e1).1 nd).mp (e1.trans e2.symm)
  subst e3
  rw [hi] at hj
  exact Option.some.inj hj
theorem lpG_sub {m : Wm} {g : G} : Sub m (lpG F pin full m g) := by
  unfold lpG
  split
  · exact Sub.app _ _
  · exact Sub.refl _
theorem lpF_sub : ∀ {gs : List G} {m : Wm}, Sub m (gs.foldl (lpG F pin full) m)
  | [], m => Sub.refl m
  | g :: r, m => lpG_sub.trans (lpF_sub (gs := r))
theorem LI.step (nd : (gs.map (·.nm)).Nodup) {m : Wm} (h : LI gs F pin full m0 m) {g : G} (hg : g ∈ gs) : LI gs F pin full m0 (lpG F pin full m g) := by
  have sub : Sub m (lpG F pin full m g) := lpG_sub
  refine ⟨h.sub.trans sub, fun g' hg' hs => ?_⟩
  by_cases q : (lkp m g'.nm).isSome = true
  · obtain ⟨a, b⟩ := h.gate g' hg' q
    refine ⟨fun x hx => sub.some (a x hx), ?_⟩
    rw [← sub.eq q, b, gvAt_eq fun x hx => sub.eq (a x hx)]
  · unfold lpG at hs sub ⊢
    by_cases c : canG m g = true
    · rw [if_pos c] at hs sub ⊢
      have en : g.nm = g'.nm := by
        by_cases e : g.nm = g'.nm
        · exact e
        · rw [snoc_old e] at hs
          exact absurd hs q
      have e := nm_inj nd hg hg' en
      subst e
      unfold canG at c
      simp only [Bool.and_eq_true, Option.isNone_iff_eq_none, List.all_eq_true] at c
      refine ⟨fun x hx => sub.some (c.2 x hx), ?_⟩
      exact (snoc_new c.1).trans (congrArg some (gvAt_eq fun x hx => sub.eq (c.2 x hx)))
    · rw [if_neg c] at hs
      exact absurd hs q
theorem LI.fold (nd : (gs.map (·.nm)).Nodup) : ∀ {r : List G} {m : Wm}, LI gs F pin full m0 m → (∀ g ∈ r, g ∈ gs) → LI gs F pin full m0 (r.foldl (lpG F pin full) m)
  | [], _, h, _ => h
  | g :: r, _, h, hr => LI.fold nd (r := r) (h.step nd (hr g List.mem_cons_self)) fun x hx => hr x (List.mem_cons_of_mem _ hx)
theorem LI.all (nd : (gs.map (·.nm)).Nodup) {m : Wm} (h : LI gs F pin full m0 m) : ∀ t, LI gs F pin full m0 (lpN F pin full gs m t)
  | 0 => h
  | t + 1 => (LI.all nd h t).fold nd fun _ hg => hg
theorem pass_adds : ∀ {r : List G} {m : Wm} {g : G}, g ∈ r → (∀ x ∈ g.ps, (lkp m x).isSome = true) → (lkp (r.foldl (lpG F pin full) m) g.nm).isSome = true
  | a :: r, m, g, hg, hp => by
    rw [List.foldl_cons]
    rcases List.mem_cons.mp hg with e | hg
    · subst e
      refine (lpF_sub (gs := r)).some ?_
      by_cases q : (lkp m g.nm).isSome = true
      · exact lpG_sub.some q
      · unfold lpG
        have qn : lkp m g.nm = none := by simpa using q
        have c : canG m g = true := by
          unfold canG
          simp only [Bool.and_eq_true, Option.isNone_iff_eq_none, List.all_eq_true]
          exact ⟨qn, hp⟩
        rw [if_pos c, snoc_new qn]
        rfl
    · exact pass_adds hg fun x hx => lpG_sub.some (hp x hx)
theorem law_done (hk : m0.map (·.1) = S) (pm : ord.Perm gs) (tp : Topo S ord) : ∀ t, ∀ x ∈ S ++ (ord.take t).map (·.nm), (lkp (lpN F pin full gs m0 t) x).isSome = true
  | 0, x, hx => by
    have hx : x ∈ S := by simpa using hx
    show (lkp m0 x).isSome = true
    rw [lkp_key, hk]
    exact hx
  | t + 1, x, hx => by
    have ih := law_done hk pm tp t
    have sub : Sub (lpN F pin full gs m0 t) (lpN F pin full gs m0 (t + 1)) := lpF_sub (gs := gs)
    cases q : ord[t]? with
    | none =>
      rw [List.take_add_one, q] at hx
      exact sub.some (ih x (by simpa using hx))
    | some g =>
      rw [List.take_add_one, q, List.map_append, ← List.append_assoc] at hx
      rcases List.mem_append.mp hx with hx | hx
      · exact sub.some (ih x hx)
      · have e : x = g.nm := by simpa using hx
        rw [e]
        exact pass_adds (pm.mem_iff.mp (memAt q)) fun y hy => ih y (tp t g q y hy)
theorem law_sol (hk : m0.map (·.1) = S) (nd : (S ++ gs.map (·.nm)).Nodup) (pm : ord.Perm gs) (tp : Topo S ord) : Sol S gs F pin full m0 (lpN F pin full gs m0 gs.length) := by
  have nd2 := List.nodup_append.mp nd
  have h0 : LI gs F pin full m0 m0 := ⟨Sub.refl _, fun g hg hs => by
    rw [lkp_key, hk] at hs
    exact absurd rfl (nd2.2.2 _ hs _ (List.mem_map.mpr ⟨g, hg, rfl⟩))⟩
  have h := h0.all nd2.2.1 gs.length
  have dn := law_done (F := F) (pin := pin) (full := full) hk pm tp gs.length
  refine ⟨fun x hx => (h.sub.eq (by rw [lkp_key, hk]; exact hx)).symm, fun g hg => (h.gate g hg (dn g.nm (List.mem_append_right _ ?_))).2⟩
  rw [← pm.length_eq, List.take_length]
  exact (pm.map _).mem_iff.mpr (List.mem_map.mpr ⟨g, hg, rfl⟩)
end
end Pw
namespace Pw
open PySem PySem.Spec L2
open Evl (Ex)
section
variable {X : Cx} {e a b c o iter elt f cnd : Expr} {es : List Expr} {σ : L2.St} {H H' H0 : Hp} {pos pos' px p : Pos} {i j k : Nat} {x : Str} {scope : Scope} {v : V}
theorem tw_notN (ha : EX X σ H a v) : TW X σ H (.Compare a [.IsNot] [.Constant .none j pos'] pos) (!decide (v = .non)) := fun H1 z Q q =>
  toT (pt_cmp (pc_notN pE)) (ha H1 z _ fun u H2 y p => ⟨_, by rw [show u = v from p H2 (Ex.refl H2)], q H2 y⟩)
theorem tw_isN (ha : EX X σ H a v) : TW X σ H (.Compare a [.Is] [.Constant .none j pos'] pos) (decide (v = .non)) := fun H1 z Q q =>
  toT (pt_cmp (pc_isN pE)) (ha H1 z _ fun u H2 y p => ⟨_, by rw [show u = v from p H2 (Ex.refl H2)], q H2 y⟩)
/-- readings of comprehensions, item by item, the list not there before -/
theorem rd_lcT {α : Type} {xs : List α} {enc : α → PyData} {H1 : Hp} {Q : VK} (f : α → PyData) (hi : EV X σ H iter (.tuple (xs.map enc))) (hz : xs.length ≤ 40000) (z : Ex H H1) (q : Giv H1 (Fr H (xs.map f)) Q)
    (he : ∀ (v : V) (y : α) (H1 : Hp), y ∈ xs → Ex H H1 → Is H1 v (enc y) → EB X scope (σ.set j (some v)) H1 elt (dat (f y))) : tLc (iTup X.K (tE X iter)) (gName j) (ttOf X scope []) (bE X scope elt) [j] σ H1 Q :=
  lc_readT (ifs := []) (hi.up z) (by rw [List.length_map]; exact hz) fun l ys H2 z2 hl2 hs2 => ⟨lcJ H2 (xs.map f), ⟨Ex.refl H2, .nil⟩, fun i acc H' w => w.1 _ _ hl2, fun i acc v d H' e1 e2 r _ w => by
    obtain ⟨y, h1, rfl⟩ := gems e2
    exact lcJ_step w (by rw [List.getElem?_map, h1]; rfl) (he v y H2 (memAt h1) (z.trans z2) r), fun acc D H' w hD => q.fr (z2.trans w.1) z hD (by
    have w2 := w.2
    rw [List.length_map, ← List.length_map (f := f), List.take_length] at w2
    exact w2)⟩
theorem rd_lcL {α : Type} {xs : List α} {enc : α → PyData} {H1 : Hp} {Q : VK} (f : α → PyData) (hi : EV X σ H iter (.list (xs.map enc))) (hz : xs.length ≤ 40000) (z : Ex H H1) (q : Giv H1 (Fr H (xs.map f)) Q)
    (he : ∀ (v : V) (y : α) (H1 : Hp), y ∈ xs → Ex H H1 → Is H1 v (enc y) → EB X scope (σ.set j (some v)) H1 elt (dat (f y))) : tLc (iList X.K (tE X iter)) (gName j) (ttOf X scope []) (bE X scope elt) [j] σ H1 Q :=
  lc_readL (ifs := []) (hi.up z) (by rw [List.length_map]; exact hz) fun l ys H2 z2 hl2 hs2 => ⟨lcJ H2 (xs.map f), ⟨Ex.refl H2, .nil⟩, fun i acc H' w => w.1 _ _ hl2, fun i acc v d H' e1 e2 r _ w => by
    obtain ⟨y, h1, rfl⟩ := gems e2
    exact lcJ_step w (by rw [List.getElem?_map, h1]; rfl) (he v y H2 (memAt h1) (z.trans z2) r), fun acc D H' w hD => q.fr (z2.trans w.1) z hD (by
    have w2 := w.2
    rw [List.length_map, ← List.length_map (f := f), List.take_length] at w2
    exact w2)⟩
theorem rd_lcR {n : Nat} {kk : Int} {H1 : Hp} {Q : VK} (f : Nat → PyData) (hi : EV X σ H a (.int kk)) (hk : kk = (n : Int)) (hz : n ≤ 40000) (hs1 : starEach [a] X.env = [(false, eval a X.env)]) (z : Ex H H1) (q : Giv H1 (Fr H ((List.range n).map f)) Q)
    (he : ∀ (y : Nat) (H1 : Hp), y < n → Ex H H1 → EB X scope (σ.set j (some (.int y))) H1 elt (dat (f y))) : tLc (iRng1 (tA X [a])) (gName j) (ttOf X scope []) (bE X scope elt) [j] σ H1 Q := by
  subst hk
  exact lc_readR (ifs := []) (hi.up z) hz hs1 fun H2 z2 => ⟨lcJ H2 ((List.range n).map f), ⟨Ex.refl H2, .nil⟩, fun i acc H' hi _ w => lcJ_step w (by rw [List.getElem?_map, List.getElem?_range hi]; rfl) (he i H2 hi (z.trans z2)), fun acc D H' w hD => q.fr (z2.trans w.1) z hD (by
    have w2 := w.2
    have e : n = ((List.range n).map f).length := by rw [List.length_map, List.length_range]
    rw [e, List.length_map, List.length_range, List.take_of_length_le (by rw [List.length_map, List.length_range]; exact Nat.le_refl _)] at w2
    exact w2)⟩
section
variable {c : Expr} {sts rest : List Stmt} {D : Ends} {k : Bool}
theorem tSs_nx {J J' : L2.St → Hp → Prop} (h : tSs X sts { D with nx := J } σ H) (q : ∀ σ' H', J σ' H' → J' σ' H') : tSs X sts { D with nx := J' } σ H := fun pins s I => wpAny_mono (h pins s I) (fun f s1 p => by
  cases f with
  | next =>
    obtain ⟨σ', H', I', p⟩ := p
    exact ⟨σ', H', I', q σ' H' p⟩
  | brk => exact p
  | cont => exact p
  | ret v => exact p) fun _ _ z => z
/-- if without else, the ways join in J -/
theorem go_join (J : L2.St → Hp → Prop) (h : TW X σ H c k) (h1 : k = true → ∀ H1, Ex H H1 → tSs X sts { D with nx := J } σ H1) (h2 : k = false → ∀ H1, Ex H H1 → J σ H1) (q : ∀ σ' H', J σ' H' → tSs X rest D σ' H') : tSs X (.If c sts [] pos :: rest) D σ H :=
  go_when h (fun e H1 z => tSs_nx (h1 e H1 z) q) fun e H1 z => q σ H1 (h2 e H1 z)
end
section
variable {spos py : Pos} {y : Str} {rest : List Stmt} {D : Ends}
theorem go_lcAny {wi : TI} {P : PV} (i : Nat) (x : Str) (j : Nat) (hN : X.N.Nodup) (hi : PI X (.Name x px) iter wi) (h : ∀ H1, Ex H H1 → ∀ Q : VK, Giv H1 P Q → tLc wi (gName j) (ttOf X scope []) (bE X scope elt) [j] σ H1 Q) (q : ∀ v H1, Ex H H1 → P v H1 → tSs X rest D (σ.set i (some v)) H1) (hc : X.calm = true := by rfl) (ok : blkC X.N X.env.scope scope [(x, j)] = true := by kernel_rfl) (hj : X.N[j]? = some x := by rfl) (hy : X.N[i]? = some y := by rfl) (hyl : X.env.scope.names.lookup y = some .local := by rfl)
    (hs : ∀ x, foldedSetIterable iter X.env x = pure x := by intro _; rfl) (hk : X.env.scope.kind = .function := by rfl) (hl : (py.line == pos.line) = true := by rfl) (ha : (scope.names.any fun (n, k) => n == y && (k == .local || k == .cell)) = false := by rfl)
    (hx : ∀ (cl : List (Str × Addr)) (C : Addr), Loc (compEnvC scope cl C X.env).scope x := by first | exact fun _ _ => Or.inl rfl | exact fun _ _ => Or.inr rfl)
    (hf : (scope.names.lookup x == some .cell) = true ∨ (∀ (cl : List (Str × Addr)) (C : Addr), (compEnvC scope cl C X.env).scope.names.lookup x = some .local) := by first | exact Or.inl rfl | exact Or.inr (fun _ _ => rfl)) : tSs X (.Assign [.Name y py] (.ListComp elt [⟨.Name x px, iter, [], 0⟩] scope pos) spos :: rest) D σ H :=
  go_cons (toS (ps_setLc (i := i) hc hN hy hyl (sw_true hk hyl hl ha) hi (blkOk_by ok) (fun s H0 C cl fp => pg_name (X := X.blk s H0 scope (compEnvC scope cl C X.env) fp) hN hj (hx cl C) (by
    rcases hf with z | z
    · exact .inl z
    · exact .inr (z cl C))) (fun s H0 C cl fp => pts_of (ifs := []) True.intro) (fun s H0 C cl fp => pbE) hs) (h H (Ex.refl H) _ fun v H2 z p => q v H2 z (p H2 (Ex.refl H2))))
theorem go_lcT {α : Type} {xs : List α} {enc : α → PyData} (i : Nat) (x : Str) (j : Nat) (f : α → PyData) (hN : X.N.Nodup) (hi : EV X σ H iter (.tuple (xs.map enc))) (hz : xs.length ≤ 40000)
    (he : ∀ (v : V) (y : α) (H1 : Hp), y ∈ xs → Ex H H1 → Is H1 v (enc y) → EB X scope (σ.set j (some v)) H1 elt (dat (f y))) (q : ∀ v H1, Ex H H1 → Fr H (xs.map f) v H1 → tSs X rest D (σ.set i (some v)) H1)
    (hc : X.calm = true := by rfl) (ok : blkC X.N X.env.scope scope [(x, j)] = true := by kernel_rfl) (hj : X.N[j]? = some x := by rfl) (hy : X.N[i]? = some y := by rfl) (hyl : X.env.scope.names.lookup y = some .local := by rfl)
    (hs : ∀ x, foldedSetIterable iter X.env x = pure x := by intro _; rfl) (hk : X.env.scope.kind = .function := by rfl) (hl : (py.line == pos.line) = true := by rfl) (ha : (scope.names.any fun (n, k) => n == y && (k == .local || k == .cell)) = false := by rfl)
    (hx : ∀ (cl : List (Str × Addr)) (C : Addr), Loc (compEnvC scope cl C X.env).scope x := by first | exact fun _ _ => Or.inl rfl | exact fun _ _ => Or.inr rfl)
    (hf : (scope.names.lookup x == some .cell) = true ∨ (∀ (cl : List (Str × Addr)) (C : Addr), (compEnvC scope cl C X.env).scope.names.lookup x = some .local) := by first | exact Or.inl rfl | exact Or.inr (fun _ _ => rfl)) : tSs X (.Assign [.Name y py] (.ListComp elt [⟨.Name x px, iter, [], 0⟩] scope pos) spos :: rest) D σ H :=
  go_lcAny i x j hN (pi_tup pE) (fun H1 z Q q => rd_lcT f hi hz z q he) q hc ok hj hy hyl hs hk hl ha hx hf
theorem go_lcR {n : Nat} {kk : Int} {p : Pos} (i : Nat) (x : Str) (j : Nat) (f : Nat → PyData) (hN : X.N.Nodup) (hm : X.mg "range" = none) (hi : EV X σ H a (.int kk)) (hkk : kk = (n : Int)) (hz : n ≤ 40000)
    (he : ∀ (y : Nat) (H1 : Hp), y < n → Ex H H1 → EB X scope (σ.set j (some (.int y))) H1 elt (dat (f y))) (q : ∀ v H1, Ex H H1 → Fr H ((List.range n).map f) v H1 → tSs X rest D (σ.set i (some v)) H1)
    (hc : X.calm = true := by rfl) (ok : blkC X.N X.env.scope scope [(x, j)] = true := by kernel_rfl) (hj : X.N[j]? = some x := by rfl) (hy : X.N[i]? = some y := by rfl) (hyl : X.env.scope.names.lookup y = some .local := by rfl) (hg : Gl X "range" := by rfl) (hs1 : starEach [a] X.env = [(false, eval a X.env)] := by rfl)
    (hk : X.env.scope.kind = .function := by rfl) (hl : (py.line == pos.line) = true := by rfl) (ha : (scope.names.any fun (n, k) => n == y && (k == .local || k == .cell)) = false := by rfl)
    (hx : ∀ (cl : List (Str × Addr)) (C : Addr), Loc (compEnvC scope cl C X.env).scope x := by first | exact fun _ _ => Or.inl rfl | exact fun _ _ => Or.inr rfl)
    (hf : (scope.names.lookup x == some .cell) = true ∨ (∀ (cl : List (Str × Addr)) (C : Addr), (compEnvC scope cl C X.env).scope.names.lookup x = some .local) := by first | exact Or.inl rfl | exact Or.inr (fun _ _ => rfl)) : tSs X (.Assign [.Name y py] (.ListComp elt [⟨.Name x px, .Call (.Name "range" p) [a] [] pos', [], 0⟩] scope pos) spos :: rest) D σ H :=
  go_lcAny i x j hN (pi_range1 hg hm pA hs1) (fun H1 z Q q => rd_lcR f hi hkk hz hs1 z q he) q hc ok hj hy hyl (by intro _; rfl) hk hl ha hx hf
end
theorem ExB.of {p : Addr} {H H' : Hp} {o u : HO} (h : ExB p H H') (hp : H p = some o) : Ex H (upd H' p o) := fun b q e => by
  by_cases z : b = p
  · rw [z] at e ⊢
    rw [hp] at e
    rw [upd_same, e]
  · rw [upd_ne z]
    exact h b q z e
end
theorem filt0 {α β : Type} {f : α → β} (t : α → Bool) : ∀ ps : List α, decide (((((ps.filter fun y => !(t y)).map f).length : Nat) : Int) = 0) = ps.all t
  | [] => rfl
  | a :: r => by
    cases h : t a with
    | true =>
      rw [List.filter_cons, if_neg (by rw [h]; decide), List.all_cons, h, Bool.true_and]
      exact filt0 t r
    | false =>
      rw [List.filter_cons, if_pos (by rw [h]; rfl), List.all_cons, h, Bool.false_and]
      refine decide_eq_false fun e => ?_
      rw [List.map_cons, List.length_cons] at e
      omega
theorem ixN_nat {n i : Nat} (h : i < n) : ixN n (i : Int) = some i := by
  have e := atI_nat (xs := List.range n) (j := i) (v := i) (List.getElem?_range h)
  unfold atI at e
  rw [List.length_range] at e
  cases q : ixN n (i : Int) with
  | none => rw [q] at e; cases e
  | some k =>
    rw [q] at e
    have e2 : (List.range n)[k]? = some i := e
    obtain ⟨hk, e3⟩ := List.getElem?_eq_some_iff.mp e2
    rw [List.getElem_range] at e3
    rw [e3]
theorem wsD_is {H : Hp} : ∀ ws : List Nat, IsA H (ws.map fun (n : Nat) => V.int (n : Int)) (wsD ws)
  | [] => .nil
  | n :: r => .cons (.int _) (wsD_is r)
theorem wsD_eq {H : Hp} : ∀ {ws : List Nat} {vs : List V}, IsA H vs (wsD ws) → vs = ws.map fun (n : Nat) => V.int (n : Int)
  | [], _, .nil => rfl
  | n :: r, _, .cons h t => by rw [h.int_eq, wsD_eq t]; rfl
def pinD : Pn → PyData
  | some (g, i, b) => .tuple [.str "pin", .str g, .int (i : Int), .int (bi b)]
  | none => .none
def pinHit (pin : Pn) (nm : Str) : Bool := match pin with
  | some (g, _, _) => decide (g = nm)
  | none => false
structure PassOk (p : Pt) (gv F : Wm) (pin : Pn) (n : Nat) : Prop where
  sm : Sm p
  kd : ∀ g ∈ p.gs, KdOk g.kd g.ps.length
  nd : (gv.map (·.1)).Nodup
  gl : gv.length ≤ 10
  fl : F.length ≤ 10
  bg : Bd n gv
  bf : Bd n F
  pin : ∀ g i b, pin = some (g, i, b) → ∀ t ∈ p.gs, t.nm = g → i < t.ps.length
def lPass (p : Pt) (gv F : Wm) (pin : Pn) (n : Nat) : Wm := lpN F pin (2 ^ n - 1) p.gs (seed F gv) p.gs.length
def DkR (m : Wm) : PV := fun v H2 => ∃ l, v = .ref l ∧ H2 l = some (.dK (encI m))
def spPass : Sp := fun vs H Q _ => ∃ p ag af gv F pin n v1 v5, vs = [v1, .ref ag, .int ((2 ^ n - 1 : Nat) : Int), .ref af, v5] ∧ Is H v1 (ptD p) ∧ H ag = some (.dK (encI gv)) ∧ H af = some (.dK (encI F)) ∧ Is H v5 (pinD pin) ∧ PassOk p gv F pin n ∧
  Giv H (DkR (lPass p gv F pin n)) Q
theorem seed_len {F gv : Wm} : (seed F gv).length = gv.length := List.length_map ..
theorem seed_keys {F gv : Wm} : (seed F gv).map (·.1) = gv.map (·.1) := by
  unfold seed
  rw [List.map_map]
  rfl
section
variable {P : Program} {w : World} {K : PySem.W.Frag} {mg : Str → Option Value} {base : Heap}
theorem ok_L_pass (g : Gd P w K mg base) : Fnc P w K mg base 2 "_law_pass" spPass := by
  refine g.fnc 48 29 d_L_pass "_law_pass" _ _ sc_L_pass ?_ ?_ bn_L_pass
  · rintro vs H Q E ⟨p, ag, af, gv, F, pin, n, v1, v5, rfl, _⟩
    rfl
  · rintro cdv A outer s H vs Q E hr ⟨p, ag, af, gv, F, pin, n, v1, v5, rfl, h1, hag, haf, h5, ok, q⟩
    have sg := ok.sm.gs
    generalize hm : ((2 ^ n - 1 : Nat) : Int) = full at *
    refine go_set 5 sc_L_pass.nd ew_dnew fun w1 H1 z1 ⟨ak, e1, hn1, hk1⟩ => ?_
    subst e1
    have nag : ak ≠ ag := fun e => by rw [e, hag] at hn1; cases hn1
    refine go_forK (passes_of rfl) rfl (l := ag) (kvs := encI gv) (z1 _ _ hag) (fun H' => ex_v 1) fun od H2 z2 => ⟨fun i σ' H' => ∃ y, σ' = [some v1, some (.ref ag), some (.int full), some (.ref af), some v5, some (.ref ak), y, none, none, none, none, none, none] ∧ ExB ag H H' ∧ H' ag = some (.frz od (.dK (encI gv))) ∧ H' ak = some (.dK (encI (seed F (gv.take i)))), ⟨none, rfl, fun b o hb h => z2 _ _ (by rw [upd_ne hb]; exact z1 _ _ h), z2 _ _ upd_same, z2 _ _ (by rw [upd_ne nag]; exact hk1)⟩, fun i σ' H' pv => ?_, fun i k v σ' H' e1 pv => ?_, fun σ' H' pv => ?_⟩
    · obtain ⟨_, _, _, h, _⟩ := pv
      exact h
    · obtain ⟨y, rfl, z, hag', hak⟩ := pv
      obtain ⟨⟨x, m⟩, e3, e4⟩ := gems e1
      cases e4
      have rdf : Rd H' af (.dK (encI F)) := by
        by_cases e : af = ag
        · rw [e] at haf ⊢
          have e8 : HO.dK (encI F) = .dK (encI gv) := Option.some.inj (haf.symm.trans hag)
          exact .inr ⟨od, by rw [e8]; exact hag'⟩
        · exact .inl (z af _ e haf)
      have lx : lkp gv x = some m := lkp_nodup ok.nd (memAt e3)
      have hnew : lkp (seed F (gv.take i)) x = none := lkp_none.mpr (by
        rw [seed_keys]
        intro hx
        obtain ⟨j, hj⟩ := List.getElem?_of_mem hx
        rw [List.map_take, List.getElem?_take] at hj
        split at hj
        · rename_i hlt
          have e5 : (gv.map (·.1))[i]? = some x := by rw [List.getElem?_map, e3]; rfl
          have := (List.getElem?_inj (List.getElem?_eq_some_iff.mp hj).1 ok.nd).mp (hj.trans e5.symm)
          omega
        · cases hj)
      have gl := ok.gl
      refine gt_n 6 sc_L_pass.nd (go_dput (l := ak) (z := x) (by have := hr.units; omega) (ex_dget2 (u := .int (m : Int)) hr (ex_v 3) (ev_n 6 (.str x)) (ex_dget hr (ex_v 1) (ev_n 6 (.str x)) (.inr ⟨od, hag'⟩) (val_some lx)) rdf (val_enc x F)) (ex_v 5) (ev_n 6 (.str x)) hak (by unfold encI; rw [List.length_map, seed_len, List.length_take]; omega) fun v6 H6 z6 p6 => go_nil ?_)
      have p6 : v6 = ((lkp F x).map fun (n : Nat) => V.int (n : Int)).getD (.int (m : Int)) := p6
      have e6 : v6 = .int (((lkp F x).getD m : Nat) : Int) := by
        rw [p6]
        cases lkp F x <;> rfl
      have hs : seed F (gv.take (i + 1)) = seed F (gv.take i) ++ [(x, (lkp F x).getD m)] := by
        unfold seed
        rw [List.take_add_one, e3, List.map_append]
        rfl
      refine ⟨some (.str x), rfl, fun b o hb h => ?_, by rw [upd_ne (Ne.symm nag)]; exact z6 _ _ hag', ?_⟩
      · rw [upd_ne (ne_of_none h hn1)]
        exact z6 _ _ (z b o hb h)
      · rw [upd_same, hs, e6, put_enc hnew]
    · obtain ⟨y, rfl, z, hag', hak⟩ := pv
      have e7 : gv.take (encI gv).length = gv := by
        unfold encI
        rw [List.length_map, List.take_length]
      rw [e7] at hak
      have zu : Ex H (upd H' ag (.dK (encI gv))) := fun b o h => by
        by_cases e : b = ag
        · rw [e] at h ⊢
          rw [hag] at h
          rw [upd_same, h]
        · rw [upd_ne e]
          exact z b o e h
      have hak' : upd H' ag (.dK (encI gv)) ak = some (.dK (encI (seed F gv))) := by rw [upd_ne nag]; exact hak
      generalize upd H' ag (.dK (encI gv)) = HA at *
      clear hak z hag'
      have gl := ok.gl
      refine go_forR (n := p.gs.length) (passes_of rfl) rfl g.range (EV.is (ev_lenT g.len (ev_ixT (ds := [_, _, _, _]) (d := .tuple (p.gs.map gD)) (ev_n 0 (h1.mono zu)) ev_int (atI_n (j := 2) rfl 2 rfl))) (by rw [List.length_map])) (by omega) fun H2 z2 => ⟨fun t σ' H' => ∃ y7 y8 y9 y10 y12, σ' = [some v1, some (.ref ag), some (.int full), some (.ref af), some v5, some (.ref ak), y, y7, y8, y9, y10, none, y12] ∧ Ex H H' ∧ H' ak = some (.dK (encI (lpN F pin (2 ^ n - 1) p.gs (seed F gv) t))), ⟨none, none, none, none, none, rfl, zu.trans z2, z2 _ _ hak'⟩, fun t σ' H' ht pv => ?_, fun σ' H' pv => ?_⟩
      · obtain ⟨y7, y8, y9, y10, y12, rfl, z, hk⟩ := pv
        have ltn := lpN_len (F := F) (pin := pin) (f := 2 ^ n - 1) (gs := p.gs) (m := seed F gv) t
        rw [seed_len] at ltn
        have lt2 : p.gs.length * t ≤ 10 * 10 := Nat.mul_le_mul (by omega) (by omega)
        have bd := ok.bf.lpN (pin := pin) (ok.bf.seed ok.bg) ok.kd t
        refine gt_n 7 sc_L_pass.nd ?_
        generalize hM : lpN F pin (2 ^ n - 1) p.gs (seed F gv) t = M at *
        refine go_forT (ds := p.gs.map gD) (passes_of rfl) rfl (ev_ixT (ev_n 0 (h1.mono z)) ev_int (atI_n (j := 2) rfl 2 rfl)) fun l3 xs3 H3 z3 hl3 hs3 => ⟨fun i σ' H' => ∃ y8 y9 y10 y12, σ' = [some v1, some (.ref ag), some (.int full), some (.ref af), some v5, some (.ref ak), y, some (.int t), y8, y9, y10, none, y12] ∧ Ex H H' ∧ H' l3 = some (.tup xs3) ∧ ExT H3 H' ∧ H' ak = some (.dK (encI ((p.gs.take i).foldl (lpG F pin (2 ^ n - 1)) M))), ⟨y8, y9, y10, y12, rfl, z.trans z3, hl3, ExT.refl _, z3 _ _ hk⟩, fun i σ' H' pv => ?_, fun i v d σ' H' e1 e2 ri pv => ?_, fun σ' H' pv => ?_⟩
        · obtain ⟨_, _, _, _, _, _, h, _⟩ := pv
          exact h
        · obtain ⟨y8, y9, y10, y12, rfl, z, hl3', xt, hk⟩ := pv
          obtain ⟨x, e3, rfl⟩ := gems e2
          have hx := ok.sm.ps x (memAt e3)
          have e4 : (p.gs.take (i + 1)).foldl (lpG F pin (2 ^ n - 1)) M = lpG F pin (2 ^ n - 1) ((p.gs.take i).foldl (lpG F pin (2 ^ n - 1)) M) x := by rw [List.take_add_one, e3]; simp
          have lf := lpF_len (F := F) (pin := pin) (f := 2 ^ n - 1) (gs := p.gs.take i) (m := M)
          rw [List.length_take] at lf
          have bf := ok.bf.lpF (pin := pin) (gs := p.gs.take i) bd fun g hg => ok.kd g (List.mem_of_mem_take hg)
          generalize hF : (p.gs.take i).foldl (lpG F pin (2 ^ n - 1)) M = N at *
          have tdg : TD (gD x) := .tup fun d hd => by
            simp only [List.mem_cons, List.mem_nil_iff, or_false] at hd
            rcases hd with rfl | rfl | rfl
            · exact .str _
            · exact .str _
            · exact .tup (TD.str' _)
          refine gt_tup3 rfl (ri.tmono xt tdg) fun u1 u2 u3 i1 i2 i3 => gt_n 8 sc_L_pass.nd (gt_n 9 sc_L_pass.nd (gt_n 10 sc_L_pass.nd ?_))
          have kl : (encI N).length = N.length := List.length_map ..
          have put : ∀ {H5 : Hp} {v : V} (y12 : Option V), Ex H' H5 → canG N x = true → v = .int (gvAt F pin (2 ^ n - 1) N x : Nat) → ∃ y8 y9 y10 y12', [some v1, some (.ref ag), some (.int full), some (.ref af), some v5, some (.ref ak), y, some (.int t), some u1, some u2, some u3, none, y12] = [some v1, some (.ref ag), some (.int full), some (.ref af), some v5, some (.ref ak), y, some (.int t), y8, y9, y10, none, y12'] ∧ Ex H (upd H5 ak (.dK (putK (encI N) (.inr x.nm) v))) ∧ upd H5 ak (.dK (putK (encI N) (.inr x.nm) v)) l3 = some (.tup xs3) ∧ ExT H3 (upd H5 ak (.dK (putK (encI N) (.inr x.nm) v))) ∧ upd H5 ak (.dK (putK (encI N) (.inr x.nm) v)) ak = some (.dK (encI ((p.gs.take (i + 1)).foldl (lpG F pin (2 ^ n - 1)) M))) := fun {H5 v} y12 z5 can ev => by
            have cn : lkp N x.nm = none := by
              unfold canG at can
              simp only [Bool.and_eq_true, Option.isNone_iff_eq_none] at can
              exact can.1
            refine ⟨some u1, some u2, some u3, y12, rfl, Ex.put (z.trans z5) hn1, ?_, (xt.trans (.of z5)).put (z5 _ _ hk) (fun _ q => nomatch q), ?_⟩
            · rw [upd_ne (ne_of (z5 _ _ hl3') (z5 _ _ hk) (fun q => nomatch q))]
              exact z5 _ _ hl3'
            · rw [upd_same, e4, ev, put_enc cn]
              unfold lpG
              rw [if_pos can]
          refine go_when (k := canG N x) (TW.is (tw_w (ww_and (tw_dni hr (ev_n 8 i1) (ex_v 5) (.inl hk)) fun _ => ww_and1 (tw_cmp op_eq rfl (ev_lenL g.len (ev_lcTf (xs := x.ps) (enc := PyData.str) "_law_one" 11 PyData.str (fun y => !(lkp N y).isSome) sc_L_pass.nd (ev_n 10 i3) (by omega) (fun v y H6 _ z6 r6 s1 H0 C cl fp => TW.is (tw_dni hr (ev_n 11 r6) (ex_v 5) (.inl (z6 _ _ hk))) (by rw [val_enc, Option.isSome_map])) fun v y H6 _ z6 r6 s1 H0 C cl fp => ev_n 11 r6)) ev_int rb_eqI))) (by rw [val_enc, Option.isSome_map, filt0]; unfold canG; cases lkp N x.nm <;> rfl)) (fun can H5 z5 => ?_) fun can H5 z5 => ?_
          · have pins : ∀ y ∈ x.ps, ∃ m, lkp N y = some m := fun y hy => by
              have c := can
              unfold canG at c
              simp only [Bool.and_eq_true, List.all_eq_true] at c
              exact Option.isSome_iff_exists.mp (c.2 y hy)
            have i1 := i1.mono z5; have i2 := i2.mono z5; have i3 := i3.mono z5
            refine go_lcT (xs := x.ps) (enc := PyData.str) 12 "_law_one" 11 (fun y => .int (((lkp N y).getD 0 : Nat) : Int)) sc_L_pass.nd (ev_n 10 i3) (by omega) (fun v y H6 hy z6 r6 s1 H0 C cl fp => ?_) fun w6 H6 z6 ⟨aw, ys, e6, hn6, haw, hys⟩ => ?_
            · obtain ⟨m, em⟩ := pins y hy
              rw [em]
              exact EX.at_ (ex_dget hr (ex_v 5) (ev_n 11 r6) (.inl (z6 _ _ (z5 _ _ hk))) (val_some em)) (.int _)
            subst e6
            have eys : ys = (wsAt N x).map fun (n : Nat) => V.int (n : Int) := by
              refine wsD_eq (ws := wsAt N x) (H := H6) ?_
              unfold wsAt wsD
              rw [List.map_map]
              exact hys
            subst eys
            have i1 := i1.mono z6; have i2 := i2.mono z6
            have z56 := z5.trans z6
            have nak : ak ≠ aw := ne_of_none (z5 _ _ hk) hn6
            refine go_join (fun σ' H7 => σ' = [some v1, some (.ref ag), some (.int full), some (.ref af), some v5, some (.ref ak), y, some (.int t), some u1, some u2, some u3, none, some (.ref aw)] ∧ Ex H5 H7 ∧ H7 aw = some (.lst ((pinF pin x.nm (wsAt N x) (2 ^ n - 1)).map fun (n : Nat) => V.int (n : Int)))) (k := pinHit pin x.nm) ?_ (fun kt H7 z7 => ?_) (fun kt H7 z7 => ⟨rfl, z6.trans z7, ?_⟩) fun σ' H7 ⟨eσ, z7, h7⟩ => ?_
            · have h5' := h5.mono (z.trans (z5.trans z6))
              cases hpn : pin with
              | none =>
                rw [hpn] at h5'
                have e5 := Is.non_eq h5'
                exact TW.is (tw_w (ww_and (k := false) (l := false) (TW.is (tw_notN (ex_v 4)) (by rw [e5]; rfl)) fun e => nomatch e)) rfl
              | some pv =>
                obtain ⟨pg, pi, pb⟩ := pv
                rw [hpn] at h5'
                have e5 : v5 ≠ .non := fun e => by rw [e] at h5'; cases h5'
                exact TW.is (tw_w (ww_and (k := true) (TW.is (tw_notN (ex_v 4)) (by rw [decide_eq_false e5]; rfl)) fun _ => ww_and1 (tw_cmp op_eq rfl (ev_ixT (ev_n 4 h5') ev_int (atI_n (j := 1) rfl 1 rfl)) (ev_n 8 i1) rb_eqS))) rfl
            · have h5' := h5.mono (z.trans (z5.trans (z6.trans z7)))
              cases hpn : pin with
              | none =>
                rw [hpn] at kt
                exact nomatch kt
              | some pv =>
                obtain ⟨pg, pi, pb⟩ := pv
                rw [hpn] at kt h5'
                have eg : pg = x.nm := of_decide_eq_true kt
                have hlt := ok.pin pg pi pb hpn x (memAt e3) eg.symm
                have hw7 := z7 _ _ haw
                have wl : (wsAt N x).length = x.ps.length := List.length_map ..
                refine go_lput (n := pi) (ev_mulR (ev_n 2 (.int _)) (ev_ixT (ev_n 4 h5') ev_int (atI_n (j := 3) rfl 3 rfl)) (by cases pb <;> decide)) (ex_v 12) (ev_ixT (ev_n 4 h5') ev_int (atI_n (j := 2) rfl 2 rfl)) hw7 (by rw [List.length_map, wl]; exact ixN_nat hlt) fun v8 H8 z8 p8 => go_nil ⟨rfl, Ex.put ((z6.trans z7).trans z8) hn6, ?_⟩
                rw [upd_same, p8.int_eq]
                show some (HO.lst _) = some (.lst ((if pg = x.nm then (wsAt N x).set pi (if pb then 2 ^ n - 1 else 0) else wsAt N x).map _))
                rw [if_pos eg, List.map_set, ← hm]
                cases pb
                · simp [bi]
                · simp [bi]
            · have e9 : pinF pin x.nm (wsAt N x) (2 ^ n - 1) = wsAt N x := by
                unfold pinF
                cases hpn : pin with
                | none => rfl
                | some pv =>
                  obtain ⟨pg, pi, pb⟩ := pv
                  rw [hpn] at kt
                  exact if_neg (of_decide_eq_false kt)
              rw [e9]
              exact z7 _ _ haw
            · subst eσ
              have i1' : Is H7 u1 (.str x.nm) := by rw [i1.str_eq]; exact .str _
              have i2' : Is H7 u2 (.str x.kd) := by rw [i2.str_eq]; exact .str _
              have zz := z.trans (z5.trans z7)
              refine go_dput (l := ak) (z := x.nm) (by have := hr.units; omega) (ex_dget2 (k := 1) hr (ex_v 3) (ev_n 8 i1') (EW.ofInt (ev_callD (ok_L_gate g) hr (Nat.le_refl _) (av_cons (ev_n 9 i2') (av_cons (ev_n 12 (.lst h7 (wsD_is _))) (av_cons (ev_n 2 (.int _)) av_nil))) ⟨x.kd, pinF pin x.nm (wsAt N x) (2 ^ n - 1), n, by rw [hm], ?_, pinF_lt (wsAt_lt bf), rfl⟩)) (.inl (zz _ _ haf)) (val_enc x.nm F)) (ex_v 5) (ev_n 8 i1') (z7 _ _ (z5 _ _ hk)) (by omega) fun v8 H8 z8 p8 => go_nil (go_nil ?_)
              · rw [pinF_len]
                unfold wsAt
                rw [List.length_map]
                exact ok.kd x (memAt e3)
              · refine put (some (.ref aw)) (z5.trans (z7.trans z8)) can ?_
                have p8 : v8 = ((lkp F x.nm).map fun (n : Nat) => V.int (n : Int)).getD (.int (gW x.kd (pinF pin x.nm (wsAt N x) (2 ^ n - 1)) (2 ^ n - 1) : Nat)) := p8
                rw [p8]
                unfold gvAt
                cases lkp F x.nm <;> rfl
          · refine go_nil ⟨some u1, some u2, some u3, y12, rfl, z.trans z5, z5 _ _ hl3', xt.trans (.of z5), ?_⟩
            rw [e4]
            unfold lpG
            rw [if_neg (by rw [can]; exact Bool.false_ne_true)]
            exact z5 _ _ hk
        · obtain ⟨y8, y9, y10, y12, rfl, z, _, _, hk⟩ := pv
          rw [List.length_map, List.take_length] at hk
          exact go_nil ⟨some (.int t), y8, y9, y10, y12, rfl, z, by
            show H' ak = some (.dK (encI (p.gs.foldl (lpG F pin (2 ^ n - 1)) (lpN F pin (2 ^ n - 1) p.gs (seed F gv) t))))
            rw [hM]
            exact hk⟩
      · obtain ⟨y7, y8, y9, y10, y12, rfl, z, hk⟩ := pv
        exact go_out (EW.imp (ex_v 5) fun v H5 z5 p5 => ⟨ak, p5, z5 _ _ hk⟩) z q
end
end Pw
namespace Pw
open PySem PySem.Spec L2
open Evl (Ex)
/-! ### the law's words -/
structure Wf (p : Pt) : Prop where
  sm : Sm p
  nd : p.lns.Nodup
  kd : ∀ g ∈ p.gs, KdOk g.kd g.ps.length
  topo : ∃ ord : List G, ord.Perm p.gs ∧ Topo p.src ord
  snk : ∀ x ∈ p.snk, x ∈ p.lns
def col (pats : List (List Bool)) (k : Nat) : List Bool := pats.map fun b => b.getD k false
def Pt.nth (p : Pt) (k : Nat) : Str := (p.src[k]?).getD ⟨#[]⟩
def givN (p : Pt) (pats : List (List Bool)) (i : Nat) : Wm := (List.range i).map fun k => (p.nth k, wd (col pats k))
def giv (p : Pt) (pats : List (List Bool)) : Wm := givN p pats p.src.length
def voD : Option Vn → PyData
  | some v => vD v
  | none => .none
def patsD (pats : List (List Bool)) : PyData := .list (pats.map fun b => .tuple (bitsD b))
/-- a version that the walks can meet -/
def VGo (p : Pt) : Option Vn → Prop
  | some (.stem l b) => True
  | some (.pin g i b) => ∀ t ∈ p.gs, t.nm = g → i < t.ps.length
  | some (.short a b k) => a ∈ p.lns ∧ b ∈ p.lns ∧ a ≠ b
  | none => True
def pinOf : Option Vn → Pn
  | some (.pin g i b) => some (g, i, b)
  | _ => none
def comb (k : Bool) (x y : Nat) : Nat := if k then x &&& y else x ||| y
def Fs (plain : Wm) (full : Nat) : Option Vn → Wm
  | some (.stem l b) => [(l, if b then full else 0)]
  | some (.short a b k) => [(a, comb k ((lkp plain a).getD 0) ((lkp plain b).getD 0)), (b, comb k ((lkp plain a).getD 0) ((lkp plain b).getD 0))]
  | _ => []
def lWords (p : Pt) (ver : Option Vn) (pats : List (List Bool)) : Wm :=
  lPass p (giv p pats) (Fs (lPass p (giv p pats) [] none pats.length) (2 ^ pats.length - 1) ver) (pinOf ver) pats.length
def lRes (p : Pt) (ver : Option Vn) (pats : List (List Bool)) : List (List Bool) := (List.range pats.length).map fun j => p.snk.map fun x => ((lkp (lWords p ver pats) x).getD 0).testBit j
theorem nth_get {p : Pt} {k : Nat} (h : k < p.src.length) : p.src[k]? = some (p.nth k) := by
  unfold Pt.nth
  rw [List.getElem?_eq_getElem h]
  rfl
theorem giv_keys (p : Pt) (pats : List (List Bool)) : ∀ i, i ≤ p.src.length → (givN p pats i).map (·.1) = p.src.take i
  | 0, _ => rfl
  | i + 1, h => by
    have ih := giv_keys p pats i (by omega)
    unfold givN at ih ⊢
    rw [List.range_succ, List.map_append, List.map_append, ih, List.take_add_one, nth_get (by omega)]
    rfl
theorem giv_keys' (p : Pt) (pats : List (List Bool)) : (giv p pats).map (·.1) = p.src := by
  unfold giv
  rw [giv_keys p pats _ (Nat.le_refl _), List.take_length]
theorem col_len (pats : List (List Bool)) (k : Nat) : (col pats k).length = pats.length := List.length_map ..
theorem giv_bd (p : Pt) (pats : List (List Bool)) : Bd pats.length (giv p pats) := fun q hq => by
  obtain ⟨k, _, rfl⟩ := List.mem_map.mp hq
  have := wd_lt (col pats k)
  rw [col_len] at this
  exact this
theorem wd_ones : ∀ n : Nat, wd (List.replicate n true) = 2 ^ n - 1
  | 0 => rfl
  | n + 1 => by
    have := Nat.two_pow_pos n
    rw [List.replicate_succ, wd, wd_ones n, Nat.pow_succ]
    show 1 + 2 * (2 ^ n - 1) = _
    omega
theorem ones_eq : ∀ n : Nat, (List.replicate n [PyData.int 1]).flatten = bitsD (List.replicate n true)
  | 0 => rfl
  | n + 1 => by
    rw [List.replicate_succ, List.flatten_cons, ones_eq n]
    rfl
theorem Fs_short {plain : Wm} {f : Nat} {a b : Str} {k : Bool} {na nb : Nat} (ea : lkp plain a = some na) (eb : lkp plain b = some nb) : Fs plain f (some (.short a b k)) = [(a, comb k na nb), (b, comb k na nb)] := by
  show [(a, comb k ((lkp plain a).getD 0) ((lkp plain b).getD 0)), (b, comb k ((lkp plain a).getD 0) ((lkp plain b).getD 0))] = _
  rw [ea, eb]
  rfl
theorem comb_lt {k : Bool} {x y n : Nat} (h1 : x < 2 ^ n) (h2 : y < 2 ^ n) : comb k x y < 2 ^ n := by
  unfold comb
  split
  · exact Nat.and_lt_two_pow _ h2
  · exact Nat.or_lt_two_pow h1 h2
theorem Fs_bd {plain : Wm} {n : Nat} (h : Bd n plain) (v : Option Vn) : Bd n (Fs plain (2 ^ n - 1) v) := fun q hq => by
  match v, hq with
  | some (.stem l b), hq =>
    have e := List.mem_singleton.mp hq
    rw [e]
    show (if b then 2 ^ n - 1 else 0) < 2 ^ n
    split
    · exact pow_m1 n
    · exact Nat.two_pow_pos n
  | some (.short a b k), hq =>
    have w := comb_lt (k := k) (h.get a) (h.get b)
    rcases List.mem_cons.mp hq with e | e
    · rw [e]; exact w
    · rw [List.mem_singleton.mp e]; exact w
theorem Fs_len {plain : Wm} {f : Nat} (v : Option Vn) : (Fs plain f v).length ≤ 2 := by
  match v with
  | some (.stem _ _) => exact (by decide : 1 ≤ 2)
  | some (.short _ _ _) => exact Nat.le_refl 2
  | some (.pin _ _ _) => exact Nat.zero_le 2
  | none => exact Nat.zero_le 2
theorem passOk {p : Pt} (wf : Wf p) (pats : List (List Bool)) {F : Wm} {pin : Pn} (hl : F.length ≤ 10) (hF : Bd pats.length F) (hp : ∀ g i b, pin = some (g, i, b) → ∀ t ∈ p.gs, t.nm = g → i < t.ps.length) : PassOk p (giv p pats) F pin pats.length where
  sm := wf.sm
  kd := wf.kd
  nd := by
    rw [giv_keys']
    exact (List.nodup_append.mp wf.nd).1
  gl := by
    have e := congrArg List.length (giv_keys' p pats)
    rw [List.length_map] at e
    rw [e]
    exact wf.sm.src
  fl := hl
  bg := giv_bd p pats
  bf := hF
  pin := hp
theorem lPass_bd {p : Pt} {gv F : Wm} {pin : Pn} {n : Nat} (ok : PassOk p gv F pin n) : Bd n (lPass p gv F pin n) := ok.bf.lpN (ok.bf.seed ok.bg) ok.kd _
/-- a pass is a solution -/
theorem lPass_sol {p : Pt} (wf : Wf p) (pats : List (List Bool)) (F : Wm) (pin : Pn) : Sol p.src p.gs F pin (2 ^ pats.length - 1) (seed F (giv p pats)) (lPass p (giv p pats) F pin pats.length) := by
  obtain ⟨ord, pm, tp⟩ := wf.topo
  exact law_sol (by rw [seed_keys, giv_keys']) wf.nd pm tp
theorem Sol.there {S : List Str} {gs : List G} {F : Wm} {pin : Pn} {full : Nat} {m0 m : Wm} (h : Sol S gs F pin full m0 m) (hk : m0.map (·.1) = S) {x : Str} (hx : x ∈ S ++ gs.map (·.nm)) : ∃ n, lkp m x = some n := by
  rcases List.mem_append.mp hx with hx | hx
  · rw [h.src x hx]
    exact lkp_some_of (by rw [hk]; exact hx)
  · obtain ⟨g, hg, rfl⟩ := List.mem_map.mp hx
    exact ⟨_, h.gate g hg⟩
theorem lPass_there {p : Pt} (wf : Wf p) (pats : List (List Bool)) (F : Wm) (pin : Pn) {x : Str} (hx : x ∈ p.lns) : ∃ n, lkp (lPass p (giv p pats) F pin pats.length) x = some n :=
  (lPass_sol wf pats F pin).there (by rw [seed_keys, giv_keys']) hx
/-- the patterns fit the sources -/
def PatOk (p : Pt) (pats : List (List Bool)) : Prop := pats.length ≤ 500 ∧ ∀ b ∈ pats, b.length = p.src.length
def kdOf : Vn → Str
  | .stem _ _ => "stem"
  | .pin _ _ _ => "pin"
  | .short _ _ _ => "short"
def stF (ver : Option Vn) (full : Nat) : Wm := match ver with
  | some (.stem l b) => [(l, if b then full else 0)]
  | _ => []
def isKd (v : Option Vn) (z : Str) : Bool := match v with
  | some v => decide (kdOf v = z)
  | none => false
section
variable {X : Cx} {a b : Expr} {σ : L2.St} {H : Hp} {v : V} {D : Ends} {rest : List Stmt} {j1 j2 j3 i j : Nat} {p1 p2 p3 p4 p5 p6 pos px py pt pt2 : Pos} {kt k2 : Nat} {x y : Str} {u w : V}
theorem tw_vkd {ver : Option Vn} (z : Str) (ha : EX X σ H a v) (hb : EX X σ H b v) (hv : Is H v (voD ver)) : TW X σ H (.BoolOp .And [.Compare a [.IsNot] [.Constant .none j1 p1] p2, .Compare (.Subscript b (.Constant (.int 0) j2 p3) p4) [.Eq] [.Constant (.str z) j3 p5] p6] pos) (isKd ver z) := by
  cases ver with
  | none =>
    have e5 := Is.non_eq hv
    exact TW.is (tw_w (ww_and (k := false) (l := false) (TW.is (tw_notN ha) (by rw [e5]; rfl)) fun e => nomatch e)) rfl
  | some vn =>
    have e5 : v ≠ .non := fun e => by
      rw [e] at hv
      cases vn <;> cases hv
    have ix : EV X σ H (.Subscript b (.Constant (.int 0) j2 p3) p4) (.str (kdOf vn)) := by
      cases vn with
      | stem l b => exact ev_ixT (EX.at_ hb hv) ev_int (atI_n (j := 0) rfl 0 rfl)
      | pin l i b => exact ev_ixT (EX.at_ hb hv) ev_int (atI_n (j := 0) rfl 0 rfl)
      | short l i b => exact ev_ixT (EX.at_ hb hv) ev_int (atI_n (j := 0) rfl 0 rfl)
    exact TW.is (tw_w (ww_and (k := true) (TW.is (tw_notN ha) (by rw [decide_eq_false e5]; rfl)) fun _ => ww_and1 (tw_cmp op_eq rfl ix ev_str rb_eqS))) rfl
/-- x, y = a, b -/
theorem go_par (i j : Nat) (hN : X.N.Nodup) (ha : EX X σ H a u) (hb : EX X σ H b w) (q : ∀ H1, Ex H H1 → tSs X rest D ((σ.set i (some u)).set j (some w)) H1) (hij : i ≠ j := by decide) (hc : X.calm = true := by rfl) (hi : X.N[i]? = some x := by rfl) (hj : X.N[j]? = some y := by rfl)
    (hx : X.env.scope.names.lookup x = some .local := by rfl) (hy : X.env.scope.names.lookup y = some .local := by rfl) (he : starEach [a, b] X.env = (false, eval a X.env) :: starEach [b] X.env := by rfl) (he2 : starEach [b] X.env = (false, eval b X.env) :: starEach [] X.env := by rfl)
    (hw : swappedStores [.Tuple [.Name x px, .Name y py] kt pt] (.Tuple [a, b] k2 pt2) X.env = pure (some [x, y]) := by rfl) (hs : swapsWithSole [.Tuple [.Name x px, .Name y py] kt pt] (.Tuple [a, b] k2 pt2) pos.line X.env = pure false := by rfl) :
    tSs X (.Assign [.Tuple [.Name x px, .Name y py] kt pt] (.Tuple [a, b] k2 pt2) pos :: rest) D σ H :=
  go_cons (toS (ps_par hc hN hi hj hij hx hy pA hw hs) ((aw_cons ha (aw_cons hb aw_nil he2) he).run fun vs H1 z ⟨v1, r, e1, p1, v2, r2, e2, p2, e3⟩ => ⟨v1, v2, by rw [e1, e2, e3], by
    rw [show v1 = u from p1, show v2 = w from p2]
    exact q H1 z⟩))
end
def spLWords : Sp := fun vs H Q _ => ∃ p ver pats v1 v2 v3, vs = [v1, v2, v3] ∧ Is H v1 (ptD p) ∧ Is H v2 (voD ver) ∧ Is H v3 (patsD pats) ∧ Wf p ∧ VGo p ver ∧ PatOk p pats ∧ Giv H (DkR (lWords p ver pats)) Q
section
variable {P : Program} {w : World} {K : PySem.W.Frag} {mg : Str → Option Value} {base : Heap}
theorem ok_L_words (g : Gd P w K mg base) : Fnc P w K mg base 3 "_law_words" spLWords := by
  refine g.fnc 51 32 d_L_words "_law_words" _ _ sc_L_words ?_ ?_ bn_L_words
  · rintro vs H Q E ⟨p, ver, pats, v1, v2, v3, rfl, _⟩
    rfl
  · rintro cdv A outer s H vs Q E hr ⟨p, ver, pats, v1, v2, v3, rfl, h1, h2, h3, wf, vg, po, q⟩
    have pl := po.1
    have sl := wf.sm.src
    refine go_set (P := dat (.int ((2 ^ pats.length - 1 : Nat) : Int))) 3 sc_L_words.nd (EV.is (ev_callD (ok_L_word g) (hr.mono (by omega)) (Nat.le_refl _) (av_cons (EV.is (ev_rep (ev_lst (av_cons ev_int av_nil)) (ev_lenL g.len (ev_n 2 h3)) (by omega) (by rw [List.length_map]; omega) (by decide)) (by rw [List.length_map, Int.toNat_natCast, ones_eq])) av_nil) ⟨_, rfl, rfl⟩) (by rw [wd_ones])) fun w1 H1 z1 p1 => ?_
    rw [p1.int_eq]
    generalize hm : ((2 ^ pats.length - 1 : Nat) : Int) = full at *
    refine go_set 4 sc_L_words.nd (ev_callD (ok_L_sources g) (hr.mono (by omega)) (Nat.le_refl _) (av_cons (ev_n 0 (h1.mono z1)) av_nil) ⟨p, rfl, wf.sm, rfl⟩) fun v4 H2 z2 h4 => ?_
    refine go_set 5 sc_L_words.nd ew_dnew fun w5 H3 z3 ⟨ag, e5, hn5, hg5⟩ => ?_
    subst e5
    have h4' := Is.mono z3 h4
    refine go_forR (n := p.src.length) (passes_of rfl) rfl g.range (EV.is (ev_lenL g.len (ev_n 4 h4')) (by rw [List.length_map])) (by omega) fun H4 z4 => ⟨fun i σ' H' => ∃ y, σ' = [some v1, some v2, some v3, some (.int full), some v4, some (.ref ag), y, none, none, none, none, none, none, none] ∧ Ex H2 H' ∧ H' ag = some (.dK (encI (givN p pats i))), ⟨none, rfl, z3.trans z4, z4 _ _ hg5⟩, fun i σ' H' hi pv => ?_, fun σ' H' pv => ?_⟩
    · obtain ⟨y, rfl, z, hg⟩ := pv
      have zz := (z1.trans z2).trans z
      have gl : (encI (givN p pats i)).length = i := by
        unfold encI givN
        rw [List.length_map, List.length_map, List.length_range]
      refine gt_n 6 sc_L_words.nd (go_dput (l := ag) (z := p.nth i) (by have := hr.units; omega) (ev_callD (ok_L_word g) (hr.mono (by omega)) (Nat.le_refl _) (av_cons (EV.is (ev_lcLm (xs := pats) (enc := fun b => .tuple (bitsD b)) "_law_pattern" 7 (fun b => .int (bi (b.getD i false))) sc_L_words.nd (ev_n 2 (h3.mono zz)) (by omega) fun v b H6 hb z6 r6 s1 H0 C cl fp => ev_ixT (ev_n 7 r6) (ev_n 6 (.int _)) (atI_n (j := i) (by rw [List.getElem?_map, List.getElem?_eq_getElem (by rw [po.2 b hb]; exact hi), List.getD_eq_getElem?_getD, List.getElem?_eq_getElem (by rw [po.2 b hb]; exact hi)]; rfl) i rfl)) (by unfold col bitsD; rw [List.map_map]; rfl)) av_nil) ⟨col pats i, rfl, rfl⟩) (ex_v 5) (ev_ixL (d := .str (p.nth i)) (ev_n 4 (Is.mono z h4)) (ev_n 6 (.int _)) (atI_n (j := i) (by rw [List.getElem?_map, nth_get hi]; rfl) i rfl)) hg (by omega) fun v8 H8 z8 p8 => go_nil ⟨some (.int i), rfl, Ex.put (z.trans z8) hn5, ?_⟩)
      have hnew : lkp (givN p pats i) (p.nth i) = none := lkp_none.mpr (by
        rw [giv_keys p pats i (by omega)]
        intro hx
        obtain ⟨j, hj⟩ := List.getElem?_of_mem hx
        rw [List.getElem?_take] at hj
        split at hj
        · have := (List.getElem?_inj (List.getElem?_eq_some_iff.mp hj).1 (List.nodup_append.mp wf.nd).1).mp (hj.trans (nth_get hi).symm)
          omega
        · cases hj)
      rw [upd_same, p8.int_eq, put_enc hnew]
      unfold givN
      rw [List.range_succ, List.map_append]
      rfl
    · obtain ⟨y, rfl, z, hg⟩ := pv
      have zz := (z1.trans z2).trans z
      have h1 := h1.mono zz; have h2 := h2.mono zz; have h3 := h3.mono zz
      change H' ag = some (.dK (encI (giv p pats))) at hg
      refine go_set 8 sc_L_words.nd ew_dnew fun w8 H5 z5 ⟨af, e8, hn8, hf8⟩ => ?_
      subst e8
      have hg5 := z5 _ _ hg
      refine go_join (fun σ' H6 => σ' = [some v1, some v2, some v3, some (.int full), some v4, some (.ref ag), y, none, some (.ref af), none, none, none, none, none] ∧ Ex H' H6 ∧ H6 af = some (.dK (encI (stF ver (2 ^ pats.length - 1))))) (k := isKd ver "stem") (tw_vkd "stem" (ex_v 1) (ex_v 1) (h2.mono z5)) (fun kt H6 z6 => ?_) (fun kt H6 z6 => ⟨rfl, z5.trans z6, ?_⟩) fun σ' H6 ⟨eσ, z6, hf6⟩ => ?_
      · match ver, h2, kt with
        | some (.stem l b), h2, kt =>
          have h2' := h2.mono (z5.trans z6)
          refine go_dput (l := af) (z := l) (by have := hr.units; omega) (ev_mulR (ev_n 3 (.int _)) (ev_ixT (ev_n 1 h2') ev_int (atI_n (j := 2) rfl 2 rfl)) (by cases b <;> decide)) (ex_v 8) (ev_ixT (ev_n 1 h2') ev_int (atI_n (j := 1) rfl 1 rfl)) (z6 _ _ hf8) (by decide) fun v8 H8 z8 p8 => go_nil ⟨rfl, Ex.put ((z5.trans z6).trans z8) hn8, ?_⟩
          rw [upd_same, p8.int_eq, ← hm]
          cases b
          · show some (HO.dK [(.inr l, .int (_ * 0))]) = _
            rw [Int.mul_zero]
            rfl
          · show some (HO.dK [(.inr l, .int (_ * 1))]) = _
            rw [Int.mul_one]
            rfl
        | some (.pin _ _ _), _, kt => exact absurd kt (show ¬ decide (("pin" : Str) = ("stem" : Str)) = true by decide)
        | some (.short _ _ _), _, kt => exact absurd kt (show ¬ decide (("short" : Str) = ("stem" : Str)) = true by decide)
        | none, _, kt => exact absurd kt (by decide)
      · have e6 := z6 _ _ hf8
        match ver, kt with
        | some (.stem l b), kt => exact absurd kt (by simp [isKd, kdOf])
        | some (.pin _ _ _), kt => exact e6
        | some (.short _ _ _), kt => exact e6
        | none, kt => exact e6
      subst eσ
      clear hf8 hg5 z5 h4'
      have hg6 := z6 _ _ hg
      have h1 := h1.mono z6; have h2 := h2.mono z6; have h3 := h3.mono z6
      have pok0 := passOk wf pats (F := []) (pin := none) (by decide) (fun _ h => nomatch h) (fun _ _ _ h => nomatch h)
      refine go_join (fun σ' H7 => ∃ a8 y9 y10 y11 y12, σ' = [some v1, some v2, some v3, some (.int full), some v4, some (.ref ag), y, none, some (.ref a8), y9, y10, y11, y12, none] ∧ Ex H6 H7 ∧ H7 a8 = some (.dK (encI (Fs (lPass p (giv p pats) [] none pats.length) (2 ^ pats.length - 1) ver)))) (k := isKd ver "short") (tw_vkd "short" (ex_v 1) (ex_v 1) h2) (fun kt H7 z7 => ?_) (fun kt H7 z7 => ⟨af, none, none, none, none, rfl, z7, ?_⟩) fun σ' H7 ⟨a8, y9, y10, y11, y12, eσ, z7, hf7⟩ => ?_
      · match ver, h2, vg, kt with
        | some (.stem l b), h2, vg, kt => exact absurd kt (show ¬ decide (("stem" : Str) = ("short" : Str)) = true by decide)
        | some (.pin _ _ _), _, _, kt => exact absurd kt (show ¬ decide (("pin" : Str) = ("short" : Str)) = true by decide)
        | none, _, _, kt => exact absurd kt (by decide)
        | some (.short a b k), h2, vg, kt =>
          have h1' := h1.mono z7; have h2' := h2.mono z7
          obtain ⟨va, vb, ne⟩ := vg
          refine go_set (P := DkR (lPass p (giv p pats) [] none pats.length)) 9 sc_L_words.nd (ew_call (ok_L_pass g) hr (Nat.le_refl _) (aw_cons (P := dat (ptD p)) (ev_n 0 h1') (aw_cons (ex_v 5) (aw_cons (ex_v 3) (aw_cons ew_dnew (aw_cons (P := dat .none) ev_non aw_nil))))) fun vs H8 z8 hv Q2 q2 => ?_) fun v9 H9 z9 ⟨a9, e9, hd9⟩ => ?_
          · obtain ⟨w1, r1, rfl, i1, w2, r2, rfl, i2, w3, r3, rfl, i3, w4, r4, rfl, ⟨a4, e4, _, hd4⟩, w5, r5, rfl, i5, rfl⟩ := hv
            rw [show w2 = .ref ag from i2, show w3 = .int full from i3, e4]
            exact ⟨p, ag, a4, giv p pats, [], none, pats.length, w1, w5, by rw [hm], i1, z8 _ _ (z7 _ _ hg6), hd4, i5, pok0, q2⟩
          subst e9
          obtain ⟨na, ea⟩ := lPass_there wf pats [] none va
          obtain ⟨nb, eb⟩ := lPass_there wf pats [] none vb
          have h2a := h2'.mono z9
          refine go_par 10 11 sc_L_words.nd (ex_dget hr (ex_v 9) (ev_ixT (ev_n 1 h2a) ev_int (atI_n (j := 1) rfl 1 rfl)) (.inl hd9) (val_some ea)) (ex_dget hr (ex_v 9) (ev_ixT (ev_n 1 h2a) ev_int (atI_n (j := 2) rfl 2 rfl)) (.inl hd9) (val_some eb)) fun H10 z10 => ?_
          have h2b := h2a.mono z10
          refine go_set (P := dat (.int ((comb k na nb : Nat) : Int))) 12 sc_L_words.nd (ew_if (tw_cmp op_eq rfl (ev_ixT (ev_n 1 h2b) ev_int (atI_n (j := 3) rfl 3 rfl)) ev_str rb_eqS) (fun t => (?_ : EV _ _ _ _ _)) fun t => (?_ : EV _ _ _ _ _)) fun v12 H12 z12 p12 => ?_
          · refine EV.is (ev_band (ev_n 10 (.int _)) (ev_n 11 (.int _))) ?_
            rw [andI]
            cases k
            · exact absurd (of_decide_eq_true t) (by decide)
            · rfl
          · refine EV.is (ev_bor (ev_n 10 (.int _)) (ev_n 11 (.int _))) ?_
            rw [orI]
            cases k
            · rfl
            · exact absurd rfl (of_decide_eq_false t)
          rw [p12.int_eq]
          have h2c := h2b.mono z12
          refine go_set (P := FrD H12 [((.inr a : Key), .int ((comb k na nb : Nat) : Int)), ((.inr b : Key), .int ((comb k na nb : Nat) : Int))]) 8 sc_L_words.nd (ew_disp2 (ev_ixT (ev_n 1 h2c) ev_int (atI_n (j := 1) rfl 1 rfl)) (ex_v 12) (ev_ixT (ev_n 1 h2c) ev_int (atI_n (j := 2) rfl 2 rfl)) (ex_v 12) ne) fun v13 H13 z13 ⟨a13, e13, _, hd13⟩ => go_nil ⟨a13, some (.ref a9), some (.int na), some (.int nb), some (.int (comb k na nb : Nat)), by subst e13; rfl, (((z7.trans z9).trans z10).trans z12).trans z13, ?_⟩
          rw [hd13, Fs_short ea eb]
          rfl
      · have e7 := z7 _ _ hf6
        match ver, kt with
        | some (.stem l b), kt => exact e7
        | some (.pin _ _ _), kt => exact e7
        | some (.short _ _ _), kt => exact absurd kt (by simp [isKd, kdOf])
        | none, kt => exact e7
      subst eσ
      have h2 := h2.mono z7
      refine go_set (P := dat (pinD (pinOf ver))) 13 sc_L_words.nd (ew_if (tw_vkd "pin" (ex_v 1) (ex_v 1) h2) (fun t => (?_ : EV _ _ _ _ _)) fun t => (?_ : EV _ _ _ _ _)) fun v13 H8 z8 h13 => ?_
      · refine EV.is (ev_n 1 h2) ?_
        match ver, t with
        | some (.stem l b), t => exact absurd t (show ¬ decide (("stem" : Str) = ("pin" : Str)) = true by decide)
        | some (.pin _ _ _), t => rfl
        | some (.short _ _ _), t => exact absurd t (show ¬ decide (("short" : Str) = ("pin" : Str)) = true by decide)
        | none, t => exact absurd t (by decide)
      · refine EV.is ev_non ?_
        match ver, t with
        | some (.stem l b), t => rfl
        | some (.pin _ _ _), t => exact absurd t (by simp [isKd, kdOf])
        | some (.short _ _ _), t => rfl
        | none, t => rfl
      have z78 := z7.trans z8
      refine go_out (R := DkR (lWords p ver pats)) (ew_call (ok_L_pass g) hr (Nat.le_refl _) (aw_cons (P := dat (ptD p)) (ev_n 0 (h1.mono z78)) (aw_cons (ex_v 5) (aw_cons (ex_v 3) (aw_cons (ex_v 8) (aw_cons (ex_v 13) aw_nil))))) fun vs H9 z9 hv Q2 q2 => ?_) (zz.trans (z6.trans z78)) q
      obtain ⟨w1, r1, rfl, i1, w2, r2, rfl, i2, w3, r3, rfl, i3, w4, r4, rfl, i4, w5, r5, rfl, i5, rfl⟩ := hv
      rw [show w2 = .ref ag from i2, show w3 = .int full from i3, show w4 = .ref a8 from i4, show w5 = v13 from i5]
      refine ⟨p, ag, a8, giv p pats, _, pinOf ver, pats.length, w1, v13, by rw [hm], i1, z9 _ _ (z78 _ _ hg6), z9 _ _ (z8 _ _ hf7), Is.mono z9 h13, passOk wf pats (Nat.le_trans (Fs_len ver) (by decide)) (Fs_bd (lPass_bd pok0) ver) fun g i b e => ?_, q2⟩
      match ver, vg, e with
      | some (.pin g' i' b'), vg, e =>
        cases e
        exact vg
end
end Pw
namespace Pw
open PySem PySem.Spec L2
open Evl (Ex)
def tabD (t : List (List Bool)) : PyData := .list (t.map fun r => .tuple (bitsD r))
theorem lWords_there {p : Pt} (wf : Wf p) (ver : Option Vn) (pats : List (List Bool)) {x : Str} (hx : x ∈ p.lns) : ∃ n, lkp (lWords p ver pats) x = some n := lPass_there wf pats _ _ hx
section
variable {P : Program} {w : World} {K : PySem.W.Frag} {mg : Str → Option Value} {base : Heap}
def spLRes : Sp := fun vs H Q _ => ∃ p ver pats v1 v2 v3, vs = [v1, v2, v3] ∧ Is H v1 (ptD p) ∧ Is H v2 (voD ver) ∧ Is H v3 (patsD pats) ∧ Wf p ∧ VGo p ver ∧ PatOk p pats ∧ Giv H (dat (tabD (lRes p ver pats))) Q
theorem ok_L_responses (g : Gd P w K mg base) : Fnc P w K mg base 4 "_law_responses" spLRes := by
  refine g.fnc 52 33 d_L_responses "_law_responses" _ _ sc_L_responses ?_ ?_ bn_L_responses
  · rintro vs H Q E ⟨p, ver, pats, v1, v2, v3, rfl, _⟩
    rfl
  · rintro cdv A outer s H vs Q E hr ⟨p, ver, pats, v1, v2, v3, rfl, h1, h2, h3, wf, vg, po, q⟩
    have pl := po.1
    have kl := wf.sm.snk
    refine go_set (P := DkR (lWords p ver pats)) 3 sc_L_responses.nd (ew_call (ok_L_words g) hr (Nat.le_refl _) (aw_cons (P := dat (ptD p)) (ev_n 0 h1) (aw_cons (P := dat (voD ver)) (ev_n 1 h2) (aw_cons (P := dat (patsD pats)) (ev_n 2 h3) aw_nil))) fun vs H1 z1 hv Q2 q2 => ?_) fun v4 H1 z1 ⟨ak, e4, hk⟩ => ?_
    · obtain ⟨w1, r1, rfl, i1, w2, r2, rfl, i2, w3, r3, rfl, i3, rfl⟩ := hv
      exact ⟨p, ver, pats, w1, w2, w3, rfl, i1, i2, i3, wf, vg, po, q2⟩
    subst e4
    let wx : Str → Nat := fun x => (lkp (lWords p ver pats) x).getD 0
    refine go_set (P := dat (.list (p.snk.map fun x => .list (bitsD (bitsOf pats.length (wx x)))))) 4 sc_L_responses.nd (ev_lcLm (xs := p.snk) (enc := PyData.str) "_law_line" 5 (fun x => .list (bitsD (bitsOf pats.length (wx x)))) sc_L_responses.nd (ev_callD (ok_L_sinks g) (hr.mono (by omega)) (Nat.le_refl _) (av_cons (ev_n 0 (h1.mono z1)) av_nil) ⟨p, rfl, wf.sm, rfl⟩) (by omega) fun v x H6 hx z6 r6 s1 H0 C cl fp => ?_) fun v5 H2 z2 h5 => ?_
    · obtain ⟨n, en⟩ := lWords_there wf ver pats (wf.snk x hx)
      refine ev_callD (ok_L_bits g) (hr.mono (by omega)) (Nat.le_refl _) (av_cons (EX.at_ (ex_dget hr (ex_v 3) (ev_n 5 r6) (.inl (z6 _ _ hk)) (val_some en)) (.int _)) (av_cons (EV.is (ev_lenL g.len (ev_n 2 (h3.mono (z1.trans z6)))) (by rw [List.length_map])) av_nil)) ⟨n, pats.length, rfl, by omega, ?_⟩
      show _ = PyData.list (bitsD (bitsOf pats.length n))
      simp only [wx, en]
      rfl
    · have z12 := z1.trans z2
      refine go_out (EV.is (ev_lcRm (n := pats.length) "_law_j" 6 (fun j => .tuple (bitsD (p.snk.map fun x => (wx x).testBit j))) sc_L_responses.nd g.range (ev_lenL g.len (ev_n 2 (h3.mono z12))) (by rw [List.length_map]) (by omega) fun j H6 hj z6 s1 H0 C cl fp => ?_) ?_) z12 q
      · refine EV.is (ev_tupleL g.tuple (ev_lcLm (xs := p.snk) (enc := fun x => .list (bitsD (bitsOf pats.length (wx x)))) "_law_row" 7 (fun x => .int (bi ((wx x).testBit j))) sc_L_responses.nd (ev_n 4 (Is.mono z6 h5)) (by omega) fun v x H7 hx z7 r7 s2 H02 C2 cl2 fp2 => ev_ixL (ev_n 7 r7) (ev_n 6 (.int _)) (atI_n (j := j) ?_ j rfl))) ?_
        · unfold bitsOf
          rw [List.getElem?_map, List.getElem?_map, List.getElem?_range hj]
          rfl
        · unfold bitsD
          rw [List.map_map]
          rfl
      · unfold tabD lRes
        rw [List.map_map]
        rfl
end
end Pw
namespace Pw
open PySem PySem.Spec L2
open Evl (Ex)
section
variable {P : Program} {w : World} {K : PySem.W.Frag} {mg : Str → Option Value} {base : Heap}
theorem ok_is_integer (g : Gd P w K mg base) : Fnc P w K mg base 1 "is_integer" (PD fun ds r => ∃ i lo hi, ds = [.int i, .int lo, .int hi] ∧ lo ≤ i ∧ i ≤ hi ∧ r = .bool true) := by
  refine g.fncD 0 0 d_is_integer "is_integer" sc_is_integer bn_is_integer ?_ ?_
  · rintro ds r ⟨i, lo, hi, rfl, _⟩
    rfl
  · rintro cdv A outer s H vs Q E ds r hr h ⟨i, lo, hi, rfl, l1, l2, rfl⟩ q
    obtain ⟨v1, v2, v3, rfl, h1, h2, h3⟩ := h.three
    refine go_when (k := false) (tw_w (ww_or (k := false) (tw_not (k := true) (tw_val (ev_isi g.isi g.int "int" (ev_n 0 h1) boot_int' rfl))) fun _ => ww_or1 (tw_val (ev_isi g.isi g.bool "bool" (ev_n 0 h1) boot_bool' rfl)))) (fun e H1 z => nomatch e) fun e H1 z => ?_
    refine go_out (EV.is (ev_and (k := true) (EV.is (ev_cmp op_le rfl (ev_n 1 (h2.mono z)) (ev_n 0 (h1.mono z)) rb_I) (by rw [decide_eq_true l1])) fun _ => ev_one (ev_cmp op_le rfl (ev_n 0 (h1.mono z)) (ev_n 2 (h3.mono z)) rb_I)) (by rw [decide_eq_true l2]; rfl)) z q
theorem ok_is_bit (g : Gd P w K mg base) : Fnc P w K mg base 2 "is_bit" (PD fun ds r => ∃ b, ds = [.int (bi b)] ∧ r = .bool true) := by
  refine g.fncD 1 1 d_is_bit "is_bit" sc_is_bit bn_is_bit ?_ ?_
  · rintro ds r ⟨b, rfl, rfl⟩
    rfl
  · rintro cdv A outer s H vs Q E ds r hr h ⟨b, rfl, rfl⟩ q
    obtain ⟨v1, rfl, h1⟩ := h.one'
    exact go_out (ev_callD (ok_is_integer g) hr (Nat.le_refl _) (av_cons (ev_n 0 h1) (av_cons ev_int (av_cons ev_int av_nil))) ⟨_, _, _, rfl, by cases b <;> decide, by cases b <;> decide, rfl⟩) (Ex.refl H) q
theorem ok_are_bits (g : Gd P w K mg base) : Fnc P w K mg base 3 "are_bits" (PD fun ds r => ∃ bs n, ds = [.tuple (bitsD bs), .int n] ∧ bs.length ≤ 40000 ∧ r = .bool (decide ((bs.length : Int) = n))) := by
  refine g.fncD 2 2 d_are_bits "are_bits" sc_are_bits bn_are_bits ?_ ?_
  · rintro ds r ⟨bs, n, rfl, _, rfl⟩
    rfl
  · rintro cdv A outer s H vs Q E ds r hr h ⟨bs, n, rfl, hz, rfl⟩ q
    obtain ⟨v1, v2, rfl, h1, h2⟩ := h.two
    refine go_when (k := !decide ((bs.length : Int) = n)) (TW.is (tw_w (ww_or (k := false) (tw_not (k := true) (tw_val (ev_isi g.isi g.tuple "tuple" (ev_n 0 h1) boot_tuple' rfl))) fun _ => ww_or1 (tw_cmp op_ne rfl (ev_lenT g.len (ev_n 0 h1)) (ev_n 1 h2) rb_neI))) (by rw [List.length_map]; rfl)) (fun e H1 z => ?_) fun e H1 z => ?_
    · refine go_out (EV.is ev_bl (by simpa using e)) z q
    · have e : decide ((bs.length : Int) = n) = true := by simpa using e
      rw [e] at q
      refine go_out (EV.is (ev_all g.all rfl (ns := bs.map fun _ => true) (ev_lcT "item" 2 rfl sc_are_bits.nd _ (ev_n 0 (h1.mono z)) (by rw [List.length_map, List.length_map, List.length_map]) (by rw [List.length_map]; exact hz) fun i v d e H2 e1 e2 z2 r s H0 C cl fp => ?_)) ?_) z q
      · obtain ⟨b, _, rfl⟩ := gems e1
        obtain ⟨b', e3, rfl⟩ := gems e2
        obtain ⟨b2, _, rfl⟩ := gems e3
        exact ev_callD (ok_is_bit g) hr (Nat.le_refl _) (av_cons (ev_n 2 r) av_nil) ⟨_, rfl, rfl⟩
      · congr 1
        induction bs with
        | nil => rfl
        | cons _ _ _ => simp
end
end Pw
namespace Pw
open PySem PySem.Spec L2
open Evl (Ex)
/-! ### names -/
def goodC (c : Nat) : Bool := decide (c ∈ ("abcdefghijklmnopqrstuvwxyz" : Str).cps.toList) || decide (c ∈ ("0123456789" : Str).cps.toList) || decide ((⟨#[c]⟩ : Str) = "_")
def GoodName (z : Str) : Prop := z ≠ "" ∧ z.length ≤ 12 ∧ (∃ c, z.cps.toList[0]? = some c ∧ c ∈ ("abcdefghijklmnopqrstuvwxyz" : Str).cps.toList) ∧ ∀ c ∈ z.cps.toList, goodC c = true
def kindL : List Str := ["and", "or", "nand", "nor", "xor", "xnor", "not", "buf", "low", "high"]
theorem kindL_mem {k : Str} (h : k ∈ (["and", "or", "nand", "nor", "xor", "xnor"] : List Str)) : k ∈ kindL := by
  simp only [List.mem_cons, List.mem_nil_iff, or_false] at h
  unfold kindL
  simp only [List.mem_cons, List.mem_nil_iff, or_false]
  rcases h with h | h | h | h | h | h <;> simp [h]
theorem rb_inK {X : Cx} {H : Hp} {z : Str} {ss : List Str} {a : Addr} {vs : List V} (h : ∀ H, SqT X.K H a vs) (e : vs = ss.map V.str := by rfl) : RB (rIn X.K false) (dat (.str z)) (val (.ref a)) H (decide (z ∈ ss)) := fun x y H2 _ p p' Q q => by
  rw [p.str_eq]
  subst e
  exact ⟨a, _, p', .inr (h H2), rfl, flat_strs ss, by rw [if_neg Bool.false_ne_true, inV_strs]; exact q⟩
section
variable {P : Program} {w : World} {K : PySem.W.Frag} {mg : Str → Option Value} {base : Heap}
theorem ok_is_name (g : Gd P w K mg base) : Fnc P w K mg base 1 "is_name" (PD fun ds r => ∃ z, ds = [.str z] ∧ GoodName z ∧ r = .bool true) := by
  refine g.fncD 3 3 d_is_name "is_name" sc_is_name bn_is_name ?_ ?_
  · rintro ds r ⟨z, rfl, _⟩
    rfl
  · rintro cdv A outer s H vs Q E ds r hr h ⟨z, rfl, ⟨ne, hl, ⟨c0, hc0, hL⟩, all⟩, rfl⟩ q
    obtain ⟨v1, rfl, h1⟩ := h.one'
    have hz : z.length ≤ sizeLine := sz10 (by omega)
    refine go_when (k := false) (TW.is (tw_w (ww_or (k := false) (l := false) (tw_not (k := true) (tw_val (ev_isi g.isi g.str "str" (ev_n 0 h1) boot_str' rfl))) fun _ => ww_or (k := false) (l := false) (TW.is (tw_cmp op_eq rfl (ev_n 0 h1) ev_str rb_eqS) (decide_eq_false ne)) fun _ => ww_or (k := false) (l := false) (TW.is (tw_cmp op_gt rfl (ev_lenS g.len (ev_n 0 h1) hz) (ev_cI g.mName) rb_I) (decide_eq_false (by omega))) fun _ => ww_or1 (TW.is (tw_cmp op_notIn_sign rfl (ev_ixS (ev_n 0 h1) ev_int hz (atI_n (j := 0) hc0 0 rfl)) (ev_cS g.letters) rb_niC) (by rw [decide_eq_true hL]; rfl)))) rfl) (fun e H1 z => nomatch e) fun _ H1 z1 => ?_
    refine go_forS (z := z) (passes_of rfl) rfl (ev_n 0 (h1.mono z1)) fun H2 z2 => ⟨fun i σ' H' => ∃ y, σ' = [some v1, y] ∧ Ex H H', ⟨none, rfl, z1.trans z2⟩, fun i c σ' H' e1 pv => ?_, fun σ' H' pv => ?_⟩
    · obtain ⟨y, rfl, zz⟩ := pv
      have hm : c ∈ z.cps.toList := by
        rw [Array.mem_toList_iff]
        exact Array.mem_of_getElem? e1
      have gc := all c hm
      refine gt_n 1 sc_is_name.nd (go_when (k := false) (TW.is (tw_w (ww_and (tw_cmp op_notIn_sign rfl (ev_n 1 (.str _)) (ev_cS g.letters) rb_niC) fun _ => ww_and (tw_cmp op_notIn_sign rfl (ev_n 1 (.str _)) (ev_cS g.figures) rb_niC) fun _ => ww_and1 (tw_cmp op_ne rfl (ev_n 1 (.str _)) ev_str rb_neS))) ?_) (fun e H1 z => nomatch e) fun _ H3 z3 => go_nil ⟨some (.str ⟨#[c]⟩), rfl, zz.trans z3⟩)
      unfold goodC at gc
      revert gc
      generalize decide (c ∈ ("abcdefghijklmnopqrstuvwxyz" : Str).cps.toList) = b1
      generalize decide (c ∈ ("0123456789" : Str).cps.toList) = b2
      generalize decide ((⟨#[c]⟩ : Str) = "_") = b3
      revert b1 b2 b3
      decide
    · obtain ⟨y, rfl, zz⟩ := pv
      exact go_out ev_bl zz q
theorem ok_pins_allowed (g : Gd P w K mg base) : Fnc P w K mg base 1 "pins_allowed" (PD fun ds r => ∃ k n, ds = [.str k, .int ((n : Nat) : Int)] ∧ KdOk k n ∧ r = .bool true) := by
  refine g.fncD 28 18 d_pins_allowed "pins_allowed" sc_pins_allowed bn_pins_allowed ?_ ?_
  · rintro ds r ⟨k, n, rfl, _⟩
    rfl
  · rintro cdv A outer s H vs Q E ds r hr h ⟨k, n, rfl, hk, rfl⟩ q
    obtain ⟨v1, v2, rfl, h1, h2⟩ := h.two
    refine go_when (tw_inT ["low", "high"] (ev_n 0 h1) (av_cons ev_str (av_cons ev_str av_nil))) (fun e H1 z => ?_) fun e H1 z => ?_
    · have e := of_decide_eq_true e
      have hn : n = 0 := by
        rcases hk with ⟨_, a⟩ | ⟨b, _⟩ | ⟨b, _⟩
        · exact a
        · simp only [List.mem_cons, List.mem_nil_iff, or_false] at e b
          rcases e with rfl | rfl <;> rcases b with b | b <;> exact absurd b (by decide)
        · simp only [List.mem_cons, List.mem_nil_iff, or_false] at e b
          rcases e with rfl | rfl <;> rcases b with b | b | b | b | b | b <;> exact absurd b (by decide)
      subst hn
      exact go_out (EV.is (ev_cmp op_eq rfl (ev_n 1 (h2.mono z)) ev_int rb_eqI) rfl) z q
    · have e := of_decide_eq_false e
      refine go_when (tw_inT ["not", "buf"] (ev_n 0 (h1.mono z)) (av_cons ev_str (av_cons ev_str av_nil))) (fun e2 H2 z2 => ?_) fun e2 H2 z2 => ?_
      · have e2 := of_decide_eq_true e2
        have hn : n = 1 := by
          rcases hk with ⟨a, _⟩ | ⟨_, b⟩ | ⟨b, _⟩
          · exact absurd a e
          · exact b
          · simp only [List.mem_cons, List.mem_nil_iff, or_false] at e2 b
            rcases e2 with rfl | rfl <;> rcases b with b | b | b | b | b | b <;> exact absurd b (by decide)
        subst hn
        exact go_out (EV.is (ev_cmp op_eq rfl (ev_n 1 (h2.mono (z.trans z2))) ev_int rb_eqI) rfl) (z.trans z2) q
      · have e2 := of_decide_eq_false e2
        rcases hk with ⟨a, _⟩ | ⟨a, _⟩ | ⟨a, l1, l2⟩
        · exact absurd a e
        · exact absurd a e2
        · have zz := z.trans z2
          refine go_out (EV.is (ev_and (k := true) (EV.is (ev_cmp op_in_seq rfl (ev_n 0 (h1.mono zz)) (ex_c (v := .ref (He.ga K "KINDS")) (g.kinds H).2 rfl) (rb_inK (ss := kindL) fun H' => (g.kinds H').1)) (congrArg PyData.bool (decide_eq_true (kindL_mem a)))) fun _ => ev_and (k := true) (EV.is (ev_cmp op_le rfl ev_int (ev_n 1 (h2.mono zz)) rb_I) (congrArg PyData.bool (decide_eq_true (by omega)))) fun _ => ev_one (EV.is (ev_cmp op_le rfl (ev_n 1 (h2.mono zz)) (ev_cI g.mPins) rb_I) (congrArg PyData.bool (decide_eq_true (by omega))))) rfl) zz q
def nmsOk (xs : List Str) : Prop := ∀ x ∈ xs, GoodName x
theorem all_true {α : Type} (xs : List α) : (xs.map fun _ => true).all id = true := by
  rw [List.all_eq_true]
  intro x hx
  obtain ⟨_, _, rfl⟩ := List.mem_map.mp hx
  rfl
theorem ok_is_row (g : Gd P w K mg base) : Fnc P w K mg base 2 "is_row" (PD fun ds r => ∃ a b, ds = [rD (a, b), .int 2] ∧ GoodName a ∧ GoodName b ∧ r = .bool true) := by
  refine g.fncD 29 19 d_is_row "is_row" sc_is_row bn_is_row ?_ ?_
  · rintro ds r ⟨a, b, rfl, _⟩
    rfl
  · rintro cdv A outer s H vs Q E ds r hr h ⟨a, b, rfl, ga, gb, rfl⟩ q
    obtain ⟨v1, v2, rfl, h1, h2⟩ := h.two
    refine go_out (EV.is (ev_and (k := true) (ev_isi g.isi g.tuple "tuple" (ev_n 0 h1) boot_tuple' rfl) fun _ => ev_and (k := true) (EV.is (ev_cmp op_eq rfl (ev_lenT g.len (ev_n 0 h1)) (ev_n 1 h2) rb_eqI) rfl) fun _ => ev_one (ev_all g.all rfl (ns := [a, b].map fun _ => true) (EV.is (ev_lcTm (xs := [a, b]) (enc := PyData.str) "item" 2 (fun _ => .bool true) sc_is_row.nd (ev_n 0 h1) (by simp) fun v x H6 hx z6 r6 s1 H0 C cl fp => ev_callD (ok_is_name g) hr (Nat.le_refl _) (av_cons (ev_n 2 r6) av_nil) ⟨x, rfl, ?_, rfl⟩) rfl))) ?_) (Ex.refl H) q
    · simp only [List.mem_cons, List.mem_nil_iff, or_false] at hx
      rcases hx with rfl | rfl
      · exact ga
      · exact gb
    · rfl
theorem ok_is_gate (g : Gd P w K mg base) : Fnc P w K mg base 2 "is_gate" (PD fun ds r => ∃ x : G, ds = [gD x] ∧ GoodName x.nm ∧ nmsOk x.ps ∧ KdOk x.kd x.ps.length ∧ r = .bool true) := by
  refine g.fncD 30 20 d_is_gate "is_gate" sc_is_gate bn_is_gate ?_ ?_
  · rintro ds r ⟨x, rfl, _⟩
    rfl
  · rintro cdv A outer s H vs Q E ds r hr h ⟨x, rfl, gn, gp, hk, rfl⟩ q
    obtain ⟨v1, rfl, h1⟩ := h.one'
    have hl : x.ps.length ≤ 4 := by
      rcases hk with ⟨_, a⟩ | ⟨_, a⟩ | ⟨_, _, a⟩ <;> omega
    refine go_when (k := false) (TW.is (tw_w (ww_or (k := false) (l := false) (tw_not (k := true) (tw_val (ev_isi g.isi g.tuple "tuple" (ev_n 0 h1) boot_tuple' rfl))) fun _ => ww_or (k := false) (l := false) (TW.is (tw_cmp op_ne rfl (ev_lenT g.len (ev_n 0 h1)) ev_int rb_neI) rfl) fun _ => ww_or (k := false) (l := false) (tw_not (k := true) (tw_val (ev_callD (ok_is_name g) hr (Nat.le_refl _) (av_cons (ev_ixT (ev_n 0 h1) ev_int (atI_n (j := 0) rfl 0 rfl)) av_nil) ⟨x.nm, rfl, gn, rfl⟩))) fun _ => ww_or1 (tw_not (k := true) (tw_val (ev_isi g.isi g.str "str" (ev_ixT (ev_n 0 h1) ev_int (atI_n (j := 1) rfl 1 rfl)) boot_str' rfl))))) rfl) (fun e H1 z => nomatch e) fun _ H1 z1 => ?_
    have h1' := h1.mono z1
    refine go_when (k := false) (TW.is (tw_w (ww_or (k := false) (l := false) (tw_not (k := true) (tw_val (ev_isi g.isi g.tuple "tuple" (ev_ixT (d := .tuple (strsD x.ps)) (ev_n 0 h1') ev_int (atI_n (j := 2) rfl 2 rfl)) boot_tuple' rfl))) fun _ => ww_or1 (tw_not (k := true) (tw_val (EV.is (ev_all g.all rfl (ns := x.ps.map fun _ => true) (EV.is (ev_lcTm (xs := x.ps) (enc := PyData.str) "pin" 1 (fun _ => .bool true) sc_is_gate.nd (ev_ixT (ev_n 0 h1') ev_int (atI_n (j := 2) rfl 2 rfl)) (by omega) fun v y H6 hy z6 r6 s1 H0 C cl fp => ev_callD (ok_is_name g) hr (Nat.le_refl _) (av_cons (ev_n 1 r6) av_nil) ⟨y, rfl, gp y hy, rfl⟩) (by rw [List.map_map]; rfl))) (congrArg PyData.bool (all_true x.ps))))))) rfl) (fun e H1 z => nomatch e) fun _ H2 z2 => ?_
    have h2' := h1'.mono z2
    exact go_out (ev_callD (ok_pins_allowed g) (hr.mono (by omega)) (Nat.le_refl _) (av_cons (ev_ixT (ev_n 0 h2') ev_int (atI_n (j := 1) rfl 1 rfl)) (av_cons (EV.is (ev_lenT g.len (ev_ixT (d := .tuple (strsD x.ps)) (ev_n 0 h2') ev_int (atI_n (j := 2) rfl 2 rfl))) (by rw [List.length_map])) av_nil)) ⟨x.kd, x.ps.length, rfl, hk, rfl⟩) (z1.trans z2) q
end
end Pw
namespace Pw
open PySem PySem.Spec L2
open Evl (Ex)
theorem srcD {p : Pt} : strsD p.ins ++ p.regs.map (fun r => PyData.str r.1) = strsD p.src := by
  unfold Pt.src strsD
  rw [List.map_append, List.map_map]
  rfl
theorem snkD {p : Pt} : strsD p.outs ++ p.regs.map (fun r => PyData.str r.2) = strsD p.snk := by
  unfold Pt.snk strsD
  rw [List.map_append, List.map_map]
  rfl
theorem lnsD {p : Pt} : strsD p.src ++ p.gs.map (fun r => PyData.str r.nm) = strsD p.lns := by
  unfold Pt.lns strsD
  rw [List.map_append, List.map_map]
  rfl
/-! ### the program's circuit -/
abbrev CC (K : PySem.W.Frag) : Addr := He.ga K "Circuit"
def cMeths : List Str := ["check_forms", "check_names", "lines", "uses", "sources", "sinks", "sorted_gates", "above"]
structure HasP (K : PySem.W.Frag) (H : Hp) (l : Addr) (p : Pt) (dx : Addr) (fs : List (Str × V)) : Prop where
  at_ : H l = some (.ins (CC K) dx fs)
  ins : ∃ v, fs.lookup ("inputs" : Str) = some v ∧ Is H v (.tuple (strsD p.ins))
  regs : ∃ v, fs.lookup ("registers" : Str) = some v ∧ Is H v (.tuple (p.regs.map rD))
  gs : ∃ v, fs.lookup ("gates" : Str) = some v ∧ Is H v (.tuple (p.gs.map gD))
  outs : ∃ v, fs.lookup ("outputs" : Str) = some v ∧ Is H v (.tuple (strsD p.outs))
  no : ∀ m ∈ cMeths, fs.lookup m = none
theorem HasP.mono {K : PySem.W.Frag} {H H' : Hp} {l : Addr} {p : Pt} {dx : Addr} {fs : List (Str × V)} (h : HasP K H l p dx fs) (z : Ex H H') : HasP K H' l p dx fs where
  at_ := z _ _ h.at_
  ins := let ⟨v, e, r⟩ := h.ins; ⟨v, e, r.mono z⟩
  regs := let ⟨v, e, r⟩ := h.regs; ⟨v, e, r.mono z⟩
  gs := let ⟨v, e, r⟩ := h.gs; ⟨v, e, r.mono z⟩
  outs := let ⟨v, e, r⟩ := h.outs; ⟨v, e, r.mono z⟩
  no := h.no
/-- all names and gates in order -/
structure Fm (p : Pt) : Prop where
  ins : nmsOk p.ins
  outs : nmsOk p.outs
  regs : ∀ r ∈ p.regs, GoodName r.1 ∧ GoodName r.2
  gs : ∀ g ∈ p.gs, GoodName g.nm ∧ nmsOk g.ps ∧ KdOk g.kd g.ps.length
def spC (K : PySem.W.Frag) (ok : Pt → Prop) (f : Pt → PyData) : Sp := fun vs H Q _ => ∃ l p dx fs, vs = [.ref l] ∧ HasP K H l p dx fs ∧ Sm p ∧ ok p ∧ Giv H (dat (f p)) Q
section
variable {P : Program} {w : World} {K : PySem.W.Frag} {mg : Str → Option Value} {base : Heap}
theorem Gd.cCls (g : Gd P w K mg base) : Cls K (CC K) := He.cls_ok (g.c.d.fact 85 rfl)
theorem Gd.cIns (g : Gd P w K mg base) : NoAttr K (CC K) "inputs" := He.noat_ok (g.c.d.fact 87 rfl)
theorem Gd.cRegs (g : Gd P w K mg base) : NoAttr K (CC K) "registers" := He.noat_ok (g.c.d.fact 88 rfl)
theorem Gd.cGs (g : Gd P w K mg base) : NoAttr K (CC K) "gates" := He.noat_ok (g.c.d.fact 89 rfl)
theorem Gd.cOuts (g : Gd P w K mg base) : NoAttr K (CC K) "outputs" := He.noat_ok (g.c.d.fact 90 rfl)
theorem Gd.cGof (g : Gd P w K mg base) : NoAttr K (CC K) "gate_of" := He.noat_ok (g.c.d.fact 91 rfl)
theorem Gd.cOrd (g : Gd P w K mg base) : NoAttr K (CC K) "order" := He.noat_ok (g.c.d.fact 92 rfl)
section
variable {X : Cx} {o : Expr} {σ : L2.St} {H : Hp} {l dx : Addr} {p : Pt} {fs : List (Str × V)} {pos : Pos}
theorem ev_ins (g : Gd X.prog X.w X.K X.mg X.base) (h : HasP X.K H l p dx fs) (ho : EX X σ H o (.ref l)) (hb : attributeBase o "inputs" X.env (eval o X.env) = eval o X.env := by rfl) : EV X σ H (.Attribute o "inputs" pos) (.tuple (strsD p.ins)) := by
  obtain ⟨v, e, r⟩ := h.ins
  exact EX.at_ (ex_fld ho h.at_ g.cCls g.cIns e hb) r
theorem ev_regs (g : Gd X.prog X.w X.K X.mg X.base) (h : HasP X.K H l p dx fs) (ho : EX X σ H o (.ref l)) (hb : attributeBase o "registers" X.env (eval o X.env) = eval o X.env := by rfl) : EV X σ H (.Attribute o "registers" pos) (.tuple (p.regs.map rD)) := by
  obtain ⟨v, e, r⟩ := h.regs
  exact EX.at_ (ex_fld ho h.at_ g.cCls g.cRegs e hb) r
theorem ev_gs (g : Gd X.prog X.w X.K X.mg X.base) (h : HasP X.K H l p dx fs) (ho : EX X σ H o (.ref l)) (hb : attributeBase o "gates" X.env (eval o X.env) = eval o X.env := by rfl) : EV X σ H (.Attribute o "gates" pos) (.tuple (p.gs.map gD)) := by
  obtain ⟨v, e, r⟩ := h.gs
  exact EX.at_ (ex_fld ho h.at_ g.cCls g.cGs e hb) r
theorem ev_outs (g : Gd X.prog X.w X.K X.mg X.base) (h : HasP X.K H l p dx fs) (ho : EX X σ H o (.ref l)) (hb : attributeBase o "outputs" X.env (eval o X.env) = eval o X.env := by rfl) : EV X σ H (.Attribute o "outputs" pos) (.tuple (strsD p.outs)) := by
  obtain ⟨v, e, r⟩ := h.outs
  exact EX.at_ (ex_fld ho h.at_ g.cCls g.cOuts e hb) r
end
section
variable {X : Cx} {o : Expr} {σ : L2.St} {H : Hp} {l dx : Addr} {p : Pt} {fs : List (Str × V)} {pos apos : Pos} {k j : Nat} {m : Str} {ok : Pt → Prop} {f : Pt → PyData} {pl : Sem Bool}
theorem ev_cm (M : Mtd X.prog X.w X.K X.mg X.base k (CC X.K) m (spC X.K ok f)) (hr : Room j X.A) (hk : k ≤ j) (h : HasP X.K H l p dx fs) (sm : Sm p) (hok : ok p) (ho : EX X σ H o (.ref l)) (hm : m ∈ cMeths := by decide +kernel)
    (ht : eval (.Call (.Attribute o m apos) [] [] pos) X.env = (do let ov ← eval o X.env; standAt apos.atName; let (f, first) ← holding [ov] (getMethod ov m pl); callWith pos f first (backTo pos (starEach [] X.env)) (backToKw pos (keywordEach [] X.env))) := by rfl) : EV X σ H (.Call (.Attribute o m apos) [] [] pos) (f p) :=
  ew_meth0 M hr hk ho h.at_ (h.no m hm) (fun H2 z Q q => ⟨l, p, dx, fs, rfl, h.mono z, sm, hok, q⟩) ht
end
theorem spC_len {ok : Pt → Prop} {f : Pt → PyData} : ∀ vs H Q E, spC K ok f vs H Q E → vs.length = 1 := fun vs H Q E ⟨l, p, dx, fs, e, _⟩ => by rw [e]; rfl
theorem ok_sources (g : Gd P w K mg base) : Mtd P w K mg base 1 (CC K) "sources" (spC K (fun _ => True) fun p => .list (strsD p.src)) := by
  refine g.mtd 36 105 85 d_Circuit_sources "Circuit" "sources" _ _ sc_Circuit_sources spC_len ?_ bn_Circuit_sources
  rintro cdv A outer s H vs Q E hr ⟨l, p, dx, fs, rfl, h, sm, _, q⟩
  have := sm.ins; have := sm.regs
  refine go_out (EV.is (ev_cat (ev_listT g.list (ev_ins g h (ex_v 0))) (ev_lcTm (xs := p.regs) (enc := rD) "cell" 1 (fun r => .str r.1) sc_Circuit_sources.nd (ev_regs g h (ex_v 0)) (by omega) fun v r H1 hm z ri s1 H0 C cl fp => ev_ixT (ev_n 1 ri) ev_int (atI_n (j := 0) rfl 0 rfl)) (by rw [List.length_map, List.length_map]; omega)) (congrArg PyData.list srcD)) (Ex.refl H) q
theorem ok_sinks (g : Gd P w K mg base) : Mtd P w K mg base 1 (CC K) "sinks" (spC K (fun _ => True) fun p => .list (strsD p.snk)) := by
  refine g.mtd 37 106 85 d_Circuit_sinks "Circuit" "sinks" _ _ sc_Circuit_sinks spC_len ?_ bn_Circuit_sinks
  rintro cdv A outer s H vs Q E hr ⟨l, p, dx, fs, rfl, h, sm, _, q⟩
  have := sm.outs; have := sm.regs
  refine go_out (EV.is (ev_cat (ev_listT g.list (ev_outs g h (ex_v 0))) (ev_lcTm (xs := p.regs) (enc := rD) "cell" 1 (fun r => .str r.2) sc_Circuit_sinks.nd (ev_regs g h (ex_v 0)) (by omega) fun v r H1 hm z ri s1 H0 C cl fp => ev_ixT (ev_n 1 ri) ev_int (atI_n (j := 1) rfl 1 rfl)) (by rw [List.length_map, List.length_map]; omega)) (congrArg PyData.list snkD)) (Ex.refl H) q
theorem ok_lines (g : Gd P w K mg base) : Mtd P w K mg base 2 (CC K) "lines" (spC K (fun _ => True) fun p => .list (strsD p.lns)) := by
  refine g.mtd 34 103 85 d_Circuit_lines "Circuit" "lines" _ _ sc_Circuit_lines spC_len ?_ bn_Circuit_lines
  rintro cdv A outer s H vs Q E hr ⟨l, p, dx, fs, rfl, h, sm, _, q⟩
  have := sm.src; have := sm.gs
  refine go_out (EV.is (ev_cat (ev_cm (ok_sources g) hr (Nat.le_refl _) h sm True.intro (ex_v 0)) (ev_lcTm (xs := p.gs) (enc := gD) "gate" 1 (fun r => .str r.nm) sc_Circuit_lines.nd (ev_gs g h (ex_v 0)) (by omega) fun v r H1 hm z ri s1 H0 C cl fp => ev_ixT (ev_n 1 ri) ev_int (atI_n (j := 0) rfl 0 rfl)) (by rw [List.length_map, List.length_map]; omega)) (congrArg PyData.list lnsD)) (Ex.refl H) q
theorem ok_check_forms (g : Gd P w K mg base) : Mtd P w K mg base 3 (CC K) "check_forms" (spC K Fm fun p => .none) := by
  refine g.mtd 32 101 85 d_Circuit_check_forms "Circuit" "check_forms" _ _ sc_Circuit_check_forms spC_len ?_ bn_Circuit_check_forms
  rintro cdv A outer s H vs Q E hr ⟨l, p, dx, fs, rfl, h, sm, fm, q⟩
  have := sm.ins; have := sm.outs
  refine go_forT (ds := strsD (p.ins ++ p.outs)) (passes_of rfl) rfl (EV.is (ev_catT (ev_ins g h (ex_v 0)) (ev_outs g h (ex_v 0)) (by rw [List.length_map, List.length_map]; omega)) (congrArg PyData.tuple List.map_append.symm)) fun l1 xs1 H1 z1 hl1 hs1 => ⟨fun i σ' H' => ∃ y, σ' = [some (.ref l), y, none, none] ∧ Ex H1 H', ⟨none, rfl, Ex.refl _⟩, fun i σ' H' pv => ?_, fun i v d σ' H' e1 e2 ri pv => ?_, fun σ' H' pv => ?_⟩
  · obtain ⟨y, rfl, z⟩ := pv
    exact z _ _ hl1
  · obtain ⟨y, rfl, z⟩ := pv
    obtain ⟨x, e3, rfl⟩ := gems e2
    have gx : GoodName x := by
      rcases List.mem_append.mp (memAt e3) with a | a
      · exact fm.ins x a
      · exact fm.outs x a
    exact gt_n 1 sc_Circuit_check_forms.nd (go_when (k := false) (tw_not (k := true) (tw_val (ev_callD (ok_is_name g) (hr.mono (by omega)) (Nat.le_refl _) (av_cons (ev_n 1 (ri.mono z)) av_nil) ⟨x, rfl, gx, rfl⟩))) (fun e _ _ => nomatch e) fun _ H2 z2 => go_nil ⟨some v, rfl, z.trans z2⟩)
  · obtain ⟨y, rfl, z⟩ := pv
    have h := h.mono (z1.trans z)
    have zz := z1.trans z
    refine go_forT (ds := p.regs.map rD) (passes_of rfl) rfl (ev_regs g h (ex_v 0)) fun l1 xs1 H2 z2 hl2 hs2 => ⟨fun i σ' H' => ∃ y2, σ' = [some (.ref l), y, y2, none] ∧ Ex H2 H', ⟨none, rfl, Ex.refl _⟩, fun i σ' H' pv => ?_, fun i v d σ' H' e1 e2 ri pv => ?_, fun σ' H' pv => ?_⟩
    · obtain ⟨y, rfl, z⟩ := pv
      exact z _ _ hl2
    · obtain ⟨y, rfl, z⟩ := pv
      obtain ⟨x, e3, rfl⟩ := gems e2
      obtain ⟨ga, gb⟩ := fm.regs x (memAt e3)
      exact gt_n 2 sc_Circuit_check_forms.nd (go_when (k := false) (tw_not (k := true) (tw_val (ev_callD (ok_is_row g) (hr.mono (by omega)) (Nat.le_refl _) (av_cons (ev_n 2 (ri.mono z)) (av_cons ev_int av_nil)) ⟨x.1, x.2, rfl, ga, gb, rfl⟩))) (fun e _ _ => nomatch e) fun _ H2 z2 => go_nil ⟨some v, rfl, z.trans z2⟩)
    · obtain ⟨y2, rfl, z⟩ := pv
      have h := h.mono (z2.trans z)
      refine go_forT (ds := p.gs.map gD) (passes_of rfl) rfl (ev_gs g h (ex_v 0)) fun l1 xs1 H3 z3 hl3 hs3 => ⟨fun i σ' H' => ∃ y3, σ' = [some (.ref l), y, y2, y3] ∧ Ex H3 H', ⟨none, rfl, Ex.refl _⟩, fun i σ' H' pv => ?_, fun i v d σ' H' e1 e2 ri pv => ?_, fun σ' H' pv => ?_⟩
      · obtain ⟨y, rfl, z⟩ := pv
        exact z _ _ hl3
      · obtain ⟨y, rfl, z⟩ := pv
        obtain ⟨x, e3, rfl⟩ := gems e2
        obtain ⟨ga, gb, gc⟩ := fm.gs x (memAt e3)
        exact gt_n 3 sc_Circuit_check_forms.nd (go_when (k := false) (tw_not (k := true) (tw_val (ev_callD (ok_is_gate g) hr (Nat.le_refl _) (av_cons (ev_n 3 (ri.mono z)) av_nil) ⟨x, rfl, ga, gb, gc, rfl⟩))) (fun e _ _ => nomatch e) fun _ H2 z2 => go_nil ⟨some v, rfl, z.trans z2⟩)
      · obtain ⟨y3, rfl, z'⟩ := pv
        exact go_nil (q _ _ (zz.trans ((z2.trans z).trans (z3.trans z'))) fun _ _ => .non)
end
end Pw
namespace Pw
open PySem PySem.Spec L2
open Evl (Ex)
section
variable {X : Cx} {elt iter iter1 : Expr} {σ : L2.St} {H : Hp} {px px2 pos spos py : Pos} {x x2 y : Str} {scope : Scope} {rest : List Stmt} {D : Ends}
theorem wipe2 {σ : L2.St} {j j2 : Nat} {v : V} (h : j ≠ j2) : wipe ((wipe σ [j, j2]).set j (some v)) [j, j2] = wipe σ [j, j2] := by
  show ((((σ.set j2 none).set j none).set j (some v)).set j2 none).set j none = (σ.set j2 none).set j none
  rw [List.set_set, List.set_comm _ _ h, List.set_set, List.set_set]
theorem wipe3 {σ : L2.St} {j2 : Nat} {v : V} : wipe ((wipe σ [j2]).set j2 (some v)) [j2] = wipe σ [j2] := wipe1
/-- y = [e for x in tuple for x2 in tuple], texts -/
theorem go_lc2S {α : Type} {ds : List α} {enc : α → PyData} (i : Nat) (x x2 : Str) (j j2 : Nat) (f : α → List Str) (hN : X.N.Nodup) (hjj : j ≠ j2) (hi : EV X σ H iter (.tuple (ds.map enc))) (hz : ((ds.flatMap f).length) ≤ 40000)
    (h1 : ∀ (v : V) (y : α) (H1 : Hp) (σ' : L2.St), y ∈ ds → Ex H H1 → Is H1 v (enc y) → σ' = (wipe σ [j, j2]).set j (some v) → EB X scope σ' H1 iter1 (.tuple (strsD (f y)) |> dat))
    (he : ∀ (z : Str) (H1 : Hp) (σ' : L2.St), Ex H H1 → (∃ σ2 : L2.St, σ' = (wipe σ2 [j2]).set j2 (some (.str z)) ∧ σ2.length = σ.length) → EB X scope σ' H1 elt (dat (.str z)))
    (q : ∀ v H1, Ex H H1 → Fr H (strsD (ds.flatMap f)) v H1 → tSs X rest D (σ.set i (some v)) H1)
    (hc : X.calm = true := by rfl) (ok : blkC X.N X.env.scope scope [(x, j), (x2, j2)] = true := by kernel_rfl) (hj : X.N[j]? = some x := by rfl) (hj2 : X.N[j2]? = some x2 := by rfl) (hy : X.N[i]? = some y := by rfl) (hyl : X.env.scope.names.lookup y = some .local := by rfl)
    (hs : ∀ x, foldedSetIterable iter X.env x = pure x := by intro _; rfl) (hs1 : ∀ env x, foldedSetIterable iter1 env x = pure x := by intro _ _; rfl) (hk : X.env.scope.kind = .function := by rfl) (hl : (py.line == pos.line) = true := by rfl) (ha : (scope.names.any fun (n, k) => n == y && (k == .local || k == .cell)) = false := by rfl)
    (hx : ∀ (cl : List (Str × Addr)) (C : Addr), Loc (compEnvC scope cl C X.env).scope x := by first | exact fun _ _ => Or.inl rfl | exact fun _ _ => Or.inr rfl)
    (hf : ∀ (cl : List (Str × Addr)) (C : Addr), (compEnvC scope cl C X.env).scope.names.lookup x = some .local := by exact fun _ _ => rfl)
    (hx2 : ∀ (cl : List (Str × Addr)) (C : Addr), Loc (compEnvC scope cl C X.env).scope x2 := by first | exact fun _ _ => Or.inl rfl | exact fun _ _ => Or.inr rfl)
    (hf2 : ∀ (cl : List (Str × Addr)) (C : Addr), (compEnvC scope cl C X.env).scope.names.lookup x2 = some .local := by exact fun _ _ => rfl) :
    tSs X (.Assign [.Name y py] (.ListComp elt [⟨.Name x px, iter, [], 0⟩, ⟨.Name x2 px2, iter1, [], 0⟩] scope pos) spos :: rest) D σ H :=
  go_cons (toS (ps_setLc2 (i := i) (wi1 := iTup X.K (bE X scope iter1)) (te := bE X scope elt) (vs1 := [j2]) hc hN hy hyl (sw_true hk hyl hl ha) (pi_tup pE) (blkOk_by ok) (by simp) (fun s H0 C cl fp => pg_name (X := X.blk s H0 scope (compEnvC scope cl C X.env) fp) hN hj (hx cl C) (.inr (hf cl C))) (fun s H0 C cl fp => pts_nil)
    (fun s H0 C cl fp => pi_tup pbE) (fun s H0 C cl fp => pg_name (X := X.blk s H0 scope (compEnvC scope cl C X.env) fp) hN hj2 (hx2 cl C) (.inr (hf2 cl C))) (fun s H0 C cl fp => pts_nil) (fun s H0 C cl fp => pbE) hs hs1) (hi.run fun v H1 z r => by
    cases r with
    | @tup l xs _ hl1 hsA =>
      refine ⟨l, rfl, ⟨xs, SqT.of hl1⟩, fun D' hD => ?_⟩
      have hlen : xs.length = ds.length := by rw [hsA.length, List.length_map]
      refine ⟨fun i m H' => m = ds.length - i ∧ i ≤ ds.length ∧ Ex H1 H' ∧ H' D' = some (.lst (((ds.take i).flatMap f).map V.str)), ⟨ds.length, by simp, Nat.zero_le _, Ex.new hD, upd_same⟩, ?_⟩
      rintro i m H' ⟨rfl, hi', ex, hd⟩
      by_cases hlt : i < ds.length
      · refine .inr ⟨⟨xs, xs[i]'(by omega), SqT.of (ex _ _ hl1), by simp⟩, fun H2 => Ex H1 H2 ∧ H2 D' = some (.lst (((ds.take (i + 1)).flatMap f).map V.str)), fun H2 p => ⟨ds.length - (i + 1), by omega, rfl, hlt, p.1, p.2⟩, fun xv H2 yl => ?_⟩
        obtain ⟨rfl, yl⟩ := yl
        have e1 := yl xs (SqT.of (ex _ _ hl1))
        obtain ⟨d, e2, ri⟩ := hsA.at_ e1
        obtain ⟨y, e3, rfl⟩ := gems e2
        have sub : (ds.take (i + 1)).flatMap f = (ds.take i).flatMap f ++ f y := flatMap_snoc f ds i e3
        have le1 : ((ds.take i).flatMap f).length + (f y).length ≤ 40000 := by
          rw [← List.length_append, ← sub]
          have e4 : ds.flatMap f = (ds.take (i + 1)).flatMap f ++ (ds.drop (i + 1)).flatMap f := by rw [← List.flatMap_append, List.take_append_drop]
          rw [e4, List.length_append] at hz
          omega
        refine ⟨wipe2 hjj, ?_⟩
        unfold tYes
        dsimp only
        rw [if_pos rfl]
        refine (h1 xv y H1 _ (memAt e3) z ri rfl).run ex fun v2 H3 z3 p3 => ?_
        cases p3 H3 (Ex.refl H3) with
        | @tup l2 ys _ hl2 hsB =>
          have eys := hsB.strs_eq
          subst eys
          refine ⟨l2, rfl, ⟨_, SqT.of hl2⟩, ?_⟩
          refine ⟨fun k m H' => m = (f y).length - k ∧ k ≤ (f y).length ∧ Ex H1 H' ∧ H' l2 = some (.tup ((f y).map V.str)) ∧ H' D' = some (.lst (((ds.take i).flatMap f ++ (f y).take k).map V.str)), ⟨(f y).length, by simp, Nat.zero_le _, ex.trans z3, hl2, by simpa using z3 _ _ hd⟩, ?_⟩
          rintro k m H4 ⟨rfl, hk', ex4, hl4, hd4⟩
          by_cases hlt2 : k < (f y).length
          · refine .inr ⟨⟨_, ((f y).map V.str)[k]'(by rw [List.length_map]; exact hlt2), SqT.of hl4, by simp⟩, fun H2 => Ex H1 H2 ∧ H2 l2 = some (.tup ((f y).map V.str)) ∧ H2 D' = some (.lst (((ds.take i).flatMap f ++ (f y).take (k + 1)).map V.str)), fun H2 p => ⟨(f y).length - (k + 1), by omega, rfl, hlt2, p.1, p.2.1, p.2.2⟩, fun xv H5 yl => ?_⟩
            obtain ⟨rfl, yl⟩ := yl
            have e5 := yl _ (SqT.of hl4)
            obtain ⟨zz, e6, rfl⟩ := gems e5
            refine ⟨wipe3, ?_⟩
            rw [if_pos rfl]
            refine (he zz H1 _ z ⟨_, rfl, by simp [wipe]⟩).run ex4 fun v6 H6 z6 p6 => ⟨_, z6 _ _ hd4, sz10' (by rw [List.length_map, List.length_append, List.length_take]; omega), Ex.put (ex4.trans z6) hD, ?_, ?_⟩
            · rw [upd_ne (ne_of (z6 _ _ hl4) (z6 _ _ hd4) (fun q => nomatch q))]
              exact z6 _ _ hl4
            · rw [upd_same, (p6 H6 (Ex.refl H6)).str_eq, List.take_add_one, e6]
              simp
          · have e : k = (f y).length := by omega
            subst e
            rw [List.take_length, ← sub] at hd4
            exact .inl ⟨⟨_, SqT.of hl4, by rw [List.length_map]; exact Nat.le_refl _⟩, ex4, hd4⟩
      · have e : i = ds.length := by omega
        subst e
        rw [List.take_length] at hd
        exact .inl ⟨⟨xs, SqT.of (ex _ _ hl1), by omega⟩, q _ _ (z.trans ex) ⟨D', _, rfl, none_of z hD, hd, IsA.strs _⟩⟩))
end
def Pt.use (p : Pt) : List Str := p.gs.flatMap (·.ps) ++ p.regs.map (·.2) ++ p.outs
theorem useD {p : Pt} : strsD (p.gs.flatMap (·.ps)) ++ p.regs.map (fun r => PyData.str r.2) ++ strsD p.outs = strsD p.use := by
  unfold Pt.use strsD
  rw [List.map_append, List.map_append, List.map_map]
  rfl
theorem Sm.pins {p : Pt} (h : Sm p) : (p.gs.flatMap (·.ps)).length ≤ 40 := by
  have h1 := len_flatMap (f := fun g : G => g.ps) (m := 4) (xs := p.gs) h.ps
  have := h.gs
  omega
theorem Sm.use {p : Pt} (h : Sm p) : p.use.length ≤ 50 := by
  have := h.pins; have := h.regs; have := h.outs
  unfold Pt.use
  rw [List.length_append, List.length_append, List.length_map]
  omega
section
variable {P : Program} {w : World} {K : PySem.W.Frag} {mg : Str → Option Value} {base : Heap}
theorem ok_uses (g : Gd P w K mg base) : Mtd P w K mg base 1 (CC K) "uses" (spC K (fun _ => True) fun p => .list (strsD p.use)) := by
  refine g.mtd 35 104 85 d_Circuit_uses "Circuit" "uses" _ _ sc_Circuit_uses spC_len ?_ bn_Circuit_uses
  rintro cdv A outer s H vs Q E hr ⟨l, p, dx, fs, rfl, h, sm, _, q⟩
  have l1 := sm.pins; have l2 := sm.regs; have l3 := sm.outs
  refine go_lc2S (ds := p.gs) (enc := gD) 1 "gate" "pin" 2 3 (fun g => g.ps) sc_Circuit_uses.nd (by decide) (ev_gs g h (ex_v 0)) (by omega) (fun v y H1 σ' hy z ri eσ s1 H0 C cl fp => ?_) (fun zz H1 σ' z ⟨σ2, eσ, hl⟩ s1 H0 C cl fp => ?_) fun v1 H1 z1 ⟨a, xs, e1, hn, ha, hxs⟩ => ?_
  · subst eσ
    exact ev_ixT (ev_n 2 ri) ev_int (atI_n (j := 2) rfl 2 rfl)
  · subst eσ
    have hl' : σ2.length = 5 := hl
    match σ2, hl' with
    | [_, _, _, _, _], _ => exact ev_n 3 (.str zz)
  · subst e1
    have h := h.mono z1
    have k1 : Is H1 (.ref a) (.list (strsD (p.gs.flatMap (·.ps)))) := .lst ha hxs
    refine go_out (EV.is (ev_cat (ev_cat (ev_n 1 k1) (ev_lcTm (xs := p.regs) (enc := rD) "cell" 4 (fun r => .str r.2) sc_Circuit_uses.nd (ev_regs g h (ex_v 0)) (by omega) fun v r H1 hm z ri s1 H0 C cl fp => ev_ixT (ev_n 4 ri) ev_int (atI_n (j := 1) rfl 1 rfl)) (by rw [List.length_map, List.length_map]; omega)) (ev_listT g.list (ev_outs g h (ex_v 0))) (by rw [List.length_append, List.length_map, List.length_map, List.length_map]; omega)) (congrArg PyData.list useD)) z1 q
end
end Pw
namespace Pw
open PySem PySem.Spec L2
open Evl (Ex)
/-! ### sets of names as dicts -/
def encB (ss : List Str) : List (Key × V) := ss.map fun x => ((.inr x : Key), V.bl true)
theorem val_encB (x : Str) : ∀ ss : List Str, valV (encB ss) (.inr x) = if x ∈ ss then some (.bl true) else none
  | [] => rfl
  | a :: r => by
    by_cases h : a = x
    · rw [if_pos (by rw [h]; exact List.mem_cons_self)]
      exact valV_pos (p := ((.inr a : Key), V.bl true)) (congrArg Sum.inr h)
    · have e := val_encB x r
      have e2 : valV (encB (a :: r)) (.inr x) = valV (encB r) (.inr x) := valV_neg (p := ((.inr a : Key), V.bl true)) fun q => h (Sum.inr.inj q)
      rw [e2, e]
      by_cases m : x ∈ r
      · rw [if_pos m, if_pos (List.mem_cons_of_mem _ m)]
      · rw [if_neg m, if_neg fun q => by
          rcases List.mem_cons.mp q with q | q
          · exact h q.symm
          · exact m q]
theorem in_encB (x : Str) (ss : List Str) : (valV (encB ss) (.inr x)).isSome = decide (x ∈ ss) := by
  rw [val_encB]
  by_cases h : x ∈ ss
  · rw [if_pos h, decide_eq_true h]; rfl
  · rw [if_neg h, decide_eq_false h]; rfl
def addS (f : List Str) (x : Str) : List Str := if x ∈ f then f else f ++ [x]
theorem put_encB (f : List Str) (x : Str) : putK (encB f) (.inr x) (.bl true) = encB (addS f x) := by
  unfold addS
  by_cases h : x ∈ f
  · rw [if_pos h]
    have a : ((encB f).any fun kv => decide (kv.1 = (.inr x : Key))) = true := by
      rw [valV_any, in_encB, decide_eq_true h]
    unfold putK
    rw [if_pos a]
    refine (List.map_congr_left fun kv hkv => ?_).trans (List.map_id _)
    obtain ⟨y, _, rfl⟩ := List.mem_map.mp (show kv ∈ f.map _ from hkv)
    by_cases e : ((.inr y : Key)) = .inr x
    · rw [if_pos e]; rfl
    · rw [if_neg e]; rfl
  · rw [if_neg h, putK_new _ (by rw [val_encB, if_neg h])]
    unfold encB
    rw [List.map_append]
    rfl
theorem encB_len (f : List Str) : (encB f).length = f.length := List.length_map ..
def SetR (ss : List Str) : PV := fun v H2 => ∃ l, v = .ref l ∧ H2 l = some (.dK (encB ss))
section
variable {P : Program} {w : World} {K : PySem.W.Frag} {mg : Str → Option Value} {base : Heap}
theorem ok_check_names (g : Gd P w K mg base) : Mtd P w K mg base 3 (CC K) "check_names" (spC K (fun p => p.lns.Nodup ∧ ∀ x ∈ p.use, x ∈ p.lns) fun p => .none) := by
  refine g.mtd 33 102 85 d_Circuit_check_names "Circuit" "check_names" _ _ sc_Circuit_check_names spC_len ?_ bn_Circuit_check_names
  rintro cdv A outer s H vs Q E hr ⟨l, p, dx, fs, rfl, h, sm, ⟨nd, us⟩, q⟩
  have l1 := sm.lns; have l2 := sm.src
  refine go_set 1 sc_Circuit_check_names.nd ew_dnew fun w1 H1 z1 ⟨a, e1, hn, ha⟩ => ?_
  subst e1
  refine go_forL (ds := strsD p.lns) (passes_of rfl) rfl (ev_cm (ok_lines g) hr (Nat.le_refl _) (h.mono z1) sm True.intro (ex_v 0)) fun l2 xs2 H2 z2 hl2 hs2 => ⟨fun i σ' H' => ∃ y, σ' = [some (.ref l), some (.ref a), y] ∧ Ex H H' ∧ H' l2 = some (.lst xs2) ∧ H' a = some (.dK (encB (p.lns.take i))), ⟨none, rfl, z1.trans z2, hl2, z2 _ _ ha⟩, fun i σ' H' pv => ?_, fun i v d σ' H' e1 e2 ri pv => ?_, fun σ' H' pv => ?_⟩
  · obtain ⟨_, _, _, h, _⟩ := pv
    exact h
  · obtain ⟨y, rfl, z, hl, hd⟩ := pv
    obtain ⟨x, e3, rfl⟩ := gems e2
    rw [ri.str_eq]
    have nx : x ∉ p.lns.take i := fun hx => by
      obtain ⟨j, hj⟩ := List.getElem?_of_mem hx
      rw [List.getElem?_take] at hj
      split at hj
      · have := (List.getElem?_inj (List.getElem?_eq_some_iff.mp hj).1 nd).mp (hj.trans e3.symm)
        omega
      · cases hj
    refine gt_n 2 sc_Circuit_check_names.nd (go_when (k := false) (TW.is (tw_din hr (ev_n 2 (.str x)) (ex_v 1) (.inl hd)) (by rw [in_encB, decide_eq_false nx])) (fun e _ _ => nomatch e) fun _ H3 z3 => go_dput (l := a) (z := x) (by have := hr.units; omega) ev_bl (ex_v 1) (ev_n 2 (.str x)) (z3 _ _ hd) (by rw [encB_len, List.length_take]; omega) fun v4 H4 z4 p4 => go_nil ⟨some (.str x), rfl, Ex.put (z.trans (z3.trans z4)) hn, ?_, ?_⟩)
    · have zz := z3.trans z4
      rw [upd_ne (ne_of (zz _ _ hl) (zz _ _ hd) (fun q => nomatch q))]
      exact zz _ _ hl
    · rw [upd_same, p4.bl_eq, put_encB, List.take_add_one, e3]
      unfold addS
      rw [if_neg nx]
      rfl
  · obtain ⟨y, rfl, z, _, hd⟩ := pv
    rw [List.length_map, List.take_length] at hd
    refine go_forL (ds := strsD p.use) (passes_of rfl) rfl (ev_cm (ok_uses g) hr (by omega) (h.mono z) sm True.intro (ex_v 0)) fun l3 xs3 H3 z3 hl3 hs3 => ⟨fun i σ' H' => ∃ y, σ' = [some (.ref l), some (.ref a), y] ∧ Ex H3 H', ⟨y, rfl, Ex.refl _⟩, fun i σ' H' pv => ?_, fun i v d σ' H' e1 e2 ri pv => ?_, fun σ' H' pv => ?_⟩
    · obtain ⟨_, _, z⟩ := pv
      exact z _ _ hl3
    · obtain ⟨y, rfl, z4⟩ := pv
      obtain ⟨x, e3, rfl⟩ := gems e2
      rw [ri.str_eq]
      exact gt_n 2 sc_Circuit_check_names.nd (go_when (k := false) (TW.is (tw_dni hr (ev_n 2 (.str x)) (ex_v 1) (.inl (z4 _ _ (z3 _ _ hd)))) (by rw [in_encB, decide_eq_true (us x (memAt e3))]; rfl)) (fun e _ _ => nomatch e) fun _ H5 z5 => go_nil ⟨some (.str x), rfl, z4.trans z5⟩)
    · obtain ⟨y, rfl, z4⟩ := pv
      have zz := z.trans (z3.trans z4)
      refine go_when (k := false) (TW.is (tw_w (ww_or (k := false) (l := false) (TW.is (tw_cmp op_gt rfl (ev_lenL g.len (ev_cm (ok_lines g) hr (Nat.le_refl _) (h.mono zz) sm True.intro (ex_v 0))) (ev_cI g.mLines) rb_I) (decide_eq_false (by rw [List.length_map]; omega))) fun _ => ww_or1 (TW.is (tw_cmp op_gt rfl (ev_lenL g.len (ev_cm (ok_sources g) hr (by omega) (h.mono zz) sm True.intro (ex_v 0))) (ev_cI g.mSources) rb_I) (decide_eq_false (by rw [List.length_map]; omega))))) rfl) (fun e _ _ => nomatch e) fun _ H5 z5 => go_nil (q _ _ (zz.trans z5) fun _ _ => .non)
end
end Pw
namespace Pw
open PySem PySem.Spec L2
open Evl (Ex)
/-! ### data compared -/
/-- data of depth n at most, without dicts -/
inductive SD : Nat → PyData → Prop
  | non (n : Nat) : SD (n + 1) .none
  | bl (n : Nat) (b : Bool) : SD (n + 1) (.bool b)
  | int (n : Nat) (i : Int) : SD (n + 1) (.int i)
  | str (n : Nat) {x : Str} (h : PyData.strOk x = true) : SD (n + 1) (.str x)
  | lst (n : Nat) {ds : List PyData} (h : ∀ d ∈ ds, SD n d) : SD (n + 1) (.list ds)
  | tup (n : Nat) {ds : List PyData} (h : ∀ d ∈ ds, SD n d) : SD (n + 1) (.tuple ds)
theorem canAll : ∀ {ds : List PyData}, (∀ d ∈ ds, d.canLay0 = true) → PyData.canLayAll0 ds = true
  | [], _ => by simp [PyData.canLayAll0]
  | d :: r, h => by simp [PyData.canLayAll0, h d List.mem_cons_self, canAll (ds := r) fun x hx => h x (List.mem_cons_of_mem _ hx)]
theorem depAll {n : Nat} : ∀ {ds : List PyData}, (∀ d ∈ ds, d.depth ≤ n) → PyData.depthAll ds ≤ n
  | [], _ => by simp [PyData.depthAll]
  | d :: r, h => by
    have h1 := h d List.mem_cons_self
    have h2 := depAll (ds := r) fun x hx => h x (List.mem_cons_of_mem _ hx)
    simp only [PyData.depthAll]
    omega
theorem SD.can : ∀ {n : Nat} {d : PyData}, SD n d → d.canLay0 = true
  | _, _, .non _ => by simp [PyData.canLay0]
  | _, _, .bl _ _ => by simp [PyData.canLay0]
  | _, _, .int _ _ => by simp [PyData.canLay0]
  | _, _, .str _ h => by simp [PyData.canLay0, h]
  | _, _, .lst _ h => by simp only [PyData.canLay0]; exact canAll fun d hd => (h d hd).can
  | _, _, .tup _ h => by simp only [PyData.canLay0]; exact canAll fun d hd => (h d hd).can
theorem SD.dep : ∀ {n : Nat} {d : PyData}, SD n d → d.depth ≤ n
  | _, _, .non _ => by simp [PyData.depth]
  | _, _, .bl _ _ => by simp [PyData.depth]
  | _, _, .int _ _ => by simp [PyData.depth]
  | _, _, .str _ _ => by simp [PyData.depth]
  | _, _, .lst n h => by
    have := depAll fun d hd => (h d hd).dep
    simp only [PyData.depth]
    omega
  | _, _, .tup n h => by
    have := depAll fun d hd => (h d hd).dep
    simp only [PyData.depth]
    omega
theorem SD.shaped {n : Nat} {d : PyData} (h : SD n d) (hn : n ≤ 64 := by decide) : SeqAt.shaped d = true := by
  unfold SeqAt.shaped
  rw [Bool.and_eq_true]
  exact ⟨h.can, decide_eq_true (Nat.le_trans h.dep hn)⟩
end Pw
namespace Pw
open PySem PySem.Spec L2
open Evl (Ex)
theorem goodC_lt {c : Nat} (h : goodC c = true) : c < 0x110000 := by
  unfold goodC at h
  simp only [Bool.or_eq_true, decide_eq_true_eq] at h
  rcases h with (h | h) | h
  · have : ∀ c ∈ ("abcdefghijklmnopqrstuvwxyz" : Str).cps.toList, c < 0x110000 := by decide +kernel
    exact this c h
  · have : ∀ c ∈ ("0123456789" : Str).cps.toList, c < 0x110000 := by decide +kernel
    exact this c h
  · have e := congrArg (fun s : Str => s.cps.toList) h
    have e2 : c = 95 := by
      have e3 : ("_" : Str).cps.toList = [95] := by decide +kernel
      rw [e3] at e
      simpa using e
    omega
theorem GoodName.ok {z : Str} (h : GoodName z) : PyData.strOk z = true := by
  unfold PyData.strOk
  rw [Array.all_eq_true']
  intro c hc
  exact decide_eq_true (goodC_lt (h.2.2.2 c (by rw [Array.mem_toList_iff]; exact hc)))
theorem KdOk.ok {k : Str} {n : Nat} (h : KdOk k n) : PyData.strOk k = true := by
  rcases h with ⟨h, _⟩ | ⟨h, _⟩ | ⟨h, _⟩
  · simp only [List.mem_cons, List.mem_nil_iff, or_false] at h
    rcases h with rfl | rfl <;> decide +kernel
  · simp only [List.mem_cons, List.mem_nil_iff, or_false] at h
    rcases h with rfl | rfl <;> decide +kernel
  · simp only [List.mem_cons, List.mem_nil_iff, or_false] at h
    rcases h with rfl | rfl | rfl | rfl | rfl | rfl <;> decide +kernel
theorem sd_gate {g : G} (hn : GoodName g.nm) (hp : nmsOk g.ps) (hk : KdOk g.kd g.ps.length) : SD 3 (gD g) := .tup 2 fun d hd => by
  simp only [List.mem_cons, List.mem_nil_iff, or_false] at hd
  rcases hd with rfl | rfl | rfl
  · exact .str 1 hn.ok
  · exact .str 1 hk.ok
  · exact .tup 1 fun d hd => by
      obtain ⟨x, hx, rfl⟩ := List.mem_map.mp hd
      exact .str 0 (hp x hx).ok
theorem TD.gate (g : G) : TD (gD g) := .tup fun d hd => by
  simp only [List.mem_cons, List.mem_nil_iff, or_false] at hd
  rcases hd with rfl | rfl | rfl
  · exact .str _
  · exact .str _
  · exact .tup (TD.str' _)
theorem TD.gates (gs : List G) : ∀ d ∈ gs.map gD, TD d := fun d hd => by
  obtain ⟨g, _, rfl⟩ := List.mem_map.mp hd
  exact .gate g
section
variable {X : Cx} {c : Expr} {σ : L2.St} {H : Hp} {pos : Pos} {body rest : List Stmt} {D : Ends}
/-- while, by a word and a measure -/
theorem go_while (hp : PassesOwn (model X.prog X.w) X.A X.env X.xe) (W : Nat → L2.St → Hp → Prop) (m0 : Nat) (h0 : W m0 σ H) (st : ∀ m σ H, W m σ H → ∃ k, TW X σ H c k ∧
    (k = true → ∀ H1, Ex H H1 → tSs X body (LoopE X rest D fun σ' H' => ∃ m', m' < m ∧ W m' σ' H') σ H1) ∧ (k = false → ∀ H1, Ex H H1 → tSs X rest D σ H1)) : tSs X (.While c body [] pos :: rest) D σ H :=
  go_cons (toS (ps_while hp pT pSs) ⟨W, ⟨m0, h0⟩, fun m σ H w => by
    obtain ⟨k, tw, h1, h2⟩ := st m σ H w
    refine tw.run fun H1 z => ?_
    cases k with
    | true =>
      rw [if_pos rfl]
      exact ⟨_, fun σ' H' p => p, h1 rfl H1 z⟩
    | false =>
      rw [if_neg Bool.false_ne_true]
      exact h2 rfl H1 z⟩)
end
/-! ### above, by the program -/
def pAbG (f : List Str) (g : G) : List Str := if g.nm ∈ f then g.ps.foldl addS f else f
def pAb (ord : List G) (l : Str) : List Str := ord.reverse.foldl pAbG [l]
theorem addS_len {f : List Str} {x : Str} : (addS f x).length ≤ f.length + 1 := by
  unfold addS
  split
  · omega
  · rw [List.length_append]; exact Nat.le_refl _
theorem addF_len : ∀ {xs f : List Str}, (xs.foldl addS f).length ≤ f.length + xs.length
  | [], f => by simp
  | x :: r, f => by
    have h1 := addS_len (f := f) (x := x)
    have h2 := addF_len (xs := r) (f := addS f x)
    rw [List.foldl_cons, List.length_cons]
    omega
theorem pAbG_len {f : List Str} {g : G} (h : g.ps.length ≤ 4) : (pAbG f g).length ≤ f.length + 4 := by
  unfold pAbG
  split
  · have := addF_len (xs := g.ps) (f := f)
    omega
  · omega
theorem pAbF_len : ∀ {gs : List G} {f : List Str}, (∀ g ∈ gs, g.ps.length ≤ 4) → (gs.foldl pAbG f).length ≤ f.length + 4 * gs.length
  | [], f, _ => by simp
  | g :: r, f, h => by
    have h1 := pAbG_len (f := f) (h g List.mem_cons_self)
    have h2 := pAbF_len (gs := r) (f := pAbG f g) fun x hx => h x (List.mem_cons_of_mem _ hx)
    rw [List.foldl_cons, List.length_cons]
    omega
/-- the order that the circuit keeps -/
structure HasO (K : PySem.W.Frag) (H : Hp) (l : Addr) (ord : List G) (dx : Addr) (fs : List (Str × V)) : Prop where
  at_ : H l = some (.ins (CC K) dx fs)
  ord : ∃ v, fs.lookup ("order" : Str) = some v ∧ Is H v (.list (ord.map gD))
theorem HasO.mono {K : PySem.W.Frag} {H H' : Hp} {l : Addr} {ord : List G} {dx : Addr} {fs : List (Str × V)} (h : HasO K H l ord dx fs) (z : Ex H H') : HasO K H' l ord dx fs where
  at_ := z _ _ h.at_
  ord := let ⟨v, e, r⟩ := h.ord; ⟨v, e, r.mono z⟩
section
variable {P : Program} {w : World} {K : PySem.W.Frag} {mg : Str → Option Value} {base : Heap}
theorem ev_ord {X : Cx} {o : Expr} {σ : L2.St} {H : Hp} {l dx : Addr} {ord : List G} {fs : List (Str × V)} {pos : Pos} (g : Gd X.prog X.w X.K X.mg X.base) (h : HasO X.K H l ord dx fs) (ho : EX X σ H o (.ref l)) (hb : attributeBase o "order" X.env (eval o X.env) = eval o X.env := by rfl) : EV X σ H (.Attribute o "order" pos) (.list (ord.map gD)) := by
  obtain ⟨v, e, r⟩ := h.ord
  exact EX.at_ (ex_fld ho h.at_ g.cCls g.cOrd e hb) r
def spAbove (K : PySem.W.Frag) : Sp := fun vs H Q _ => ∃ l x ord dx fs, vs = [.ref l, .str x] ∧ HasO K H l ord dx fs ∧ ord.length ≤ 10 ∧ (∀ g ∈ ord, g.ps.length ≤ 4) ∧ Giv H (SetR (pAb ord x)) Q
theorem ok_above (g : Gd P w K mg base) : Mtd P w K mg base 1 (CC K) "above" (spAbove K) := by
  refine g.mtd 39 108 85 d_Circuit_above "Circuit" "above" _ _ sc_Circuit_above ?_ ?_ bn_Circuit_above
  · rintro vs H Q E ⟨l, x, ord, dx, fs, rfl, _⟩
    rfl
  rintro cdv A outer s H vs Q E hr ⟨l, x, ord, dx, fs, rfl, h, hl, hp, q⟩
  refine go_set (P := FrD H [((.inr x : Key), .bl true)]) 2 sc_Circuit_above.nd (ew_disp1 (ev_n 1 (.str x)) (EW.ofBl ev_bl)) fun w1 H1 z1 ⟨a, e1, hn, ha⟩ => ?_
  subst e1
  have ha : H1 a = some (.dK (encB [x])) := ha
  refine go_forL (ds := ord.reverse.map gD) (passes_of rfl) rfl (EV.is (ev_rev (ev_ord g (h.mono z1) (ex_v 0))) (congrArg PyData.list List.map_reverse.symm)) fun l2 xs2 H2 z2 hl2 hs2 => ⟨fun i σ' H' => ∃ y1 y2, σ' = [some (.ref l), some (.str x), some (.ref a), y1, y2] ∧ Ex H H' ∧ ExT H2 H' ∧ H' l2 = some (.lst xs2) ∧ H' a = some (.dK (encB ((ord.reverse.take i).foldl pAbG [x]))), ⟨none, none, rfl, z1.trans z2, ExT.refl _, hl2, z2 _ _ ha⟩, fun i σ' H' pv => ?_, fun i v d σ' H' e1 e2 ri pv => ?_, fun σ' H' pv => ?_⟩
  · obtain ⟨_, _, _, _, _, h, _⟩ := pv
    exact h
  · obtain ⟨y1, y2, rfl, z, xt, hl2', hd⟩ := pv
    obtain ⟨y, e3, rfl⟩ := gems e2
    have hy := hp y (List.mem_reverse.mp (memAt e3))
    have e4 : (ord.reverse.take (i + 1)).foldl pAbG [x] = pAbG ((ord.reverse.take i).foldl pAbG [x]) y := by rw [List.take_add_one, e3]; simp
    have lf := pAbF_len (gs := ord.reverse.take i) (f := [x]) fun g hg => hp g (List.mem_reverse.mp (List.mem_of_mem_take hg))
    rw [List.length_take, List.length_reverse] at lf
    have lf : ((ord.reverse.take i).foldl pAbG [x]).length ≤ 100 := by
      simp only [List.length_cons, List.length_nil] at lf
      omega
    generalize hF : (ord.reverse.take i).foldl pAbG [x] = F at *
    have ri := ri.tmono xt (.gate y)
    refine gt_n 3 sc_Circuit_above.nd (go_when (k := decide (y.nm ∈ F)) (TW.is (tw_din hr (ev_ixT (ev_n 3 ri) ev_int (atI_n (j := 0) rfl 0 rfl)) (ex_v 2) (.inl hd)) (in_encB _ _)) (fun t H3 z3 => ?_) fun t H3 z3 => ?_)
    · have hd3 := z3 _ _ hd
      refine go_forT (ds := strsD y.ps) (passes_of rfl) rfl (ev_ixT (ev_n 3 (ri.mono z3)) ev_int (atI_n (j := 2) rfl 2 rfl)) fun l4 xs4 H4 z4 hl4 hs4 => ⟨fun k σ' H' => ∃ y2, σ' = [some (.ref l), some (.str x), some (.ref a), some v, y2] ∧ Ex H H' ∧ ExT H2 H' ∧ H' l2 = some (.lst xs2) ∧ H' l4 = some (.tup xs4) ∧ H' a = some (.dK (encB ((y.ps.take k).foldl addS F))), ⟨y2, rfl, (z.trans z3).trans z4, xt.trans (.of (z3.trans z4)), z4 _ _ (z3 _ _ hl2'), hl4, z4 _ _ hd3⟩, fun k σ' H' pv => ?_, fun k u d σ' H' e1 e2 rk pv => ?_, fun σ' H' pv => ?_⟩
      · obtain ⟨_, _, _, _, _, h, _⟩ := pv
        exact h
      · obtain ⟨y2, rfl, z, xt, hl2', hl4', hd⟩ := pv
        obtain ⟨pn, e5, rfl⟩ := gems e2
        have lk := addF_len (xs := y.ps.take k) (f := F)
        rw [List.length_take] at lk
        rw [rk.str_eq]
        refine gt_n 4 sc_Circuit_above.nd (go_dput (l := a) (z := pn) (by have := hr.units; omega) ev_bl (ex_v 2) (ev_n 4 (.str pn)) hd (by rw [encB_len]; omega) fun v6 H6 z6 p6 => go_nil ⟨some (.str pn), rfl, Ex.put (z.trans z6) hn, (xt.trans (.of z6)).put (z6 _ _ hd) (fun _ q => nomatch q), ?_, ?_, ?_⟩)
        · rw [upd_ne (ne_of (z6 _ _ hl2') (z6 _ _ hd) (fun q => nomatch q))]
          exact z6 _ _ hl2'
        · rw [upd_ne (ne_of (z6 _ _ hl4') (z6 _ _ hd) (fun q => nomatch q))]
          exact z6 _ _ hl4'
        · rw [upd_same, p6.bl_eq, put_encB, List.take_add_one, e5, List.foldl_append]
          rfl
      · obtain ⟨y2, rfl, z, xt, hl2', _, hd⟩ := pv
        rw [List.length_map, List.take_length] at hd
        refine go_nil (go_nil ⟨some v, y2, rfl, z, xt, hl2', ?_⟩)
        rw [e4]
        unfold pAbG
        rw [if_pos (of_decide_eq_true t)]
        exact hd
    · refine go_nil ⟨some v, y2, rfl, z.trans z3, xt.trans (.of z3), z3 _ _ hl2', ?_⟩
      rw [e4]
      unfold pAbG
      rw [if_neg (of_decide_eq_false t)]
      exact z3 _ _ hd
  · obtain ⟨y1, y2, rfl, z, _, _, hd⟩ := pv
    rw [List.length_map, List.take_length] at hd
    exact go_out (EW.imp (ex_v 2) fun v H5 z5 p5 => ⟨a, p5, z5 _ _ hd⟩) z q
end
end Pw
namespace Pw
open PySem PySem.Spec L2
open Evl (Ex)
/-! ### sorting gates -/
abbrev Sgs : Type := List Str × List G × List G
def sgS (st : Sgs) (g : G) : Sgs := if g.ps.all (fun x => decide (x ∈ st.1)) = true then (addS st.1 g.nm, st.2.1 ++ [g], st.2.2) else (st.1, st.2.1, st.2.2 ++ [g])
structure SgI (src : List Str) (gs : List G) (st : Sgs) (rest : List G) : Prop where
  perm : (st.2.1 ++ st.2.2 ++ rest).Perm gs
  topo : Topo src st.2.1
  mem : ∀ x, x ∈ st.1 ↔ x ∈ src ++ st.2.1.map (·.nm)
theorem Topo.snoc {S : List Str} {ord : List G} {g : G} (h : Topo S ord) (hg : ∀ x ∈ g.ps, x ∈ S ++ ord.map (·.nm)) : Topo S (ord ++ [g]) := fun k t e x hx => by
  rcases Nat.lt_trichotomy k ord.length with c | c | c
  · rw [List.getElem?_append_left c] at e
    rw [List.take_append_of_le_length (Nat.le_of_lt c)]
    exact h k t e x hx
  · subst c
    rw [List.getElem?_append_right (Nat.le_refl _), Nat.sub_self] at e
    cases e
    rw [List.take_append_of_le_length (Nat.le_refl _), List.take_length]
    exact hg x hx
  · rw [List.getElem?_eq_none (by rw [List.length_append, List.length_singleton]; omega)] at e
    cases e
theorem addS_mem {f : List Str} {x y : Str} : y ∈ addS f x ↔ y ∈ f ∨ y = x := by
  unfold addS
  split
  · constructor
    · exact .inl
    · rintro (h | rfl)
      · exact h
      · assumption
  · rw [List.mem_append, List.mem_singleton]
theorem SgI.step {src : List Str} {gs : List G} {st : Sgs} {g : G} {rest : List G} (h : SgI src gs st (g :: rest)) : SgI src gs (sgS st g) rest := by
  unfold sgS
  split
  · rename_i c
    have hp : ∀ x ∈ g.ps, x ∈ st.1 := fun x hx => of_decide_eq_true (List.all_eq_true.mp c x hx)
    refine ⟨List.Perm.trans ?_ h.perm, h.topo.snoc fun x hx => (h.mem x).mp (hp x hx), fun x => ?_⟩
    · show (st.2.1 ++ [g] ++ st.2.2 ++ rest).Perm (st.2.1 ++ st.2.2 ++ (g :: rest))
      rw [List.append_assoc, List.append_assoc, List.append_assoc]
      refine List.Perm.append_left _ ?_
      exact (List.perm_middle (l₁ := st.2.2) (a := g) (l₂ := rest)).symm
    · rw [addS_mem, h.mem]
      simp only [List.mem_append, List.map_append, List.map_cons, List.map_nil, List.mem_singleton]
      constructor
      · rintro ((a | a) | a)
        · exact .inl a
        · exact .inr (.inl a)
        · exact .inr (.inr a)
      · rintro (a | a | a)
        · exact .inl (.inl a)
        · exact .inl (.inr a)
        · exact .inr a
  · refine ⟨?_, h.topo, h.mem⟩
    have := h.perm
    show (st.2.1 ++ (st.2.2 ++ [g]) ++ rest).Perm gs
    rw [← List.append_assoc, List.append_assoc _ [g] rest]
    exact this
theorem SgI.fold {src : List Str} {gs : List G} : ∀ {ws : List G} {st : Sgs} {rest : List G}, SgI src gs st (ws ++ rest) → SgI src gs (ws.foldl sgS st) rest
  | [], _, _, h => h
  | g :: r, st, rest, h => SgI.fold (ws := r) (st := sgS st g) (SgI.step (rest := r ++ rest) h)
theorem sgS_mono {st : Sgs} {g : G} {x : Str} (h : x ∈ st.1) : x ∈ (sgS st g).1 := by
  unfold sgS
  split
  · exact addS_mem.mpr (.inl h)
  · exact h
theorem sgS_len {st : Sgs} {g : G} : (sgS st g).2.2.length ≤ st.2.2.length + 1 := by
  unfold sgS
  split
  · exact Nat.le_succ _
  · rw [List.length_append]; exact Nat.le_refl _
theorem sgF_len : ∀ {ws : List G} {st : Sgs}, (ws.foldl sgS st).2.2.length ≤ st.2.2.length + ws.length
  | [], st => by simp
  | g :: r, st => by
    have h1 := sgS_len (st := st) (g := g)
    have h2 := sgF_len (ws := r) (st := sgS st g)
    rw [List.foldl_cons, List.length_cons]
    omega
theorem sgF_less : ∀ {ws : List G} {st : Sgs} {g : G}, g ∈ ws → (∀ x ∈ g.ps, x ∈ st.1) → (ws.foldl sgS st).2.2.length < st.2.2.length + ws.length
  | a :: r, st, g, hg, hp => by
    rw [List.foldl_cons, List.length_cons]
    rcases List.mem_cons.mp hg with e | hg
    · subst e
      have h2 := sgF_len (ws := r) (st := sgS st g)
      have e : (sgS st g).2.2 = st.2.2 := by
        unfold sgS
        rw [if_pos (List.all_eq_true.mpr fun x hx => decide_eq_true (hp x hx))]
      rw [e] at h2
      omega
    · have h1 := sgS_len (st := st) (g := a)
      have h2 := sgF_less (ws := r) (st := sgS st a) hg fun x hx => sgS_mono (hp x hx)
      omega
theorem sg_ready {src : List Str} {gs ord ws ord0 : List G} {Kn : List Str} (h : SgI src gs (Kn, ord, []) ws) (pm : ord0.Perm gs) (tp : Topo src ord0) : ∀ (k : Nat) (g : G), ord0[k]? = some g → g ∈ ws → ∃ g ∈ ws, ∀ x ∈ g.ps, x ∈ Kn := fun k => by
  induction k using Nat.strongRecOn with
  | _ k ih =>
    intro g e hg
    by_cases c : ∀ x ∈ g.ps, x ∈ Kn
    · exact ⟨g, hg, c⟩
    · have c : ∃ x, x ∈ g.ps ∧ x ∉ Kn := Classical.byContradiction fun n => c fun x hx => Classical.byContradiction fun hn => n ⟨x, hx, hn⟩
      obtain ⟨x, hx, hn⟩ := c
      have hm := tp k g e x hx
      rcases List.mem_append.mp hm with a | a
      · exact absurd ((h.mem x).mpr (List.mem_append_left _ a)) hn
      · obtain ⟨t, ht, rfl⟩ := List.mem_map.mp a
        obtain ⟨j, hj⟩ := List.getElem?_of_mem ht
        rw [List.getElem?_take] at hj
        split at hj
        · have hg' : t ∈ gs := pm.mem_iff.mp (memAt hj)
          have hw := h.perm.mem_iff.mpr hg'
          simp only [List.append_nil, List.mem_append] at hw
          rcases hw with hw | hw
          · exact absurd ((h.mem t.nm).mpr (List.mem_append_right _ (List.mem_map.mpr ⟨t, hw, rfl⟩))) hn
          · exact ih j (by assumption) t hj hw
        · cases hj
theorem sg_prog {src : List Str} {gs ord ws ord0 : List G} {Kn : List Str} (h : SgI src gs (Kn, ord, []) ws) (pm : ord0.Perm gs) (tp : Topo src ord0) (ne : ws ≠ []) : (ws.foldl sgS (Kn, ord, [])).2.2.length < ws.length := by
  obtain ⟨g, hg⟩ := List.exists_mem_of_ne_nil ws ne
  have hg' : g ∈ gs := h.perm.mem_iff.mp (List.mem_append_right _ hg)
  obtain ⟨k, hk⟩ := List.getElem?_of_mem (pm.mem_iff.mpr hg')
  obtain ⟨t, ht, hp⟩ := sg_ready h pm tp k g hk hg
  have := sgF_less (st := (Kn, ord, [])) ht hp
  simpa using this
/-! rules -/
theorem ef_listT {X : Cx} {a : Expr} {σ : L2.St} {H : Hp} {ds : List PyData} {pos p : Pos} (hm : X.mg "list" = none) (ha : EV X σ H a (.tuple ds)) (hg : Gl X "list" := by rfl) (he : starEach [a] X.env = (false, eval a X.env) :: starEach [] X.env := by rfl) (hpl : (backTo pos (starEach [] X.env)).any (·.1) = false := by rfl) : EW X σ H (.Call (.Name "list" p) [a] [] pos) (Fr H ds) :=
  ew_ct call_list_of hm boot_list' (av_cons ha av_nil he) (fun vs H2 z w Q q => by
    obtain ⟨v, rfl, h⟩ := IsA.one w
    cases h with
    | @tup a1 xs _ h hs => exact ⟨a1, xs, rfl, .inr (SqT.of h), fun t ht => q.fr (Ex.refl H2) z ht hs⟩) hg (by decide) (by decide) he hpl
theorem ef_listL {X : Cx} {a : Expr} {σ : L2.St} {H : Hp} {ds : List PyData} {pos p : Pos} (hm : X.mg "list" = none) (ha : EV X σ H a (.list ds)) (hg : Gl X "list" := by rfl) (he : starEach [a] X.env = (false, eval a X.env) :: starEach [] X.env := by rfl) (hpl : (backTo pos (starEach [] X.env)).any (·.1) = false := by rfl) : EW X σ H (.Call (.Name "list" p) [a] [] pos) (Fr H ds) :=
  ew_ct call_list_of hm boot_list' (av_cons ha av_nil he) (fun vs H2 z w Q q => by
    obtain ⟨v, rfl, h⟩ := IsA.one w
    cases h with
    | @lst a1 xs _ h hs => exact ⟨a1, xs, rfl, .inl (SqL.of h), fun t ht => q.fr (Ex.refl H2) z ht hs⟩) hg (by decide) (by decide) he hpl
section
variable {X : Cx} {kx vx iter : Expr} {σ : L2.St} {H : Hp} {px pos : Pos} {x : Str} {scope : Scope} {j : Nat}
/-- {k: True for x in list} -/
theorem ew_dcB {ss : List Str} (x : Str) (j : Nat) (hN : X.N.Nodup) (hi : EV X σ H iter (.list (strsD ss))) (hz : ss.length ≤ 40000) (nd : ss.Nodup)
    (hk : ∀ (y : Str) (H1 : Hp), Ex H H1 → EB X scope (σ.set j (some (.str y))) H1 kx (dat (.str y))) (hv : ∀ (y : Str) (H1 : Hp), Ex H H1 → EB X scope (σ.set j (some (.str y))) H1 vx (dat (.bool true))) (hc : X.calm = true := by rfl) (ok : blkC X.N X.env.scope scope [(x, j)] = true := by kernel_rfl) (hj : X.N[j]? = some x := by rfl)
    (hs : ∀ x, foldedSetIterable iter X.env x = pure x := by intro _; rfl)
    (hx : ∀ (cl : List (Str × Addr)) (C : Addr), Loc (compEnvC scope cl C X.env).scope x := by first | exact fun _ _ => Or.inl rfl | exact fun _ _ => Or.inr rfl)
    (hf : (scope.names.lookup x == some .cell) = true ∨ (∀ (cl : List (Str × Addr)) (C : Addr), (compEnvC scope cl C X.env).scope.names.lookup x = some .local) := by first | exact Or.inl rfl | exact Or.inr (fun _ _ => rfl)) : EW X σ H (.DictComp kx vx [⟨.Name x px, iter, [], 0⟩] scope pos) (FrD H (encB ss)) := fun H0 z0 Q q =>
  toE (pe_dc (own := [(x, j)]) (tk := bE X scope kx) (tv := bE X scope vx) (tt := tYes) hc hN (pi_list pE) (blkOk_by ok) (fun s H0 C cl fp => pg_name (X := X.blk s H0 scope (compEnvC scope cl C X.env) fp) hN hj (hx cl C) (by
    rcases hf with z | z
    · exact .inl z
    · exact .inr (z cl C))) (fun s H0 C cl fp => pts_nil) (fun s H0 C cl fp => pbE) (fun s H0 C cl fp => pbE) hs) ((hi.up z0).run fun v H1 z r => by
    cases r with
    | @lst l xs _ hl1 hsA =>
      have exs := hsA.strs_eq
      subst exs
      refine ⟨l, rfl, ⟨_, SqL.of hl1⟩, fun D hD => ?_⟩
      refine ⟨fun i m H' => m = ss.length - i ∧ i ≤ ss.length ∧ Ex H1 H' ∧ H' D = some (.dK (encB (ss.take i))), ⟨ss.length, by simp, Nat.zero_le _, Ex.new hD, upd_same⟩, ?_⟩
      rintro i m H' ⟨rfl, hi', ex, hd⟩
      by_cases hlt : i < ss.length
      · refine .inr ⟨⟨_, (ss.map V.str)[i]'(by rw [List.length_map]; exact hlt), SqL.of (ex _ _ hl1), by simp⟩, fun H2 => Ex H1 H2 ∧ H2 D = some (.dK (encB (ss.take (i + 1)))), fun H2 p => ⟨ss.length - (i + 1), by omega, rfl, hlt, p.1, p.2⟩, fun xv H2 yl => ?_⟩
        obtain ⟨rfl, yl⟩ := yl
        obtain ⟨y, e3, rfl⟩ := gems (yl _ (SqL.of (ex _ _ hl1)))
        have nx : y ∉ ss.take i := fun hx => by
          obtain ⟨k, hk⟩ := List.getElem?_of_mem hx
          rw [List.getElem?_take] at hk
          split at hk
          · have := (List.getElem?_inj (List.getElem?_eq_some_iff.mp hk).1 nd).mp (hk.trans e3.symm)
            omega
          · cases hk
        refine ⟨wipe1, ?_⟩
        unfold tYes
        dsimp only
        rw [if_pos rfl]
        have es : (wipe σ (List.map (fun x => x.2) [(x, j)])).set j (some (V.str y)) = σ.set j (some (V.str y)) := wipe1s
        rw [es]
        refine (hk y H1 (z0.trans z)).run ex fun v2 H3 z3 p3 => (hv y H1 (z0.trans z)).run (ex.trans z3) fun v3 H4 z4 p4 => ⟨encB (ss.take i), .inr y, (p3 H3 (Ex.refl H3)).str_eq, z4 _ _ (z3 _ _ hd), sz10' (by rw [encB_len, List.length_take]; omega), Ex.put ((ex.trans z3).trans z4) hD, ?_⟩
        rw [upd_same, (p4 H4 (Ex.refl H4)).bl_eq, put_encB, List.take_add_one, e3]
        unfold addS
        rw [if_neg nx]
        rfl
      · have e : i = ss.length := by omega
        subst e
        rw [List.take_length] at hd
        exact .inl ⟨⟨_, SqL.of (ex _ _ hl1), by rw [List.length_map]; exact Nat.le_refl _⟩, q _ _ (z.trans ex) fun H3 z3 => ⟨D, rfl, none_of (z0.trans z) hD, z3 _ _ hd⟩⟩)
end
section
variable {X : Cx} {iter tg : Expr} {σ : L2.St} {H : Hp} {pos : Pos} {body rest : List Stmt} {D : Ends} {ds : List PyData} {l : Addr} {xs : List V}
/-- for over a list that one knows -/
theorem go_forA (hp : PassesOwn (model X.prog X.w) X.A X.env X.xe) (hc : X.calm = true) (hi : EX X σ H iter (.ref l)) (hl : H l = some (.lst xs)) (hsx : IsA H xs ds)
    (q : ∀ (H1 : Hp), Ex H H1 → ∃ Pv : Nat → L2.St → Hp → Prop, Pv 0 σ H1 ∧ (∀ i σ' H', Pv i σ' H' → H' l = some (.lst xs)) ∧
      (∀ i v d σ' H', xs[i]? = some v → ds[i]? = some d → Is H1 v d → Pv i σ' H' → tG X tg v σ' H' fun σ2 H2 => tSs X body (LoopE X rest D (Pv (i + 1))) σ2 H2) ∧ (∀ σ' H', Pv ds.length σ' H' → tSs X rest D σ' H'))
    (hs : ∀ x, foldedSetIterable iter X.env x = pure x := by intro _; rfl) : tSs X (.For tg iter body [] pos :: rest) D σ H :=
  go_cons (toS (ps_for hp hc (pi_list pE) pG pSs hs) (hi.run fun v H1 z r => by
    have r : v = .ref l := r
    subst r
    obtain ⟨Pv, h0, hl2, hst, hd⟩ := q H1 z
    refine ⟨l, rfl, ⟨xs, SqL.of (z _ _ hl)⟩, for_list (K := X.K) (a := l) (xs := xs) Pv h0 (fun i σ' H' _ p => SqL.of (hl2 i σ' H' p)) (fun i v σ' H' e p => ?_) (fun σ' H' p => hd σ' H' (by rw [← hsx.length]; exact p))⟩
    obtain ⟨d, e2, r⟩ := hsx.at_ e
    exact hst i v d σ' H' e e2 (r.mono z) p))
end
def OrdR (p : Pt) : PV := fun v H2 => ∃ ord : List G, Is H2 v (.list (ord.map gD)) ∧ ord.Perm p.gs ∧ Topo p.src ord
theorem eqv_nil {α : Type} {f : α → PyData} (ws : List α) : PyData.eqv (.list (ws.map f)) (.list []) = ws.isEmpty := by
  cases ws with
  | nil => simp [PyData.eqv, PyData.eqvAll]
  | cons a r => simp [PyData.eqv, PyData.eqvAll]
section
variable {P : Program} {w : World} {K : PySem.W.Frag} {mg : Str → Option Value} {base : Heap}
def spSort (K : PySem.W.Frag) : Sp := fun vs H Q _ => ∃ l p dx fs, vs = [.ref l] ∧ HasP K H l p dx fs ∧ Wf p ∧ Fm p ∧ Giv H (OrdR p) Q
theorem ok_sorted_gates (g : Gd P w K mg base) : Mtd P w K mg base 2 (CC K) "sorted_gates" (spSort K) := by
  refine g.mtd 38 107 85 d_Circuit_sorted_gates "Circuit" "sorted_gates" _ _ sc_Circuit_sorted_gates ?_ ?_ bn_Circuit_sorted_gates
  · rintro vs H Q E ⟨l, p, dx, fs, rfl, _⟩
    rfl
  rintro cdv A outer s H vs Q E hr ⟨l, p, dx, fs, rfl, h, wf, fm, q⟩
  have sl := wf.sm.src; have gl := wf.sm.gs
  obtain ⟨ord0, pm0, tp0⟩ := wf.topo
  refine go_set 1 sc_Circuit_sorted_gates.nd (ew_dcB (ss := p.src) "name" 2 sc_Circuit_sorted_gates.nd (ev_cm (ok_sources g) hr (Nat.le_refl _) h wf.sm True.intro (ex_v 0)) (by omega) (List.nodup_append.mp wf.nd).1 (fun y H1 z s1 H0 C cl fp => ev_n 2 (.str y)) fun y H1 z s1 H0 C cl fp => ev_bl) fun w1 H1 z1 ⟨ak, e1, nk, hk⟩ => ?_
  subst e1
  refine go_set (P := Fr H1 []) 3 sc_Circuit_sorted_gates.nd (ef_lst av_nil) fun w2 H2 z2 ⟨ao, xo, e2, no, ho, hso⟩ => ?_
  subst e2
  cases hso
  have h2 := h.mono (z1.trans z2)
  refine go_set (P := Fr H2 (p.gs.map gD)) 4 sc_Circuit_sorted_gates.nd (ef_listT g.list (ev_gs g h2 (ex_v 0))) fun w3 H3 z3 ⟨aw, xw, e3, nw, hw, hsw⟩ => ?_
  subst e3
  have nwo : aw ≠ ao := fun e => by rw [e, ho] at nw; cases nw
  refine go_while (passes_of rfl) (fun m σ' H' => ∃ Kn ord ws aw xw xo y5 y6, σ' = [some (.ref l), some (.ref ak), none, some (.ref ao), some (.ref aw), y5, y6, none] ∧ m = ws.length ∧ Ex H H' ∧ SgI p.src p.gs (Kn, ord, []) ws ∧ Kn.length ≤ 1000 + ord.length ∧ H' ak = some (.dK (encB Kn)) ∧ H' ao = some (.lst xo) ∧ IsA H' xo (ord.map gD) ∧ H' aw = some (.lst xw) ∧ IsA H' xw (ws.map gD) ∧ aw ≠ ao) p.gs.length ⟨p.src, [], p.gs, aw, xw, [], none, none, rfl, rfl, (z1.trans z2).trans z3, ⟨by simp, fun k t e => by simp at e, fun x => by simp⟩, by simp; omega, z3 _ _ (z2 _ _ hk), z3 _ _ ho, .nil, hw, hsw, nwo⟩ ?_
  rintro m σ' H' ⟨Kn, ord, ws, aw, xw, xo, y5, y6, rfl, rfl, zz, inv, kl, hk, ho, hso, hw, hsw, nwo⟩
  have sub : ∀ t ∈ ws, t ∈ p.gs := fun t ht => inv.perm.mem_iff.mp (List.mem_append_right _ ht)
  have wl : ws.length ≤ 10 := by
    have e := inv.perm.length_eq
    rw [List.length_append] at e
    omega
  have ol : ord.length + ws.length ≤ 10 := by
    have e := inv.perm.length_eq
    rw [List.length_append, List.length_append] at e
    simp only [List.length_nil] at e
    omega
  have sdw : SD 4 (.list (ws.map gD)) := .lst 3 fun d hd => by
    obtain ⟨t, ht, rfl⟩ := List.mem_map.mp hd
    obtain ⟨a, b, c⟩ := fm.gs t (sub t ht)
    exact sd_gate a b c
  have sdn : SD 4 (.list []) := .lst 3 fun d hd => nomatch hd
  refine ⟨!ws.isEmpty, TW.is (tw_cmp (op_neD hr.units) rfl (ev_n 4 (.lst hw hsw)) (ev_lst av_nil) (rb_neD sdw.shaped sdn.shaped)) (by rw [eqv_nil]), fun kt H4 z4 => ?_, fun kt H4 z4 => ?_⟩
  · have ne : ws ≠ [] := fun e => by rw [e] at kt; exact nomatch kt
    have prog := sg_prog inv pm0 tp0 ne
    refine go_set (P := Fr H4 []) 5 sc_Circuit_sorted_gates.nd (ef_lst av_nil) fun w5 H5 z5 ⟨al, xl, e5, nl, hl, hsl⟩ => ?_
    subst e5
    cases hsl
    have z45 := z4.trans z5
    have nal : al ≠ ao := fun e => by rw [e, z4 _ _ ho] at nl; cases nl
    have nalw : aw ≠ al := fun e => by rw [← e, z4 _ _ hw] at nl; cases nl
    have HS : H al = none := none_of (zz.trans z4) nl
    have NK : H ak = none := nk
    have NO : H ao = none := none_of z1 no
    refine go_forA (passes_of rfl) rfl (ex_v 4) (z45 _ _ hw) (hsw.mono z45) fun H6 z6 => ⟨fun i σ' H7 => ∃ y6 xo xl, σ' = [some (.ref l), some (.ref ak), none, some (.ref ao), some (.ref aw), some (.ref al), y6, none] ∧ Ex H H7 ∧ ExT H6 H7 ∧ H7 aw = some (.lst xw) ∧ H7 ak = some (.dK (encB ((ws.take i).foldl sgS (Kn, ord, [])).1)) ∧ ((ws.take i).foldl sgS (Kn, ord, [])).1.length ≤ 1000 + ((ws.take i).foldl sgS (Kn, ord, [])).2.1.length ∧ H7 ao = some (.lst xo) ∧ IsA H7 xo (((ws.take i).foldl sgS (Kn, ord, [])).2.1.map gD) ∧ H7 al = some (.lst xl) ∧ IsA H7 xl (((ws.take i).foldl sgS (Kn, ord, [])).2.2.map gD), ⟨y6, xo, [], rfl, zz.trans (z45.trans z6), ExT.refl _, z6 _ _ (z45 _ _ hw), z6 _ _ (z45 _ _ hk), kl, z6 _ _ (z45 _ _ ho), hso.mono (z45.trans z6), z6 _ _ hl, .nil⟩, fun i σ' H7 pv => ?_, fun i v d σ' H7 e1 e2 ri pv => ?_, fun σ' H7 pv => ?_⟩
    · obtain ⟨_, _, _, _, _, _, h, _⟩ := pv
      exact h
    · obtain ⟨y6, xo, xl, rfl, z7, xt, hw7, hk7, kl7, ho7, hso7, hl7, hsl7⟩ := pv
      obtain ⟨y, e3, rfl⟩ := gems e2
      have il : i < ws.length := (List.getElem?_eq_some_iff.mp e3).1
      have ri := ri.tmono xt (.gate y)
      have e4 : (ws.take (i + 1)).foldl sgS (Kn, ord, []) = sgS ((ws.take i).foldl sgS (Kn, ord, [])) y := by rw [List.take_add_one, e3, List.foldl_append]; rfl
      have yp := wf.sm.ps y (sub y (memAt e3))
      have invi : SgI p.src p.gs ((ws.take i).foldl sgS (Kn, ord, [])) (ws.drop i) := SgI.fold (ws := ws.take i) (rest := ws.drop i) (by rw [List.take_append_drop]; exact inv)
      have oi : ((ws.take i).foldl sgS (Kn, ord, [])).2.1.length + ((ws.take i).foldl sgS (Kn, ord, [])).2.2.length ≤ 10 := by
        have e := invi.perm.length_eq
        rw [List.length_append, List.length_append] at e
        omega
      generalize hS : (ws.take i).foldl sgS (Kn, ord, []) = S at *
      refine gt_n 6 sc_Circuit_sorted_gates.nd (go_ifE (k := y.ps.all fun x => decide (x ∈ S.1)) (tw_val (EV.is (ev_all g.all rfl (ns := y.ps.map fun x => decide (x ∈ S.1)) (EV.is (ev_lcTm (xs := y.ps) (enc := PyData.str) "pin" 7 (fun x => .bool (decide (x ∈ S.1))) sc_Circuit_sorted_gates.nd (ev_ixT (ev_n 6 ri) ev_int (atI_n (j := 2) rfl 2 rfl)) (by omega) fun v x H8 hx z8 r8 s1 H0 C cl fp => EV.is (ev_din hr (ev_n 7 r8) (ex_v 1) (.inl (z8 _ _ hk7))) (by rw [in_encB])) (by rw [List.map_map]; rfl))) (by rw [List.all_map]; rfl))) (fun t H8 z8 => ?_) fun t H8 z8 => ?_)
      · have e5 : sgS S y = (addS S.1 y.nm, S.2.1 ++ [y], S.2.2) := by unfold sgS; rw [if_pos t]
        have ri8 := ri.mono z8
        refine go_dput (l := ak) (z := y.nm) (by have := hr.units; omega) ev_bl (ex_v 1) (ev_ixT (ev_n 6 ri8) ev_int (atI_n (j := 0) rfl 0 rfl)) (z8 _ _ hk7) (by rw [encB_len]; omega) fun v9 H9 z9 p9 => ?_
        have z89 := z8.trans z9
        have nko : ao ≠ ak := ne_of (z89 _ _ ho7) (z89 _ _ hk7) (fun q => nomatch q)
        have nkl : al ≠ ak := ne_of (z89 _ _ hl7) (z89 _ _ hk7) (fun q => nomatch q)
        have nkw : aw ≠ ak := ne_of (z89 _ _ hw7) (z89 _ _ hk7) (fun q => nomatch q)
        have xtk : ExT H7 (upd H9 ak (.dK (putK (encB S.1) (.inr y.nm) v9))) := (ExT.of z89).put (z89 _ _ hk7) (fun _ q => nomatch q)
        refine go_push (ex_v 3) (EW.imp (ex_v 6) fun u H10 _ p10 => p10) (by rw [upd_ne nko]; exact z89 _ _ ho7) (by rw [hso7.length, List.length_map]; omega) fun v10 H10 z10 p10 => go_nil (go_nil ?_)
        have p10 : v10 = v := p10
        have ho10 : H10 ao = some (.lst xo) := z10 _ _ (by rw [upd_ne nko]; exact z89 _ _ ho7)
        have xt10 : ExT H7 (upd H10 ao (.lst (xo ++ [v10]))) := (xtk.trans (.of z10)).put ho10 (fun _ q => nomatch q)
        refine ⟨some v, xo ++ [v10], xl, rfl, Ex.put ((Ex.put (z7.trans z89) NK).trans z10) NO, xt.trans xt10, ?_, ?_, ?_, upd_same, ?_, ?_, ?_⟩
        · rw [upd_ne nwo]
          exact z10 _ _ (by rw [upd_ne nkw]; exact z89 _ _ hw7)
        · rw [upd_ne (Ne.symm nko), e4, e5]
          refine z10 _ _ ?_
          rw [upd_same, p9.bl_eq, put_encB]
        · rw [e4, e5]
          have := addS_len (f := S.1) (x := y.nm)
          show (addS S.1 y.nm).length ≤ 1000 + (S.2.1 ++ [y]).length
          rw [List.length_append, List.length_singleton]
          omega
        · rw [e4, e5, List.map_append]
          exact (hso7.tmono xt10 (TD.gates _)).append (.cons (p10 ▸ ri.tmono xt10 (.gate y)) .nil)
        · rw [upd_ne nal]
          exact z10 _ _ (by rw [upd_ne nkl]; exact z89 _ _ hl7)
        · rw [e4, e5]
          exact hsl7.tmono xt10 (TD.gates _)
      · have e5 : sgS S y = (S.1, S.2.1, S.2.2 ++ [y]) := by unfold sgS; rw [if_neg (by rw [t]; exact Bool.false_ne_true)]
        refine go_push (ex_v 5) (EW.imp (ex_v 6) fun u H10 _ p10 => p10) (z8 _ _ hl7) (by rw [hsl7.length, List.length_map]; omega) fun v10 H10 z10 p10 => go_nil (go_nil ?_)
        have p10 : v10 = v := p10
        have z810 := z8.trans z10
        have hl10 := z810 _ _ hl7
        have xt10 : ExT H7 (upd H10 al (.lst (xl ++ [v10]))) := (ExT.of z810).put hl10 (fun _ q => nomatch q)
        refine ⟨some v, xo, xl ++ [v10], rfl, Ex.put (z7.trans z810) HS, xt.trans xt10, ?_, ?_, ?_, ?_, ?_, upd_same, ?_⟩
        · rw [upd_ne nalw]
          exact z810 _ _ hw7
        · rw [upd_ne (ne_of (z810 _ _ hk7) hl10 (fun q => nomatch q)), e4, e5]
          exact z810 _ _ hk7
        · rw [e4, e5]
          exact kl7
        · rw [upd_ne (Ne.symm nal)]
          exact z810 _ _ ho7
        · rw [e4, e5]
          exact hso7.tmono xt10 (TD.gates _)
        · rw [e4, e5, List.map_append]
          exact (hsl7.tmono xt10 (TD.gates _)).append (.cons (p10 ▸ ri.tmono xt10 (.gate y)) .nil)
    · obtain ⟨y6, xo, xl, rfl, z7, xt, hw7, hk7, kl7, ho7, hso7, hl7, hsl7⟩ := pv
      rw [List.length_map, List.take_length] at hk7 kl7 hso7 hsl7
      have inve : SgI p.src p.gs (ws.foldl sgS (Kn, ord, [])) [] := SgI.fold (ws := ws) (rest := []) (by rw [List.append_nil]; exact inv)
      generalize hS : ws.foldl sgS (Kn, ord, []) = S at *
      have hsw7 : IsA H7 xw (ws.map gD) := ((hsw.mono z45).mono z6).tmono xt (TD.gates _)
      refine go_when (k := false) (TW.is (tw_cmp op_eq rfl (ev_lenL g.len (ev_n 5 (.lst hl7 hsl7))) (ev_lenL g.len (ev_n 4 (.lst hw7 hsw7))) rb_eqI) (decide_eq_false (by rw [List.length_map, List.length_map]; omega))) (fun e _ _ => nomatch e) fun _ H8 z8 => ?_
      refine go_set 4 sc_Circuit_sorted_gates.nd (ex_v 5) fun w9 H9 z9 p9 => go_nil ?_
      have p9 : w9 = .ref al := p9
      subst p9
      have z89 := z8.trans z9
      have sdl : (S.2.1 ++ S.2.2).Perm p.gs := by simpa using inve.perm
      exact ⟨S.2.2.length, prog, S.1, S.2.1, S.2.2, al, xl, xo, some (.ref al), y6, rfl, rfl, z7.trans z89, ⟨by simpa using sdl, inve.topo, inve.mem⟩, kl7, z89 _ _ hk7, z89 _ _ ho7, hso7.mono z89, z89 _ _ hl7, hsl7.mono z89, nal⟩
  · have e : ws = [] := by
      cases ws with
      | nil => rfl
      | cons a b => exact nomatch kt
    subst e
    have pmo : ord.Perm p.gs := by simpa using inv.perm
    exact go_out (R := OrdR p) (EW.imp (ev_n 3 (.lst (z4 _ _ ho) (hso.mono z4))) fun v H5 z5 p5 => ⟨ord, p5, pmo, inv.topo⟩) (zz.trans z4) q
end
end Pw
namespace Pw
open PySem PySem.Spec L2
open Evl (Ex)
/-! ### an object put -/
def NoSeq (H : Hp) (l : Addr) : Prop := ∀ xs, H l ≠ some (.lst xs) ∧ H l ≠ some (.tup xs)
mutual
theorem Is.off {H : Hp} {l : Addr} {o : HO} (n : NoSeq H l) : ∀ {v : V} {d : PyData}, Is H v d → Is (upd H l o) v d
  | _, _, .non => .non
  | _, _, .bl b => .bl b
  | _, _, .int i => .int i
  | _, _, .str x => .str x
  | _, _, .lst h hs => .lst (by rw [upd_ne (fun e => (n _).1 (e ▸ h))]; exact h) (IsA.off n hs)
  | _, _, .tup h hs => .tup (by rw [upd_ne (fun e => (n _).2 (e ▸ h))]; exact h) (IsA.off n hs)
theorem IsA.off {H : Hp} {l : Addr} {o : HO} (n : NoSeq H l) : ∀ {v : List V} {d : List PyData}, IsA H v d → IsA (upd H l o) v d
  | _, _, .nil => .nil
  | _, _, .cons h t => .cons (Is.off n h) (IsA.off n t)
end
theorem isA_of {H H' : Hp} (k : ∀ u d, Is H u d → Is H' u d) : ∀ {vs : List V} {ds : List PyData}, IsA H vs ds → IsA H' vs ds
  | _, _, .nil => .nil
  | _, _, .cons h t => .cons (k _ _ h) (isA_of k t)
theorem NoSeq.ins {H : Hp} {l C dx : Addr} {fs : List (Str × V)} (h : H l = some (.ins C dx fs)) : NoSeq H l := fun xs => ⟨fun e => (by rw [h] at e; cases e), fun e => (by rw [h] at e; cases e)⟩
theorem ExB.trans {p : Addr} {A B C : Hp} (a : ExB p A B) (b : ExB p B C) : ExB p A C := fun x o n h => b x o n (a x o n h)
section
variable {X : Cx} {o y : Expr} {σ : L2.St} {H : Hp} {pos pos' : Pos} {rest : List Stmt} {D : Ends} {l C dx : Addr} {fs : List (Str × V)} {f : Str} {P : PV}
/-- o.f = y -/
theorem go_fldC (hv : EW X σ H y P) (ho : EX X σ H o (.ref l)) (hH : H l = some (.ins C dx fs)) (c : Cls X.K C) (n : NoAttr X.K C f) (hl : fs.length < 1000)
    (q : ∀ v H1 HA, Ex H H1 → P v H1 → HA l = some (.ins C dx (putF f v fs)) → (∀ u d, Is H1 u d → Is HA u d) → ExB l H1 HA → (∀ b, b ≠ l → HA b = H1 b) → tSs X rest D σ HA)
    (hs : swapsWith y (some (.Attribute o f pos')) pos.line X.env = pure false := by rfl) : tSs X (.Assign [.Attribute o f pos'] y pos :: rest) D σ H :=
  go_fld hv ho hH c n hl (fun v H1 z p => q v H1 _ z p upd_same (fun u d h => h.off (.ins (z _ _ hH))) (ExB.refl.put) fun b hb => upd_ne hb) hs
end
/-! ### gate_of -/
def gofK (gs : List G) (vs : List V) : List (Key × V) := (gs.zip vs).map fun q => ((.inr q.1.nm : Key), q.2)
def GofR (H : Hp) (gs : List G) : PV := fun v H2 => ∃ a vs, v = .ref a ∧ H a = none ∧ H2 a = some (.dK (gofK gs vs)) ∧ IsA H2 vs (gs.map gD)
theorem gofK_none {x : Str} : ∀ {gs : List G} {vs : List V}, (∀ g ∈ gs, g.nm ≠ x) → valV (gofK gs vs) (.inr x) = none
  | [], _, _ => rfl
  | g :: r, [], _ => rfl
  | g :: r, v :: vs, h => by
    have e : valV (gofK (g :: r) (v :: vs)) (.inr x) = valV (gofK r vs) (.inr x) := valV_neg (p := ((.inr g.nm : Key), v)) fun q => h g List.mem_cons_self (Sum.inr.inj q)
    rw [e]
    exact gofK_none fun t ht => h t (List.mem_cons_of_mem _ ht)
theorem gofK_some {H : Hp} {x : Str} : ∀ {gs : List G} {vs : List V}, IsA H vs (gs.map gD) → x ∈ gs.map (·.nm) → ∃ g v, g ∈ gs ∧ g.nm = x ∧ valV (gofK gs vs) (.inr x) = some v ∧ Is H v (gD g)
  | g :: r, v :: vs, .cons h t, hx => by
    by_cases e : g.nm = x
    · exact ⟨g, v, List.mem_cons_self, e, valV_pos (p := ((.inr g.nm : Key), v)) (congrArg Sum.inr e), h⟩
    · have hx : x ∈ r.map (·.nm) := by
        rcases List.mem_cons.mp hx with q | q
        · exact absurd q.symm e
        · exact q
      obtain ⟨g', v', h1, h2, h3, h4⟩ := gofK_some t hx
      refine ⟨g', v', List.mem_cons_of_mem _ h1, h2, ?_, h4⟩
      rw [← h3]
      exact valV_neg (p := ((.inr g.nm : Key), v)) fun q => e (Sum.inr.inj q)
section
variable {X : Cx} {kx vx iter : Expr} {σ : L2.St} {H : Hp} {px pos : Pos} {x : Str} {scope : Scope} {j : Nat}
/-- {g[0]: g for g in tuple} -/
theorem ew_dcG {gs : List G} (x : Str) (j : Nat) (hN : X.N.Nodup) (hi : EV X σ H iter (.tuple (gs.map gD))) (hz : gs.length ≤ 40000) (nd : (gs.map (·.nm)).Nodup)
    (hk : ∀ (v : V) (y : G) (H1 : Hp), Ex H H1 → Is H1 v (gD y) → EB X scope (σ.set j (some v)) H1 kx (dat (.str y.nm))) (hv : ∀ (v : V) (H1 : Hp), Ex H H1 → EB X scope (σ.set j (some v)) H1 vx (val v)) (hc : X.calm = true := by rfl) (ok : blkC X.N X.env.scope scope [(x, j)] = true := by kernel_rfl) (hj : X.N[j]? = some x := by rfl)
    (hs : ∀ x, foldedSetIterable iter X.env x = pure x := by intro _; rfl)
    (hx : ∀ (cl : List (Str × Addr)) (C : Addr), Loc (compEnvC scope cl C X.env).scope x := by first | exact fun _ _ => Or.inl rfl | exact fun _ _ => Or.inr rfl)
    (hf : (scope.names.lookup x == some .cell) = true ∨ (∀ (cl : List (Str × Addr)) (C : Addr), (compEnvC scope cl C X.env).scope.names.lookup x = some .local) := by first | exact Or.inl rfl | exact Or.inr (fun _ _ => rfl)) : EW X σ H (.DictComp kx vx [⟨.Name x px, iter, [], 0⟩] scope pos) (GofR H gs) := fun H0 z0 Q q =>
  toE (pe_dc (own := [(x, j)]) (tk := bE X scope kx) (tv := bE X scope vx) (tt := tYes) hc hN (pi_tup pE) (blkOk_by ok) (fun s H0 C cl fp => pg_name (X := X.blk s H0 scope (compEnvC scope cl C X.env) fp) hN hj (hx cl C) (by
    rcases hf with z | z
    · exact .inl z
    · exact .inr (z cl C))) (fun s H0 C cl fp => pts_nil) (fun s H0 C cl fp => pbE) (fun s H0 C cl fp => pbE) hs) ((hi.up z0).run fun v H1 z r => by
    cases r with
    | @tup l xs _ hl1 hsA =>
      have hlen : xs.length = gs.length := by rw [hsA.length, List.length_map]
      refine ⟨l, rfl, ⟨_, SqT.of hl1⟩, fun D hD => ?_⟩
      refine ⟨fun i m H' => m = gs.length - i ∧ i ≤ gs.length ∧ Ex H1 H' ∧ H' D = some (.dK (gofK (gs.take i) (xs.take i))), ⟨gs.length, by simp, Nat.zero_le _, Ex.new hD, upd_same⟩, ?_⟩
      rintro i m H' ⟨rfl, hi', ex, hd⟩
      by_cases hlt : i < gs.length
      · refine .inr ⟨⟨_, xs[i]'(by omega), SqT.of (ex _ _ hl1), by simp⟩, fun H2 => Ex H1 H2 ∧ H2 D = some (.dK (gofK (gs.take (i + 1)) (xs.take (i + 1)))), fun H2 p => ⟨gs.length - (i + 1), by omega, rfl, hlt, p.1, p.2⟩, fun xv H2 yl => ?_⟩
        obtain ⟨rfl, yl⟩ := yl
        have e1 := yl _ (SqT.of (ex _ _ hl1))
        obtain ⟨d, e2, ri⟩ := hsA.at_ e1
        obtain ⟨y, e3, rfl⟩ := gems e2
        have nx : ∀ t ∈ gs.take i, t.nm ≠ y.nm := fun t ht e => by
          obtain ⟨k, hk⟩ := List.getElem?_of_mem ht
          rw [List.getElem?_take] at hk
          split at hk
          · have a1 : (gs.map (·.nm))[k]? = some y.nm := by rw [List.getElem?_map, hk, ← e]; rfl
            have a2 : (gs.map (·.nm))[i]? = some y.nm := by rw [List.getElem?_map, e3]; rfl
            have := (List.getElem?_inj (List.getElem?_eq_some_iff.mp a1).1 nd).mp (a1.trans a2.symm)
            omega
          · cases hk
        refine ⟨wipe1, ?_⟩
        unfold tYes
        dsimp only
        rw [if_pos rfl]
        have es : (wipe σ (List.map (fun x => x.2) [(x, j)])).set j (some xv) = σ.set j (some xv) := wipe1s
        rw [es]
        refine (hk xv y H1 (z0.trans z) ri).run ex fun v2 H3 z3 p3 => (hv xv H1 (z0.trans z)).run (ex.trans z3) fun v3 H4 z4 p4 => ⟨gofK (gs.take i) (xs.take i), .inr y.nm, (p3 H3 (Ex.refl H3)).str_eq, z4 _ _ (z3 _ _ hd), sz10' (by unfold gofK; rw [List.length_map, List.length_zip, List.length_take]; omega), Ex.put ((ex.trans z3).trans z4) hD, ?_⟩
        have p5 : v3 = xv := p4 H4 (Ex.refl H4)
        rw [upd_same, p5, putK_new _ (gofK_none nx), List.take_add_one, List.take_add_one, e3, e1]
        unfold gofK
        rw [List.zip_append (by rw [List.length_take, List.length_take, hlen]), List.map_append]
        rfl
      · have e : i = gs.length := by omega
        subst e
        rw [List.take_length, List.take_of_length_le (by omega)] at hd
        exact .inl ⟨⟨_, SqT.of (ex _ _ hl1), by omega⟩, q _ _ (z.trans ex) fun H3 z3 => ⟨D, xs, rfl, none_of (z0.trans z) hD, z3 _ _ hd, (hsA.mono ex).mono z3⟩⟩)
end
/-! ### a circuit made -/
structure HasG (K : PySem.W.Frag) (H : Hp) (l : Addr) (gs : List G) (dx : Addr) (fs : List (Str × V)) : Prop where
  at_ : H l = some (.ins (CC K) dx fs)
  gof : ∃ a vs, fs.lookup ("gate_of" : Str) = some (.ref a) ∧ H a = some (.dK (gofK gs vs)) ∧ IsA H vs (gs.map gD)
theorem HasG.mono {K : PySem.W.Frag} {H H' : Hp} {l : Addr} {gs : List G} {dx : Addr} {fs : List (Str × V)} (h : HasG K H l gs dx fs) (z : Ex H H') : HasG K H' l gs dx fs where
  at_ := z _ _ h.at_
  gof := let ⟨a, vs, e, r, s⟩ := h.gof; ⟨a, vs, e, z _ _ r, s.mono z⟩
structure CircOk (K : PySem.W.Frag) (H : Hp) (l : Addr) (p : Pt) (ord : List G) (dx : Addr) (fs : List (Str × V)) : Prop where
  hp : HasP K H l p dx fs
  ho : HasO K H l ord dx fs
  hg : HasG K H l p.gs dx fs
  pm : ord.Perm p.gs
  tp : Topo p.src ord
theorem CircOk.mono {K : PySem.W.Frag} {H H' : Hp} {l : Addr} {p : Pt} {ord : List G} {dx : Addr} {fs : List (Str × V)} (h : CircOk K H l p ord dx fs) (z : Ex H H') : CircOk K H' l p ord dx fs :=
  ⟨h.hp.mono z, h.ho.mono z, h.hg.mono z, h.pm, h.tp⟩
section
variable {P : Program} {w : World} {K : PySem.W.Frag} {mg : Str → Option Value} {base : Heap}
def spCInit (K : PySem.W.Frag) : Sp := fun vs H Q _ => ∃ l dx p v1 v2 v3 v4, vs = [.ref l, v1, v2, v3, v4] ∧ H l = some (.ins (CC K) dx []) ∧ Is H v1 (.tuple (strsD p.ins)) ∧ Is H v2 (.tuple (p.regs.map rD)) ∧ Is H v3 (.tuple (p.gs.map gD)) ∧ Is H v4 (.tuple (strsD p.outs)) ∧ Wf p ∧ Fm p ∧ (∀ x ∈ p.use, x ∈ p.lns) ∧
  ∀ H2 ord fs, ExB l H H2 → CircOk K H2 l p ord dx fs → Q .non H2
theorem ok_Circuit_init (g : Gd P w K mg base) : Mkr P w K mg base 4 (CC K) "Circuit" (spCInit K) := by
  refine g.mkr 31 86 52 d_Circuit_init "Circuit" _ _ sc_Circuit_init ?_ ?_ bn_Circuit_init
  · rintro vs H Q E ⟨l, dx, p, v1, v2, v3, v4, rfl, _⟩
    rfl
  rintro cdv A outer s H vs Q E hr ⟨l, dx, p, v1, v2, v3, v4, rfl, hl, h1, h2, h3, h4, wf, fm, us, q⟩
  refine go_fldC (ev_tupleT g.tuple (ev_n 1 h1)) (ex_v 0) hl g.cCls g.cIns (Nat.le_of_ble_eq_true rfl) fun u1 H1 HA z1 i1 l1 k1 b1 _ => ?_
  have h2 := k1 _ _ (h2.mono z1); have h3 := k1 _ _ (h3.mono z1); have h4 := k1 _ _ (h4.mono z1); have i1 := k1 _ _ i1
  have bA : ExB l H HA := ExB.trans (Ex.exB z1) b1
  refine go_fldC (ev_tupleT g.tuple (ev_n 2 h2)) (ex_v 0) l1 g.cCls g.cRegs (Nat.le_of_ble_eq_true rfl) fun u2 H2 HB z2 i2 l2 k2 b2 _ => ?_
  have h3 := k2 _ _ (h3.mono z2); have h4 := k2 _ _ (h4.mono z2); have i1 := k2 _ _ (i1.mono z2); have i2 := k2 _ _ i2
  have bB : ExB l H HB := bA.trans (ExB.trans (Ex.exB z2) b2)
  refine go_fldC (ev_tupleT g.tuple (ev_n 3 h3)) (ex_v 0) l2 g.cCls g.cGs (Nat.le_of_ble_eq_true rfl) fun u3 H3 HC z3 i3 l3 k3 b3 _ => ?_
  have h4 := k3 _ _ (h4.mono z3); have i1 := k3 _ _ (i1.mono z3); have i2 := k3 _ _ (i2.mono z3); have i3 := k3 _ _ i3
  have bC : ExB l H HC := bB.trans (ExB.trans (Ex.exB z3) b3)
  refine go_fldC (ev_tupleT g.tuple (ev_n 4 h4)) (ex_v 0) l3 g.cCls g.cOuts (Nat.le_of_ble_eq_true rfl) fun u4 H4 HD z4 i4 l4 k4 b4 _ => ?_
  have i1 := k4 _ _ (i1.mono z4); have i2 := k4 _ _ (i2.mono z4); have i3 := k4 _ _ (i3.mono z4); have i4 := k4 _ _ i4
  have bD : ExB l H HD := bC.trans (ExB.trans (Ex.exB z4) b4)
  clear k1 k2 k3 k4 b1 b2 b3 b4 bA bB bC l1 l2 l3
  have e4 : putF "outputs" u4 (putF "gates" u3 (putF "registers" u2 (putF "inputs" u1 []))) = [(("inputs" : Str), u1), ("registers", u2), ("gates", u3), ("outputs", u4)] := rfl
  rw [e4] at l4
  have hasP : HasP K HD l p dx [(("inputs" : Str), u1), ("registers", u2), ("gates", u3), ("outputs", u4)] := ⟨l4, ⟨u1, rfl, i1⟩, ⟨u2, rfl, i2⟩, ⟨u3, rfl, i3⟩, ⟨u4, rfl, i4⟩, by
    intro m hm
    unfold cMeths at hm
    simp only [List.mem_cons, List.mem_nil_iff, or_false] at hm
    rcases hm with rfl | rfl | rfl | rfl | rfl | rfl | rfl | rfl <;> rfl⟩
  refine go_expr ((ev_cm (ok_check_forms g) hr (Nat.le_refl _) hasP wf.sm fm (ex_v 0)).run fun _ HE zE _ => ?_)
  have hasE := hasP.mono zE
  refine go_fldC (ew_dcG (gs := p.gs) "gate" 5 sc_Circuit_init.nd (ev_gs g hasE (ex_v 0)) (by have := wf.sm.gs; omega) (List.nodup_append.mp wf.nd).2.1 (fun v y H1 z ri s1 H0 C cl fp => ev_ixT (ev_n 5 ri) ev_int (atI_n (j := 0) rfl 0 rfl)) fun v H1 z s1 H0 C cl fp => ex_v 5) (ex_v 0) hasE.at_ g.cCls g.cGof (Nat.le_of_ble_eq_true rfl) fun u5 H5 HF z5 ⟨ag, vg, eg, ng, hg, hvg⟩ l5 k5 b5 nb5 => ?_
  subst eg
  have e5 : putF "gate_of" (.ref ag) [(("inputs" : Str), u1), ("registers", u2), ("gates", u3), ("outputs", u4)] = [(("inputs" : Str), u1), ("registers", u2), ("gates", u3), ("outputs", u4), ("gate_of", .ref ag)] := rfl
  rw [e5] at l5
  have i1 := k5 _ _ ((i1.mono zE).mono z5); have i2 := k5 _ _ ((i2.mono zE).mono z5); have i3 := k5 _ _ ((i3.mono zE).mono z5); have i4 := k5 _ _ ((i4.mono zE).mono z5)
  have bF : ExB l H HF := bD.trans (ExB.trans (Ex.exB (zE.trans z5)) b5)
  have nag : ag ≠ l := fun e => by rw [e, hasE.at_] at ng; cases ng
  have hagF : HF ag = some (.dK (gofK p.gs vg)) := by rw [nb5 ag nag]; exact hg
  have hvgF : IsA HF vg (p.gs.map gD) := by
    exact isA_of k5 hvg
  have hasF : HasP K HF l p dx [(("inputs" : Str), u1), ("registers", u2), ("gates", u3), ("outputs", u4), ("gate_of", .ref ag)] := ⟨l5, ⟨u1, rfl, i1⟩, ⟨u2, rfl, i2⟩, ⟨u3, rfl, i3⟩, ⟨u4, rfl, i4⟩, by
    intro m hm
    unfold cMeths at hm
    simp only [List.mem_cons, List.mem_nil_iff, or_false] at hm
    rcases hm with rfl | rfl | rfl | rfl | rfl | rfl | rfl | rfl <;> rfl⟩
  refine go_expr ((ev_cm (ok_check_names g) hr (Nat.le_refl _) hasF wf.sm ⟨wf.nd, us⟩ (ex_v 0)).run fun _ HG zG _ => ?_)
  have hasG := hasF.mono zG
  refine go_fldC (P := OrdR p) (ew_meth0 (ok_sorted_gates g) hr (by omega) (ex_v 0) hasG.at_ rfl (fun H2 z Q q => ⟨l, p, dx, _, rfl, hasG.mono z, wf, fm, q⟩)) (ex_v 0) hasG.at_ g.cCls g.cOrd (Nat.le_of_ble_eq_true rfl) fun u6 H6 HH z6 ⟨ord, io, pm, tp⟩ l6 k6 b6 nb6 => ?_
  have e6 : putF "order" u6 [(("inputs" : Str), u1), ("registers", u2), ("gates", u3), ("outputs", u4), ("gate_of", .ref ag)] = [(("inputs" : Str), u1), ("registers", u2), ("gates", u3), ("outputs", u4), ("gate_of", .ref ag), ("order", u6)] := rfl
  rw [e6] at l6
  have zG6 := zG.trans z6
  have i1 := k6 _ _ (i1.mono zG6); have i2 := k6 _ _ (i2.mono zG6); have i3 := k6 _ _ (i3.mono zG6); have i4 := k6 _ _ (i4.mono zG6); have io := k6 _ _ io
  refine go_nil (q HH ord [(("inputs" : Str), u1), ("registers", u2), ("gates", u3), ("outputs", u4), ("gate_of", .ref ag), ("order", u6)] (bF.trans (ExB.trans (Ex.exB zG6) b6)) ⟨⟨l6, ⟨u1, rfl, i1⟩, ⟨u2, rfl, i2⟩, ⟨u3, rfl, i3⟩, ⟨u4, rfl, i4⟩, ?_⟩, ⟨l6, u6, rfl, io⟩, ⟨l6, ag, vg, rfl, by rw [nb6 ag nag]; exact zG6 _ _ hagF, isA_of k6 (hvgF.mono zG6)⟩, pm, tp⟩)
  intro m hm
  unfold cMeths at hm
  simp only [List.mem_cons, List.mem_nil_iff, or_false] at hm
  rcases hm with rfl | rfl | rfl | rfl | rfl | rfl | rfl | rfl <;> rfl
end
end Pw
namespace Pw
open PySem PySem.Spec L2
open Evl (Ex)
/-! ### the program's words -/
abbrev MC (K : PySem.W.Frag) : Addr := He.ga K "Many"
def mMeths : List Str := ["full", "pin", "through", "words"]
def VnStr : Option Vn → Prop
  | some (.stem l _) => PyData.strOk l = true
  | some (.pin g _ _) => PyData.strOk g = true
  | some (.short a b _) => PyData.strOk a = true ∧ PyData.strOk b = true
  | none => True
def stuckD (ver : Option Vn) (nm : Str) (i : Nat) : PyData := match pinOf ver with
  | some (g, j, b) => if g = nm ∧ j = i then .int (bi b) else .none
  | none => .none
structure ManyOk (K : PySem.W.Frag) (H : Hp) (l : Addr) (p : Pt) (ord : List G) (ver : Option Vn) (pats : List (List Bool)) (dx lc : Addr) (v2 : V) (ag dxc : Addr) (fsc : List (Str × V)) : Prop where
  at_ : H l = some (.ins (MC K) dx [(("circuit" : Str), .ref lc), ("version", v2), ("mask", .int ((2 ^ pats.length - 1 : Nat) : Int)), ("given", .ref ag)])
  circ : CircOk K H lc p ord dxc fsc
  ver : Is H v2 (voD ver)
  giv : H ag = some (.dK (encI (giv p pats)))
theorem ManyOk.mono {K : PySem.W.Frag} {H H' : Hp} {l : Addr} {p : Pt} {ord : List G} {ver : Option Vn} {pats : List (List Bool)} {dx lc : Addr} {v2 : V} {ag dxc : Addr} {fsc : List (Str × V)} (h : ManyOk K H l p ord ver pats dx lc v2 ag dxc fsc) (z : Ex H H') : ManyOk K H' l p ord ver pats dx lc v2 ag dxc fsc :=
  ⟨z _ _ h.at_, h.circ.mono z, h.ver.mono z, z _ _ h.giv⟩
section
variable {P : Program} {w : World} {K : PySem.W.Frag} {mg : Str → Option Value} {base : Heap}
theorem Gd.mCls (g : Gd P w K mg base) : Cls K (MC K) := He.cls_ok (g.c.d.fact 75 rfl)
theorem Gd.mCirc (g : Gd P w K mg base) : NoAttr K (MC K) "circuit" := He.noat_ok (g.c.d.fact 77 rfl)
theorem Gd.mVer (g : Gd P w K mg base) : NoAttr K (MC K) "version" := He.noat_ok (g.c.d.fact 78 rfl)
theorem Gd.mMask (g : Gd P w K mg base) : NoAttr K (MC K) "mask" := He.noat_ok (g.c.d.fact 79 rfl)
theorem Gd.mGiv (g : Gd P w K mg base) : NoAttr K (MC K) "given" := He.noat_ok (g.c.d.fact 80 rfl)
theorem ok_stuck_pin (g : Gd P w K mg base) : Fnc P w K mg base 1 "stuck_pin" (PD fun ds r => ∃ ver nm i, ds = [voD ver, .str nm, .int ((i : Nat) : Int)] ∧ VnStr ver ∧ PyData.strOk nm = true ∧ r = stuckD ver nm i) := by
  refine g.fncD 9 9 d_stuck_pin "stuck_pin" sc_stuck_pin bn_stuck_pin ?_ ?_
  · rintro ds r ⟨ver, nm, i, rfl, _⟩
    rfl
  · rintro cdv A outer s H vs Q E ds r hr h ⟨ver, nm, i, rfl, vs', hn, rfl⟩ q
    obtain ⟨v1, v2, v3, rfl, h1, h2, h3⟩ := h.three
    have sdr : SD 2 (.tuple [.str "pin", .str nm, .int (i : Int)]) := .tup 1 fun d hd => by
      simp only [List.mem_cons, List.mem_nil_iff, or_false] at hd
      rcases hd with rfl | rfl | rfl
      · exact .str 0 (by decide +kernel)
      · exact .str 0 hn
      · exact .int 0 _
    have no : ∀ ver', ver' = ver → pinOf ver' = none → (∀ H1, Ex H H1 → TW (BX P w K mg base N_stuck_pin d_stuck_pin (He.fAd K d_stuck_pin.at_) cdv A outer s H E) [some v1, some v2, some v3] H1 (match d_stuck_pin.body with | [.If c _ _ _, _] => c | _ => .Name "x" ⟨0, 0, 0, 0⟩) false) → tSs (BX P w K mg base N_stuck_pin d_stuck_pin (He.fAd K d_stuck_pin.at_) cdv A outer s H E) d_stuck_pin.body (BD Q) (L2.start N_stuck_pin [v1, v2, v3]) H := fun ver' e hp tw => by
      refine go_when (k := false) (tw H (Ex.refl H)) (fun e _ _ => nomatch e) fun _ H1 z1 => go_out (EV.is ev_non ?_) z1 q
      subst e
      unfold stuckD
      rw [hp]
    match ver, h1, vs', no with
    | none, h1, vs', no =>
      refine no none rfl rfl fun H1 z1 => ?_
      have e5 := Is.non_eq (h1.mono z1)
      exact TW.is (tw_w (ww_and (k := false) (l := false) (TW.is (tw_notN (ex_v 0)) (by rw [e5]; rfl)) fun e => nomatch e)) rfl
    | some (.stem l b), h1, vs', no =>
      refine no (some (.stem l b)) rfl rfl fun H1 z1 => ?_
      have h1' := h1.mono z1
      have e5 : v1 ≠ .non := fun e => by rw [e] at h1'; cases h1'
      have sd : SD 2 (.tuple [.str "stem", .str l, .int (bi b)]) := .tup 1 fun d hd => by
        simp only [List.mem_cons, List.mem_nil_iff, or_false] at hd
        rcases hd with rfl | rfl | rfl
        · exact .str 0 (by decide +kernel)
        · exact .str 0 vs'
        · exact .int 0 _
      exact TW.is (tw_w (ww_and (k := true) (TW.is (tw_notN (ex_v 0)) (by rw [decide_eq_false e5]; rfl)) fun _ => ww_and1 (tw_cmp (op_eqD hr.units) rfl (ev_slTt 3 (ev_n 0 h1') ev_int (sIx_nat _ _ 3)) (ev_tup (av_cons ev_str (av_cons (ev_n 1 (h2.mono z1)) (av_cons (ev_n 2 (h3.mono z1)) av_nil)))) (rb_eqD sd.shaped sdr.shaped)))) rfl
    | some (.short a b k), h1, vs', no =>
      refine no (some (.short a b k)) rfl rfl fun H1 z1 => ?_
      have h1' := h1.mono z1
      have e5 : v1 ≠ .non := fun e => by rw [e] at h1'; cases h1'
      have sd : SD 2 (.tuple [.str "short", .str a, .str b]) := .tup 1 fun d hd => by
        simp only [List.mem_cons, List.mem_nil_iff, or_false] at hd
        rcases hd with rfl | rfl | rfl
        · exact .str 0 (by decide +kernel)
        · exact .str 0 vs'.1
        · exact .str 0 vs'.2
      exact TW.is (tw_w (ww_and (k := true) (TW.is (tw_notN (ex_v 0)) (by rw [decide_eq_false e5]; rfl)) fun _ => ww_and1 (tw_cmp (op_eqD hr.units) rfl (ev_slTt 3 (ev_n 0 h1') ev_int (sIx_nat _ _ 3)) (ev_tup (av_cons ev_str (av_cons (ev_n 1 (h2.mono z1)) (av_cons (ev_n 2 (h3.mono z1)) av_nil)))) (rb_eqD sd.shaped sdr.shaped)))) rfl
    | some (.pin pg j b), h1, vs', no =>
      clear no
      have e5 : v1 ≠ .non := fun e => by rw [e] at h1; cases h1
      have sd : SD 2 (.tuple [.str "pin", .str pg, .int (j : Int)]) := .tup 1 fun d hd => by
        simp only [List.mem_cons, List.mem_nil_iff, or_false] at hd
        rcases hd with rfl | rfl | rfl
        · exact .str 0 (by decide +kernel)
        · exact .str 0 vs'
        · exact .int 0 _
      refine go_when (k := decide (pg = nm ∧ j = i)) (TW.is (tw_w (ww_and (k := true) (TW.is (tw_notN (ex_v 0)) (by rw [decide_eq_false e5]; rfl)) fun _ => ww_and1 (tw_cmp (op_eqD hr.units) rfl (ev_slTt 3 (ev_n 0 h1) ev_int (sIx_nat _ _ 3)) (ev_tup (av_cons ev_str (av_cons (ev_n 1 h2) (av_cons (ev_n 2 h3) av_nil)))) (rb_eqD sd.shaped sdr.shaped)))) ?_) (fun t H1 z1 => ?_) fun t H1 z1 => ?_
      · have e1 : ((pg == nm) : Bool) = decide (pg = nm) := by
          by_cases e : pg = nm
          · subst e; simp
          · rw [decide_eq_false e]; exact beq_eq_false_iff_ne.mpr e
        have e2 : (((j : Int) == (i : Int)) : Bool) = decide (j = i) := by
          by_cases e : j = i
          · subst e; simp
          · rw [decide_eq_false e]; exact beq_eq_false_iff_ne.mpr fun q => e (by omega)
        simp only [Bool.true_and, List.take, PyData.eqv, PyData.eqvAll, beq_self_eq_true, Bool.and_true, e1, e2]
        by_cases a : pg = nm <;> by_cases b : j = i <;> simp [a, b]
      · refine go_out (EV.is (ev_ixT (ev_n 0 (h1.mono z1)) ev_int (atI_n (j := 3) rfl 3 rfl)) ?_) z1 q
        show _ = (if pg = nm ∧ j = i then PyData.int (bi b) else .none)
        rw [if_pos (of_decide_eq_true t)]
      · refine go_out (EV.is ev_non ?_) z1 q
        show _ = (if pg = nm ∧ j = i then PyData.int (bi b) else .none)
        rw [if_neg (of_decide_eq_false t)]
end
end Pw
namespace Pw
open PySem PySem.Spec L2
open Evl (Ex)
section
variable {X : Cx} {e a b c o kx vx tg iter : Expr} {σ : L2.St} {H : Hp} {px px2 pos apos cpos tp : Pos} {x y : Str} {scope : Scope} {i j j2 kk : Nat}
theorem wipe22 {σ : L2.St} {j j2 : Nat} {v u : V} (h : j ≠ j2) : wipe (((wipe σ [j, j2]).set j (some v)).set j2 (some u)) [j, j2] = wipe σ [j, j2] := by
  show (((((σ.set j2 none).set j none).set j (some v)).set j2 (some u)).set j2 none).set j none = (σ.set j2 none).set j none
  rw [List.set_set, List.set_set, List.set_comm _ _ h, List.set_set, List.set_set]
/-- {x: e for x, y in d.items()}: words, d locked -/
theorem ew_dcI {gv F : Wm} {ag af : Addr} {els : List Expr} (x y : Str) (j j2 : Nat) (hjj : j ≠ j2) (hN : X.N.Nodup) (hag : H ag = some (.dK (encI gv))) (haf : H af = some (.dK (encI F))) (nd : (gv.map (·.1)).Nodup) (hz : gv.length ≤ 1000) (ho : ∀ H', ExB ag H H' → EX X σ H' o (.ref ag))
    (hg : ∀ (v : V) (z : Str) (n : Nat) (σ' : L2.St) (H' : Hp) (Q : L2.St → Hp → Prop), Is H' v (.tuple [.str z, .int (n : Int)]) → Q ((σ'.set j (some (.str z))).set j2 (some (.int (n : Int)))) H' → bG X scope (.Tuple els kk tp) v σ' H' Q)
    (hk : ∀ (z : Str) (n : Nat) (σ' : L2.St) (H' : Hp), σ' = ((wipe σ [j, j2]).set j (some (.str z))).set j2 (some (.int (n : Int))) → EB X scope σ' H' kx (dat (.str z))) (hv : ∀ (z : Str) (n : Nat) (σ' : L2.St) (H' : Hp), σ' = ((wipe σ [j, j2]).set j (some (.str z))).set j2 (some (.int (n : Int))) → Rd H' af (.dK (encI F)) → EB X scope σ' H' vx (val (.int (((lkp F z).getD n : Nat) : Int))))
    (hc : X.calm = true := by rfl) (ok : blkC X.N X.env.scope scope [(x, j), (y, j2)] = true := by kernel_rfl)
    (hbase : attributeBase o "items" X.env (eval o X.env) = eval o X.env := by rfl) (hline : (apos.endLine == cpos.line) = true := by rfl)
    (hs : ∀ x, foldedSetIterable (.Call (.Attribute o "items" apos) [] [] cpos) X.env x = pure x := by intro _; rfl) :
    EW X σ H (.DictComp kx vx [⟨.Tuple els kk tp, .Call (.Attribute o "items" apos) [] [] cpos, [], 0⟩] scope pos) (FrD H (encI (seed F gv))) := fun H0 z0 Q q =>
  toE (pe_lock (pe_dc (own := [(x, j), (y, j2)]) (g := bG X scope (.Tuple els kk tp)) (tk := bE X scope kx) (tv := bE X scope vx) (tt := tYes) hc hN (pi_items pE hbase hline) (blkOk_by ok) (fun s H0 C cl fp => pbG) (fun s H0 C cl fp => pts_nil) (fun s H0 C cl fp => pbE) (fun s H0 C cl fp => pbE) hs)) ⟨ag, .dK (encI gv), z0 _ _ hag, True.intro, fun od => by
    have b0 : ExB ag H (upd H0 ag (.frz od (.dK (encI gv)))) := ExB.put (Ex.exB z0)
    refine (ho _ b0).run fun v H1 z r => ?_
    have r : v = .ref ag := r
    have f1 : H1 ag = some (.frz od (.dK (encI gv))) := z _ _ upd_same
    have B1 : ExB ag H0 H1 := fun b u n h => z _ _ (by rw [upd_ne n]; exact h)
    refine ⟨ag, od, encI gv, r, f1, fun D hD => ?_⟩
    have nD : D ≠ ag := fun e => by rw [e, f1] at hD; cases hD
    have D0 : H0 D = none := by
      cases e : H0 D with
      | none => rfl
      | some u => rw [B1 D u nD e] at hD; cases hD
    have gl : (encI gv).length = gv.length := List.length_map ..
    refine ⟨fun i m H' => m = gv.length - i ∧ i ≤ gv.length ∧ ExB ag H0 H' ∧ H' ag = some (.frz od (.dK (encI gv))) ∧ H' D = some (.dK (encI (seed F (gv.take i)))), ⟨gv.length, by simp, Nat.zero_le _, fun b u n h => by rw [upd_ne (ne_of_none h D0)]; exact B1 b u n h, by rw [upd_ne (Ne.symm nD)]; exact f1, upd_same⟩, ?_⟩
    rintro i m H' ⟨rfl, hi', ex, hf, hd⟩
    by_cases hlt : i < gv.length
    · refine .inr ⟨⟨hf, by omega⟩, fun H2 => ExB ag H0 H2 ∧ H2 ag = some (.frz od (.dK (encI gv))) ∧ H2 D = some (.dK (encI (seed F (gv.take (i + 1))))), fun H2 p => ⟨gv.length - (i + 1), by omega, rfl, hlt, p.1, p.2.1, p.2.2⟩, fun xv H2 yl => ?_⟩
      obtain ⟨T, k, u, e1, rfl, hT, rfl⟩ := yl
      obtain ⟨⟨zn, n⟩, e3, e4⟩ := gems e1
      cases e4
      have hT2 : Ex H' (upd H' T (.tup [.str zn, .int (n : Int)])) := Ex.new hT
      have ex2 : ExB ag H0 (upd H' T (.tup [.str zn, .int (n : Int)])) := ex.ex hT2
      have rdf : Rd (upd H' T (.tup [.str zn, .int (n : Int)])) af (.dK (encI F)) := by
        by_cases e : af = ag
        · rw [e] at haf ⊢
          have e8 : HO.dK (encI F) = .dK (encI gv) := Option.some.inj (haf.symm.trans hag)
          exact .inr ⟨od, by rw [e8]; exact hT2 _ _ hf⟩
        · exact .inl (ex2 af _ e (z0 _ _ haf))
      have hnew : lkp (seed F (gv.take i)) zn = none := lkp_none.mpr (by
        rw [seed_keys]
        intro hx
        obtain ⟨j, hj⟩ := List.getElem?_of_mem hx
        rw [List.map_take, List.getElem?_take] at hj
        split at hj
        · have e5 : (gv.map (·.1))[i]? = some zn := by rw [List.getElem?_map, e3]; rfl
          have := (List.getElem?_inj (List.getElem?_eq_some_iff.mp hj).1 nd).mp (hj.trans e5.symm)
          omega
        · cases hj)
      refine hg (.ref T) zn n _ _ _ (.tup upd_same (.cons (.str _) (.cons (.int _) .nil))) ⟨wipe22 hjj, ?_⟩
      unfold tYes
      dsimp only
      rw [if_pos rfl]
      refine (hk zn n _ _ rfl).run (Ex.refl _) fun v2 H3 z3 p3 => (hv zn n _ H3 rfl ?_).run (Ex.refl _) fun v3 H4 z4 p4 => ⟨encI (seed F (gv.take i)), .inr zn, (p3 H3 (Ex.refl H3)).str_eq, z4 _ _ (z3 _ _ (hT2 _ _ hd)), sz10' (by unfold encI; rw [List.length_map, seed_len, List.length_take]; omega), ?_, ?_, ?_⟩
      · rcases rdf with h | ⟨ob, h⟩
        · exact .inl (z3 _ _ h)
        · exact .inr ⟨ob, z3 _ _ h⟩
      · intro b u n h
        rw [upd_ne (ne_of_none h D0)]
        exact z4 _ _ (z3 _ _ (ex2 b u n h))
      · rw [upd_ne (Ne.symm nD)]
        exact z4 _ _ (z3 _ _ (hT2 _ _ hf))
      · have p5 : v3 = .int (((lkp F zn).getD n : Nat) : Int) := p4 H4 (Ex.refl H4)
        have hs2 : seed F (gv.take (i + 1)) = seed F (gv.take i) ++ [(zn, (lkp F zn).getD n)] := by
          unfold seed
          rw [List.take_add_one, e3, List.map_append]
          rfl
        rw [upd_same, p5, put_enc hnew, hs2]
    · have e : i = gv.length := by omega
      subst e
      rw [List.take_length] at hd
      refine .inl ⟨⟨hf, by omega⟩, hf, q _ _ (ExB.of (u := .dK []) ex (z0 _ _ hag)) fun H3 z3 => ⟨D, rfl, none_of z0 D0, z3 _ _ ?_⟩⟩
      rw [upd_ne nD]
      exact hd⟩
end
def mkV (l : Str) : Str := l
section
variable {P : Program} {w : World} {K : PySem.W.Frag} {mg : Str → Option Value} {base : Heap}
def spFull (K : PySem.W.Frag) : Sp := fun vs H Q _ => ∃ l b p ord ver pats dx lc v2 ag dxc fsc, vs = [.ref l, .int (bi b)] ∧ ManyOk K H l p ord ver pats dx lc v2 ag dxc fsc ∧ Giv H (dat (.int (((if b then 2 ^ pats.length - 1 else 0 : Nat)) : Int))) Q
theorem ex_mask {X : Cx} {o : Expr} {σ : L2.St} {H : Hp} {l : Addr} {p : Pt} {ord : List G} {ver : Option Vn} {pats : List (List Bool)} {dx lc : Addr} {v2 : V} {ag dxc : Addr} {fsc : List (Str × V)} {pos : Pos} (g : Gd X.prog X.w X.K X.mg X.base) (h : ManyOk X.K H l p ord ver pats dx lc v2 ag dxc fsc) (ho : EX X σ H o (.ref l)) (hb : attributeBase o "mask" X.env (eval o X.env) = eval o X.env := by rfl) : EV X σ H (.Attribute o "mask" pos) (.int ((2 ^ pats.length - 1 : Nat) : Int)) :=
  EX.at_ (ex_fld ho h.at_ g.mCls g.mMask rfl hb) (.int _)
theorem ok_full (g : Gd P w K mg base) : Mtd P w K mg base 1 (MC K) "full" (spFull K) := by
  refine g.mtd 14 93 75 d_Many_full "Many" "full" _ _ sc_Many_full ?_ ?_ bn_Many_full
  · rintro vs H Q E ⟨l, b, p, ord, ver, pats, dx, lc, v2, ag, dxc, fsc, rfl, _⟩
    rfl
  rintro cdv A outer s H vs Q E hr ⟨l, b, p, ord, ver, pats, dx, lc, v2, ag, dxc, fsc, rfl, h, q⟩
  refine go_out (ew_if (tw_cmp op_eq rfl (ev_n 1 (.int _)) ev_int rb_eqI) (fun t => (?_ : EV _ _ _ _ _)) fun t => (?_ : EV _ _ _ _ _)) (Ex.refl H) q
  · have e : b = true := by
      have := of_decide_eq_true t
      cases b
      · exact absurd this (by decide)
      · rfl
    subst e
    exact ex_mask g h (ex_v 0)
  · have e : b = false := by
      have := of_decide_eq_false t
      cases b
      · rfl
      · exact absurd rfl this
    subst e
    exact ev_int
def pinV (ver : Option Vn) (m : Wm) (g : G) (i full : Nat) : Nat := (pinF (pinOf ver) g.nm (wsAt m g) full).getD i 0
def spPin (K : PySem.W.Frag) : Sp := fun vs H Q _ => ∃ l vg i ak vv x m ver' p ord ver pats dx lc v2 ag dxc fsc, vs = [.ref l, vg, .int ((i : Nat) : Int), .ref ak, vv] ∧ ManyOk K H l p ord ver pats dx lc v2 ag dxc fsc ∧ Is H vg (gD x) ∧ H ak = some (.dK (encI m)) ∧ Is H vv (voD ver') ∧ VnStr ver' ∧ PyData.strOk x.nm = true ∧ i < x.ps.length ∧ (∀ y ∈ x.ps, (lkp m y).isSome = true) ∧
  Giv H (dat (.int ((pinV ver' m x i (2 ^ pats.length - 1) : Nat) : Int))) Q
theorem pinV_eq (ver : Option Vn) {m : Wm} {g : G} {i full : Nat} (hi : i < g.ps.length) : pinV ver m g i full = match pinOf ver with
    | some (h, j, b) => if h = g.nm ∧ j = i then (if b then full else 0) else (wsAt m g).getD i 0
    | none => (wsAt m g).getD i 0 := by
  unfold pinV pinF
  have wl : (wsAt m g).length = g.ps.length := List.length_map ..
  match pinOf ver with
  | none => rfl
  | some (h, j, b) =>
    show (if h = g.nm then (wsAt m g).set j (if b = true then full else 0) else wsAt m g).getD i 0 = if h = g.nm ∧ j = i then (if b = true then full else 0) else (wsAt m g).getD i 0
    by_cases e : h = g.nm
    · rw [if_pos e]
      by_cases e2 : j = i
      · rw [if_pos (show h = g.nm ∧ j = i from ⟨e, e2⟩), e2, List.getD_eq_getElem?_getD, List.getElem?_set_self (by omega)]
        rfl
      · rw [if_neg (show ¬ (h = g.nm ∧ j = i) from fun q => e2 q.2), List.getD_eq_getElem?_getD, List.getElem?_set_ne e2, List.getD_eq_getElem?_getD]
    · rw [if_neg e, if_neg (show ¬ (h = g.nm ∧ j = i) from fun q => e q.1)]
theorem ok_pin (g : Gd P w K mg base) : Mtd P w K mg base 2 (MC K) "pin" (spPin K) := by
  refine g.mtd 15 94 75 d_Many_pin "Many" "pin" _ _ sc_Many_pin ?_ ?_ bn_Many_pin
  · rintro vs H Q E ⟨l, vg, i, ak, vv, x, m, ver', p, ord, ver, pats, dx, lc, v2, ag, dxc, fsc, rfl, _⟩
    rfl
  rintro cdv A outer s H vs Q E hr ⟨l, vg, i, ak, vv, x, m, ver', p, ord, ver, pats, dx, lc, v2, ag, dxc, fsc, rfl, h, hg, hk, hv, vst, nst, hi, pins, q⟩
  refine go_set 5 sc_Many_pin.nd (ev_callD (ok_stuck_pin g) (hr.mono (by omega)) (Nat.le_refl _) (av_cons (ev_n 4 hv) (av_cons (ev_ixT (ev_n 1 hg) ev_int (atI_n (j := 0) rfl 0 rfl)) (av_cons (ev_n 2 (.int _)) av_nil))) ⟨ver', x.nm, i, rfl, vst, nst, rfl⟩) fun v5 H1 z1 h5 => ?_
  have hg1 := hg.mono z1
  have hel : ∀ H2, Ex H1 H2 → EV (BX P w K mg base N_Many_pin d_Many_pin (He.fAd K d_Many_pin.at_) cdv A outer s H E) [some (.ref l), some vg, some (.int (i : Int)), some (.ref ak), some vv, some v5] H2 (match d_Many_pin.body with
      | [_, .Return (some (.IfExp _ a _ _)) _] => a
      | _ => .Name "x" ⟨0, 0, 0, 0⟩) (.int (((wsAt m x).getD i 0 : Nat) : Int)) := fun H2 z2 => by
    obtain ⟨y, hy⟩ : ∃ y, x.ps[i]? = some y := ⟨x.ps[i], List.getElem?_eq_getElem hi⟩
    obtain ⟨n, hn⟩ := Option.isSome_iff_exists.mp (pins y (memAt hy))
    refine EV.is (EX.at_ (ex_dget hr (ex_v 3) (ev_ixT (ds := strsD x.ps) (d := .str y) (ev_ixT (ev_n 1 (hg1.mono z2)) ev_int (atI_n (j := 2) rfl 2 rfl)) (ev_n 2 (.int _)) (atI_n (j := i) (by rw [List.getElem?_map, hy]; rfl) i rfl)) (.inl (z2 _ _ (z1 _ _ hk))) (val_some hn)) (.int _)) ?_
    unfold wsAt
    rw [List.getD_eq_getElem?_getD, List.getElem?_map, hy]
    show _ = PyData.int ((((lkp m y).getD 0 : Nat)) : Int)
    rw [hn]
    rfl
  refine go_out (ew_if (k := decide (v5 = .non)) (tw_isN (ex_v 5)) (fun t => (?_ : EV _ _ _ _ _)) fun t => (?_ : EV _ _ _ _ _)) z1 q
  · refine EV.is (hel H1 (Ex.refl _)) ?_
    rw [pinV_eq ver' hi]
    have e5 := of_decide_eq_true t
    have h5 : Is H1 v5 (stuckD ver' x.nm i) := h5
    rw [e5] at h5
    unfold stuckD at h5
    match pinOf ver', h5 with
    | none, _ => rfl
    | some (pg, j, b), h5 =>
      show _ = PyData.int ((((if pg = x.nm ∧ j = i then (if b = true then 2 ^ pats.length - 1 else 0) else (wsAt m x).getD i 0) : Nat)) : Int)
      have h5 : Is H1 .non (if pg = x.nm ∧ j = i then .int (bi b) else .none) := h5
      by_cases c : pg = x.nm ∧ j = i
      · rw [if_pos c] at h5; cases h5
      · rw [if_neg c]
  · have e5 := of_decide_eq_false t
    have h5 : Is H1 v5 (stuckD ver' x.nm i) := h5
    unfold stuckD at h5
    rw [pinV_eq ver' hi]
    match pinOf ver', h5 with
    | none, h5 => exact absurd (Is.non_eq h5) e5
    | some (pg, j, b), h5 =>
      have h5 : Is H1 v5 (if pg = x.nm ∧ j = i then .int (bi b) else .none) := h5
      show EV _ _ _ _ (PyData.int ((((if pg = x.nm ∧ j = i then (if b = true then 2 ^ pats.length - 1 else 0) else (wsAt m x).getD i 0) : Nat)) : Int))
      by_cases c : pg = x.nm ∧ j = i
      · rw [if_pos c] at h5 ⊢
        rw [h5.int_eq]
        refine ew_meth (ok_full g) hr (by omega) (ex_v 0) (h.mono z1).at_ rfl (aw_cons (ex_v 5) aw_nil) fun vs H2 z2 hv Q2 q2 => ?_
        obtain ⟨w1, r1, rfl, i1, rfl⟩ := hv
        rw [show w1 = .int (bi b) from i1]
        exact ⟨l, b, p, ord, ver, pats, dx, lc, v2, ag, dxc, fsc, rfl, (h.mono z1).mono z2, q2⟩
      · rw [if_neg c] at h5
        exact absurd (Is.non_eq h5) e5
end
end Pw
namespace Pw
open PySem PySem.Spec L2
open Evl (Ex)
/-! ### through -/
def pThr (p : Pt) (ord : List G) (pats : List (List Bool)) (F : Wm) (pin : Pn) : Wm := ord.foldl (prG F pin (2 ^ pats.length - 1)) (seed F (giv p pats))
theorem prF_len {F : Wm} {pin : Pn} {f : Nat} : ∀ {gs : List G} {m : Wm}, (gs.foldl (prG F pin f) m).length = m.length + gs.length
  | [], m => by simp
  | g :: r, m => by
    rw [List.foldl_cons, prF_len (gs := r)]
    unfold prG
    simp only [List.length_append, List.length_cons, List.length_nil]
    omega
theorem Bd.prF {n : Nat} {F : Wm} {pin : Pn} (hF : Bd n F) : ∀ {gs : List G} {m : Wm}, Bd n m → (∀ g ∈ gs, KdOk g.kd g.ps.length) → Bd n (gs.foldl (prG F pin (2 ^ n - 1)) m)
  | [], _, hm, _ => hm
  | g :: r, m, hm, hk => Bd.prF hF (gs := r) (hm.snoc (gvAt_lt hF hm (hk g List.mem_cons_self))) fun x hx => hk x (List.mem_cons_of_mem _ hx)
theorem giv_len {p : Pt} {pats : List (List Bool)} : (giv p pats).length = p.src.length := by
  have e := congrArg List.length (giv_keys' p pats)
  rwa [List.length_map] at e
theorem wsAt_range {ver : Option Vn} {m : Wm} {x : G} {f : Nat} : (List.range x.ps.length).map (fun i => PyData.int ((pinV ver m x i f : Nat) : Int)) = wsD (pinF (pinOf ver) x.nm (wsAt m x) f) := by
  have hl : (pinF (pinOf ver) x.nm (wsAt m x) f).length = x.ps.length := by rw [pinF_len]; exact List.length_map ..
  refine List.ext_getElem? fun i => ?_
  rw [List.getElem?_map, List.getElem?_map]
  by_cases h : i < x.ps.length
  · rw [List.getElem?_range h, List.getElem?_eq_getElem (by rw [hl]; exact h)]
    show some (PyData.int ((pinV ver m x i f : Nat) : Int)) = some _
    unfold pinV
    rw [List.getD_eq_getElem?_getD, List.getElem?_eq_getElem (by rw [hl]; exact h)]
    rfl
  · rw [List.getElem?_eq_none (by rw [List.length_range]; omega), List.getElem?_eq_none (by rw [hl]; omega)]
    rfl
/-- the gates' names in order -/
def NmOk (p : Pt) : Prop := ∀ g ∈ p.gs, PyData.strOk g.nm = true
section
variable {P : Program} {w : World} {K : PySem.W.Frag} {mg : Str → Option Value} {base : Heap}
def spThr (K : PySem.W.Frag) : Sp := fun vs H Q _ => ∃ l vv af F ver' p ord ver pats dx lc v2 ag dxc fsc, vs = [.ref l, vv, .ref af] ∧ ManyOk K H l p ord ver pats dx lc v2 ag dxc fsc ∧ Is H vv (voD ver') ∧ VnStr ver' ∧ H af = some (.dK (encI F)) ∧ F.length ≤ 10 ∧ Wf p ∧ NmOk p ∧ Giv H (DkR (pThr p ord pats F (pinOf ver'))) Q
theorem ok_through (g : Gd P w K mg base) : Mtd P w K mg base 3 (MC K) "through" (spThr K) := by
  refine g.mtd 16 95 75 d_Many_through "Many" "through" _ _ sc_Many_through ?_ ?_ bn_Many_through
  · rintro vs H Q E ⟨l, vv, af, F, ver', p, ord, ver, pats, dx, lc, v2, ag, dxc, fsc, rfl, _⟩
    rfl
  rintro cdv A outer s H vs Q E hr ⟨l, vv, af, F, ver', p, ord, ver, pats, dx, lc, v2, ag, dxc, fsc, rfl, h, hv, vst, hf, fl, wf, nst, q⟩
  have sl := wf.sm.src; have gl := wf.sm.gs
  have nla : l ≠ ag := ne_of h.at_ h.giv (fun q => nomatch q)
  refine go_set (P := FrD H (encI (seed F (giv p pats)))) 3 sc_Many_through.nd (ew_dcI (gv := giv p pats) (F := F) (ag := ag) (af := af) "line" "word" 4 5 (by decide) sc_Many_through.nd h.giv hf (by rw [giv_keys']; exact (List.nodup_append.mp wf.nd).1) (by rw [giv_len]; omega) (fun H' b => ex_fld (ex_v 0) (b l _ nla h.at_) g.mCls g.mGiv rfl)
    (fun v z n σ' H' Q2 r q2 s1 H0 C cl fp => gt_tup2 rfl r fun v1 v2 i1 i2 => by
      rw [i1.str_eq, i2.int_eq]
      exact gt_n 4 sc_Many_through.nd (gt_n 5 sc_Many_through.nd q2)) (fun z n σ' H' e s1 H0 C cl fp => by subst e; exact ev_n 4 (.str z)) fun z n σ' H' e rd s1 H0 C cl fp => ?_) fun w3 H1 z1 ⟨ak, e3, nk, hk⟩ => ?_
  · subst e
    have e9 : ((lkp F z).map fun (n : Nat) => V.int (n : Int)).getD (.int (n : Int)) = .int (((lkp F z).getD n : Nat) : Int) := by cases lkp F z <;> rfl
    rw [← e9]
    exact ex_dget2 (k := 2) hr (ex_v 2) (ev_n 4 (.str z)) (ex_v 5) rd (val_enc z F)
  subst e3
  have h1 := h.mono z1
  refine go_forL (ds := ord.map gD) (passes_of rfl) rfl (ev_ord g h1.circ.ho (ex_fld (ex_v 0) h1.at_ g.mCls g.mCirc rfl)) fun l2 xs2 H2 z2 hl2 hs2 => ⟨fun i σ' H' => ∃ y6 y7, σ' = [some (.ref l), some vv, some (.ref af), some (.ref ak), none, none, y6, y7, none] ∧ Ex H H' ∧ ExT H2 H' ∧ H' l2 = some (.lst xs2) ∧ H' ak = some (.dK (encI ((ord.take i).foldl (prG F (pinOf ver') (2 ^ pats.length - 1)) (seed F (giv p pats))))), ⟨none, none, rfl, z1.trans z2, ExT.refl _, hl2, z2 _ _ hk⟩, fun i σ' H' pv => ?_, fun i v d σ' H' e1 e2 ri pv => ?_, fun σ' H' pv => ?_⟩
  · obtain ⟨_, _, _, _, _, h, _⟩ := pv
    exact h
  · obtain ⟨y6, y7, rfl, z, xt, hl2', hk'⟩ := pv
    obtain ⟨x, e3, rfl⟩ := gems e2
    have hx : x ∈ p.gs := h.circ.pm.mem_iff.mp (memAt e3)
    have il : i < ord.length := (List.getElem?_eq_some_iff.mp e3).1
    have ol : ord.length ≤ 10 := by rw [h.circ.pm.length_eq]; exact gl
    have e4 : (ord.take (i + 1)).foldl (prG F (pinOf ver') (2 ^ pats.length - 1)) (seed F (giv p pats)) = prG F (pinOf ver') (2 ^ pats.length - 1) ((ord.take i).foldl (prG F (pinOf ver') (2 ^ pats.length - 1)) (seed F (giv p pats))) x := by rw [List.take_add_one, e3, List.foldl_append]; rfl
    have kl := prF_len (F := F) (pin := pinOf ver') (f := 2 ^ pats.length - 1) (gs := ord.take i) (m := seed F (giv p pats))
    rw [seed_len, giv_len, List.length_take] at kl
    have keys := prog_keys (F := F) (pin := pinOf ver') (full := 2 ^ pats.length - 1) (seed F (giv p pats)) (ord.take i)
    rw [seed_keys, giv_keys'] at keys
    have nd' : (p.src ++ ord.map (·.nm)).Nodup := ((List.Perm.append_left p.src (h.circ.pm.map _)).nodup_iff).mpr wf.nd
    generalize hM : (ord.take i).foldl (prG F (pinOf ver') (2 ^ pats.length - 1)) (seed F (giv p pats)) = M at *
    have pins : ∀ y ∈ x.ps, (lkp M y).isSome = true := fun y hy => by
      rw [lkp_key, keys]
      exact h.circ.tp i x e3 y hy
    have new : lkp M x.nm = none := lkp_none.mpr (by
      rw [keys]
      intro hm
      have nd2 : (p.src ++ (ord.take (i + 1)).map (·.nm)).Nodup := nd'.sublist (List.Sublist.append (List.Sublist.refl _) ((List.take_sublist _ _).map _))
      rw [List.take_add_one, e3, List.map_append, ← List.append_assoc] at nd2
      exact (List.nodup_append.mp nd2).2.2 _ hm _ (by simp) rfl)
    have ri := ri.tmono xt (.gate x)
    have hm' := h.mono z
    have hv' := hv.mono z
    have xp := wf.sm.ps x hx
    refine gt_n 6 sc_Many_through.nd (go_lcR (n := x.ps.length) 7 "index" 8 (fun i => .int ((pinV ver' M x i (2 ^ pats.length - 1) : Nat) : Int)) sc_Many_through.nd g.range (ev_lenT g.len (ev_ixT (d := .tuple (strsD x.ps)) (ev_n 6 ri) ev_int (atI_n (j := 2) rfl 2 rfl))) (by rw [List.length_map]) (by omega) (fun j H5 hj z5 s1 H0 C cl fp => ?_) fun v7 H6 z6 ⟨aw, ys, e7, nw, haw, hys⟩ => ?_)
    · refine ew_meth (ok_pin g) hr (Nat.le_refl _) (ex_v 0) (hm'.mono z5).at_ rfl (aw_cons (P := dat (gD x)) (ev_n 6 (ri.mono z5)) (aw_cons (ex_v 8) (aw_cons (ex_v 3) (aw_cons (P := dat (voD ver')) (ev_n 1 (hv'.mono z5)) aw_nil)))) fun vs H7 z7 hv7 Q2 q2 => ?_
      obtain ⟨w1, r1, rfl, i1, w2, r2, rfl, i2, w3, r3, rfl, i3, w4, r4, rfl, i4, rfl⟩ := hv7
      rw [show w2 = .int (j : Int) from i2, show w3 = .ref ak from i3]
      exact ⟨l, w1, j, ak, w4, x, M, ver', p, ord, ver, pats, dx, lc, v2, ag, dxc, fsc, rfl, (hm'.mono z5).mono z7, i1, z7 _ _ (z5 _ _ hk'), i4, vst, nst x hx, hj, pins, q2⟩
    subst e7
    rw [wsAt_range] at hys
    have ri6 := ri.mono z6
    have hm6 := hm'.mono z6
    refine go_dput (l := ak) (z := x.nm) (by have := hr.units; omega) (ex_dget2 (k := 2) hr (ex_v 2) (ev_ixT (ev_n 6 ri6) ev_int (atI_n (j := 0) rfl 0 rfl)) (EW.ofInt (ev_callD (ok_gate_word g) (hr.mono (by omega)) (Nat.le_refl _) (av_cons (ev_ixT (ev_n 6 ri6) ev_int (atI_n (j := 1) rfl 1 rfl)) (av_cons (ev_n 7 (.lst haw hys)) (av_cons (ex_mask g hm6 (ex_v 0)) av_nil))) ⟨x.kd, pinF (pinOf ver') x.nm (wsAt M x) (2 ^ pats.length - 1), 2 ^ pats.length - 1, rfl, ?_, rfl⟩)) (.inl (z6 _ _ (z _ _ hf))) (val_enc x.nm F)) (ex_v 3) (ev_ixT (ev_n 6 ri6) ev_int (atI_n (j := 0) rfl 0 rfl)) (z6 _ _ hk') (by unfold encI; rw [List.length_map]; omega) fun v8 H8 z8 p8 => go_nil ⟨some v, some (.ref aw), rfl, Ex.put (z.trans (z6.trans z8)) nk, (xt.trans (.of (z6.trans z8))).put (z8 _ _ (z6 _ _ hk')) (fun _ q => nomatch q), ?_, ?_⟩
    · rw [pinF_len]
      unfold wsAt
      rw [List.length_map]
      exact wf.kd x hx
    · have z68 := z6.trans z8
      rw [upd_ne (ne_of (z68 _ _ hl2') (z68 _ _ hk') (fun q => nomatch q))]
      exact z68 _ _ hl2'
    · have p8 : v8 = ((lkp F x.nm).map fun (n : Nat) => V.int (n : Int)).getD (.int (gW x.kd (pinF (pinOf ver') x.nm (wsAt M x) (2 ^ pats.length - 1)) (2 ^ pats.length - 1) : Nat)) := p8
      have e8 : v8 = .int (gvAt F (pinOf ver') (2 ^ pats.length - 1) M x : Nat) := by
        rw [p8]
        unfold gvAt
        cases lkp F x.nm <;> rfl
      rw [upd_same, e4, e8, put_enc new]
      rfl
  · obtain ⟨y6, y7, rfl, z, _, _, hk'⟩ := pv
    rw [List.length_map, List.take_length] at hk'
    exact go_out (EW.imp (ex_v 3) fun v H5 z5 p5 => ⟨ak, p5, z5 _ _ hk'⟩) z q
end
end Pw
namespace Pw
open PySem PySem.Spec L2
open Evl (Ex)
def pWords (p : Pt) (ord : List G) (ver : Option Vn) (pats : List (List Bool)) : Wm := pThr p ord pats (Fs (pThr p ord pats [] none) (2 ^ pats.length - 1) ver) (pinOf ver)
theorem pThr_sol {p : Pt} (wf : Wf p) {ord : List G} (pm : ord.Perm p.gs) (tp : Topo p.src ord) (pats : List (List Bool)) (F : Wm) (pin : Pn) : Sol p.src p.gs F pin (2 ^ pats.length - 1) (seed F (giv p pats)) (pThr p ord pats F pin) :=
  prog_sol (by rw [seed_keys, giv_keys']) wf.nd pm tp
theorem pThr_there {p : Pt} (wf : Wf p) {ord : List G} (pm : ord.Perm p.gs) (tp : Topo p.src ord) (pats : List (List Bool)) (F : Wm) (pin : Pn) {x : Str} (hx : x ∈ p.lns) : ∃ n, lkp (pThr p ord pats F pin) x = some n :=
  (pThr_sol wf pm tp pats F pin).there (by rw [seed_keys, giv_keys']) hx
theorem pThr_eq {p : Pt} (wf : Wf p) {ord : List G} (pm : ord.Perm p.gs) (tp : Topo p.src ord) (pats : List (List Bool)) (F : Wm) (pin : Pn) {x : Str} (hx : x ∈ p.lns) : lkp (pThr p ord pats F pin) x = lkp (lPass p (giv p pats) F pin pats.length) x := by
  exact (pThr_sol wf pm tp pats F pin).eq (lPass_sol wf pats F pin) pm tp x hx
/-- the program's words are the law's -/
theorem pWords_eq {p : Pt} (wf : Wf p) {ord : List G} (pm : ord.Perm p.gs) (tp : Topo p.src ord) {ver : Option Vn} (vg : VGo p ver) (pats : List (List Bool)) {x : Str} (hx : x ∈ p.lns) : lkp (pWords p ord ver pats) x = lkp (lWords p ver pats) x := by
  have e : Fs (pThr p ord pats [] none) (2 ^ pats.length - 1) ver = Fs (lPass p (giv p pats) [] none pats.length) (2 ^ pats.length - 1) ver := by
    match ver, vg with
    | some (.stem _ _), _ => rfl
    | some (.pin _ _ _), _ => rfl
    | none, _ => rfl
    | some (.short a b k), vg =>
      show [(a, comb k ((lkp (pThr p ord pats [] none) a).getD 0) ((lkp (pThr p ord pats [] none) b).getD 0)), (b, comb k ((lkp (pThr p ord pats [] none) a).getD 0) ((lkp (pThr p ord pats [] none) b).getD 0))] = _
      rw [pThr_eq wf pm tp pats [] none vg.1, pThr_eq wf pm tp pats [] none vg.2.1]
      rfl
  unfold pWords lWords
  rw [e]
  exact pThr_eq wf pm tp pats _ _ hx
section
variable {P : Program} {w : World} {K : PySem.W.Frag} {mg : Str → Option Value} {base : Heap}
def spMWords (K : PySem.W.Frag) : Sp := fun vs H Q _ => ∃ l p ord ver pats dx lc v2 ag dxc fsc, vs = [.ref l] ∧ ManyOk K H l p ord ver pats dx lc v2 ag dxc fsc ∧ VnStr ver ∧ VGo p ver ∧ Wf p ∧ NmOk p ∧ Giv H (DkR (pWords p ord ver pats)) Q
theorem ok_Many_words (g : Gd P w K mg base) : Mtd P w K mg base 4 (MC K) "words" (spMWords K) := by
  refine g.mtd 17 96 75 d_Many_words "Many" "words" _ _ sc_Many_words ?_ ?_ bn_Many_words
  · rintro vs H Q E ⟨l, p, ord, ver, pats, dx, lc, v2, ag, dxc, fsc, rfl, _⟩
    rfl
  rintro cdv A outer s H vs Q E hr ⟨l, p, ord, ver, pats, dx, lc, v2, ag, dxc, fsc, rfl, h, vst, vg, wf, nst, q⟩
  refine go_set 1 sc_Many_words.nd (ex_fld (ex_v 0) h.at_ g.mCls g.mVer rfl) fun v1 H1 z1 e1 => ?_
  have e1 : v1 = v2 := e1
  subst e1
  have h1 := h.mono z1
  have hv := h1.ver
  refine go_set (P := FrD H1 []) 2 sc_Many_words.nd ew_dnew fun w2 H2 z2 ⟨af, e2, _, hf2⟩ => ?_
  subst e2
  refine go_join (fun σ' H3 => ∃ af, σ' = [some (.ref l), some v1, some (.ref af), none, none, none, none] ∧ Ex H2 H3 ∧ H3 af = some (.dK (encI (stF ver (2 ^ pats.length - 1))))) (k := isKd ver "stem") (tw_vkd "stem" (ex_v 1) (ex_v 1) (hv.mono z2)) (fun kt H3 z3 => ?_) (fun kt H3 z3 => ⟨af, rfl, z3, ?_⟩) fun σ' H3 ⟨af, eσ, z3, hf3⟩ => ?_
  · match ver, h1, hv, kt with
    | some (.stem a b), h1, hv, kt =>
      have z23 := z2.trans z3
      have hv' := hv.mono z23
      have h3 := h1.mono z23
      refine go_set (P := FrD H3 [((.inr a : Key), .int (((if b then 2 ^ pats.length - 1 else 0 : Nat)) : Int))]) 2 sc_Many_words.nd (ew_disp1 (ev_ixT (ev_n 1 hv') ev_int (atI_n (j := 1) rfl 1 rfl)) (EW.ofInt (ew_meth (ok_full g) hr (by omega) (ex_v 0) h3.at_ rfl (aw_cons (P := val (.int (bi b))) (EW.ofInt (ev_ixT (ev_n 1 hv') ev_int (atI_n (j := 2) rfl 2 rfl))) aw_nil) fun vs H4 z4 hv4 Q2 q2 => ?_))) fun w4 H4 z4 ⟨a4, e4, _, h4⟩ => go_nil ⟨a4, by subst e4; rfl, z3.trans z4, h4⟩
      obtain ⟨w1, r1, rfl, i1, rfl⟩ := hv4
      rw [show w1 = .int (bi b) from i1]
      exact ⟨l, b, p, ord, some (.stem a b), pats, dx, lc, v1, ag, dxc, fsc, rfl, h3.mono z4, q2⟩
    | some (.pin _ _ _), _, _, kt => exact absurd kt (show ¬ decide (("pin" : Str) = ("stem" : Str)) = true by decide)
    | some (.short _ _ _), _, _, kt => exact absurd kt (show ¬ decide (("short" : Str) = ("stem" : Str)) = true by decide)
    | none, _, _, kt => exact absurd kt (by decide)
  · have e6 := z3 _ _ hf2
    match ver, kt with
    | some (.stem l b), kt => exact absurd kt (by simp [isKd, kdOf])
    | some (.pin _ _ _), kt => exact e6
    | some (.short _ _ _), kt => exact e6
    | none, kt => exact e6
  subst eσ
  have z23 := z2.trans z3
  have h3 := h1.mono z23
  have hv3 := hv.mono z23
  refine go_join (fun σ' H4 => ∃ a4 y3 y4 y5 y6, σ' = [some (.ref l), some v1, some (.ref a4), y3, y4, y5, y6] ∧ Ex H3 H4 ∧ H4 a4 = some (.dK (encI (Fs (pThr p ord pats [] none) (2 ^ pats.length - 1) ver)))) (k := isKd ver "short") (tw_vkd "short" (ex_v 1) (ex_v 1) hv3) (fun kt H4 z4 => ?_) (fun kt H4 z4 => ⟨af, none, none, none, none, rfl, z4, ?_⟩) fun σ' H4 ⟨a4, y3, y4, y5, y6, eσ, z4, hf4⟩ => ?_
  · match ver, h3, hv3, vg, kt with
    | some (.stem l b), _, _, _, kt => exact absurd kt (show ¬ decide (("stem" : Str) = ("short" : Str)) = true by decide)
    | some (.pin _ _ _), _, _, _, kt => exact absurd kt (show ¬ decide (("pin" : Str) = ("short" : Str)) = true by decide)
    | none, _, _, _, kt => exact absurd kt (by decide)
    | some (.short a b k), h3, hv3, vg, kt =>
      obtain ⟨va, vb, ne⟩ := vg
      have h4 := h3.mono z4
      have hv4 := hv3.mono z4
      refine go_set (P := DkR (pThr p ord pats [] none)) 3 sc_Many_words.nd (ew_meth (ok_through g) hr (Nat.le_refl _) (ex_v 0) h4.at_ rfl (aw_cons (P := dat .none) ev_non (aw_cons ew_dnew aw_nil)) fun vs H5 z5 hv5 Q2 q2 => ?_) fun w5 H5 z5 ⟨a5, e5, h5⟩ => ?_
      · obtain ⟨w1, r1, rfl, i1, w2, r2, rfl, ⟨a6, e6, _, h6⟩, rfl⟩ := hv5
        rw [e6]
        exact ⟨l, w1, a6, [], none, p, ord, some (.short a b k), pats, dx, lc, v1, ag, dxc, fsc, rfl, h4.mono z5, i1, True.intro, h6, by decide, wf, nst, q2⟩
      subst e5
      obtain ⟨na, ea⟩ := pThr_there wf h.circ.pm h.circ.tp pats [] none va
      obtain ⟨nb, eb⟩ := pThr_there wf h.circ.pm h.circ.tp pats [] none vb
      have h2a := hv4.mono z5
      refine go_par 4 5 sc_Many_words.nd (ex_dget hr (ex_v 3) (ev_ixT (ev_n 1 h2a) ev_int (atI_n (j := 1) rfl 1 rfl)) (.inl h5) (val_some ea)) (ex_dget hr (ex_v 3) (ev_ixT (ev_n 1 h2a) ev_int (atI_n (j := 2) rfl 2 rfl)) (.inl h5) (val_some eb)) fun H10 z10 => ?_
      have h2b := h2a.mono z10
      refine go_set (P := dat (.int ((comb k na nb : Nat) : Int))) 6 sc_Many_words.nd (ew_if (tw_cmp op_eq rfl (ev_ixT (ev_n 1 h2b) ev_int (atI_n (j := 3) rfl 3 rfl)) ev_str rb_eqS) (fun t => (?_ : EV _ _ _ _ _)) fun t => (?_ : EV _ _ _ _ _)) fun v12 H12 z12 p12 => ?_
      · refine EV.is (ev_band (ev_n 4 (.int _)) (ev_n 5 (.int _))) ?_
        rw [andI]
        cases k
        · exact absurd (of_decide_eq_true t) (by decide)
        · rfl
      · refine EV.is (ev_bor (ev_n 4 (.int _)) (ev_n 5 (.int _))) ?_
        rw [orI]
        cases k
        · rfl
        · exact absurd rfl (of_decide_eq_false t)
      rw [p12.int_eq]
      have h2c := h2b.mono z12
      refine go_set (P := FrD H12 [((.inr a : Key), .int ((comb k na nb : Nat) : Int)), ((.inr b : Key), .int ((comb k na nb : Nat) : Int))]) 2 sc_Many_words.nd (ew_disp2 (ev_ixT (ev_n 1 h2c) ev_int (atI_n (j := 1) rfl 1 rfl)) (ex_v 6) (ev_ixT (ev_n 1 h2c) ev_int (atI_n (j := 2) rfl 2 rfl)) (ex_v 6) ne) fun v13 H13 z13 ⟨a13, e13, _, hd13⟩ => go_nil ⟨a13, some (.ref a5), some (.int na), some (.int nb), some (.int (comb k na nb : Nat)), by subst e13; rfl, (((z4.trans z5).trans z10).trans z12).trans z13, ?_⟩
      rw [hd13, Fs_short ea eb]
      rfl
  · have e7 := z4 _ _ hf3
    match ver, kt with
    | some (.stem l b), kt => exact e7
    | some (.pin _ _ _), kt => exact e7
    | some (.short _ _ _), kt => exact absurd kt (by simp [isKd, kdOf])
    | none, kt => exact e7
  subst eσ
  refine go_out (R := DkR (pWords p ord ver pats)) (ew_meth (ok_through g) hr (Nat.le_refl _) (ex_v 0) (h3.mono z4).at_ rfl (aw_cons (P := dat (voD ver)) (ev_n 1 (hv3.mono z4)) (aw_cons (ex_v 2) aw_nil)) fun vs H5 z5 hv5 Q2 q2 => ?_) (z1.trans (z23.trans z4)) q
  obtain ⟨w1, r1, rfl, i1, w2, r2, rfl, i2, rfl⟩ := hv5
  rw [show w2 = .ref a4 from i2]
  exact ⟨l, w1, a4, _, ver, p, ord, ver, pats, dx, lc, v1, ag, dxc, fsc, rfl, (h3.mono z4).mono z5, i1, vst, z5 _ _ hf4, Nat.le_trans (Fs_len ver) (by decide), wf, nst, q2⟩
end
end Pw
namespace Pw
open PySem PySem.Spec L2
open Evl (Ex)
section
variable {X : Cx} {e : Expr} {es : List Expr} {σ : L2.St} {H : Hp} {R : PV} {pos : Pos} {k j : Nat} {x : Str} {C : Addr} {PA : List V → Hp → Prop} {p : Pos}
/-- C(e, ..) -/
theorem ew_make {sp : Sp} (M : Mkr X.prog X.w X.K X.mg X.base k C x sp) (hr : Room j X.A) (hk : k + 1 ≤ j) (ha : AW X σ H (e :: es) PA)
    (hs : ∀ vs H2, Ex H H2 → PA vs H2 → ∀ l dx, H2 l = none → H2 dx = none → dx ≠ l → ∀ Q, Giv H2 R Q → sp (.ref l :: vs) (upd (upd H2 dx (.own l)) l (.ins C dx [])) (fun v H3 => v = .non ∧ Q (.ref l) H3) E0)
    (hg : Gl X x := by rfl) (hdb : (x == ("__debug__" : Str)) = false := by decide) (he : starEach (e :: es) X.env = (false, eval e X.env) :: starEach es X.env := by rfl) (hpl : (backTo pos (starEach es X.env)).any (·.1) = false := by rfl) : EW X σ H (.Call (.Name x p) (e :: es) [] pos) R := by
  obtain ⟨f, fd, ps, F, hm, hmg, hb⟩ := M
  exact fun H1 z Q q => toE (pe_make hm F (hr.mono hk) hg hmg hb .nil passL pA hdb he hpl) (ha H1 z _ fun vs H2 z2 p l dx hl hd hne => by
    rw [List.append_nil]
    exact hs vs H2 (z.trans z2) (p H2 (Ex.refl H2)) l dx hl hd hne Q fun w H3 z3 g => q w H3 (z2.trans z3) g)
end
theorem Ex.make {H : Hp} {l dx : Addr} {C : Addr} (hl : H l = none) (hd : H dx = none) : Ex H (upd (upd H dx (.own l)) l (.ins C dx [])) := Ex.put (Ex.new hd) hl
theorem Ex.made {H H' H3 : Hp} {l : Addr} (hl : H l = none) (z : Ex H H') (b : ExB l H' H3) : Ex H H3 := fun a o h => b a o (ne_of_none h hl) (z a o h)
section
variable {P : Program} {w : World} {K : PySem.W.Frag} {mg : Str → Option Value} {base : Heap}
def spMInit (K : PySem.W.Frag) : Sp := fun vs H Q _ => ∃ l dx lc p ord ver pats v2 v3 dxc fsc, vs = [.ref l, .ref lc, v2, v3] ∧ H l = some (.ins (MC K) dx []) ∧ CircOk K H lc p ord dxc fsc ∧ Is H v2 (voD ver) ∧ Is H v3 (patsD pats) ∧ Wf p ∧ PatOk p pats ∧
  ∀ H2 ag, ExB l H H2 → ManyOk K H2 l p ord ver pats dx lc v2 ag dxc fsc → Q .non H2
theorem CircOk.off {K : PySem.W.Frag} {H H' : Hp} {lc : Addr} {p : Pt} {ord : List G} {dx : Addr} {fs : List (Str × V)} (h : CircOk K H lc p ord dx fs) (a : H' lc = H lc) (k : ∀ u d, Is H u d → Is H' u d) (kd : ∀ b m, fs.lookup ("gate_of" : Str) = some (.ref b) → H b = some (.dK m) → H' b = some (.dK m)) : CircOk K H' lc p ord dx fs where
  hp := ⟨by rw [a]; exact h.hp.at_, let ⟨v, e, r⟩ := h.hp.ins; ⟨v, e, k _ _ r⟩, let ⟨v, e, r⟩ := h.hp.regs; ⟨v, e, k _ _ r⟩, let ⟨v, e, r⟩ := h.hp.gs; ⟨v, e, k _ _ r⟩, let ⟨v, e, r⟩ := h.hp.outs; ⟨v, e, k _ _ r⟩, h.hp.no⟩
  ho := ⟨by rw [a]; exact h.ho.at_, let ⟨v, e, r⟩ := h.ho.ord; ⟨v, e, k _ _ r⟩⟩
  hg := ⟨by rw [a]; exact h.hg.at_, let ⟨b, vs, e, r, s⟩ := h.hg.gof; ⟨b, vs, e, kd _ _ e r, isA_of k s⟩⟩
  pm := h.pm
  tp := h.tp
theorem ok_Many_init (g : Gd P w K mg base) : Mkr P w K mg base 2 (MC K) "Many" (spMInit K) := by
  refine g.mkr 13 76 50 d_Many_init "Many" _ _ sc_Many_init ?_ ?_ bn_Many_init
  · rintro vs H Q E ⟨l, dx, lc, p, ord, ver, pats, v2, v3, dxc, fsc, rfl, _⟩
    rfl
  rintro cdv A outer s H vs Q E hr ⟨l, dx, lc, p, ord, ver, pats, v2, v3, dxc, fsc, rfl, hl, hc, h2, h3, wf, po, q⟩
  have sl := wf.sm.src; have pl := po.1
  have nlc : lc ≠ l := fun e => by
    obtain ⟨v, e2, _⟩ := hc.hp.ins
    have := hc.hp.at_
    rw [e, hl] at this
    have e3 : ([] : List (Str × V)) = fsc := (HO.ins.inj (Option.some.inj this)).2.2
    rw [← e3] at e2
    exact nomatch e2
  obtain ⟨ga, gvs, ge, gh, _⟩ := hc.hg.gof
  have nga : ga ≠ l := fun e => by rw [e, hl] at gh; cases gh
  refine go_fldC (P := val (.ref lc)) (ex_v 1) (ex_v 0) hl g.mCls g.mCirc (Nat.le_of_ble_eq_true rfl) fun u1 H1 HA z1 i1 l1 k1 b1 n1 => ?_
  have i1 : u1 = .ref lc := i1
  subst i1
  have hc := (hc.mono z1).off (n1 lc nlc) k1 fun b m _ h => by
    by_cases e : b = l
    · rw [e, z1 _ _ hl] at h; cases h
    · rw [n1 b e]; exact h
  have h2 := k1 _ _ (h2.mono z1); have h3 := k1 _ _ (h3.mono z1)
  have bA : ExB l H HA := ExB.trans (Ex.exB z1) b1
  refine go_fldC (P := val v2) (ex_v 2) (ex_v 0) l1 g.mCls g.mVer (Nat.le_of_ble_eq_true rfl) fun u2 H2 HB z2 i2 l2 k2 b2 n2 => ?_
  have i2 : u2 = v2 := i2
  subst i2
  have hc := (hc.mono z2).off (n2 lc nlc) k2 fun b m _ h => by
    by_cases e : b = l
    · rw [e, z2 _ _ l1] at h; cases h
    · rw [n2 b e]; exact h
  have h2 := k2 _ _ (h2.mono z2); have h3 := k2 _ _ (h3.mono z2)
  have bB : ExB l H HB := bA.trans (ExB.trans (Ex.exB z2) b2)
  refine go_fldC (P := dat (.int ((2 ^ pats.length - 1 : Nat) : Int))) (EV.is (ev_sub (ev_shl ev_int (ev_lenL g.len (ev_n 3 h3)) ⟨by omega, by rw [List.length_map]; omega, by decide⟩) ev_int) (by
    rw [List.length_map, Int.toNat_natCast, pow_cast]
    have := Nat.two_pow_pos pats.length
    congr 1
    omega)) (ex_v 0) l2 g.mCls g.mMask (Nat.le_of_ble_eq_true rfl) fun u3 H3 HC z3 i3 l3 k3 b3 n3 => ?_
  rw [i3.int_eq] at l3
  have hc := (hc.mono z3).off (n3 lc nlc) k3 fun b m _ h => by
    by_cases e : b = l
    · rw [e, z3 _ _ l2] at h; cases h
    · rw [n3 b e]; exact h
  have h2 := k3 _ _ (h2.mono z3); have h3 := k3 _ _ (h3.mono z3)
  have bC : ExB l H HC := bB.trans (ExB.trans (Ex.exB z3) b3)
  refine go_fldC (P := FrD HC []) ew_dnew (ex_v 0) l3 g.mCls g.mGiv (Nat.le_of_ble_eq_true rfl) fun u4 H4 HD z4 ⟨ag, e4, ng, hg⟩ l4 k4 b4 n4 => ?_
  subst e4
  have hc := (hc.mono z4).off (n4 lc nlc) k4 fun b m _ h => by
    by_cases e : b = l
    · rw [e, z4 _ _ l3] at h; cases h
    · rw [n4 b e]; exact h
  have h2 := k4 _ _ (h2.mono z4); have h3 := k4 _ _ (h3.mono z4)
  have bD : ExB l H HD := bC.trans (ExB.trans (Ex.exB z4) b4)
  have nag : ag ≠ l := fun e => by rw [e, l3] at ng; cases ng
  have hgD : HD ag = some (.dK []) := by rw [n4 ag nag]; exact hg
  have e4 : putF "given" (.ref ag) (putF "mask" (.int ((2 ^ pats.length - 1 : Nat) : Int)) (putF "version" u2 (putF "circuit" (.ref lc) []))) = [(("circuit" : Str), .ref lc), ("version", u2), ("mask", .int ((2 ^ pats.length - 1 : Nat) : Int)), ("given", .ref ag)] := rfl
  rw [e4] at l4
  have fresh : ∀ b o, b ≠ l → H b = some o → b ≠ ag := fun b o n h e => by
    rw [e] at h
    have := bC ag o nag h
    rw [ng] at this
    cases this
  clear k1 k2 k3 k4 b1 b2 b3 b4 n1 n2 n3 n4 bA bB bC l1 l2 l3 e4 z1 z2 z3 z4
  refine go_forEL (passes_of rfl) rfl g.enumerate (ew_meth0 (ok_sources g) hr (Nat.le_refl _) (ex_v 1) hc.hp.at_ (hc.hp.no _ (by decide +kernel)) (fun H2 z Q q => ⟨lc, p, dxc, fsc, rfl, hc.hp.mono z, wf.sm, True.intro, q⟩)) fun l5 xs5 H5 z5 hl5 hs5 => ⟨fun i σ' H' => ∃ y4 y5, σ' = [some (.ref l), some (.ref lc), some u2, some v3, y4, y5, none] ∧ ExB ag HD H' ∧ ExT HD H' ∧ H' l5 = some (.lst xs5) ∧ H' ag = some (.dK (encI (givN p pats i))) ∧ (∀ u d, Is HD u d → Is H' u d) ∧ (∀ u d, Is H5 u d → Is H' u d), ⟨none, none, rfl, Ex.exB z5, .of z5, hl5, z5 _ _ hgD, fun u d h => h.mono z5, fun u d h => h⟩, fun i σ' H' pv => ?_, fun i v d σ' H' T e1 e2 ri pv hT => ?_, fun σ' H' pv => ?_⟩
  · obtain ⟨_, _, _, _, _, h, _⟩ := pv
    exact h
  · obtain ⟨y4, y5, rfl, bx, xt, hl5', hg', kk, kk5⟩ := pv
    obtain ⟨x, e3, rfl⟩ := gems e2
    have hi : i < p.src.length := (List.getElem?_eq_some_iff.mp e3).1
    rw [ri.str_eq]
    have zT := Ex.new (o := .tup [.int (i : Int), .str x]) hT
    have h3' := (kk _ _ h3).mono zT
    have gl : (encI (givN p pats i)).length = i := by
      unfold encI givN
      rw [List.length_map, List.length_map, List.length_range]
    refine gt_tup2 rfl (.tup upd_same (.cons (.int (i : Nat)) (.cons (.str x) .nil))) fun v1 v2 i1 i2 => ?_
    rw [i1.int_eq, i2.str_eq]
    have ex : x = p.nth i := by
      have := nth_get hi
      rw [e3] at this
      exact Option.some.inj this
    refine gt_n 4 sc_Many_init.nd (gt_n 5 sc_Many_init.nd (go_dput (l := ag) (z := x) (by have := hr.units; omega) (ev_callD (ok_word_of g) hr (Nat.le_refl _) (av_cons (EV.is (ev_lcLm (xs := pats) (enc := fun b => .tuple (bitsD b)) "pattern" 6 (fun b => .int (bi (b.getD i false))) sc_Many_init.nd (ev_n 3 h3') (by omega) fun v b H6 hb z6 r6 s1 H0 C cl fp => ev_ixT (ev_n 6 r6) (ev_n 4 (.int _)) (atI_n (j := i) (by rw [List.getElem?_map, List.getElem?_eq_getElem (by rw [po.2 b hb]; exact hi), List.getD_eq_getElem?_getD, List.getElem?_eq_getElem (by rw [po.2 b hb]; exact hi)]; rfl) i rfl)) (by unfold col bitsD; rw [List.map_map]; rfl)) av_nil) ⟨col pats i, rfl, by rw [col_len]; omega, rfl⟩) (ex_fld (ex_v 0) (zT _ _ (bx l _ (Ne.symm nag) l4)) g.mCls g.mGiv rfl) (ev_n 5 (.str x)) (zT _ _ hg') (by omega) fun v8 H8 z8 p8 => go_nil ?_))
    have z28 := zT.trans z8
    have hg8 := z28 _ _ hg'
    have ns : NoSeq H8 ag := fun xs => ⟨fun e => (by rw [hg8] at e; cases e), fun e => (by rw [hg8] at e; cases e)⟩
    refine ⟨some (.int i), some (.str x), rfl, (bx.ex z28).put, (xt.trans (.of z28)).put hg8 (fun _ q => nomatch q), ?_, ?_, fun u d h => (((kk u d h).mono z28).off ns), fun u d h => (((kk5 u d h).mono z28).off ns)⟩
    · rw [upd_ne (ne_of (z28 _ _ hl5') hg8 (fun q => nomatch q))]
      exact z28 _ _ hl5'
    · have hnew : lkp (givN p pats i) x = none := lkp_none.mpr (by
        rw [giv_keys p pats i (by omega)]
        intro hx
        obtain ⟨j, hj⟩ := List.getElem?_of_mem hx
        rw [List.getElem?_take] at hj
        split at hj
        · have := (List.getElem?_inj (List.getElem?_eq_some_iff.mp hj).1 (List.nodup_append.mp wf.nd).1).mp (hj.trans e3.symm)
          omega
        · cases hj)
      rw [upd_same, p8.int_eq, put_enc hnew]
      unfold givN
      rw [List.range_succ, List.map_append, ex]
      rfl
  · obtain ⟨y4, y5, rfl, bx, xt, _, hg', kk, _⟩ := pv
    rw [List.length_map] at hg'
    have nlca : lc ≠ ag := fun e => by
      have := hc.hp.at_
      rw [e, hgD] at this
      cases this
    refine go_nil (q H' ag (fun b o n h => bx b o (fresh b o n h) (bD b o n h)) ⟨bx l _ (Ne.symm nag) l4, hc.off ?_ kk ?_, kk _ _ h2, hg'⟩)
    · rw [bx lc _ nlca hc.hp.at_, hc.hp.at_]
    · intro b m eb hb
      rw [ge] at eb
      cases eb
      exact bx _ _ (fresh ga _ nga gh) hb
end
end Pw
namespace Pw
open PySem PySem.Spec L2
open Evl (Ex)
/-! ### above: the program's is within the law's -/
theorem laG_mono {f : List Str} {g : G} {x : Str} (h : x ∈ f) : x ∈ laG f g := by
  unfold laG
  split
  · exact List.mem_append_left _ h
  · exact h
theorem laF_mono : ∀ {gs : List G} {f : List Str} {x : Str}, x ∈ f → x ∈ gs.foldl laG f
  | [], _, _, h => h
  | g :: r, _, _, h => laF_mono (gs := r) (laG_mono h)
theorem la_turn {g : G} {x : Str} (hx : x ∈ g.ps) : ∀ {gs : List G} {f : List Str}, g ∈ gs → g.nm ∈ f → x ∈ gs.foldl laG f
  | a :: r, f, hg, hn => by
    rcases List.mem_cons.mp hg with e | hg
    · subst e
      refine laF_mono (gs := r) ?_
      unfold laG
      rw [if_pos hn]
      by_cases q : x ∈ f
      · exact List.mem_append_left _ q
      · exact List.mem_append_right _ (List.mem_filter.mpr ⟨hx, by rw [decide_eq_false q]; rfl⟩)
    · exact la_turn hx (gs := r) hg (laG_mono hn)
theorem addF_mem {x : Str} : ∀ {xs f : List Str}, x ∈ xs.foldl addS f → x ∈ f ∨ x ∈ xs
  | [], _, h => .inl h
  | a :: r, f, h => by
    rcases addF_mem (xs := r) h with h | h
    · rcases addS_mem.mp h with h | h
      · exact .inl h
      · exact .inr (by rw [h]; exact List.mem_cons_self)
    · exact .inr (List.mem_cons_of_mem _ h)
theorem pAb_sub {gs : List G} {y : Str} : ∀ {r : List G} {f : List Str} {k : Nat}, (∀ g ∈ r, g ∈ gs) → (∀ x ∈ f, x ∈ laN gs y k) → ∀ x ∈ r.foldl pAbG f, x ∈ laN gs y (k + r.length)
  | [], _, _, _, hf, x, hx => hf x hx
  | g :: r, f, k, hr, hf, x, hx => by
    have e : k + (g :: r).length = (k + 1) + r.length := by rw [List.length_cons]; omega
    rw [e]
    refine pAb_sub (r := r) (f := pAbG f g) (k := k + 1) (fun t ht => hr t (List.mem_cons_of_mem _ ht)) (fun z hz => ?_) x hx
    show z ∈ gs.foldl laG (laN gs y k)
    unfold pAbG at hz
    split at hz
    · rename_i hn
      rcases addF_mem hz with h | h
      · exact laF_mono (hf z h)
      · exact la_turn h (hr g List.mem_cons_self) (hf _ hn)
    · exact laF_mono (hf z hz)
theorem pAb_la {p : Pt} {ord : List G} (pm : ord.Perm p.gs) {x y : Str} (h : x ∉ p.la y) : x ∉ pAb ord y := fun hx => h (by
  have := pAb_sub (gs := p.gs) (y := y) (r := ord.reverse) (f := [y]) (k := 0) (fun g hg => pm.mem_iff.mp (List.mem_reverse.mp hg)) (fun z hz => hz) x hx
  rw [List.length_reverse, pm.length_eq, Nat.zero_add] at this
  exact this)
/-! ### versions in order -/
def VOk (p : Pt) : Vn → Prop
  | .stem l _ => l ∈ p.lns
  | .pin g i _ => ∃ t ∈ p.gs, t.nm = g ∧ i < t.ps.length
  | .short a b _ => a ∈ p.lns ∧ b ∈ p.lns ∧ slt a b ∧ a ∉ p.la b ∧ b ∉ p.la a
theorem lns_good {p : Pt} (fm : Fm p) {x : Str} (h : x ∈ p.lns) : GoodName x := by
  unfold Pt.lns Pt.src at h
  rcases List.mem_append.mp h with h | h
  · rcases List.mem_append.mp h with h | h
    · exact fm.ins x h
    · obtain ⟨r, hr, rfl⟩ := List.mem_map.mp h
      exact (fm.regs r hr).1
  · obtain ⟨g, hg, rfl⟩ := List.mem_map.mp h
    exact (fm.gs g hg).1
theorem VOk.str {p : Pt} (fm : Fm p) {v : Vn} (h : VOk p v) : VnStr (some v) := by
  cases v with
  | stem l b => exact (lns_good fm h).ok
  | pin g i b =>
    obtain ⟨t, ht, e, _⟩ := h
    rw [← e]
    exact (fm.gs t ht).1.ok
  | short a b k => exact ⟨(lns_good fm h.1).ok, (lns_good fm h.2.1).ok⟩
theorem VOk.go {p : Pt} (wf : Wf p) {v : Vn} (h : VOk p v) : VGo p (some v) := by
  cases v with
  | stem l b => exact True.intro
  | pin g i b =>
    obtain ⟨t, ht, e, hi⟩ := h
    intro t' ht' e'
    have := nm_inj (List.nodup_append.mp wf.nd).2.1 ht' ht (e'.trans e.symm)
    rw [this]
    exact hi
  | short a b k =>
    refine ⟨h.1, h.2.1, fun e => ?_⟩
    have := h.2.2.1
    rw [e] at this
    exact List.lt_irrefl _ this
theorem Fm.nm {p : Pt} (fm : Fm p) : NmOk p := fun g hg => (fm.gs g hg).1.ok
section
variable {P : Program} {w : World} {K : PySem.W.Frag} {mg : Str → Option Value} {base : Heap}
/-- promises about a circuit and one thing more -/
def spCB (K : PySem.W.Frag) (ok : Pt → PyData → Bool → Prop) : Sp := fun vs H Q _ => ∃ lc v p ord dxc fsc d b, vs = [.ref lc, v] ∧ CircOk K H lc p ord dxc fsc ∧ Is H v d ∧ Wf p ∧ Fm p ∧ ok p d b ∧ Giv H (dat (.bool b)) Q
theorem spCB_len {ok : Pt → PyData → Bool → Prop} : ∀ vs H Q E, spCB K ok vs H Q E → vs.length = 2 := fun vs H Q E ⟨lc, v, p, ord, dxc, fsc, d, b, e, _⟩ => by rw [e]; rfl
theorem ev_lines {X : Cx} {o : Expr} {σ : L2.St} {H : Hp} {lc : Addr} {p : Pt} {ord : List G} {dxc : Addr} {fsc : List (Str × V)} {pos apos : Pos} {j : Nat} {pl : Sem Bool} (g : Gd X.prog X.w X.K X.mg X.base) (hc : CircOk X.K H lc p ord dxc fsc) (sm : Sm p) (hr : Room j X.A) (hj : 2 ≤ j) (ho : EX X σ H o (.ref lc))
    (ht : eval (.Call (.Attribute o "lines" apos) [] [] pos) X.env = (do let ov ← eval o X.env; standAt apos.atName; let (f, first) ← holding [ov] (getMethod ov "lines" pl); callWith pos f first (backTo pos (starEach [] X.env)) (backToKw pos (keywordEach [] X.env))) := by rfl) : EV X σ H (.Call (.Attribute o "lines" apos) [] [] pos) (.list (strsD p.lns)) :=
  ev_cm (ok_lines g) hr hj hc.hp sm True.intro ho (by decide +kernel) ht
theorem ok_is_stem (g : Gd P w K mg base) : Fnc P w K mg base 3 "is_stem" (spCB K fun p d b => ∃ l c, d = vD (.stem l c) ∧ b = decide (l ∈ p.lns)) := by
  refine g.fnc 4 4 d_is_stem "is_stem" _ _ sc_is_stem spCB_len ?_ bn_is_stem
  rintro cdv A outer s H vs Q E hr ⟨lc, v, p, ord, dxc, fsc, d, b, rfl, hc, hv, wf, fm, ⟨l, c, rfl, rfl⟩, q⟩
  refine go_out (EV.is (ev_and (k := true) (EV.is (ev_cmp op_eq rfl (ev_lenT g.len (ev_n 1 hv)) ev_int rb_eqI) rfl) fun _ => ev_and (k := decide (l ∈ p.lns)) (l := true) (ev_cmp op_in_seq rfl (ev_ixT (d := .str l) (ev_n 1 hv) ev_int (atI_n (j := 1) rfl 1 rfl)) (ev_lines g hc wf.sm hr (Nat.le_refl _) (ex_v 0)) rb_inL) fun _ => ev_one (ev_callD (ok_is_bit g) (hr.mono (by omega)) (Nat.le_refl _) (av_cons (ev_ixT (ev_n 1 hv) ev_int (atI_n (j := 2) rfl 2 rfl)) av_nil) ⟨c, rfl, rfl⟩)) ?_) (Ex.refl H) q
  cases decide (l ∈ p.lns) <;> rfl
theorem ok_is_pin (g : Gd P w K mg base) : Fnc P w K mg base 3 "is_pin" (spCB K fun p d b => ∃ n i c, d = vD (.pin n i c) ∧ VOk p (.pin n i c) ∧ b = true) := by
  refine g.fnc 5 5 d_is_pin "is_pin" _ _ sc_is_pin spCB_len ?_ bn_is_pin
  rintro cdv A outer s H vs Q E hr ⟨lc, v, p, ord, dxc, fsc, d, b, rfl, hc, hv, wf, fm, ⟨n, i, c, rfl, ⟨t, ht, et, hi⟩, rfl⟩, q⟩
  obtain ⟨ag, vg, eg, hg, hvg⟩ := hc.hg.gof
  obtain ⟨t', u, ht', et', eu, iu⟩ := gofK_some hvg (List.mem_map.mpr ⟨t, ht, et⟩)
  have ett : t' = t := nm_inj (List.nodup_append.mp wf.nd).2.1 ht' ht (et'.trans et.symm)
  subst ett
  refine go_when (k := false) (TW.is (tw_w (ww_or (k := false) (l := false) (TW.is (tw_cmp op_ne rfl (ev_lenT g.len (ev_n 1 hv)) ev_int rb_neI) rfl) fun _ => ww_or (k := false) (l := false) (tw_not (k := true) (tw_val (ev_isi g.isi g.str "str" (ev_ixT (d := .str n) (ev_n 1 hv) ev_int (atI_n (j := 1) rfl 1 rfl)) boot_str' rfl))) fun _ => ww_or (k := false) (l := false) (TW.is (tw_dni hr (ev_ixT (d := .str n) (ev_n 1 hv) ev_int (atI_n (j := 1) rfl 1 rfl)) (ex_fld (ex_v 0) hc.hg.at_ g.cCls g.cGof eg) (.inl hg)) (by rw [eu]; rfl)) fun _ => ww_or1 (tw_not (k := true) (tw_val (ev_callD (ok_is_bit g) hr (Nat.le_refl _) (av_cons (ev_ixT (ev_n 1 hv) ev_int (atI_n (j := 3) rfl 3 rfl)) av_nil) ⟨c, rfl, rfl⟩))))) rfl) (fun e _ _ => nomatch e) fun _ H1 z1 => ?_
  have hv1 := hv.mono z1
  have hgc := hc.hg.mono z1
  refine go_out (ev_callD (ok_is_integer g) (hr.mono (by omega)) (Nat.le_refl _) (av_cons (ev_ixT (ev_n 1 hv1) ev_int (atI_n (j := 2) rfl 2 rfl)) (av_cons ev_int (av_cons (ev_sub (ev_lenT g.len (ev_ixT (ds := [.str t'.nm, .str t'.kd, .tuple (strsD t'.ps)]) (d := .tuple (strsD t'.ps)) (EX.at_ (ex_dget hr (ex_fld (ex_v 0) hgc.at_ g.cCls g.cGof eg) (ev_ixT (d := .str n) (ev_n 1 hv1) ev_int (atI_n (j := 1) rfl 1 rfl)) (.inl (z1 _ _ hg)) eu) (iu.mono z1)) ev_int (atI_n (j := 2) rfl 2 rfl))) ev_int) av_nil))) ⟨_, _, _, rfl, by omega, ?_, rfl⟩) z1 q
  rw [List.length_map]
  omega
theorem tw_ge_str {X : Cx} {a b : Expr} {σ : L2.St} {H : Hp} {pos : Pos} {i j : Str} (ha : EV X σ H a (.str i)) (hb : EV X σ H b (.str j)) : TW X σ H (.Compare a [.GtE] [b] pos) (!decide (i.cps.toList < j.cps.toList)) :=
  tw_cmp (pos := pos) (op_ge_str (X := X)) (nobehind _ (by decide) (by decide)) ha hb (fun x y H2 _ p p' Q q => ⟨i, j, p.str_eq, p'.str_eq, q⟩)
theorem ev_above {X : Cx} {o e : Expr} {σ : L2.St} {H : Hp} {lc : Addr} {p : Pt} {ord : List G} {dxc : Addr} {fsc : List (Str × V)} {pos apos : Pos} {j : Nat} {x : Str} {pl : Sem Bool} (g : Gd X.prog X.w X.K X.mg X.base) (hc : CircOk X.K H lc p ord dxc fsc) (sm : Sm p) (hr : Room j X.A) (hj : 1 ≤ j) (ho : EX X σ H o (.ref lc)) (he : EV X σ H e (.str x))
    (hst : starEach [e] X.env = (false, eval e X.env) :: starEach [] X.env := by rfl) (hpl : (backTo pos (starEach [] X.env)).any (·.1) = false := by rfl)
    (ht : eval (.Call (.Attribute o "above" apos) [e] [] pos) X.env = (do let ov ← eval o X.env; standAt apos.atName; let (f, first) ← holding [ov] (getMethod ov "above" pl); callWith pos f first (backTo pos (starEach [e] X.env)) (backToKw pos (keywordEach [] X.env))) := by rfl) : EW X σ H (.Call (.Attribute o "above" apos) [e] [] pos) (SetR (pAb ord x)) :=
  ew_meth (ok_above g) hr hj ho hc.hp.at_ (hc.hp.no _ (by decide +kernel)) (aw_cons (P := val (.str x)) (EW.ofStr he) aw_nil hst) (fun vs H2 z hv Q q => by
    obtain ⟨w1, r1, rfl, i1, rfl⟩ := hv
    rw [show w1 = .str x from i1]
    exact ⟨lc, x, ord, dxc, fsc, rfl, hc.ho.mono z, by rw [hc.pm.length_eq]; exact sm.gs, fun t ht => sm.ps t (hc.pm.mem_iff.mp ht), q⟩) hst hpl ht
theorem ev_dniS {X : Cx} {e o : Expr} {σ : L2.St} {H : Hp} {pos : Pos} {z : Str} {ss : List Str} {k : Nat} (hr : Room k X.A) (hi : EV X σ H e (.str z)) (ho : EW X σ H o (SetR ss)) (hm : behindInMarks .NotIn o = false := by rfl) : EV X σ H (.Compare e [.NotIn] [o] pos) (.bool (!decide (z ∈ ss))) := fun H1 y Q q =>
  toE (pe_cmp (pc_dnotin (by have := hr.units; omega) pE pE) hm) (hi H1 y _ fun w H2 y2 p2 => ho H2 (y.trans y2) _ fun u H3 y3 p3 => by
    obtain ⟨l, e1, hl⟩ := p3 H3 (Ex.refl H3)
    refine ⟨l, _, e1, .inl ⟨encB ss, .inr z, .inl hl, (p2 H3 y3).str_eq, rfl⟩, ?_⟩
    rw [in_encB]
    exact q.dat (y2.trans y3) (.bl _))
theorem ok_is_short (g : Gd P w K mg base) : Fnc P w K mg base 3 "is_short" (spCB K fun p d b => ∃ x y k, d = vD (.short x y k) ∧ VOk p (.short x y k) ∧ b = true) := by
  refine g.fnc 6 6 d_is_short "is_short" _ _ sc_is_short spCB_len ?_ bn_is_short
  rintro cdv A outer s H vs Q E hr ⟨lc, v, p, ord, dxc, fsc, d, b, rfl, hc, hv, wf, fm, ⟨x, y, k, rfl, ⟨hx, hy, hlt, n1, n2⟩, rfl⟩, q⟩
  have hv : Is H v (.tuple [.str "short", .str x, .str y, .str (opS k)]) := hv
  refine go_when (k := false) (TW.is (tw_w (ww_or (k := false) (l := false) (TW.is (tw_cmp op_ne rfl (ev_lenT g.len (ev_n 1 hv)) ev_int rb_neI) rfl) fun _ => ww_or1 (TW.is (tw_cmp op_notIn_seq rfl (ev_ixT (d := .str (opS k)) (ev_n 1 hv) ev_int (atI_n (j := 3) rfl 3 rfl)) (ev_tup (ds := strsD ["and", "or"]) (av_cons ev_str (av_cons ev_str av_nil)) (by decide)) rb_niT) (by cases k <;> decide)))) rfl) (fun e _ _ => nomatch e) fun _ H1 z1 => ?_
  refine go_set 2 sc_is_short.nd (ev_lines g (hc.mono z1) wf.sm hr (by omega) (ex_v 0)) fun v2 H2 z2 h2 => ?_
  have hv2 := hv.mono (z1.trans z2)
  have hc2 := hc.mono (z1.trans z2)
  refine go_when (k := false) (TW.is (tw_w (ww_or (k := false) (l := false) (TW.is (tw_nil (ev_ixT (d := .str x) (ev_n 1 hv2) ev_int (atI_n (j := 1) rfl 1 rfl)) (ev_n 2 h2)) (by rw [decide_eq_true hx]; rfl)) fun _ => ww_or (k := false) (l := false) (TW.is (tw_nil (ev_ixT (d := .str y) (ev_n 1 hv2) ev_int (atI_n (j := 2) rfl 2 rfl)) (ev_n 2 h2)) (by rw [decide_eq_true hy]; rfl)) fun _ => ww_or1 (TW.is (tw_ge_str (ev_ixT (d := .str x) (ev_n 1 hv2) ev_int (atI_n (j := 1) rfl 1 rfl)) (ev_ixT (d := .str y) (ev_n 1 hv2) ev_int (atI_n (j := 2) rfl 2 rfl))) (by rw [decide_eq_true (show x.cps.toList < y.cps.toList from hlt)]; rfl)))) rfl) (fun e _ _ => nomatch e) fun _ H3 z3 => ?_
  have hv3 := hv2.mono z3
  have hc3 := hc2.mono z3
  refine go_out (EV.is (ev_and (k := true) (EV.is (ev_dniS hr (ev_ixT (d := .str x) (ev_n 1 hv3) ev_int (atI_n (j := 1) rfl 1 rfl)) (ev_above g hc3 wf.sm hr (by omega) (ex_v 0) (ev_ixT (d := .str y) (ev_n 1 hv3) ev_int (atI_n (j := 2) rfl 2 rfl)))) (by rw [decide_eq_false (pAb_la hc.pm n1)]; rfl)) fun _ => ev_one (EV.is (ev_dniS hr (ev_ixT (d := .str y) (ev_n 1 hv3) ev_int (atI_n (j := 2) rfl 2 rfl)) (ev_above g hc3 wf.sm hr (by omega) (ex_v 0) (ev_ixT (d := .str x) (ev_n 1 hv3) ev_int (atI_n (j := 1) rfl 1 rfl)))) (by rw [decide_eq_false (pAb_la hc.pm n2)]; rfl))) rfl) ((z1.trans z2).trans z3) q
end
end Pw
namespace Pw
open PySem PySem.Spec L2
open Evl (Ex)
/-! ### raising -/
section
variable {X : Cx} {C : Addr} {bmB : List Value} {B newId initId : String}
/-- X() -/
theorem pmk_own0 {x : Str} {p pos : Pos} (F : ExcBaseFacts B newId initId bmB) (q : PySem.W.excIn X.K C bmB newId = true) (gC : X.mg x = some (.ref C)) (kC : PySem.W.keepIn X.K (.ref C) = true) (r : Raises X (.ref C)) (hg : Gl X x)
    (hdb : (x == ("__debug__" : Str)) = false := by decide) : PMk X (.Call (.Name x p) [] [] pos) (fun _ H Q => Q (.ref C) none H) := by
  intro pins s σ H Q I h
  refine wpAny_Call_Name_kw (ld_glob I hg gC ?_ hdb)
  refine PySem.W.callWith_K0 I.kIn kC ?_
  obtain ⟨bm, N, nm, qn, bs, hdct, sn, sub, ab, col, dd, k0, k1, k2, k3, k5, mN, hC, hN, hni, T⟩ := exc_obj I.kIn q
  refine wpAny_call_exc_subT F T hC hN hni (fun h' e hm => ?_) (by show 0 ≤ sizeLine; omega)
  exact mk_of I hm r h (I.hok.gone hm.new)
theorem go_raise {x : Str} {p pos pos' : Pos} {W : WX} {σ : L2.St} {H : Hp} {rest : List Stmt} {D : Ends} (hc : X.calm = true) (tk : Takes X W) (F : ExcBaseFacts B newId initId bmB) (q : PySem.W.excIn X.K C bmB newId = true) (gC : X.mg x = some (.ref C)) (kC : PySem.W.keepIn X.K (.ref C) = true) (r : Raises X (.ref C)) (hw : W (.ref C) none σ H) (hg : Gl X x := by rfl)
    (hdb : (x == ("__debug__" : Str)) = false := by decide) : tSs X (.Raise (some (.Call (.Name x p) [] [] pos)) none pos' :: rest) D σ H :=
  go_cons (toS (ps_raise hc tk (pmk_own0 F q gC kC r hg hdb)) hw)
/-- a call that may raise -/
theorem te_callX {k j : Nat} {x : Str} {p pos : Pos} {e : Expr} {es : List Expr} {sp : Sp} {W : WX} {σ : L2.St} {H : Hp} {Q : VK} {PA : List V → Hp → Prop} (F : Fnc X.prog X.w X.K X.mg X.base k x sp) (hr : Room j X.A) (hk : k ≤ j) (tk : Takes X W) (ha : AW X σ H (e :: es) PA) (hs : ∀ vs H2, Ex H H2 → PA vs H2 → sp vs H2 Q (fun cls d H => W cls d σ H))
    (hg : Gl X x := by rfl) (hdb : (x == ("__debug__" : Str)) = false := by decide) (he : starEach (e :: es) X.env = (false, eval e X.env) :: starEach es X.env := by rfl) (hpl : (backTo pos (starEach es X.env)).any (·.1) = false := by rfl) : tE X (.Call (.Name x p) (e :: es) [] pos) σ H Q := by
  obtain ⟨f, fd, ps, F, hm, kp, hb⟩ := F
  exact toE (pe_callS F (hr.mono hk) hg hm kp hb (passAt tk) pA hdb he hpl) (ha.run fun vs H2 z p => hs vs H2 z p)
end
abbrev BB (K : PySem.W.Frag) : Value := .ref (He.ga K "BadBreak")
abbrev BP (K : PySem.W.Frag) : Value := .ref (He.ga K "BadPattern")
section
variable {P : Program} {w : World} {K : PySem.W.Frag} {mg : Str → Option Value} {base : Heap}
theorem bxTakes {N : List Str} {d : He.DefD} {f : Addr} {cdv : Value} {A : Around} {outer : List Env} {s : Shared} {H : Hp} {E : XK} (hk : d.scope.kind = .function) : Takes (BX P w K mg base N d f cdv A outer s H E) (fun cls d _ H => E cls d H) :=
  takes_of rfl rfl rfl rfl
theorem go_raiseB {N : List Str} {d : He.DefD} {f : Addr} {cdv : Value} {A : Around} {outer : List Env} {s : Shared} {H0 H : Hp} {E : XK} {p pos pos' : Pos} {σ : L2.St} {rest : List Stmt} {D : Ends} (g : Gd P w K mg base) (hk : d.scope.kind = .function) (hw : E (BB K) none H) (hg : Gl (BX P w K mg base N d f cdv A outer s H0 E) "BadBreak" := by rfl) :
    tSs (BX P w K mg base N d f cdv A outer s H0 E) (.Raise (some (.Call (.Name "BadBreak" p) [] [] pos)) none pos' :: rest) D σ H := by
  obtain ⟨c1, c2, c3, c4⟩ := He.exc_ok (g.c.d.fact 109 (f := .exc "BadBreak") rfl)
  exact go_raise (C := He.ga K "BadBreak") rfl (bxTakes hk) PySem.F.excBase_ValueError c1 (g.glo 48) c2 (raises_own c3 c4) hw hg
theorem go_raiseP {N : List Str} {d : He.DefD} {f : Addr} {cdv : Value} {A : Around} {outer : List Env} {s : Shared} {H0 H : Hp} {E : XK} {p pos pos' : Pos} {σ : L2.St} {rest : List Stmt} {D : Ends} (g : Gd P w K mg base) (hk : d.scope.kind = .function) (hw : E (BP K) none H) (hg : Gl (BX P w K mg base N d f cdv A outer s H0 E) "BadPattern" := by rfl) :
    tSs (BX P w K mg base N d f cdv A outer s H0 E) (.Raise (some (.Call (.Name "BadPattern" p) [] [] pos)) none pos' :: rest) D σ H := by
  obtain ⟨c1, c2, c3, c4⟩ := He.exc_ok (g.c.d.fact 110 (f := .exc "BadPattern") rfl)
  exact go_raise (C := He.ga K "BadPattern") rfl (bxTakes hk) PySem.F.excBase_ValueError c1 (g.glo 49) c2 (raises_own c3 c4) hw hg
/-- is_break, told of what it meets -/
inductive BrkK (p : Pt) : PyData → Bool → Prop
  | ok {v : Vn} (h : VOk p v) : BrkK p (vD v) true
  | three : BrkK p (.int 3) false
  | none (h : ("none" : Str) ∉ p.lns) : BrkK p (vD (.stem "none" true)) false
theorem sd_vn {v : Vn} (h : VnStr (some v)) : SD 2 (vD v) := by
  cases v with
  | stem l b =>
    refine .tup 1 fun d hd => ?_
    simp only [List.mem_cons, List.mem_nil_iff, or_false] at hd
    rcases hd with rfl | rfl | rfl
    · exact .str 0 (by decide +kernel)
    · exact .str 0 h
    · exact .int 0 _
  | pin g i b =>
    refine .tup 1 fun d hd => ?_
    simp only [List.mem_cons, List.mem_nil_iff, or_false] at hd
    rcases hd with rfl | rfl | rfl | rfl
    · exact .str 0 (by decide +kernel)
    · exact .str 0 h
    · exact .int 0 _
    · exact .int 0 _
  | short a b k =>
    refine .tup 1 fun d hd => ?_
    simp only [List.mem_cons, List.mem_nil_iff, or_false] at hd
    rcases hd with rfl | rfl | rfl | rfl
    · exact .str 0 (by decide +kernel)
    · exact .str 0 h.1
    · exact .str 0 h.2
    · exact .str 0 (by cases k <;> decide +kernel)
theorem vD_ix {X : Cx} {o : Expr} {σ : L2.St} {H : Hp} {v : Vn} {j : Nat} {p1 pos : Pos} (h : EV X σ H o (vD v)) : EV X σ H (.Subscript o (.Constant (.int 0) j p1) pos) (.str (kdOf v)) := by
  cases v with
  | stem l b => exact ev_ixT h ev_int (atI_n (j := 0) rfl 0 rfl)
  | pin l i b => exact ev_ixT h ev_int (atI_n (j := 0) rfl 0 rfl)
  | short l i b => exact ev_ixT h ev_int (atI_n (j := 0) rfl 0 rfl)
theorem vD_eqv (v : Vn) : PyData.eqv (vD v) (.tuple []) = false := by
  cases v <;> simp [vD, PyData.eqv, PyData.eqvAll]
theorem vD_tup (v : Vn) : tyD (vD v) = "tuple" := by cases v <;> rfl
theorem ok_is_break (g : Gd P w K mg base) : Fnc P w K mg base 4 "is_break" (spCB K BrkK) := by
  refine g.fnc 7 7 d_is_break "is_break" _ _ sc_is_break spCB_len ?_ bn_is_break
  rintro cdv A outer s H vs Q E hr ⟨lc, v, p, ord, dxc, fsc, d, b, rfl, hc, hv, wf, fm, bk, q⟩
  have main : ∀ (vn : Vn) (b : Bool), d = vD vn → VnStr (some vn) → Giv H (dat (.bool b)) Q → ((VOk p vn ∧ b = true) ∨ ∃ c, vn = .stem "none" c ∧ ("none" : Str) ∉ p.lns ∧ b = false) → tSs (BX P w K mg base N_is_break d_is_break (He.fAd K d_is_break.at_) cdv A outer s H E) d_is_break.body (BD Q) (L2.start N_is_break [.ref lc, v]) H := fun vn b ed vst q hb => by
    subst ed
    have sdn : SD 2 (.tuple []) := .tup 1 fun d hd => nomatch hd
    refine go_when (k := false) (TW.is (tw_w (ww_or (k := false) (l := false) (tw_not (k := true) (tw_val (ev_isi g.isi g.tuple "tuple" (ev_n 1 hv) boot_tuple' (by rw [vD_tup]; rfl)))) fun _ => ww_or (k := false) (l := false) (TW.is (tw_cmp (op_eqD hr.units) rfl (ev_n 1 hv) (ev_tup av_nil) (rb_eqD (sd_vn vst).shaped sdn.shaped)) (vD_eqv vn)) fun _ => ww_or1 (tw_not (k := true) (tw_val (ev_isi g.isi g.str "str" (vD_ix (ev_n 1 hv)) boot_str' rfl))))) rfl) (fun e _ _ => nomatch e) fun _ H1 z1 => ?_
    have hv1 := hv.mono z1
    have hc1 := hc.mono z1
    have q1 : Giv H1 (dat (.bool b)) Q := fun u H2 z2 p2 => q u H2 (z1.trans z2) p2
    have call : ∀ {X : Cx} {H2 H3 : Hp} {vs : List V} {ok : Pt → PyData → Bool → Prop} {bb : Bool}, Ex H1 H2 → Ex H2 H3 → ok p (vD vn) bb → (∃ u r, vs = u :: r ∧ u = .ref lc ∧ ∃ u2 r2, r = u2 :: r2 ∧ Is H3 u2 (vD vn) ∧ r2 = []) → ∀ Q2, Giv H3 (dat (.bool bb)) Q2 → spCB K ok vs H3 Q2 E0 := fun {X H2 H3 vs ok bb} z2 z3 hok ⟨u, r, e1, e2, u2, r2, e3, i2, e4⟩ Q2 q2 => by
      subst e1 e2 e3 e4
      exact ⟨lc, u2, p, ord, dxc, fsc, vD vn, bb, rfl, (hc1.mono z2).mono z3, i2, wf, fm, hok, q2⟩
    refine go_when (tw_cmp op_eq rfl (vD_ix (ev_n 1 hv1)) ev_str rb_eqS) (fun t H2 z2 => ?_) fun t H2 z2 => ?_
    · have t := of_decide_eq_true t
      match vn, t with
      | .stem l c, _ =>
        refine go_out (R := dat (.bool b)) (ew_call (ok_is_stem g) hr (Nat.le_refl _) (aw_cons (ex_v 0) (aw_cons (P := dat (vD (.stem l c))) (ev_n 1 (hv1.mono z2)) aw_nil)) fun vs H3 z3 hv3 Q2 q2 => call (X := BX P w K mg base N_is_break d_is_break (He.fAd K d_is_break.at_) cdv A outer s H E) z2 z3 ⟨l, c, rfl, ?_⟩ hv3 Q2 q2) z2 q1
        rcases hb with ⟨a, e⟩ | ⟨c', e1, e2, e3⟩
        · rw [e]; exact (decide_eq_true (show l ∈ p.lns from a)).symm
        · cases e1
          rw [e3]; exact (decide_eq_false e2).symm
      | .pin l i c, t => exact absurd t (show ¬ ("pin" : Str) = "stem" by decide)
      | .short l i c, t => exact absurd t (show ¬ ("short" : Str) = "stem" by decide)
    · have t := of_decide_eq_false t
      have hok : VOk p vn ∧ b = true := by
        rcases hb with h | ⟨c, e, _⟩
        · exact h
        · subst e; exact absurd rfl t
      have hv2 := hv1.mono z2
      refine go_when (tw_cmp op_eq rfl (vD_ix (ev_n 1 hv2)) ev_str rb_eqS) (fun t2 H3 z3 => ?_) fun t2 H3 z3 => ?_
      · have t2 := of_decide_eq_true t2
        match vn, t2, hok with
        | .pin l i c, _, hok => exact go_out (R := dat (.bool b)) (ew_call (ok_is_pin g) hr (Nat.le_refl _) (aw_cons (ex_v 0) (aw_cons (P := dat (vD (.pin l i c))) (ev_n 1 (hv2.mono z3)) aw_nil)) fun vs H4 z4 hv4 Q2 q2 => call (X := BX P w K mg base N_is_break d_is_break (He.fAd K d_is_break.at_) cdv A outer s H E) (z2.trans z3) z4 ⟨l, i, c, rfl, hok.1, hok.2⟩ hv4 Q2 q2) (z2.trans z3) q1
        | .stem l c, t2, _ => exact absurd t2 (show ¬ ("stem" : Str) = "pin" by decide)
        | .short l i c, t2, _ => exact absurd t2 (show ¬ ("short" : Str) = "pin" by decide)
      · have t2 := of_decide_eq_false t2
        match vn, t, t2, hok with
        | .stem l c, t, _, _ => exact absurd rfl t
        | .pin l i c, _, t2, _ => exact absurd rfl t2
        | .short l i c, _, _, hok =>
          rw [hok.2] at q1
          refine go_out (EV.is (ev_and (k := true) (EV.is (ev_cmp op_eq rfl (vD_ix (v := .short l i c) (ev_n 1 (hv2.mono z3))) ev_str rb_eqS) rfl) fun _ => ev_one (ew_call (R := dat (.bool true)) (ok_is_short g) hr (Nat.le_refl _) (aw_cons (ex_v 0) (aw_cons (P := dat (vD (.short l i c))) (ev_n 1 (hv2.mono z3)) aw_nil)) fun vs H4 z4 hv4 Q2 q2 => call (X := BX P w K mg base N_is_break d_is_break (He.fAd K d_is_break.at_) cdv A outer s H E) (z2.trans z3) z4 ⟨l, i, c, rfl, hok.1, rfl⟩ hv4 Q2 q2)) rfl) (z2.trans z3) q1
  cases bk with
  | @ok vn h => exact main vn true rfl (h.str fm) q (.inl ⟨h, rfl⟩)
  | none h => exact main _ false rfl (show PyData.strOk "none" = true by decide +kernel) q (.inr ⟨true, rfl, h, rfl⟩)
  | three =>
    refine go_when (k := true) (TW.is (tw_w (ww_or (k := true) (l := true) (tw_not (k := false) (tw_val (ev_isi g.isi g.tuple "tuple" (ev_n 1 hv) boot_tuple' rfl))) fun e => nomatch e)) rfl) (fun _ H1 z1 => go_out ev_bl z1 q) fun e _ _ => nomatch e
end
end Pw
namespace Pw
open PySem PySem.Spec L2
open Evl (Ex)
section
variable {X : Cx} {o : Expr} {σ : L2.St} {H : Hp} {R P : PV} {pos apos : Pos} {k j : Nat} {m : Str} {C : Addr}
theorem go_setT {x : Str} {e : Expr} {pos' : Pos} {rest : List Stmt} {D : Ends} (i : Nat) (hN : X.N.Nodup) (h : tE X e σ H fun v H1 => tSs X rest D (σ.set i (some v)) H1) (hi : X.N[i]? = some x := by rfl) (hx : Loc X.env.scope x := by first | exact Or.inl rfl | exact Or.inr rfl)
    (hs : swapsWith e (some (.Name x pos')) pos.line X.env = pure false := by rfl) (hf : X.fn x = true ∨ X.env.scope.names.lookup x = some .local := by first | exact Or.inl rfl | exact Or.inr rfl) : tSs X (.Assign [.Name x pos'] e pos :: rest) D σ H :=
  go_cons (toS (ps_set hN hi hx pE hs hf) h)
theorem KE_and1 (x : Int) : Builtin.bitAnd x 1 = x % 2 := PyProof.Rows.bitAnd_m1 x
/-- o.m(), o just made -/
theorem ew_meth0P {sp : Sp} {pl : Sem Bool} (M : Mtd X.prog X.w X.K X.mg X.base k C m sp) (hr : Room j X.A) (hk : k ≤ j) (ho : EW X σ H o P) (hs : ∀ v H2, Ex H H2 → P v H2 → ∃ l dx fs, v = .ref l ∧ H2 l = some (.ins C dx fs) ∧ fs.lookup m = none ∧ ∀ Q, Giv H2 R Q → sp [.ref l] H2 Q E0)
    (ht : eval (.Call (.Attribute o m apos) [] [] pos) X.env = (do let ov ← eval o X.env; standAt apos.atName; let (f, first) ← holding [ov] (getMethod ov m pl); callWith pos f first (backTo pos (starEach [] X.env)) (backToKw pos (keywordEach [] X.env))) := by rfl) : EW X σ H (.Call (.Attribute o m apos) [] [] pos) R := by
  obtain ⟨f, fd, ps, F, hm, c, hb⟩ := M
  exact fun H1 z Q q => toE (pe_meth0 pE c hm F (hr.mono hk) hb .nil passL ht) (ho H1 z _ fun u H2 y p => by
    obtain ⟨l, dx, fs, e, hl, hn, h⟩ := hs u H2 (z.trans y) (p H2 (Ex.refl H2))
    subst e
    exact ⟨l, dx, fs, rfl, hl, hn, h Q fun w H3 z3 g => q w H3 (y.trans z3) g⟩)
end
section
variable {P : Program} {w : World} {K : PySem.W.Frag} {mg : Str → Option Value} {base : Heap}
/-- None, or raised -/
def Out (b : Bool) (c : Value) (H : Hp) (Q : VK) (E : XK) : Prop := (b = true → Giv H (dat .none) Q) ∧ (b = false → ∀ H', Ex H H' → E c none H')
inductive VerK (p : Pt) : PyData → Bool → Prop
  | non : VerK p .none true
  | brk {d : PyData} {b : Bool} (h : BrkK p d b) : VerK p d b
def spCV (K : PySem.W.Frag) : Sp := fun vs H Q E => ∃ lc v p ord dxc fsc d b, vs = [.ref lc, v] ∧ CircOk K H lc p ord dxc fsc ∧ Is H v d ∧ Wf p ∧ Fm p ∧ VerK p d b ∧ Out b (BB K) H Q E
theorem ok_check_version (g : Gd P w K mg base) : Fnc P w K mg base 5 "check_version" (spCV K) := by
  refine g.fnc 8 8 d_check_version "check_version" _ _ sc_check_version ?_ ?_ bn_check_version
  · rintro vs H Q E ⟨lc, v, p, ord, dxc, fsc, d, b, rfl, _⟩
    rfl
  rintro cdv A outer s H vs Q E hr ⟨lc, v, p, ord, dxc, fsc, d, b, rfl, hc, hv, wf, fm, vk, q⟩
  cases vk with
  | non =>
    have e5 := Is.non_eq hv
    exact go_when (k := false) (TW.is (tw_w (ww_and (k := false) (l := false) (TW.is (tw_notN (ex_v 1)) (by rw [e5]; rfl)) fun e => nomatch e)) rfl) (fun e _ _ => nomatch e) fun _ H1 z1 => go_nil (q.1 rfl _ _ z1 fun _ _ => .non)
  | brk bk =>
    have e5 : v ≠ .non := fun e => by
      rw [e] at hv
      cases bk with
      | @ok vn h => cases vn <;> cases hv
      | three => cases hv
      | none h => cases hv
    refine go_when (k := !b) (TW.is (tw_w (ww_and (k := true) (l := !b) (TW.is (tw_notN (ex_v 1)) (by rw [decide_eq_false e5]; rfl)) fun _ => ww_and1 (tw_not (k := b) (tw_val (ew_call (R := dat (.bool b)) (ok_is_break g) hr (Nat.le_refl _) (aw_cons (ex_v 0) (aw_cons (P := dat d) (ev_n 1 hv) aw_nil)) fun vs H3 z3 hv3 Q2 q2 => ?_))))) rfl) (fun t H1 z1 => ?_) fun t H1 z1 => ?_
    · obtain ⟨w1, r1, rfl, i1, w2, r2, rfl, i2, rfl⟩ := hv3
      rw [show w1 = .ref lc from i1]
      exact ⟨lc, w2, p, ord, dxc, fsc, d, b, rfl, hc.mono z3, i2, wf, fm, bk, q2⟩
    · have e : b = false := by simpa using t
      exact go_raiseB g rfl (q.2 e _ z1)
    · have e : b = true := by simpa using t
      exact go_nil (q.1 e _ _ z1 fun _ _ => .non)
def spCP (K : PySem.W.Frag) : Sp := fun vs H Q E => ∃ lc v p ord dxc fsc bs, vs = [.ref lc, v] ∧ CircOk K H lc p ord dxc fsc ∧ Is H v (.tuple (bitsD bs)) ∧ Wf p ∧ bs.length ≤ 1000 ∧ Out (decide (bs.length = p.src.length)) (BP K) H Q E
theorem ok_check_pattern (g : Gd P w K mg base) : Fnc P w K mg base 4 "check_pattern" (spCP K) := by
  refine g.fnc 10 10 d_check_pattern "check_pattern" _ _ sc_check_pattern ?_ ?_ bn_check_pattern
  · rintro vs H Q E ⟨lc, v, p, ord, dxc, fsc, bs, rfl, _⟩
    rfl
  rintro cdv A outer s H vs Q E hr ⟨lc, v, p, ord, dxc, fsc, bs, rfl, hc, hv, wf, hl, q⟩
  refine go_when (k := !decide (bs.length = p.src.length)) (tw_not (tw_val (EV.is (ev_callD (ok_are_bits g) hr (Nat.le_refl _) (av_cons (ev_n 1 hv) (av_cons (ev_lenL g.len (ev_cm (ok_sources g) hr (by omega) hc.hp wf.sm True.intro (ex_v 0))) av_nil)) ⟨bs, _, rfl, by omega, rfl⟩) (congrArg PyData.bool (by rw [List.length_map]; exact decide_eq_decide.mpr (by omega)))))) (fun t H1 z1 => ?_) fun t H1 z1 => ?_
  · have e : decide (bs.length = p.src.length) = false := by simpa using t
    exact go_raiseP g rfl (q.2 e _ z1)
  · have e : decide (bs.length = p.src.length) = true := by simpa using t
    exact go_nil (q.1 e _ _ z1 fun _ _ => .non)
/-- a version that one may ask of -/
def VerOk (p : Pt) (ver : Option Vn) : Prop := ∀ v, ver = some v → VOk p v
theorem VerOk.k {p : Pt} {ver : Option Vn} (h : VerOk p ver) : VerK p (voD ver) true := by
  cases ver with
  | none => exact .non
  | some v => exact .brk (.ok (h v rfl))
theorem VerOk.go {p : Pt} (wf : Wf p) {ver : Option Vn} (h : VerOk p ver) : VGo p ver := by
  cases ver with
  | none => exact True.intro
  | some v => exact (h v rfl).go wf
theorem VerOk.str {p : Pt} (fm : Fm p) {ver : Option Vn} (h : VerOk p ver) : VnStr ver := by
  cases ver with
  | none => exact True.intro
  | some v => exact (h v rfl).str fm
/-- patterns whose lengths may be wrong -/
def LenOk (p : Pt) (pats : List (List Bool)) : Prop := ∀ b ∈ pats, b.length = p.src.length
def Sizes (pats : List (List Bool)) : Prop := pats.length ≤ 500 ∧ ∀ b ∈ pats, b.length ≤ 1000
def spWO (K : PySem.W.Frag) : Sp := fun vs H Q E => ∃ lc v2 v3 p ord dxc fsc ver pats, vs = [.ref lc, v2, v3] ∧ CircOk K H lc p ord dxc fsc ∧ Is H v2 (voD ver) ∧ Is H v3 (patsD pats) ∧ Wf p ∧ Fm p ∧ VerOk p ver ∧ Sizes pats ∧
  (LenOk p pats → Giv H (DkR (pWords p ord ver pats)) Q) ∧ (¬ LenOk p pats → ∀ H', Ex H H' → E (BP K) none H')
theorem ok_words_of (g : Gd P w K mg base) : Fnc P w K mg base 6 "words_of" (spWO K) := by
  refine g.fnc 18 13 d_words_of "words_of" _ _ sc_words_of ?_ ?_ bn_words_of
  · rintro vs H Q E ⟨lc, v2, v3, p, ord, dxc, fsc, ver, pats, rfl, _⟩
    rfl
  rintro cdv A outer s H vs Q E hr ⟨lc, v2, v3, p, ord, dxc, fsc, ver, pats, rfl, hc, h2, h3, wf, fm, vo, sz, q⟩
  have tk := bxTakes (P := P) (w := w) (K := K) (mg := mg) (base := base) (N := N_words_of) (d := d_words_of) (f := He.fAd K d_words_of.at_) (cdv := cdv) (A := A) (outer := outer) (s := s) (H := H) (E := E) rfl
  refine go_expr (te_callX (ok_check_version g) hr (Nat.le_refl _) tk (aw_cons (ex_v 0) (aw_cons (P := dat (voD ver)) (ev_n 1 h2) aw_nil)) fun vs H1 z1 hv1 => ?_)
  obtain ⟨w1, r1, rfl, i1, w2, r2, rfl, i2, rfl⟩ := hv1
  rw [show w1 = .ref lc from i1]
  refine ⟨lc, w2, p, ord, dxc, fsc, voD ver, true, rfl, hc.mono z1, i2, wf, fm, vo.k, fun _ u H2 z2 _ => ?_, fun e => nomatch e⟩
  have z12 := z1.trans z2
  refine go_forL (ds := pats.map fun b => .tuple (bitsD b)) (passes_of rfl) rfl (ev_n 2 (h3.mono z12)) fun l xs H3 z3 hl hs => ⟨fun i σ' H' => ∃ y, σ' = [some (.ref lc), some v2, some v3, y] ∧ Ex H3 H' ∧ ∀ b ∈ pats.take i, b.length = p.src.length, ⟨none, rfl, Ex.refl _, fun b hb => absurd hb (by simp)⟩, fun i σ' H' pv => ?_, fun i v d σ' H' e1 e2 ri pv => ?_, fun σ' H' pv => ?_⟩
  · obtain ⟨_, _, z, _⟩ := pv
    exact z _ _ hl
  · obtain ⟨y, rfl, z4, hb⟩ := pv
    obtain ⟨b, e3, rfl⟩ := gems e2
    have zz := z12.trans (z3.trans z4)
    refine gt_n 3 sc_words_of.nd (go_expr (te_callX (ok_check_pattern g) hr (by omega) tk (aw_cons (ex_v 0) (aw_cons (P := dat (.tuple (bitsD b))) (ev_n 3 (ri.mono z4)) aw_nil)) fun vs H5 z5 hv5 => ?_))
    obtain ⟨w1, r1, rfl, i1, w2, r2, rfl, i2, rfl⟩ := hv5
    rw [show w1 = .ref lc from i1]
    refine ⟨lc, w2, p, ord, dxc, fsc, b, rfl, hc.mono (zz.trans z5), i2, wf, sz.2 b (memAt e3), fun e u H6 z6 _ => go_nil ⟨some v, rfl, z4.trans (z5.trans z6), fun b' hb' => ?_⟩, fun e H6 z6 => q.2 (fun lo => ?_) H6 (zz.trans (z5.trans z6))⟩
    · rw [List.take_add_one, e3] at hb'
      rcases List.mem_append.mp hb' with h | h
      · exact hb b' h
      · have : b' = b := by simpa using h
        rw [this]
        exact of_decide_eq_true e
    · exact of_decide_eq_false e (lo b (memAt e3))
  · obtain ⟨y, rfl, z4, hb⟩ := pv
    rw [List.length_map, List.take_length] at hb
    have zz := z12.trans (z3.trans z4)
    have po : PatOk p pats := ⟨sz.1, hb⟩
    refine go_out (R := DkR (pWords p ord ver pats)) (ew_meth0P (ok_Many_words g) hr (by omega) (P := fun v H6 => ∃ l dx v2' ag dxc' fsc', v = .ref l ∧ ManyOk K H6 l p ord ver pats dx lc v2' ag dxc' fsc') (ew_make (ok_Many_init g) hr (by omega) (aw_cons (ex_v 0) (aw_cons (P := dat (voD ver)) (ev_n 1 (h2.mono zz)) (aw_cons (P := dat (patsD pats)) (ev_n 2 (h3.mono zz)) aw_nil))) fun vs H6 z6 hv6 l dx hl hd hne Q6 q6 => ?_) fun v H6 z6 ⟨l, dx, v2', ag, dxc', fsc', e, mo⟩ => ⟨l, dx, _, e, mo.at_, rfl, fun Q7 q7 => ⟨l, p, ord, ver, pats, dx, lc, v2', ag, dxc', fsc', rfl, mo, vo.str fm, vo.go wf, wf, fm.nm, q7⟩⟩) zz (q.1 hb)
    obtain ⟨w1, r1, rfl, i1, w2, r2, rfl, i2, w3, r3, rfl, i3, rfl⟩ := hv6
    rw [show w1 = .ref lc from i1]
    have zm := Ex.make (C := MC K) hl hd
    exact ⟨l, dx, lc, p, ord, ver, pats, w2, w3, dxc, fsc, rfl, upd_same, (hc.mono (zz.trans z6)).mono zm, i2.mono zm, i3.mono zm, wf, po, fun H7 ag b7 mo => ⟨rfl, q6 _ _ (Ex.made hl zm b7) fun H8 z8 => ⟨l, dx, w2, ag, dxc, fsc, rfl, mo.mono z8⟩⟩⟩
/-- responses: the law's table, or BadPattern -/
def spRes (K : PySem.W.Frag) : Sp := fun vs H Q E => ∃ lc v2 v3 p ord dxc fsc ver pats, vs = [.ref lc, v2, v3] ∧ CircOk K H lc p ord dxc fsc ∧ Is H v2 (voD ver) ∧ Is H v3 (patsD pats) ∧ Wf p ∧ Fm p ∧ VerOk p ver ∧ Sizes pats ∧
  (LenOk p pats → Giv H (dat (tabD (lRes p ver pats))) Q) ∧ (¬ LenOk p pats → ∀ H', Ex H H' → E (BP K) none H')
theorem ok_responses (g : Gd P w K mg base) : Fnc P w K mg base 7 "responses" (spRes K) := by
  refine g.fnc 19 14 d_responses "responses" _ _ sc_responses ?_ ?_ bn_responses
  · rintro vs H Q E ⟨lc, v2, v3, p, ord, dxc, fsc, ver, pats, rfl, _⟩
    rfl
  rintro cdv A outer s H vs Q E hr ⟨lc, v2, v3, p, ord, dxc, fsc, ver, pats, rfl, hc, h2, h3, wf, fm, vo, sz, q⟩
  have tk := bxTakes (P := P) (w := w) (K := K) (mg := mg) (base := base) (N := N_responses) (d := d_responses) (f := He.fAd K d_responses.at_) (cdv := cdv) (A := A) (outer := outer) (s := s) (H := H) (E := E) rfl
  have pl := sz.1
  have kl := wf.sm.snk
  refine go_setT 3 sc_responses.nd (te_callX (ok_words_of g) hr (Nat.le_refl _) tk (aw_cons (ex_v 0) (aw_cons (P := dat (voD ver)) (ev_n 1 h2) (aw_cons (P := dat (patsD pats)) (ev_n 2 h3) aw_nil))) fun vs H1 z1 hv1 => ?_)
  obtain ⟨w1, r1, rfl, i1, w2, r2, rfl, i2, w3, r3, rfl, i3, rfl⟩ := hv1
  rw [show w1 = .ref lc from i1]
  refine ⟨lc, w2, w3, p, ord, dxc, fsc, ver, pats, rfl, hc.mono z1, i2, i3, wf, fm, vo, sz, fun lo v4 H2 z2 p4 => ?_, fun lo H' z' => q.2 lo H' (z1.trans z')⟩
  obtain ⟨ak, e4, hk⟩ := p4 H2 (Ex.refl H2)
  subst e4
  have z12 := z1.trans z2
  have q := q.1 lo
  have key : ∀ x ∈ p.snk, ∃ n, lkp (pWords p ord ver pats) x = some n ∧ (lkp (lWords p ver pats) x).getD 0 = n := fun x hx => by
    obtain ⟨n, en⟩ := lWords_there wf ver pats (wf.snk x hx)
    exact ⟨n, by rw [pWords_eq wf hc.pm hc.tp (vo.go wf) pats (wf.snk x hx), en], by rw [en]; rfl⟩
  let wx : Str → Nat := fun x => (lkp (lWords p ver pats) x).getD 0
  refine go_set (P := dat (.list (p.snk.map fun x => .int ((wx x : Nat) : Int)))) 4 sc_responses.nd (ev_lcLm (xs := p.snk) (enc := PyData.str) "line" 5 (fun x => .int ((wx x : Nat) : Int)) sc_responses.nd (ev_cm (ok_sinks g) hr (by omega) (hc.mono z12).hp wf.sm True.intro (ex_v 0)) (by omega) fun v x H6 hx z6 r6 s1 H0 C cl fp => ?_) fun v5 H5 z5 h5 => ?_
  · obtain ⟨n, en, ew⟩ := key x hx
    have ew : wx x = n := ew
    rw [ew]
    exact EX.at_ (ex_dget hr (ex_v 3) (ev_n 5 r6) (.inl (z6 _ _ hk)) (val_some en)) (.int _)
  · have z125 := z12.trans z5
    refine go_out (EV.is (ev_lcRm (n := pats.length) "index" 6 (fun j => .tuple (bitsD (p.snk.map fun x => (wx x).testBit j))) sc_responses.nd g.range (ev_lenL g.len (ev_n 2 (h3.mono z125))) (by rw [List.length_map]) (by omega) fun j H6 hj z6 s1 H0 C cl fp => ?_) ?_) z125 q
    · refine EV.is (ev_tupleL g.tuple (ev_lcLm (xs := p.snk) (enc := fun x => .int ((wx x : Nat) : Int)) "row" 7 (fun x => .int (bi ((wx x).testBit j))) sc_responses.nd (ev_n 4 (Is.mono z6 h5)) (by omega) fun v x H7 hx z7 r7 s2 H02 C2 cl2 fp2 => EV.is (ev_band (ev_shr (ev_n 7 r7) (ev_n 6 (.int _)) (by omega)) ev_int) ?_)) ?_
      · rw [KE_and1, Int.toNat_natCast, pow_cast]
        rw [show ((wx x : Nat) : Int) / ((2 ^ j : Nat) : Int) = ((wx x / 2 ^ j : Nat) : Int) from (Int.natCast_ediv _ _).symm, bit_mod]
      · unfold bitsD
        rw [List.map_map]
        rfl
    · unfold tabD lRes
      rw [List.map_map]
      rfl
end
end Pw
set_option maxHeartbeats 4000000
namespace Pw
open PySem PySem.Spec PyProof.Rows L2
open Evl (Ex)
/-! ### tuple * 1, list[i] op= e -/
theorem tup_mul1 (l : Addr) (its : Array Value) (n : Nat) (dd : Option Addr) (sl : Array (Option Value)) (u : Tok) (hi : its.isEmpty = false) :
    Meets (Builtin.«tuple.__mul__» ⟨[.ref l, .int 1 u], []⟩) (fun _ R s => s.heap.get? l = some { cls := .type "tuple", dict := dd, data := .seq its n, slots := sl } ∧ R (.ok (.ret (.ref l))) s) :=
  .of_wp fun prog w A R s h => by
    obtain ⟨hp, g, d, tk, os⟩ := s
    obtain ⟨hl, h⟩ := h
    have f1 := AutoSeq1.idx_int
    wp_walk using wpAny_loadPart' hl
    exact ⟨_, rfl, h⟩
section
variable {X : Cx} {a b o i e : Expr} {σ : L2.St} {H : Hp} {pos tpos : Pos} {ds : List PyData} {rest : List Stmt} {D : Ends}
theorem op_rep1 : OpR X (binaryOp .Mult) (fun x y H Q => ∃ l xs, x = .ref l ∧ y = .int 1 ∧ SqT X.K H l xs ∧ xs ≠ [] ∧ Q (.ref l) H) := by
  intro pins s σ H x y v u Q I rx ry h
  obtain ⟨l, xs, rfl, rfl, hT, hne, q⟩ := h
  cases rx
  obtain ⟨t, rfl⟩ := ry
  obtain ⟨its, r, ⟨⟨cls, dd, data, sl⟩, ho, hc, n, hd⟩, hs⟩ := I.tuple hT
  simp only at hc hd
  subst hc hd
  have hi : its.toArray.isEmpty = false := by
    cases its with
    | nil =>
      have := r.length
      exact absurd (List.eq_nil_of_length_eq_zero this) hne
    | cons a b => rfl
  exact wpAny_binaryOp_repeat_ref (T := "tuple") (U := "int") (by decide) ⟨_, ho, rfl⟩ (fun s' => typeIs_int s' 1 t) noFill_tuple_mul F.fills_int_mul F.slot_int_rmul repeat_tuple F.slot_int_index.lookup
    (call_meets F.slot_int_rmul (typeIs_int s 1 t) F.entry_int_rmul (F.args_int_rmul_2 _ _) (int_rmul_tuple 1 t l its.toArray n dd sl)
      ⟨ho, rfl, ⟨_, ho, rfl⟩, call_meets F.slot_tuple_mul ⟨_, ho, rfl⟩ F.entry_tuple_mul (F.args_tuple_mul_2 _ _) (tup_mul1 l its.toArray n dd sl t hi) ⟨ho, ⟨.ref l, H, I, rfl, q⟩⟩⟩)
theorem ev_repT {n : Nat} (ha : EV X σ H a (.tuple ds)) (hb : EV X σ H b (.int (n : Int))) (hne : ds ≠ []) (h1 : 1 ≤ n) (h2 : n ≤ 1000) (hl : ds.length ≤ 1000) : EV X σ H (.BinOp a .Mult b pos) (.tuple (List.replicate n ds).flatten) := by
  by_cases h : n = 1
  · subst h
    refine ew_op op_rep1 ha hb fun x y H2 z p p' Q q => ?_
    cases p with
    | @tup l xs _ h hs =>
      refine ⟨l, xs, rfl, p'.int_eq, SqT.of h, fun e => hne ?_, ?_⟩
      · rw [e] at hs; cases hs; rfl
      · refine q.dat (Ex.refl H2) ?_
        rw [show (List.replicate 1 ds).flatten = ds by simp]
        exact .tup h hs
  · refine ew_op op_repT ha hb fun x y H2 z p p' Q q => ?_
    cases p with
    | @tup l xs _ h hs =>
      refine ⟨l, n, xs, rfl, p'.int_eq, SqT.of h, fun e => hne ?_, by omega, by omega, by rw [hs.length]; exact hl, fun t ht => ?_⟩
      · rw [e] at hs; cases hs; rfl
      · have := rep_isA hs n
        rw [Int.toNat_natCast]
        exact q.dat (Ex.new ht) (.tup upd_same (this.mono (Ex.new ht)))
theorem get_listN : PGet X (fun o i H Q => ∃ p xs k v, o = .ref p ∧ i = .int ((k : Nat) : Int) ∧ H p = some (.lst xs) ∧ k < 2 ^ 60 ∧ xs[k]? = some v ∧ Q v H) := by
  intro pins s σ H o i ov iv Q I ro ri h
  obtain ⟨p, xs, k, v, rfl, rfl, hp, hk, hx, q⟩ := h
  cases ro
  obtain ⟨t, rfl⟩ := ri
  obtain ⟨its, r, pl, hz⟩ := I.list (SqL.of hp)
  obtain ⟨u, hu, ru⟩ := r.get hx
  exact wpAny_getItem_list pl.isList (by omega) (by omega) (x := u) (by simpa using hu) ⟨v, H, I, ru, q⟩
theorem ip_xor : PIp X .BitXor (ipI fun i j => Builtin.bitXor i j) := by
  intro pins s σ H x y v u Q I r1 r2 h
  obtain ⟨i, j, e1, e2, q⟩ := h
  subst e1; subst e2
  obtain ⟨t, rfl⟩ := r1
  obtain ⟨t', rfl⟩ := r2
  exact ixor_int ⟨.int _, H, I.tok _, ⟨_, rfl⟩, q⟩
/-- xs[i] ^= e -/
theorem go_augX {l : Addr} {xs : List V} {k : Nat} {m n : Int} (ho : EX X σ H o (.ref l)) (hi : EV X σ H i (.int (k : Int))) (he : EV X σ H e (.int n)) (hH : H l = some (.lst xs)) (hk : k < 2 ^ 60) (hx : xs[k]? = some (.int m)) (q : ∀ H1, Ex H H1 → tSs X rest D σ (upd H1 l (.lst (xs.set k (.int (Builtin.bitXor m n))))))
    (ha : ∀ ov iv new, augStore i ov iv new = (do holding [new, ov, iv] (setItem ov iv new); release [new, ov, iv] []; pure .next) := by intros; rfl) : tSs X (.AugAssign (.Subscript o i tpos) .BitXor e pos :: rest) D σ H :=
  go_cons (toS (ps_augS pE pE get_listN pE ip_xor set_list ha) (ho.run fun u H1 z1 p1 => (hi.up z1).run fun w H2 z2 p2 => ⟨l, xs, k, .int m, p1, p2.int_eq, (z1.trans z2) _ _ hH, hk, hx, (he.up (z1.trans z2)).run fun y H3 z3 p3 => ⟨m, n, rfl, p3.int_eq, l, xs, k, k, p1, p2.int_eq, ((z1.trans z2).trans z3) _ _ hH, ixN_nat (List.getElem?_eq_some_iff.mp hx).1, q H3 ((z1.trans z2).trans z3)⟩⟩))
end
end Pw
namespace Pw
open PySem PySem.Spec L2
open Evl (Ex)
/-! ### the press, plainly -/
def backN (taps : List Nat) (st : List Bool) : Nat := (taps.map fun t => (st.getD t false).toNat).sum
def odd (n : Nat) : Bool := decide (n % 2 = 1)
def aBit (taps : List Nat) (st wo : List Bool) (k : Nat) : Bool := Bool.xor (if k = 0 then odd (backN taps st) else st.getD (k - 1) false) (wo.getD k false)
def aStep (W : Nat) (taps : List Nat) (st wo : List Bool) : List Bool := (List.range W).map (aBit taps st wo)
def fx (W : Nat) (bs : List Bool) : Nat → Nat → Bool
  | 0, _ => false
  | i + 1, k => if i % W = k then Bool.xor (fx W bs i k) (bs.getD i false) else fx W bs i k
def foldB (W : Nat) (bs : List Bool) : List Bool := (List.range W).map (fx W bs bs.length)
def sig (W : Nat) (taps : List Nat) (tab : List (List Bool)) : List Bool := (tab.map (foldB W)).foldl (aStep W taps) (List.replicate W false)
theorem foldB_len {W : Nat} {bs : List Bool} : (foldB W bs).length = W := by unfold foldB; rw [List.length_map, List.length_range]
theorem aStep_len {W : Nat} {taps : List Nat} {st wo : List Bool} : (aStep W taps st wo).length = W := by unfold aStep; rw [List.length_map, List.length_range]
def cnt (W k L : Nat) : Nat := if k < L then (L - k - 1) / W + 1 else 0
def sumK (W : Nat) (bs : List Bool) (k n : Nat) : Nat := ((List.range n).map fun t => (bs.getD (k + t * W) false).toNat).sum
theorem sumK_succ {W : Nat} {bs : List Bool} {k n : Nat} : sumK W bs k (n + 1) = sumK W bs k n + (bs.getD (k + n * W) false).toNat := by
  unfold sumK
  rw [List.range_succ, List.map_append, List.sum_append]
  simp
theorem odd_add {n : Nat} {b : Bool} : odd (n + b.toNat) = Bool.xor (odd n) b := by
  unfold odd
  rcases Nat.mod_two_eq_zero_or_one n with h | h <;> cases b <;> simp [h, Nat.add_mod]
theorem fx_sum {W : Nat} (h1 : 1 ≤ W) (h2 : W ≤ 5) (bs : List Bool) {k : Nat} (hk : k < W) : ∀ L, fx W bs L k = odd (sumK W bs k (cnt W k L))
  | 0 => by
    have e : cnt W k 0 = 0 := by unfold cnt; rw [if_neg (by omega)]
    rw [e]
    rfl
  | L + 1 => by
    have ih := fx_sum h1 h2 bs hk L
    show (if L % W = k then Bool.xor (fx W bs L k) (bs.getD L false) else fx W bs L k) = _
    by_cases c : L % W = k
    · have e : cnt W k (L + 1) = cnt W k L + 1 ∧ k + cnt W k L * W = L := by
        unfold cnt
        obtain rfl | rfl | rfl | rfl | rfl : W = 1 ∨ W = 2 ∨ W = 3 ∨ W = 4 ∨ W = 5 := by omega
        all_goals (constructor <;> split <;> (try split) <;> omega)
      rw [if_pos c, e.1, sumK_succ, e.2, odd_add, ih]
    · have e : cnt W k (L + 1) = cnt W k L := by
        unfold cnt
        obtain rfl | rfl | rfl | rfl | rfl : W = 1 ∨ W = 2 ∨ W = 3 ∨ W = 4 ∨ W = 5 := by omega
        all_goals (split <;> (try split) <;> omega)
      rw [if_neg c, e, ih]
theorem fx_step {W : Nat} {bs : List Bool} {i : Nat} {b : Bool} (hb : bs[i]? = some b) : (List.range W).map (fx W bs (i + 1)) = ((List.range W).map (fx W bs i)).set (i % W) (Bool.xor (fx W bs i (i % W)) b) := by
  refine List.ext_getElem? fun k => ?_
  rw [List.getElem?_set]
  by_cases hk : k < W
  · rw [List.getElem?_map, List.getElem?_range hk]
    show some (if i % W = k then Bool.xor (fx W bs i k) (bs.getD i false) else fx W bs i k) = _
    by_cases c : i % W = k
    · rw [if_pos c, if_pos c, List.length_map, List.length_range, if_pos (by omega), c, List.getD_eq_getElem?_getD, hb]
      rfl
    · rw [if_neg c, if_neg c, List.getElem?_map, List.getElem?_range hk]
      rfl
  · rw [List.getElem?_eq_none (by rw [List.length_map, List.length_range]; omega)]
    by_cases c : i % W = k
    · rw [if_pos c, List.length_map, List.length_range, if_neg (by omega)]
    · rw [if_neg c, List.getElem?_eq_none (by rw [List.length_map, List.length_range]; omega)]
theorem int_mod2 (n : Nat) (b : Bool) : (((n : Nat) : Int) + bi b) % 2 = bi (Bool.xor (odd n) b) := by
  rw [← odd_add, bi_nat]
  unfold odd
  rcases Nat.mod_two_eq_zero_or_one (n + b.toNat) with h | h
  · rw [decide_eq_false (by omega)]
    show _ = bi false
    unfold bi
    rw [if_neg Bool.false_ne_true]
    omega
  · rw [decide_eq_true h]
    show _ = bi true
    unfold bi
    rw [if_pos rfl]
    omega
theorem int_mod2' (n : Nat) : (((n : Nat) : Int)) % 2 = bi (odd n) := by
  have := int_mod2 n false
  simpa [bi] using this
structure PrW (W : Nat) (taps : List Nat) : Prop where
  lo : 1 ≤ W
  hi : W ≤ 5
  ne : taps ≠ []
  lt : ∀ t ∈ taps, t < W
  inc : ∀ i a b, taps[i]? = some a → taps[i + 1]? = some b → a < b
  last : taps.getLast? = some (W - 1)
  len : taps.length ≤ 5
section
variable {P : Program} {w : World} {K : PySem.W.Frag} {mg : Str → Option Value} {base : Heap}
theorem ok_L_after (g : Gd P w K mg base) : Fnc P w K mg base 1 "_law_after" (PD fun ds r => ∃ (W : Nat) (taps : List Nat) (st wo : List Bool), ds = [.int (W : Int), .tuple (wsD taps), .tuple (bitsD st), .tuple (bitsD wo)] ∧ W ≤ 100 ∧ (∀ t ∈ taps, t < W) ∧ st.length = W ∧ wo.length = W ∧ r = .tuple (bitsD (aStep W taps st wo))) := by
  refine g.fncD 60 41 d_L_after "_law_after" sc_L_after bn_L_after ?_ ?_
  · rintro ds r ⟨W, taps, st, wo, rfl, _⟩
    rfl
  rintro cdv A outer s H vs Q E ds r hr h ⟨W, taps, st, wo, rfl, hW, ht, hs, hw, rfl⟩ q
  obtain ⟨v1, v2, v3, v4, rfl, h1, h2, h3, h4⟩ := h.four
  rw [h1.int_eq]
  refine go_set 4 sc_L_after.nd ev_int fun w5 H1 z1 p1 => ?_
  rw [p1.int_eq]
  refine go_forT (ds := wsD taps) (passes_of rfl) rfl (ev_n 1 (h2.mono z1)) fun l xs H2 z2 hl2 hs2 => ⟨fun i σ' H' => ∃ y, σ' = [some (.int (W : Int)), some v2, some v3, some v4, some (.int ((backN (taps.take i) st : Nat) : Int)), y, none, none] ∧ Ex H2 H', ⟨none, rfl, Ex.refl _⟩, fun i σ' H' pv => ?_, fun i v d σ' H' e1 e2 ri pv => ?_, fun σ' H' pv => ?_⟩
  · obtain ⟨_, _, z⟩ := pv
    exact z _ _ hl2
  · obtain ⟨y, rfl, z⟩ := pv
    obtain ⟨t, e3, rfl⟩ := gems e2
    have htl := ht t (memAt e3)
    rw [ri.int_eq]
    refine gt_n 5 sc_L_after.nd (go_set 4 sc_L_after.nd (ev_add (ev_n 4 (.int _)) (ev_ixT (d := .int (bi (st.getD t false))) (ev_n 2 (h3.mono (z1.trans (z2.trans z)))) (ev_n 5 (.int _)) (atI_n (j := t) (by rw [List.getElem?_map, List.getElem?_eq_getElem (by omega), List.getD_eq_getElem?_getD, List.getElem?_eq_getElem (by omega)]; rfl) t rfl))) fun w6 H6 z6 p6 => go_nil ⟨some (.int t), ?_, z.trans z6⟩)
    rw [p6.int_eq]
    have e : backN (taps.take (i + 1)) st = backN (taps.take i) st + (st.getD t false).toNat := by
      unfold backN
      rw [List.take_add_one, e3, List.map_append, List.sum_append]
      simp
    rw [e, bi_nat]
    rfl
  · obtain ⟨y, rfl, z⟩ := pv
    rw [List.length_map, List.take_length]
    have zz := z1.trans (z2.trans z)
    refine go_set 6 sc_L_after.nd (ef_lst av_nil) fun w7 H7 z7 ⟨a, ys, e7, na, ha, hys⟩ => ?_
    subst e7
    cases hys
    refine go_forR (n := W) (passes_of rfl) rfl g.range (ev_n 0 (.int _)) (by omega) fun H8 z8 => ⟨fun k σ' H9 => ∃ y9, σ' = [some (.int (W : Int)), some v2, some v3, some v4, some (.int ((backN taps st : Nat) : Int)), y, some (.ref a), y9] ∧ Ex H' H9 ∧ H9 a = some (.lst (((List.range k).map (aBit taps st wo)).map fun b => V.int (bi b))), ⟨none, rfl, z7.trans z8, z8 _ _ ha⟩, fun k σ' H9 hk pv => ?_, fun σ' H9 pv => ?_⟩
    · obtain ⟨y9, rfl, z9, ha9⟩ := pv
      have h3' := h3.mono (zz.trans z9)
      have h4' := h4.mono (zz.trans z9)
      refine gt_n 7 sc_L_after.nd (go_push (P := dat (.int (bi (aBit taps st wo k)))) (ex_v 6) (EV.is (ev_mod (ev_intI g.int (ev_add (i := (((if k = 0 then backN taps st else (st.getD (k - 1) false).toNat : Nat)) : Int)) (ew_if (tw_cmp op_eq rfl (ev_n 7 (.int _)) ev_int rb_eqI) (fun t => (?_ : EV _ _ _ _ _)) fun t => (?_ : EV _ _ _ _ _)) (ev_ixT (d := .int (bi (wo.getD k false))) (ev_n 3 h4') (ev_n 7 (.int _)) (atI_n (j := k) (by rw [List.getElem?_map, List.getElem?_eq_getElem (by omega), List.getD_eq_getElem?_getD, List.getElem?_eq_getElem (by omega)]; rfl) k rfl)))) ev_int (by decide)) ?_) ha9 (by rw [List.length_map, List.length_map, List.length_range]; omega) fun u H10 z10 p10 => go_nil ⟨some (.int k), rfl, Ex.put (z9.trans z10) na, ?_⟩)
      · have e := of_decide_eq_true t
        have e : k = 0 := by omega
        rw [if_pos e]
        exact ev_n 4 (.int _)
      · have e := of_decide_eq_false t
        have e : ¬ k = 0 := by omega
        rw [if_neg e, ← bi_nat]
        exact ev_ixT (ev_n 2 h3') (ev_sub (ev_n 7 (.int _)) ev_int) (atI_n (j := k - 1) (by rw [List.getElem?_map, List.getElem?_eq_getElem (by omega), List.getD_eq_getElem?_getD, List.getElem?_eq_getElem (by omega)]; rfl) _ (by omega))
      · rw [int_mod2]
        unfold aBit
        congr 3
        by_cases e : k = 0
        · rw [if_pos e, if_pos e]
        · rw [if_neg e, if_neg e]
          cases st.getD (k - 1) false <;> rfl
      · rw [upd_same, p10.int_eq, List.range_succ, List.map_append, List.map_append]
        rfl
    · obtain ⟨y9, rfl, z9, ha9⟩ := pv
      refine go_out (ev_tupleL g.tuple (ev_n 6 (.lst ha9 ?_))) (zz.trans z9) q
      rw [show bitsD (aStep W taps st wo) = ((aStep W taps st wo).map bi).map PyData.int by simp, show (((List.range W).map (aBit taps st wo)).map fun b => V.int (bi b)) = ((aStep W taps st wo).map bi).map V.int by unfold aStep; simp]
      exact IsA.ints _
end
end Pw
namespace Pw
open PySem PySem.Spec L2
open Evl (Ex)
theorem repT_eq (W : Nat) : (List.replicate W [PyData.int 0]).flatten = bitsD (List.replicate W false) := by
  induction W with
  | zero => rfl
  | succ n ih =>
    rw [List.replicate_succ, List.flatten_cons, ih]
    rfl
section
variable {X : Cx} {a b c elt : Expr} {σ : L2.St} {H : Hp} {px p pos pos' : Pos} {x : Str} {scope : Scope} {j : Nat}
/-- [e for x in range(a, b, c)] -/
theorem ev_lcR3 {lo hi c' : Int} {n : Nat} (x : Str) (j : Nat) (f : Nat → PyData) (hN : X.N.Nodup) (hm : X.mg "range" = none) (ha : EV X σ H a (.int lo)) (hb : EV X σ H b (.int hi)) (hcc : EV X σ H c (.int c')) (hr : RgC lo hi c' n) (hz : n ≤ 40000)
    (he : ∀ (t : Nat) (H1 : Hp), t < n → Ex H H1 → EB X scope (σ.set j (some (.int (lo + (t : Nat) * c')))) H1 elt (dat (f t))) (hc : X.calm = true := by rfl) (ok : blkC X.N X.env.scope scope [(x, j)] = true := by kernel_rfl) (hj : X.N[j]? = some x := by rfl) (hg : Gl X "range" := by rfl)
    (hs1 : starEach [a, b, c] X.env = (false, eval a X.env) :: starEach [b, c] X.env := by rfl) (hs2 : starEach [b, c] X.env = (false, eval b X.env) :: starEach [c] X.env := by rfl) (hs3 : starEach [c] X.env = (false, eval c X.env) :: starEach [] X.env := by rfl) (hpl : (backTo pos' (starEach [b, c] X.env)).any (·.1) = false := by rfl)
    (hx : ∀ (cl : List (Str × Addr)) (C : Addr), Loc (compEnvC scope cl C X.env).scope x := by first | exact fun _ _ => Or.inl rfl | exact fun _ _ => Or.inr rfl)
    (hf : (scope.names.lookup x == some .cell) = true ∨ (∀ (cl : List (Str × Addr)) (C : Addr), (compEnvC scope cl C X.env).scope.names.lookup x = some .local) := by first | exact Or.inl rfl | exact Or.inr (fun _ _ => rfl)) : EV X σ H (.ListComp elt [⟨.Name x px, .Call (.Name "range" p) [a, b, c] [] pos', [], 0⟩] scope pos) (.list ((List.range n).map f)) := fun H0 z0 Q q =>
  tE_lc (ifs := []) x j hc hN (pi_range3 hg hm pA hs1 hpl) ((av_cons (ha.up z0) (av_cons (hb.up z0) (av_cons (hcc.up z0) av_nil hs3) hs2) hs1).run fun vs H1 z r => by
    obtain ⟨v1, v2, v3, rfl, i1, i2, i3⟩ := r.three
    rw [i1.int_eq, i2.int_eq, i3.int_eq]
    refine ⟨lo, hi, c', n, rfl, hr, fun D hD => ?_⟩
    refine lc_it (walk_rangeC (lo := lo) (c := c') (n := n)) (LcW D (lcJ H1 ((List.range n).map f))) (lcw_start hD ⟨Ex.refl _, .nil⟩) (fun _ _ _ _ => True.intro) (fun i v H' H'' hi' w y => ?_) (fun H' w => ?_)
    · obtain ⟨rfl, rfl⟩ := y
      refine ⟨wipe1, ?_⟩
      rw [wipe1s]
      exact lcw_turn (ifs := []) (by omega) w fun acc hl hJ => lcJ_step hJ (by rw [List.getElem?_map, List.getElem?_range hi']; rfl) (he i H1 hi' (z0.trans z))
    · obtain ⟨acc, hD2, _, hJ⟩ := w
      have e : H' = upd (delA H' D) D (.lst acc) := by
        funext b
        by_cases z : b = D
        · rw [z, upd_same, hD2]
        · rw [upd_ne z, delA_ne z]
      rw [e]
      refine q.dat ((z.trans hJ.1).trans (Ex.new delA_at)) (.lst upd_same ?_)
      have w2 := hJ.2
      rw [List.take_of_length_le (by rw [List.length_map, List.length_range]; exact Nat.le_refl _)] at w2
      exact w2.mono (Ex.new delA_at)) ok hj True.intro (by intro _; rfl) hx hf
end
theorem rgC_nat {W k L : Nat} (h1 : 1 ≤ W) (h2 : W ≤ 5) (hL : L ≤ 100000) (hk : k ≤ 100) : RgC (k : Int) (L : Int) (W : Int) (cnt W k L) := by
  have rs : Builtin.Range.rangeSize (k : Int) (L : Int) (W : Int) = ((cnt W k L : Nat) : Int) := by
    unfold Builtin.Range.rangeSize cnt
    obtain rfl | rfl | rfl | rfl | rfl : W = 1 ∨ W = 2 ∨ W = 3 ∨ W = 4 ∨ W = 5 := by omega
    all_goals (rw [if_pos (by decide)]; split <;> split <;> omega)
  have cl : cnt W k L ≤ L := by
    unfold cnt
    split
    · have := Nat.div_le_self (L - k - 1) W
      omega
    · omega
  have fits : ∀ i : Int, -(2 ^ 63) ≤ i → i < 2 ^ 63 → Builtin.Range.rangeFitsLong i = true := fun i a b => by
    unfold Builtin.Range.rangeFitsLong
    rw [decide_eq_true a, decide_eq_true b]
    rfl
  refine ⟨by omega, by omega, ?_, rs⟩
  unfold Builtin.Range.small
  rw [rs, fits _ (by omega) (by omega), fits _ (by omega) (by omega), fits _ (by omega) (by omega), fits _ (by omega) (by omega), if_pos (by omega), fits _ (by omega) (by omega), Bool.or_true]
  rfl
theorem cnt_at {W k L t : Nat} (h1 : 1 ≤ W) (h2 : W ≤ 5) (ht : t < cnt W k L) : k + t * W < L := by
  unfold cnt at ht
  split at ht
  · obtain rfl | rfl | rfl | rfl | rfl : W = 1 ∨ W = 2 ∨ W = 3 ∨ W = 4 ∨ W = 5 := by omega
    all_goals omega
  · omega
section
variable {P : Program} {w : World} {K : PySem.W.Frag} {mg : Str → Option Value} {base : Heap}
theorem ok_L_fold (g : Gd P w K mg base) : Fnc P w K mg base 1 "_law_fold" (PD fun ds r => ∃ (W : Nat) (bs : List Bool), ds = [.int (W : Int), .tuple (bitsD bs)] ∧ 1 ≤ W ∧ W ≤ 5 ∧ bs.length ≤ 1000 ∧ r = .tuple (bitsD (foldB W bs))) := by
  refine g.fncD 62 43 d_L_fold "_law_fold" sc_L_fold bn_L_fold ?_ ?_
  · rintro ds r ⟨W, bs, rfl, _⟩
    rfl
  rintro cdv A outer s H vs Q E ds r hr h ⟨W, bs, rfl, hlo, hhi, hl, rfl⟩ q
  obtain ⟨v1, v2, rfl, h1, h2⟩ := h.two
  refine go_out (EV.is (ev_tupleL g.tuple (ev_lcRm (n := W) "_law_k" 2 (fun k => .int (bi (fx W bs bs.length k))) sc_L_fold.nd g.range (ev_n 0 h1) rfl (by omega) fun k H6 hk z6 s1 H0 C cl fp => ?_)) ?_) (Ex.refl H) q
  · have cl5 : cnt W k bs.length ≤ bs.length + 1 := by
      unfold cnt
      split
      · have := Nat.div_le_self (bs.length - k - 1) W
        omega
      · omega
    refine EV.is (ev_mod (ev_intI g.int (ev_sum g.sum rfl (ns := (List.range (cnt W k bs.length)).map fun t => bi (bs.getD (k + t * W) false)) (EV.is (ev_lcR3 (n := cnt W k bs.length) "_law_j" 3 (fun t => .int (bi (bs.getD (k + t * W) false))) sc_L_fold.nd g.range (ev_n 2 (.int _)) (EV.is (ev_lenT g.len (ev_n 1 (h2.mono z6))) (by rw [List.length_map])) (ev_n 0 (h1.mono z6)) (rgC_nat hlo hhi (by omega) (by omega)) (by omega) fun t H7 ht z7 s2 H02 C2 cl2 fp2 => ev_ixT (ev_n 1 (h2.mono (z6.trans z7))) (ev_n 3 (.int _)) (atI_n (j := k + t * W) (by
      have := cnt_at hlo hhi ht
      rw [List.getElem?_map, List.getElem?_eq_getElem this, List.getD_eq_getElem?_getD, List.getElem?_eq_getElem this]
      rfl) _ (by rw [Int.natCast_add, Int.natCast_mul]))) (by rw [List.map_map]; rfl)))) ev_int (by decide)) ?_
    rw [fx_sum hlo hhi bs hk]
    have e : (((List.range (cnt W k bs.length)).map fun t => bi (bs.getD (k + t * W) false)).sum : Int) = ((sumK W bs k (cnt W k bs.length) : Nat) : Int) := by
      generalize cnt W k bs.length = n
      induction n with
      | zero => rfl
      | succ m ih =>
        rw [sumK_succ, List.range_succ, List.map_append, List.sum_append, ih, Int.natCast_add, ← bi_nat]
        simp
    rw [e, int_mod2']
  · unfold foldB bitsD
    rw [List.map_map]
    rfl
abbrev rowsD (t : List (List Bool)) : List PyData := t.map fun b => .tuple (bitsD b)
theorem ok_L_signature (g : Gd P w K mg base) : Fnc P w K mg base 2 "_law_signature" (PD fun ds r => ∃ (W : Nat) (taps : List Nat) (wos : List (List Bool)), ds = [.int (W : Int), .tuple (wsD taps), .list (rowsD wos)] ∧ PrW W taps ∧ (∀ b ∈ wos, b.length = W) ∧ r = .tuple (bitsD (wos.foldl (aStep W taps) (List.replicate W false)))) := by
  refine g.fncD 61 42 d_L_signature "_law_signature" sc_L_signature bn_L_signature ?_ ?_
  · rintro ds r ⟨W, taps, wos, rfl, _⟩
    rfl
  rintro cdv A outer s H vs Q E ds r hr h ⟨W, taps, wos, rfl, pw, hw, rfl⟩ q
  obtain ⟨v1, v2, v3, rfl, h1, h2, h3⟩ := h.three
  have l1 := pw.lo; have l2 := pw.hi
  refine go_set 3 sc_L_signature.nd (EV.is (ev_repT (ev_tup (av_cons ev_int av_nil)) (ev_n 0 h1) (by simp) l1 (by omega) (by decide)) (congrArg PyData.tuple (repT_eq W))) fun v4 H1 z1 h4 => ?_
  refine go_forL (ds := rowsD wos) (passes_of rfl) rfl (ev_n 2 (h3.mono z1)) fun l xs H2 z2 hl2 hs2 => ⟨fun i σ' H' => ∃ y4 y5, σ' = [some v1, some v2, some v3, some y4, y5] ∧ Ex H2 H' ∧ Is H' y4 (.tuple (bitsD ((wos.take i).foldl (aStep W taps) (List.replicate W false)))) ∧ ((wos.take i).foldl (aStep W taps) (List.replicate W false)).length = W, ⟨v4, none, rfl, Ex.refl _, Is.mono z2 h4, by simp⟩, fun i σ' H' pv => ?_, fun i v d σ' H' e1 e2 ri pv => ?_, fun σ' H' pv => ?_⟩
  · obtain ⟨_, _, _, z, _⟩ := pv
    exact z _ _ hl2
  · obtain ⟨y4, y5, rfl, z, hy, hlen⟩ := pv
    obtain ⟨b, e3, rfl⟩ := gems e2
    have zz := z1.trans (z2.trans z)
    have e4 : (wos.take (i + 1)).foldl (aStep W taps) (List.replicate W false) = aStep W taps ((wos.take i).foldl (aStep W taps) (List.replicate W false)) b := by rw [List.take_add_one, e3, List.foldl_append]; rfl
    refine gt_n 4 sc_L_signature.nd (go_set 3 sc_L_signature.nd (ev_callD (ok_L_after g) hr (Nat.le_refl _) (av_cons (ev_n 0 (h1.mono zz)) (av_cons (ev_n 1 (h2.mono zz)) (av_cons (ev_n 3 hy) (av_cons (ev_n 4 (ri.mono z)) av_nil)))) ⟨W, taps, _, b, rfl, by omega, pw.lt, hlen, hw b (memAt e3), rfl⟩) fun v6 H6 z6 h6 => go_nil ⟨v6, some v, rfl, z.trans z6, by rw [e4]; exact h6, by rw [e4]; exact aStep_len⟩)
  · obtain ⟨y4, y5, rfl, z, hy, _⟩ := pv
    rw [List.length_map, List.take_length] at hy
    exact go_out (ev_n 3 hy) (z1.trans (z2.trans z)) q
def TabOk (t : List (List Bool)) : Prop := t.length ≤ 1000 ∧ ∀ b ∈ t, b.length ≤ 1000
theorem ok_L_signed (g : Gd P w K mg base) : Fnc P w K mg base 3 "_law_signed" (PD fun ds r => ∃ (W : Nat) (taps : List Nat) (tab : List (List Bool)), ds = [.int (W : Int), .tuple (wsD taps), tabD tab] ∧ PrW W taps ∧ TabOk tab ∧ r = .tuple (bitsD (sig W taps tab))) := by
  refine g.fncD 63 44 d_L_signed "_law_signed" sc_L_signed bn_L_signed ?_ ?_
  · rintro ds r ⟨W, taps, wos, rfl, _⟩
    rfl
  rintro cdv A outer s H vs Q E ds r hr h ⟨W, taps, tab, rfl, pw, tk, rfl⟩ q
  obtain ⟨v1, v2, v3, rfl, h1, h2, h3⟩ := h.three
  have l1 := pw.lo; have l2 := pw.hi; have l3 := tk.1
  refine go_out (ev_callD (ok_L_signature g) hr (Nat.le_refl _) (av_cons (ev_n 0 h1) (av_cons (ev_n 1 h2) (av_cons (EV.is (ev_lcLm (xs := tab) (enc := fun b => .tuple (bitsD b)) "_law_row" 3 (fun b => .tuple (bitsD (foldB W b))) sc_L_signed.nd (ev_n 2 h3) (by omega) fun v b H6 hb z6 r6 s1 H0 C cl fp => ev_callD (ok_L_fold g) (hr.mono (by omega)) (Nat.le_refl _) (av_cons (ev_n 0 (h1.mono z6)) (av_cons (ev_n 3 r6) av_nil)) ⟨W, b, rfl, l1, l2, tk.2 b hb, rfl⟩) (by
    show _ = PyData.list (rowsD (tab.map (foldB W)))
    unfold rowsD
    rw [List.map_map]
    rfl)) av_nil))) ⟨W, taps, tab.map (foldB W), rfl, pw, fun b hb => ?_, rfl⟩) (Ex.refl H) q
  obtain ⟨t, _, rfl⟩ := List.mem_map.mp hb
  exact foldB_len
end
end Pw
namespace Pw
open PySem PySem.Spec L2
open Evl (Ex)
theorem bitsV_eq {H : Hp} {bs : List Bool} {vs : List V} (h : IsA H vs (bitsD bs)) : vs = bs.map fun b => V.int (bi b) := by
  have e : bitsD bs = (bs.map bi).map PyData.int := by simp
  rw [e] at h
  rw [h.ints_eq]
  simp
theorem bitsV_is {H : Hp} (bs : List Bool) : IsA H (bs.map fun b => V.int (bi b)) (bitsD bs) := by
  rw [show bitsD bs = (bs.map bi).map PyData.int by simp, show (bs.map fun b => V.int (bi b)) = (bs.map bi).map V.int by simp]
  exact IsA.ints _
section
variable {X : Cx} {a b elt : Expr} {σ : L2.St} {H : Hp} {p tp pos pos' : Pos} {x y : Str} {scope : Scope} {j j2 kk : Nat} {els : List Expr}
/-- [e for x, y in zip(bits, bits)] -/
theorem ev_lcZ {as bs : List Bool} (x y : Str) (j j2 : Nat) (f : Bool → Bool → Bool) (hjj : j ≠ j2) (hN : X.N.Nodup) (hm : X.mg "zip" = none) (ha : EV X σ H a (.tuple (bitsD as))) (hb : EV X σ H b (.tuple (bitsD bs))) (hl : as.length = bs.length) (hz : as.length ≤ 1000)
    (hg : ∀ (v : V) (p q : Bool) (σ' : L2.St) (H' : Hp) (Q : L2.St → Hp → Prop), Is H' v (.tuple [.int (bi p), .int (bi q)]) → Q ((σ'.set j (some (.int (bi p)))).set j2 (some (.int (bi q)))) H' → bG X scope (.Tuple els kk tp) v σ' H' Q)
    (he : ∀ (p q : Bool) (σ' : L2.St) (H' : Hp), σ' = ((wipe σ [j, j2]).set j (some (.int (bi p)))).set j2 (some (.int (bi q))) → EB X scope σ' H' elt (dat (.int (bi (f p q)))))
    (hc : X.calm = true := by rfl) (ok : blkC X.N X.env.scope scope [(x, j), (y, j2)] = true := by kernel_rfl) (hgl : Gl X "zip" := by rfl)
    (hs1 : starEach [a, b] X.env = (false, eval a X.env) :: starEach [b] X.env := by rfl) (hs2 : starEach [b] X.env = (false, eval b X.env) :: starEach [] X.env := by rfl) (hpl : (backTo pos' (starEach [b] X.env)).any (·.1) = false := by rfl) :
    EV X σ H (.ListComp elt [⟨.Tuple els kk tp, .Call (.Name "zip" p) [a, b] [] pos', [], 0⟩] scope pos) (.list (bitsD (List.zipWith f as bs))) := fun H0 z0 Q q =>
  toE (pe_lc (own := [(x, j), (y, j2)]) (g := bG X scope (.Tuple els kk tp)) (te := bE X scope elt) (tt := tYes) hc hN (RZ.pi_zipA hgl hm pA hs1 hpl) (blkOk_by ok) (fun s H0 C cl fp => pbG) (fun s H0 C cl fp => pts_nil) (fun s H0 C cl fp => pbE) (by intro _; rfl)) ((av_cons (ha.up z0) (av_cons (hb.up z0) av_nil hs2) hs1).run fun vs H1 z r => by
    obtain ⟨v1, v2, rfl, i1, i2⟩ := r.two
    cases i1 with
    | @tup l1 xs _ hl1 hx =>
    cases i2 with
    | @tup l2 ys _ hl2 hy =>
    have ex := bitsV_eq hx
    have ey := bitsV_eq hy
    subst ex ey
    refine ⟨l1, l2, _, _, rfl, .inr ⟨SqT.of hl1, SqT.of hl2, fun D hD => ?_⟩⟩
    refine ⟨fun i m H' => m = as.length - i ∧ i ≤ as.length ∧ Ex H1 H' ∧ H' D = some (.lst (((List.zipWith f as bs).take i).map fun b => V.int (bi b))), ⟨as.length, by simp, Nat.zero_le _, Ex.new hD, upd_same⟩, ?_⟩
    rintro i m H' ⟨rfl, hi', ex, hd⟩
    by_cases hlt : i < as.length
    · have hlt2 : i < bs.length := by omega
      refine .inr ⟨⟨_, _, .int (bi as[i]), .int (bi bs[i]), SqT.of (ex _ _ hl1), SqT.of (ex _ _ hl2), by rw [List.getElem?_map, List.getElem?_eq_getElem hlt]; rfl, by rw [List.getElem?_map, List.getElem?_eq_getElem hlt2]; rfl⟩, fun H2 => Ex H1 H2 ∧ H2 D = some (.lst (((List.zipWith f as bs).take (i + 1)).map fun b => V.int (bi b))), fun H2 p => ⟨as.length - (i + 1), by omega, rfl, hlt, p.1, p.2⟩, fun xv H2 yl => ?_⟩
      obtain ⟨T, x', y', rfl, hT, rfl, f1, f2⟩ := yl
      have g1 := f1 _ (SqT.of (ex _ _ hl1))
      have g2 := f2 _ (SqT.of (ex _ _ hl2))
      rw [List.getElem?_map, List.getElem?_eq_getElem hlt] at g1
      rw [List.getElem?_map, List.getElem?_eq_getElem hlt2] at g2
      cases g1
      cases g2
      have zT := Ex.new (o := .tup [.int (bi as[i]), .int (bi bs[i])]) hT
      refine hg (.ref T) as[i] bs[i] _ _ _ (.tup upd_same (.cons (.int _) (.cons (.int _) .nil))) ⟨wipe22 hjj, ?_⟩
      unfold tYes
      dsimp only
      rw [if_pos rfl]
      refine (he as[i] bs[i] _ _ rfl).run (Ex.refl _) fun v3 H3 z3 p3 => ⟨_, z3 _ _ (zT _ _ hd), sz10' (by rw [List.length_map, List.length_take]; omega), Ex.put (ex.trans (zT.trans z3)) hD, ?_⟩
      rw [upd_same, (p3 H3 (Ex.refl H3)).int_eq, List.take_add_one, List.getElem?_zipWith, List.getElem?_eq_getElem hlt, List.getElem?_eq_getElem hlt2]
      simp
    · have e : i = as.length := by omega
      subst e
      rw [List.take_of_length_le (by rw [List.length_zipWith]; omega)] at hd
      exact .inl ⟨⟨_, _, SqT.of (ex _ _ hl1), SqT.of (ex _ _ hl2), .inl (by rw [List.length_map]; exact Nat.le_refl _)⟩, q _ _ (z.trans ex) fun H3 z3 => .lst (z3 _ _ hd) (bitsV_is _)⟩)
end
theorem zip_step {W : Nat} {taps : List Nat} {st wo : List Bool} (hs : st.length = W) (hw : wo.length = W) (h1 : 1 ≤ W) : List.zipWith Bool.xor (odd (backN taps st) :: st.take (W - 1)) wo = aStep W taps st wo := by
  refine List.ext_getElem? fun k => ?_
  unfold aStep
  rw [List.getElem?_zipWith]
  by_cases hk : k < W
  · have ew : wo[k]? = some (wo.getD k false) := by rw [List.getD_eq_getElem?_getD, List.getElem?_eq_getElem (by omega)]; rfl
    rw [List.getElem?_map, List.getElem?_range hk, ew]
    show _ = some (Bool.xor (if k = 0 then odd (backN taps st) else st.getD (k - 1) false) (wo.getD k false))
    cases k with
    | zero => rfl
    | succ k =>
      have es : st[k]? = some (st.getD k false) := by rw [List.getD_eq_getElem?_getD, List.getElem?_eq_getElem (by omega)]; rfl
      rw [if_neg (by omega), List.getElem?_cons_succ, List.getElem?_take, if_pos (by omega), Nat.add_sub_cancel, es]
  · have en : wo[k]? = none := List.getElem?_eq_none (by omega)
    have en2 : ((List.range W).map (aBit taps st wo))[k]? = none := List.getElem?_eq_none (by rw [List.length_map, List.length_range]; omega)
    rw [en, en2]
    cases (odd (backN taps st) :: st.take (W - 1))[k]? <;> rfl
theorem sum_bi (st : List Bool) : ∀ taps : List Nat, ((taps.map fun t => bi (st.getD t false)).sum : Int) = ((backN taps st : Nat) : Int)
  | [] => rfl
  | a :: r => by
    have ih := sum_bi st r
    unfold backN at ih ⊢
    rw [List.map_cons, List.sum_cons, ih, List.map_cons, List.sum_cons, Int.natCast_add, bi_nat]
/-! ### Press -/
abbrev PC (K : PySem.W.Frag) : Addr := He.ga K "Press"
structure HasPr (K : PySem.W.Frag) (H : Hp) (l W : Nat) (taps : List Nat) (dx : Addr) (vt : V) : Prop where
  at_ : H l = some (.ins (PC K) dx [(("width" : Str), .int (W : Int)), ("taps", vt)])
  taps : Is H vt (.tuple (wsD taps))
theorem HasPr.mono {K : PySem.W.Frag} {H H' : Hp} {l W : Nat} {taps : List Nat} {dx : Addr} {vt : V} (h : HasPr K H l W taps dx vt) (z : Ex H H') : HasPr K H' l W taps dx vt := ⟨z _ _ h.at_, h.taps.mono z⟩
section
variable {P : Program} {w : World} {K : PySem.W.Frag} {mg : Str → Option Value} {base : Heap}
theorem Gd.pCls (g : Gd P w K mg base) : Cls K (PC K) := He.cls_ok (g.c.d.fact 81 rfl)
theorem Gd.pWid (g : Gd P w K mg base) : NoAttr K (PC K) "width" := He.noat_ok (g.c.d.fact 83 rfl)
theorem Gd.pTaps (g : Gd P w K mg base) : NoAttr K (PC K) "taps" := He.noat_ok (g.c.d.fact 84 rfl)
theorem ev_wid {X : Cx} {o : Expr} {σ : L2.St} {H : Hp} {l W : Nat} {taps : List Nat} {dx : Addr} {vt : V} {pos : Pos} (g : Gd X.prog X.w X.K X.mg X.base) (h : HasPr X.K H l W taps dx vt) (ho : EX X σ H o (.ref l)) (hb : attributeBase o "width" X.env (eval o X.env) = eval o X.env := by rfl) : EV X σ H (.Attribute o "width" pos) (.int (W : Int)) :=
  EX.at_ (ex_fld ho h.at_ g.pCls g.pWid rfl hb) (.int _)
theorem ev_taps {X : Cx} {o : Expr} {σ : L2.St} {H : Hp} {l W : Nat} {taps : List Nat} {dx : Addr} {vt : V} {pos : Pos} (g : Gd X.prog X.w X.K X.mg X.base) (h : HasPr X.K H l W taps dx vt) (ho : EX X σ H o (.ref l)) (hb : attributeBase o "taps" X.env (eval o X.env) = eval o X.env := by rfl) : EV X σ H (.Attribute o "taps" pos) (.tuple (wsD taps)) :=
  EX.at_ (ex_fld ho h.at_ g.pCls g.pTaps rfl hb) h.taps
/-- a promise of a method of the press, about data -/
def spP (K : PySem.W.Frag) (rel : Nat → List Nat → List PyData → PyData → Prop) : Sp := fun vs H Q _ => ∃ l W taps dx vt ws ds r, vs = .ref l :: ws ∧ HasPr K H l W taps dx vt ∧ PrW W taps ∧ IsA H ws ds ∧ rel W taps ds r ∧ Giv H (dat r) Q
theorem ok_step (g : Gd P w K mg base) : Mtd P w K mg base 4 (PC K) "step" (spP K fun W taps ds r => ∃ st wo, ds = [.tuple (bitsD st), .tuple (bitsD wo)] ∧ st.length = W ∧ wo.length = W ∧ r = .tuple (bitsD (aStep W taps st wo))) := by
  refine g.mtd 22 97 81 d_Press_step "Press" "step" _ _ sc_Press_step ?_ ?_ bn_Press_step
  · rintro vs H Q E ⟨l, W, taps, dx, vt, ws, ds, r, rfl, _, _, h, ⟨st, wo, rfl, _⟩, _⟩
    exact congrArg (· + 1) h.length
  rintro cdv A outer s H vs Q E hr ⟨l, W, taps, dx, vt, ws, ds, r, rfl, hp, pw, h, ⟨st, wo, rfl, hs, hw, rfl⟩, q⟩
  obtain ⟨v1, v2, rfl, h1, h2⟩ := h.two
  have l1 := pw.lo; have l2 := pw.hi; have l3 := pw.len
  refine go_when (k := false) (TW.is (tw_w (ww_or (k := false) (l := false) (tw_not (k := true) (tw_val (EV.is (ev_callD (ok_are_bits g) hr (Nat.le_refl _) (av_cons (ev_n 1 h1) (av_cons (ev_wid g hp (ex_v 0)) av_nil)) ⟨st, _, rfl, by omega, rfl⟩) (congrArg PyData.bool (decide_eq_true (by omega)))))) fun _ => ww_or1 (tw_not (k := true) (tw_val (EV.is (ev_callD (ok_are_bits g) hr (Nat.le_refl _) (av_cons (ev_n 2 h2) (av_cons (ev_wid g hp (ex_v 0)) av_nil)) ⟨wo, _, rfl, by omega, rfl⟩) (congrArg PyData.bool (decide_eq_true (by omega)))))))) rfl) (fun e _ _ => nomatch e) fun _ H1 z1 => ?_
  have hp := hp.mono z1; have h1 := h1.mono z1; have h2 := h2.mono z1
  refine go_set (P := dat (.int (bi (odd (backN taps st))))) 3 sc_Press_step.nd (EV.is (ev_band (ev_sum g.sum rfl (ns := taps.map fun t => bi (st.getD t false)) (EV.is (ev_lcTm (xs := taps) (enc := fun t => .int ((t : Nat) : Int)) "tap" 4 (fun t => .int (bi (st.getD t false))) sc_Press_step.nd (ev_taps g hp (ex_v 0)) (by omega) fun v t H6 ht z6 r6 s1 H0 C cl fp => ev_ixT (ev_n 1 (h1.mono z6)) (ev_n 4 r6) (atI_n (j := t) (by
    have := pw.lt t ht
    rw [List.getElem?_map, List.getElem?_eq_getElem (by omega), List.getD_eq_getElem?_getD, List.getElem?_eq_getElem (by omega)]
    rfl) _ rfl)) (by rw [List.map_map]; rfl))) ev_int) (by
      rw [KE_and1]
      rw [sum_bi, int_mod2'])) fun v3 H2 z2 p3 => ?_
  rw [p3.int_eq]
  have hp := hp.mono z2; have h1 := h1.mono z2; have h2 := h2.mono z2
  refine go_set (P := dat (.tuple (bitsD (odd (backN taps st) :: st.take (W - 1))))) 5 sc_Press_step.nd (EV.is (ev_catT (ev_tup (av_cons (ev_n 3 (.int _)) av_nil)) (ev_slTt (W - 1) (ev_n 1 h1) (ev_neg ev_int) (by rw [List.length_map, hs]; show ((-1 : Int) + (W : Int)).toNat = _; omega)) (by rw [List.length_take, List.length_map]; show 1 + _ ≤ _; omega)) (by
    unfold bitsD
    rw [List.map_cons, List.map_take]
    rfl)) fun v5 H3 z3 h5 => ?_
  refine go_out (EV.is (ev_tupleL g.tuple (ev_lcZ (as := odd (backN taps st) :: st.take (W - 1)) (bs := wo) "one" "other" 6 7 Bool.xor (by decide) sc_Press_step.nd g.zip (ev_n 5 h5) (ev_n 2 (h2.mono z3)) (by rw [List.length_cons, List.length_take]; omega) (by rw [List.length_cons, List.length_take]; omega) (fun v p q σ' H' Q2 r q2 s1 H0 C cl fp => gt_tup2 rfl r fun v1 v2 i1 i2 => by
    rw [i1.int_eq, i2.int_eq]
    exact gt_n 6 sc_Press_step.nd (gt_n 7 sc_Press_step.nd q2)) fun p q σ' H' e s1 H0 C cl fp => by
      subst e
      refine EV.is (ev_bxor (ev_n 6 (.int _)) (ev_n 7 (.int _))) ?_
      cases p <;> cases q <;> rfl)) (by rw [zip_step hs hw l1])) ((z1.trans z2).trans z3) q
theorem ok_fold (g : Gd P w K mg base) : Mtd P w K mg base 4 (PC K) "fold" (spP K fun W taps ds r => ∃ bs, ds = [.tuple (bitsD bs)] ∧ bs.length ≤ 1000 ∧ r = .tuple (bitsD (foldB W bs))) := by
  refine g.mtd 23 98 81 d_Press_fold "Press" "fold" _ _ sc_Press_fold ?_ ?_ bn_Press_fold
  · rintro vs H Q E ⟨l, W, taps, dx, vt, ws, ds, r, rfl, _, _, h, ⟨bs, rfl, _⟩, _⟩
    exact congrArg (· + 1) h.length
  rintro cdv A outer s H vs Q E hr ⟨l, W, taps, dx, vt, ws, ds, r, rfl, hp, pw, h, ⟨bs, rfl, hl, rfl⟩, q⟩
  obtain ⟨v1, rfl, h1⟩ := h.one'
  have l1 := pw.lo; have l2 := pw.hi
  refine go_when (k := false) (TW.is (tw_w (ww_or (k := false) (l := false) (tw_not (k := true) (tw_val (ev_isi g.isi g.tuple "tuple" (ev_n 1 h1) boot_tuple' rfl))) fun _ => ww_or1 (tw_not (k := true) (tw_val (EV.is (ev_callD (ok_are_bits g) hr (Nat.le_refl _) (av_cons (ev_n 1 h1) (av_cons (ev_lenT g.len (ev_n 1 h1)) av_nil)) ⟨bs, _, rfl, by omega, rfl⟩) (congrArg PyData.bool (decide_eq_true (by rw [List.length_map])))))))) rfl) (fun e _ _ => nomatch e) fun _ H1 z1 => ?_
  have hp := hp.mono z1; have h1 := h1.mono z1
  refine go_set (P := Fr H1 (bitsD (List.replicate W false))) 2 sc_Press_fold.nd (EW.imp (ef_rep (ev_lst (av_cons ev_int av_nil)) (ev_wid g hp (ex_v 0)) (by omega) (by omega) (by decide)) fun v H2 _ p => by rw [Int.toNat_natCast, repT_eq] at p; exact p) fun v2 H2 z2 ⟨a, ys, e2, na, ha, hys⟩ => ?_
  subst e2
  have eys := bitsV_eq hys
  subst eys
  have e0 : List.replicate W false = (List.range W).map (fx W bs 0) := by
    refine List.ext_getElem? fun k => ?_
    by_cases hk : k < W
    · rw [List.getElem?_map, List.getElem?_range hk, List.getElem?_replicate, if_pos hk]
      rfl
    · rw [List.getElem?_eq_none (by rw [List.length_replicate]; omega), List.getElem?_eq_none (by rw [List.length_map, List.length_range]; omega)]
  rw [e0] at ha
  refine go_forET (ds := bitsD bs) (passes_of rfl) rfl g.enumerate (ev_n 1 (h1.mono z2)) fun l3 xs3 H3 z3 hl3 hs3 => ⟨fun i σ' H' => ∃ y3 y4, σ' = [some (.ref l), some v1, some (.ref a), y3, y4] ∧ Ex H1 H' ∧ H' l3 = some (.tup xs3) ∧ H' a = some (.lst (((List.range W).map (fx W bs i)).map fun b => V.int (bi b))), ⟨none, none, rfl, z2.trans z3, hl3, z3 _ _ ha⟩, fun i σ' H' pv => ?_, fun i v d σ' H' T e1 e2 ri pv hT => ?_, fun σ' H' pv => ?_⟩
  · obtain ⟨_, _, _, _, h, _⟩ := pv
    exact h
  · obtain ⟨y3, y4, rfl, z, hl', ha'⟩ := pv
    obtain ⟨b, e3, rfl⟩ := gems e2
    have il : i < bs.length := (List.getElem?_eq_some_iff.mp e3).1
    have zT := Ex.new (o := .tup [.int (i : Int), v]) hT
    have hpT := hp.mono (z.trans zT)
    refine gt_tup2 (d1 := .int (i : Int)) (d2 := .int (bi b)) rfl (.tup upd_same (.cons (.int (i : Nat)) (.cons (by rw [ri.int_eq]; exact .int _) .nil))) fun v1' v2' i1 i2 => ?_
    rw [i1.int_eq, i2.int_eq]
    have hmod : i % W < W := Nat.mod_lt _ (by omega)
    refine gt_n 3 sc_Press_fold.nd (gt_n 4 sc_Press_fold.nd (go_augX (k := i % W) (m := bi (fx W bs i (i % W))) (n := bi b) (ex_v 2) (EV.is (ev_sub (ev_n 3 (.int _)) (ev_mulR (ev_fdiv (ev_n 3 (.int _)) (ev_wid g hpT (ex_v 0)) ⟨by omega, by omega⟩) (ev_wid g hpT (ex_v 0)) ⟨by omega, by omega⟩)) ?_) (ev_n 4 (.int _)) (zT _ _ ha') (by omega) (by rw [List.getElem?_map, List.getElem?_map, List.getElem?_range hmod]; rfl) fun H5 z5 => go_nil ⟨some (.int i), some (.int (bi b)), rfl, Ex.put (z.trans (zT.trans z5)) na, ?_, ?_⟩))
    · congr 1
      have e5 : (i : Int) / (W : Int) = ((i / W : Nat) : Int) := (Int.natCast_ediv _ _).symm
      have e6 := Nat.div_add_mod i W
      rw [e5]
      have e7 : ((i / W : Nat) : Int) * (W : Int) = ((i / W * W : Nat) : Int) := by rw [Int.natCast_mul]
      rw [e7]
      have e8 : i / W * W = W * (i / W) := Nat.mul_comm _ _
      omega
    · rw [upd_ne (ne_of ((zT.trans z5) _ _ hl') ((zT.trans z5) _ _ ha') (fun q => nomatch q))]
      exact (zT.trans z5) _ _ hl'
    · rw [upd_same, fx_step e3, List.map_set]
      congr 3
      cases fx W bs i (i % W) <;> cases b <;> rfl
  · obtain ⟨y3, y4, rfl, z, _, ha'⟩ := pv
    rw [List.length_map] at ha'
    exact go_out (ev_tupleL g.tuple (ev_n 2 (.lst ha' (bitsV_is _)))) (z1.trans z) q
theorem ok_press (g : Gd P w K mg base) : Mtd P w K mg base 5 (PC K) "press" (spP K fun W taps ds r => ∃ wos, ds = [.list (rowsD wos)] ∧ (∀ b ∈ wos, b.length = W) ∧ r = .tuple (bitsD (wos.foldl (aStep W taps) (List.replicate W false)))) := by
  refine g.mtd 24 99 81 d_Press_press "Press" "press" _ _ sc_Press_press ?_ ?_ bn_Press_press
  · rintro vs H Q E ⟨l, W, taps, dx, vt, ws, ds, r, rfl, _, _, h, ⟨bs, rfl, _⟩, _⟩
    exact congrArg (· + 1) h.length
  rintro cdv A outer s H vs Q E hr ⟨l, W, taps, dx, vt, ws, ds, r, rfl, hp, pw, h, ⟨wos, rfl, hw, rfl⟩, q⟩
  obtain ⟨v1, rfl, h1⟩ := h.one'
  have l1 := pw.lo; have l2 := pw.hi
  refine go_set 2 sc_Press_press.nd (EV.is (ev_repT (ev_tup (av_cons ev_int av_nil)) (ev_wid g hp (ex_v 0)) (by simp) l1 (by omega) (by decide)) (congrArg PyData.tuple (repT_eq W))) fun v2 H1 z1 h2 => ?_
  refine go_forL (ds := rowsD wos) (passes_of rfl) rfl (ev_n 1 (h1.mono z1)) fun l3 xs3 H2 z2 hl2 hs2 => ⟨fun i σ' H' => ∃ y2 y3, σ' = [some (.ref l), some v1, some y2, y3] ∧ Ex H2 H' ∧ Is H' y2 (.tuple (bitsD ((wos.take i).foldl (aStep W taps) (List.replicate W false)))) ∧ ((wos.take i).foldl (aStep W taps) (List.replicate W false)).length = W, ⟨v2, none, rfl, Ex.refl _, Is.mono z2 h2, by simp⟩, fun i σ' H' pv => ?_, fun i v d σ' H' e1 e2 ri pv => ?_, fun σ' H' pv => ?_⟩
  · obtain ⟨_, _, _, z, _⟩ := pv
    exact z _ _ hl2
  · obtain ⟨y2, y3, rfl, z, hy, hlen⟩ := pv
    obtain ⟨b, e3, rfl⟩ := gems e2
    have zz := z1.trans (z2.trans z)
    have hpz := hp.mono zz
    have e4 : (wos.take (i + 1)).foldl (aStep W taps) (List.replicate W false) = aStep W taps ((wos.take i).foldl (aStep W taps) (List.replicate W false)) b := by rw [List.take_add_one, e3, List.foldl_append]; rfl
    refine gt_n 3 sc_Press_press.nd (go_set (P := dat (.tuple (bitsD (aStep W taps ((wos.take i).foldl (aStep W taps) (List.replicate W false)) b)))) 2 sc_Press_press.nd (ew_meth (ok_step g) hr (Nat.le_refl _) (ex_v 0) hpz.at_ rfl (av_cons (ev_n 2 hy) (av_cons (ev_n 3 (ri.mono z)) av_nil)) fun vs H6 z6 hv Q2 q2 => ⟨l, W, taps, dx, vt, vs, _, _, rfl, hpz.mono z6, pw, hv, ⟨_, b, rfl, hlen, hw b (memAt e3), rfl⟩, q2⟩) fun v6 H6 z6 h6 => go_nil ⟨v6, some v, rfl, z.trans z6, by rw [e4]; exact h6, by rw [e4]; exact aStep_len⟩)
  · obtain ⟨y2, y3, rfl, z, hy, _⟩ := pv
    rw [List.length_map, List.take_length] at hy
    exact go_out (ev_n 2 hy) (z1.trans (z2.trans z)) q
theorem ok_signature (g : Gd P w K mg base) : Mtd P w K mg base 6 (PC K) "signature" (spP K fun W taps ds r => ∃ tab, ds = [tabD tab] ∧ TabOk tab ∧ r = .tuple (bitsD (sig W taps tab))) := by
  refine g.mtd 25 100 81 d_Press_signature "Press" "signature" _ _ sc_Press_signature ?_ ?_ bn_Press_signature
  · rintro vs H Q E ⟨l, W, taps, dx, vt, ws, ds, r, rfl, _, _, h, ⟨bs, rfl, _⟩, _⟩
    exact congrArg (· + 1) h.length
  rintro cdv A outer s H vs Q E hr ⟨l, W, taps, dx, vt, ws, ds, r, rfl, hp, pw, h, ⟨tab, rfl, tk, rfl⟩, q⟩
  obtain ⟨v1, rfl, h1⟩ := h.one'
  have l3 := tk.1
  refine go_out (R := dat (.tuple (bitsD (sig W taps tab)))) (ew_meth (PA := fun vs H => IsA H vs [.list (rowsD (tab.map (foldB W)))]) (ok_press g) hr (Nat.le_refl _) (ex_v 0) hp.at_ rfl (av_cons (EV.is (ev_lcLm (xs := tab) (enc := fun b => .tuple (bitsD b)) "response" 2 (fun b => .tuple (bitsD (foldB W b))) sc_Press_signature.nd (ev_n 1 h1) (by omega) fun v b H6 hb z6 r6 s1 H0 C cl fp => ew_meth (R := dat (.tuple (bitsD (foldB W b)))) (ok_fold g) hr (by omega) (ex_v 0) (hp.mono z6).at_ rfl (av_cons (ev_n 2 r6) av_nil) fun vs H7 z7 hv Q2 q2 => ⟨l, W, taps, dx, vt, vs, _, _, rfl, (hp.mono z6).mono z7, pw, hv, ⟨b, rfl, tk.2 b hb, rfl⟩, q2⟩) (by
      unfold rowsD
      rw [List.map_map]
      rfl)) av_nil) fun vs H7 z7 hv Q2 q2 => ⟨l, W, taps, dx, vt, vs, _, _, rfl, hp.mono z7, pw, hv, ⟨tab.map (foldB W), rfl, fun b hb => ?_, rfl⟩, q2⟩) (Ex.refl H) q
  obtain ⟨t, _, rfl⟩ := List.mem_map.mp hb
  exact foldB_len
end
end Pw
namespace Pw
open PySem PySem.Spec L2
open Evl (Ex)
theorem eqv_bit (a b : Bool) : PyData.eqv (.int (bi a)) (.int (bi b)) = decide (a = b) := by cases a <;> cases b <;> simp [PyData.eqv, bi]
theorem eqv_bits : ∀ as bs : List Bool, PyData.eqvAll (bitsD as) (bitsD bs) = decide (as = bs)
  | [], [] => by simp [PyData.eqvAll]
  | [], _ :: _ => by simp [PyData.eqvAll]
  | _ :: _, [] => by simp [PyData.eqvAll]
  | a :: r, b :: t => by
    have ih := eqv_bits r t
    have e := eqv_bit a b
    simp only [bitsD, List.map_cons, PyData.eqvAll] at ih ⊢
    rw [e, ih]
    by_cases h : a = b <;> by_cases h2 : r = t <;> simp [h, h2]
theorem eqv_rows : ∀ as bs : List (List Bool), PyData.eqvAll (rowsD as) (rowsD bs) = decide (as = bs)
  | [], [] => by simp [PyData.eqvAll]
  | [], _ :: _ => by simp [PyData.eqvAll]
  | _ :: _, [] => by simp [PyData.eqvAll]
  | a :: r, b :: t => by
    have ih := eqv_rows r t
    have e := eqv_bits a b
    simp only [rowsD, List.map_cons, PyData.eqvAll, PyData.eqv] at ih e ⊢
    rw [e, ih]
    by_cases h : a = b <;> by_cases h2 : r = t <;> simp [h, h2]
theorem eqv_tab (as bs : List (List Bool)) : PyData.eqv (tabD as) (tabD bs) = decide (as = bs) := by
  rw [← eqv_rows]
  simp only [tabD, PyData.eqv]
theorem eqv_sig (as bs : List Bool) : PyData.eqv (.tuple (bitsD as)) (.tuple (bitsD bs)) = decide (as = bs) := by
  rw [← eqv_bits]
  simp only [PyData.eqv]
theorem sd_bits (bs : List Bool) : SD 2 (.tuple (bitsD bs)) := .tup 1 fun d hd => by
  obtain ⟨b, _, rfl⟩ := List.mem_map.mp hd
  exact .int 0 _
theorem sd_tab (t : List (List Bool)) : SD 3 (tabD t) := .lst 2 fun d hd => by
  obtain ⟨b, _, rfl⟩ := List.mem_map.mp hd
  exact sd_bits b
section
variable {X : Cx} {c : Expr} {σ : L2.St} {H : Hp} {pos : Pos} {sts rest : List Stmt} {D : Ends} {e : Expr}
/-- if without else, by a reading of the test -/
theorem go_whenT {Qk : Bool → Hp → Prop} (h : tT X c σ H Qk) (h1 : ∀ H1, Qk true H1 → tSs X sts { D with nx := tSs X rest D } σ H1) (h2 : ∀ H1, Qk false H1 → tSs X rest D σ H1) : tSs X (.If c sts [] pos :: rest) D σ H :=
  go_cons (toS (ps_if pT pSs pSs) fun pins s I => wpAny_mono (h pins s I) (fun b s1 p => by
    obtain ⟨H1, I1, q⟩ := p
    cases b with
    | true => exact ⟨H1, I1, h1 H1 q⟩
    | false => exact ⟨H1, I1, go_nil (h2 H1 q)⟩) fun _ _ z => z)
theorem tT_val {Qk : Bool → Hp → Prop} (h : tE X e σ H fun v H1 => ∃ b, v = .bl b ∧ Qk b H1) (he : ∀ whole, isTrue e X.env whole = (do let v ← whole; standAt e.pos; holding [v] (truthy v)) := by exact fun _ => rfl) : tT X e σ H Qk := toT (pt_val pE he) h
end
def hid (W : Nat) (taps : List Nat) (t1 t2 : List (List Bool)) : Bool := !decide (t1 = t2) && decide (sig W taps t1 = sig W taps t2)
/-! ### breaks that may be none -/
inductive Bk where
  | ok (v : Vn)
  | non
  | three
  | nosuch
def bkD : Bk → PyData
  | .ok v => vD v
  | .non => .none
  | .three => .int 3
  | .nosuch => vD (.stem "none" true)
def bkB : Bk → Bool
  | .ok _ => true
  | _ => false
def BkIn (p : Pt) : Bk → Prop
  | .ok v => VOk p v
  | .nosuch => ("none" : Str) ∉ p.lns
  | _ => True
theorem TD.bk (b : Bk) : TD (bkD b) := by
  cases b with
  | ok v => exact .vn v
  | non => exact .non
  | three => exact .int 3
  | nosuch => exact TD.vn (.stem "none" true)
theorem TD.bks (bs : List Bk) : ∀ x ∈ bs.map bkD, TD x := fun x hx => by
  obtain ⟨z, _, rfl⟩ := List.mem_map.mp hx
  exact .bk z
def lostB (p : Pt) (W : Nat) (taps : List Nat) (pats : List (List Bool)) : Bk → Bool
  | .ok v => hid W taps (lRes p none pats) (lRes p (some v) pats)
  | _ => false
theorem lRes_ok {p : Pt} (wf : Wf p) (ver : Option Vn) {pats : List (List Bool)} (sz : Sizes pats) : TabOk (lRes p ver pats) := by
  have := wf.sm.snk
  refine ⟨?_, fun b hb => ?_⟩
  · unfold lRes
    rw [List.length_map, List.length_range]
    have := sz.1
    omega
  · obtain ⟨j, _, rfl⟩ := List.mem_map.mp hb
    rw [List.length_map]
    omega
section
variable {P : Program} {w : World} {K : PySem.W.Frag} {mg : Str → Option Value} {base : Heap}
def spPInit (K : PySem.W.Frag) : Sp := fun vs H Q _ => ∃ l dx W taps vt, vs = [.ref l, .int ((W : Nat) : Int), vt] ∧ H l = some (.ins (PC K) dx []) ∧ Is H vt (.tuple (wsD taps)) ∧ PrW W taps ∧ ∀ H2 vt', ExB l H H2 → HasPr K H2 l W taps dx vt' → Q .non H2
theorem last_at {taps : List Nat} {x : Nat} (h : taps.getLast? = some x) : atI (wsD taps) (-1) = some (.int ((x : Nat) : Int)) := by
  obtain ⟨ys, rfl⟩ := List.getLast?_eq_some_iff.mp h
  unfold wsD
  rw [List.map_append]
  exact atI_last _ _
theorem ok_Press_init (g : Gd P w K mg base) : Mkr P w K mg base 2 (PC K) "Press" (spPInit K) := by
  refine g.mkr 21 82 51 d_Press_init "Press" _ _ sc_Press_init ?_ ?_ bn_Press_init
  · rintro vs H Q E ⟨l, dx, W, taps, vt, rfl, _⟩
    rfl
  rintro cdv A outer s H vs Q E hr ⟨l, dx, W, taps, vt, rfl, hl, ht, pw, q⟩
  have l1 := pw.lo; have l2 := pw.hi; have l3 := pw.len
  have sdt : SD 2 (.tuple (wsD taps)) := .tup 1 fun d hd => by
    obtain ⟨b, _, rfl⟩ := List.mem_map.mp hd
    exact .int 0 _
  have sdn : SD 2 (.tuple []) := .tup 1 fun d hd => nomatch hd
  have ne : PyData.eqv (.tuple (wsD taps)) (.tuple []) = false := by
    cases htp : taps with
    | nil => exact absurd htp pw.ne
    | cons a r => simp [PyData.eqv, PyData.eqvAll]
  refine go_when (k := false) (TW.is (tw_w (ww_or (k := false) (l := false) (tw_not (k := true) (tw_val (ev_callD (ok_is_integer g) hr (Nat.le_refl _) (av_cons (ev_n 1 (.int _)) (av_cons ev_int (av_cons (ev_cI g.mWidth) av_nil))) ⟨_, _, _, rfl, by omega, by omega, rfl⟩))) fun _ => ww_or (k := false) (l := false) (tw_not (k := true) (tw_val (ev_isi g.isi g.tuple "tuple" (ev_n 2 ht) boot_tuple' rfl))) fun _ => ww_or1 (TW.is (tw_cmp (op_eqD hr.units) rfl (ev_n 2 ht) (ev_tup av_nil) (rb_eqD sdt.shaped sdn.shaped)) ne))) rfl) (fun e _ _ => nomatch e) fun _ H1 z1 => ?_
  refine go_forET (ds := wsD taps) (passes_of rfl) rfl g.enumerate (ev_n 2 (ht.mono z1)) fun l3 xs3 H3 z3 hl3 hs3 => ⟨fun i σ' H' => ∃ y3 y4, σ' = [some (.ref l), some (.int (W : Int)), some vt, y3, y4] ∧ Ex H H' ∧ H' l3 = some (.tup xs3), ⟨none, none, rfl, z1.trans z3, hl3⟩, fun i σ' H' pv => ?_, fun i v d σ' H' T e1 e2 ri pv hT => ?_, fun σ' H' pv => ?_⟩
  · obtain ⟨_, _, _, _, h⟩ := pv
    exact h
  · obtain ⟨y3, y4, rfl, z, hl'⟩ := pv
    obtain ⟨t, e3, rfl⟩ := gems e2
    have htl := pw.lt t (memAt e3)
    have zT := Ex.new (o := .tup [.int (i : Int), v]) hT
    refine gt_tup2 (d1 := .int (i : Int)) (d2 := .int ((t : Nat) : Int)) rfl (.tup upd_same (.cons (.int (i : Nat)) (.cons (by rw [ri.int_eq]; exact .int _) .nil))) fun v1' v2' i1 i2 => ?_
    rw [i1.int_eq, i2.int_eq]
    refine gt_n 3 sc_Press_init.nd (gt_n 4 sc_Press_init.nd (go_when (k := false) (TW.is (tw_w (ww_or (k := false) (l := false) (tw_not (k := true) (tw_val (ev_callD (ok_is_integer g) hr (Nat.le_refl _) (av_cons (ev_n 4 (.int _)) (av_cons ev_int (av_cons (ev_sub (ev_n 1 (.int _)) ev_int) av_nil))) ⟨_, _, _, rfl, by omega, by omega, rfl⟩))) fun _ => ww_or1 (tw_w (WW.is (ww_and (tw_cmp op_gt rfl (ev_n 3 (.int _)) ev_int rb_I) (l := false) fun h0 => ww_and1 ?_) ?_)))) rfl) (fun e _ _ => nomatch e) fun _ H5 z5 => go_nil ⟨some (.int i), some (.int t), rfl, z.trans (zT.trans z5), z5 _ _ (zT _ _ hl')⟩))
    · have h0 := of_decide_eq_true h0
      have hi1 : 1 ≤ i := by omega
      have il : i < taps.length := (List.getElem?_eq_some_iff.mp e3).1
      obtain ⟨u, hu⟩ : ∃ u, taps[i - 1]? = some u := ⟨_, List.getElem?_eq_getElem (by omega)⟩
      have lt := pw.inc (i - 1) u t hu (by rw [Nat.sub_add_cancel hi1]; exact e3)
      exact TW.is (tw_cmp op_le rfl (ev_n 4 (.int _)) (ev_ixT (d := .int ((u : Nat) : Int)) (ev_n 2 (ht.mono (z.trans zT))) (ev_sub (ev_n 3 (.int _)) ev_int) (atI_n (j := i - 1) (by rw [List.getElem?_map, hu]; rfl) _ (by omega))) rb_I) (decide_eq_false (by omega))
    · exact Bool.and_false _
  · obtain ⟨y3, y4, rfl, z, _⟩ := pv
    refine go_when (k := false) (TW.is (tw_cmp op_ne rfl (ev_ixT (ev_n 2 (ht.mono z)) (ev_neg ev_int) (last_at pw.last)) (ev_sub (ev_n 1 (.int _)) ev_int) rb_neI) (by rw [decide_eq_true (by omega)]; rfl)) (fun e _ _ => nomatch e) fun _ H5 z5 => ?_
    have z6 := z.trans z5
    refine go_fldC (P := val (.int (W : Int))) (ex_v 1) (ex_v 0) (z6 _ _ hl) g.pCls g.pWid (Nat.le_of_ble_eq_true rfl) fun u1 H7 HA z7 i1 l1 k1 b1 _ => ?_
    have i1 : u1 = .int (W : Int) := i1
    subst i1
    have ht7 := k1 _ _ ((ht.mono z6).mono z7)
    refine go_fldC (P := val vt) (ex_v 2) (ex_v 0) l1 g.pCls g.pTaps (Nat.le_of_ble_eq_true rfl) fun u2 H8 HB z8 i2 l2 k2 b2 _ => ?_
    have i2 : u2 = vt := i2
    subst i2
    exact go_nil (q HB u2 ((ExB.trans (Ex.exB (z6.trans z7)) b1).trans (ExB.trans (Ex.exB z8) b2)) ⟨l2, k2 _ _ (ht7.mono z8)⟩)
def spHid (K : PySem.W.Frag) : Sp := fun vs H Q _ => ∃ lp W taps dx vt v1 v2 t1 t2, vs = [.ref lp, v1, v2] ∧ HasPr K H lp W taps dx vt ∧ PrW W taps ∧ Is H v1 (tabD t1) ∧ Is H v2 (tabD t2) ∧ TabOk t1 ∧ TabOk t2 ∧ Giv H (dat (.bool (hid W taps t1 t2))) Q
theorem ok_hidden (g : Gd P w K mg base) : Fnc P w K mg base 7 "hidden" (spHid K) := by
  refine g.fnc 26 16 d_hidden "hidden" _ _ sc_hidden ?_ ?_ bn_hidden
  · rintro vs H Q E ⟨lp, W, taps, dx, vt, v1, v2, t1, t2, rfl, _⟩
    rfl
  rintro cdv A outer s H vs Q E hr ⟨lp, W, taps, dx, vt, v1, v2, t1, t2, rfl, hp, pw, h1, h2, k1, k2, q⟩
  refine go_out (EV.is (ev_and (k := !decide (t1 = t2)) (EV.is (ev_cmp (op_neD hr.units) rfl (ev_listL g.list (ev_n 1 h1)) (ev_listL g.list (ev_n 2 h2)) (rb_neD (sd_tab t1).shaped (sd_tab t2).shaped)) (congrArg PyData.bool (congrArg (!·) (eqv_tab t1 t2)))) fun _ => ev_one (EV.is (ev_cmp (op_eqD hr.units) rfl (ew_meth (R := dat (.tuple (bitsD (sig W taps t1)))) (ok_signature g) hr (Nat.le_refl _) (ex_v 0) hp.at_ rfl (av_cons (ev_n 1 h1) av_nil) fun vs H7 z7 hv Q2 q2 => ⟨lp, W, taps, dx, vt, vs, _, _, rfl, hp.mono z7, pw, hv, ⟨t1, rfl, k1, rfl⟩, q2⟩) (ew_meth (R := dat (.tuple (bitsD (sig W taps t2)))) (ok_signature g) hr (Nat.le_refl _) (ex_v 0) hp.at_ rfl (av_cons (ev_n 2 h2) av_nil) fun vs H7 z7 hv Q2 q2 => ⟨lp, W, taps, dx, vt, vs, _, _, rfl, hp.mono z7, pw, hv, ⟨t2, rfl, k2, rfl⟩, q2⟩) (rb_eqD (sd_bits _).shaped (sd_bits _).shaped)) (congrArg PyData.bool (eqv_sig _ _)))) rfl) (Ex.refl H) q
def spCBr (K : PySem.W.Frag) : Sp := fun vs H Q E => ∃ (lc : Addr) (v : V) (p : Pt) (ord : List G) (dxc : Addr) (fsc : List (Str × V)) (bks : List Bk), vs = [.ref lc, v] ∧ CircOk K H lc p ord dxc fsc ∧ Is H v (.list (bks.map bkD)) ∧ Wf p ∧ Fm p ∧ (∀ b ∈ bks, BkIn p b) ∧ Out (bks.all bkB) (BB K) H Q E
theorem ok_check_breaks (g : Gd P w K mg base) : Fnc P w K mg base 6 "check_breaks" (spCBr K) := by
  refine g.fnc 20 15 d_check_breaks "check_breaks" _ _ sc_check_breaks ?_ ?_ bn_check_breaks
  · rintro vs H Q E ⟨lc, v, p, ord, dxc, fsc, bks, rfl, _⟩
    rfl
  rintro cdv A outer s H vs Q E hr ⟨lc, v, p, ord, dxc, fsc, bks, rfl, hc, hv, wf, fm, bi, q⟩
  have tk := bxTakes (P := P) (w := w) (K := K) (mg := mg) (base := base) (N := N_check_breaks) (d := d_check_breaks) (f := He.fAd K d_check_breaks.at_) (cdv := cdv) (A := A) (outer := outer) (s := s) (H := H) (E := E) rfl
  refine go_forL (ds := bks.map bkD) (passes_of rfl) rfl (ev_n 1 hv) fun l xs H3 z3 hl hs => ⟨fun i σ' H' => ∃ y, σ' = [some (.ref lc), some v, y] ∧ Ex H3 H' ∧ (bks.take i).all bkB = true, ⟨none, rfl, Ex.refl _, by simp⟩, fun i σ' H' pv => ?_, fun i u d σ' H' e1 e2 ri pv => ?_, fun σ' H' pv => ?_⟩
  · obtain ⟨_, _, z, _⟩ := pv
    exact z _ _ hl
  · obtain ⟨y, rfl, z4, hb⟩ := pv
    obtain ⟨b, e3, rfl⟩ := gems e2
    have zz := z3.trans z4
    have bad : bkB b = false → ∀ H', Ex H H' → E (BB K) none H' := fun e => q.2 (by
      cases ha : bks.all bkB with
      | false => rfl
      | true =>
        have := List.all_eq_true.mp ha b (memAt e3)
        rw [e] at this
        cases this)
    have good : bkB b = true → (bks.take (i + 1)).all bkB = true := fun e => by
      rw [List.take_add_one, e3, List.all_append, hb]
      simp [e]
    have ri4 := ri.mono z4
    refine gt_n 2 sc_check_breaks.nd (go_expr (te_callX (ok_check_version g) hr (Nat.le_refl _) tk (aw_cons (ex_v 0) (aw_cons (P := dat (bkD b)) (ev_n 2 ri4) aw_nil)) fun vs H5 z5 hv5 => ?_))
    obtain ⟨w1, r1, rfl, i1, w2, r2, rfl, i2, rfl⟩ := hv5
    rw [show w1 = .ref lc from i1]
    have hcz := hc.mono (zz.trans z5)
    have hin := bi b (memAt e3)
    cases b with
    | ok vn =>
      refine ⟨lc, w2, p, ord, dxc, fsc, vD vn, true, rfl, hcz, i2, wf, fm, .brk (.ok hin), fun _ u2 H6 z6 _ => ?_, fun e => nomatch e⟩
      have e5 : u ≠ .non := fun e => by
        rw [e] at ri4
        cases vn <;> cases ri4
      exact go_when (k := false) (TW.is (tw_isN (ex_v 2)) (decide_eq_false e5)) (fun e _ _ => nomatch e) fun _ H7 z7 => go_nil ⟨some u, rfl, z4.trans (z5.trans (z6.trans z7)), good rfl⟩
    | non =>
      refine ⟨lc, w2, p, ord, dxc, fsc, .none, true, rfl, hcz, i2, wf, fm, .non, fun _ u2 H6 z6 _ => ?_, fun e => nomatch e⟩
      have e5 : u = .non := Is.non_eq ri4
      exact go_when (k := true) (TW.is (tw_isN (ex_v 2)) (decide_eq_true e5)) (fun _ H7 z7 => go_raiseB g rfl (bad rfl _ (zz.trans (z5.trans (z6.trans z7))))) fun e _ _ => nomatch e
    | three => exact ⟨lc, w2, p, ord, dxc, fsc, .int 3, false, rfl, hcz, i2, wf, fm, .brk .three, fun e => (nomatch e), fun _ H6 z6 => bad rfl _ (zz.trans (z5.trans z6))⟩
    | nosuch => exact ⟨lc, w2, p, ord, dxc, fsc, _, false, rfl, hcz, i2, wf, fm, .brk (.none hin), fun e => (nomatch e), fun _ H6 z6 => bad rfl _ (zz.trans (z5.trans z6))⟩
  · obtain ⟨y, rfl, z4, hb⟩ := pv
    rw [List.length_map, List.take_length] at hb
    exact go_nil (q.1 hb _ _ (z3.trans z4) fun _ _ => .non)
def spLost (K : PySem.W.Frag) : Sp := fun vs H Q E => ∃ (lc : Addr) (vb vp : V) (lp : Addr) (p : Pt) (ord : List G) (dxc : Addr) (fsc : List (Str × V)) (bks : List Bk) (pats : List (List Bool)) (W : Nat) (taps : List Nat) (dx : Addr) (vt : V), vs = [.ref lc, vb, vp, .ref lp] ∧ CircOk K H lc p ord dxc fsc ∧ Is H vb (.list (bks.map bkD)) ∧ Is H vp (patsD pats) ∧ HasPr K H lp W taps dx vt ∧ PrW W taps ∧ Wf p ∧ Fm p ∧ (∀ b ∈ bks, BkIn p b) ∧ bks.length ≤ 1000 ∧ Sizes pats ∧
  (bks.all bkB = true → LenOk p pats → Giv H (dat (.list ((bks.filter (lostB p W taps pats)).map bkD))) Q) ∧ (bks.all bkB = false → ∀ H', Ex H H' → E (BB K) none H') ∧ (bks.all bkB = true → ¬ LenOk p pats → ∀ H', Ex H H' → E (BP K) none H')
theorem ok_lost (g : Gd P w K mg base) : Fnc P w K mg base 8 "lost" (spLost K) := by
  refine g.fnc 27 17 d_lost "lost" _ _ sc_lost ?_ ?_ bn_lost
  · rintro vs H Q E ⟨lc, vb, vp, lp, p, ord, dxc, fsc, bks, pats, W, taps, dx, vt, rfl, _⟩
    rfl
  rintro cdv A outer s H vs Q E hr ⟨lc, vb, vp, lp, p, ord, dxc, fsc, bks, pats, W, taps, dx, vt, rfl, hc, hb, hpa, hp, pw, wf, fm, bin, bl, sz, q1, q2, q3⟩
  cases hb with
  | @lst lb xb _ hlb hxb =>
  have hb : Is H (.ref lb) (.list (bks.map bkD)) := .lst hlb hxb
  have tk := bxTakes (P := P) (w := w) (K := K) (mg := mg) (base := base) (N := N_lost) (d := d_lost) (f := He.fAd K d_lost.at_) (cdv := cdv) (A := A) (outer := outer) (s := s) (H := H) (E := E) rfl
  refine go_expr (te_callX (ok_check_breaks g) hr (by omega) tk (aw_cons (ex_v 0) (aw_cons (P := dat (.list (bks.map bkD))) (ev_n 1 hb) aw_nil)) fun vs H1 z1 hv1 => ?_)
  obtain ⟨w1, r1, rfl, i1, w2, r2, rfl, i2, rfl⟩ := hv1
  rw [show w1 = .ref lc from i1]
  refine ⟨lc, w2, p, ord, dxc, fsc, bks, rfl, hc.mono z1, i2, wf, fm, bin, fun allok u H2 z2 _ => ?_, fun e H2 z2 => q2 e H2 (z1.trans z2)⟩
  have z12 := z1.trans z2
  refine go_setT 4 sc_lost.nd (te_callX (ok_responses g) hr (by omega) tk (aw_cons (ex_v 0) (aw_cons (P := dat .none) ev_non (aw_cons (P := dat (patsD pats)) (ev_n 2 (hpa.mono z12)) aw_nil))) fun vs H3 z3 hv3 => ?_)
  obtain ⟨w1, r1, rfl, i1, w2, r2, rfl, i2, w3, r3, rfl, i3, rfl⟩ := hv3
  rw [show w1 = .ref lc from i1]
  refine ⟨lc, w2, w3, p, ord, dxc, fsc, none, pats, rfl, hc.mono (z12.trans z3), i2, i3, wf, fm, fun v e => (nomatch e), sz, fun lo v4 H4 z4 p4 => ?_, fun lo H4 z4 => q3 allok lo H4 (z12.trans (z3.trans z4))⟩
  have z14 := z12.trans (z3.trans z4)
  have h4 := p4 H4 (Ex.refl H4)
  have q := q1 allok lo
  refine go_set 5 sc_lost.nd (ef_lst av_nil) fun w5 H5 z5 ⟨a, xs, e5, na, ha, hxs⟩ => ?_
  subst e5
  cases hxs
  have z15 := z14.trans z5
  have nH : H a = none := none_of z14 na
  have nlb : lb ≠ a := ne_of_none hlb nH
  refine go_forA (ds := bks.map bkD) (passes_of rfl) rfl (ex_v 1) (z15 _ _ hlb) (hxb.mono z15) fun H6 z6 => ⟨fun i σ' H' => ∃ y, σ' = [some (.ref lc), some (.ref lb), some vp, some (.ref lp), some v4, some (.ref a), y] ∧ Ex H4 H' ∧ ExT H6 H' ∧ ∃ ys, H' a = some (.lst ys) ∧ IsA H' ys (((bks.take i).filter (lostB p W taps pats)).map bkD), ⟨none, rfl, z5.trans z6, ExT.refl _, [], z6 _ _ ha, .nil⟩, fun i σ' H' pv => ?_, fun i v d σ' H' e1 e2 ri pv => ?_, fun σ' H' pv => ?_⟩
  · obtain ⟨_, _, z, _⟩ := pv
    exact z _ _ (z14 _ _ hlb)
  · obtain ⟨y, rfl, z, xt, ys, ha', hys⟩ := pv
    obtain ⟨b, e3, rfl⟩ := gems e2
    have zz := z14.trans z
    have hbb := List.all_eq_true.mp allok b (memAt e3)
    obtain ⟨vn, rfl⟩ : ∃ vn, b = .ok vn := by
      cases b with
      | ok vn => exact ⟨vn, rfl⟩
      | non => cases hbb
      | three => cases hbb
      | nosuch => cases hbb
    have vo : VOk p vn := bin _ (memAt e3)
    have ri' := ri.tmono xt (.bk _)
    have fil : (bks.take (i + 1)).filter (lostB p W taps pats) = (bks.take i).filter (lostB p W taps pats) ++ (if hid W taps (lRes p none pats) (lRes p (some vn) pats) = true then [Bk.ok vn] else []) := by
      rw [List.take_add_one, e3, List.filter_append]
      show _ ++ List.filter _ [Bk.ok vn] = _
      cases h : hid W taps (lRes p none pats) (lRes p (some vn) pats) with
      | true => rw [List.filter_cons, if_pos (show lostB p W taps pats (.ok vn) = true from h)]; rfl
      | false => rw [List.filter_cons, if_neg (show ¬ lostB p W taps pats (.ok vn) = true by show ¬ hid _ _ _ _ = true; rw [h]; exact Bool.false_ne_true)]; rfl
    refine gt_n 6 sc_lost.nd (go_whenT (Qk := fun k H7 => k = hid W taps (lRes p none pats) (lRes p (some vn) pats) ∧ Ex H' H7) ?_ (fun H7 ⟨ek, z7⟩ => ?_) fun H7 ⟨ek, z7⟩ => ?_)
    · refine tT_val ((ew_call (R := dat (.bool (hid W taps (lRes p none pats) (lRes p (some vn) pats)))) (PA := fun vs H7 => ∃ w1 r1, vs = w1 :: r1 ∧ w1 = .ref lp ∧ ∃ w2 r2, r1 = w2 :: r2 ∧ Is H7 w2 (tabD (lRes p none pats)) ∧ ∃ w3 r3, r2 = w3 :: r3 ∧ Is H7 w3 (tabD (lRes p (some vn) pats)) ∧ r3 = []) (ok_hidden g) hr (Nat.le_refl _) (aw_cons (ex_v 3) (aw_cons (P := dat (tabD (lRes p none pats))) (ev_n 4 (Is.mono z h4)) (aw_cons (P := dat (tabD (lRes p (some vn) pats))) (fun H8 z8 Q8 q8 => te_callX (ok_responses g) hr (Nat.le_refl _) tk (aw_cons (ex_v 0) (aw_cons (P := dat (vD vn)) (ev_n 6 (ri'.mono z8)) (aw_cons (P := dat (patsD pats)) (ev_n 2 (hpa.mono (zz.trans z8))) aw_nil))) fun vs H9 z9 hv9 => ?_) aw_nil))) fun vs H9 z9 hv9 Q9 q9 => ?_).run fun v7 H7 z7 p7 => ⟨_, p7.bl_eq, rfl, z7⟩)
      · obtain ⟨w1, r1, rfl, i1, w2, r2, rfl, i2, w3, r3, rfl, i3, rfl⟩ := hv9
        rw [show w1 = .ref lc from i1]
        exact ⟨lc, w2, w3, p, ord, dxc, fsc, some vn, pats, rfl, hc.mono (zz.trans (z8.trans z9)), i2, i3, wf, fm, fun v e => by cases e; exact vo, sz, fun _ u9 H10 z10 p10 => q8 u9 H10 (z9.trans z10) p10, fun nlo => absurd lo nlo⟩
      · obtain ⟨w1, r1, rfl, i1, w2, r2, rfl, i2, w3, r3, rfl, i3, rfl⟩ := hv9
        rw [i1]
        exact ⟨lp, W, taps, dx, vt, w2, w3, _, _, rfl, hp.mono (zz.trans z9), pw, i2, i3, lRes_ok wf none sz, lRes_ok wf (some vn) sz, q9⟩
    · refine go_push (P := dat (bkD (.ok vn))) (ex_v 5) (ev_n 6 (ri'.mono z7)) (z7 _ _ ha') (by rw [hys.length, List.length_map]; have := List.length_filter_le (lostB p W taps pats) (bks.take i); rw [List.length_take] at this; omega) fun v8 H8 z8 p8 => go_nil (go_nil ⟨some v, rfl, Ex.put (z.trans (z7.trans z8)) na, (xt.trans (.of (z7.trans z8))).put ((z7.trans z8) _ _ ha') (fun _ q => nomatch q), _, upd_same, ?_⟩)
      have ha8 := (z7.trans z8) _ _ ha'
      rw [fil, ← ek, if_pos rfl, List.map_append]
      exact ((hys.mono (z7.trans z8)).tput (TD.bks _) ha8).append (IsA.tput (.cons p8 .nil) (TD.bks [.ok vn]) ha8)
    · refine go_nil ⟨some v, rfl, z.trans z7, xt.trans (.of z7), ys, z7 _ _ ha', ?_⟩
      rw [fil, ← ek, if_neg Bool.false_ne_true, List.append_nil]
      exact hys.mono z7
  · obtain ⟨y, rfl, z, _, ys, ha', hys⟩ := pv
    rw [List.length_map, List.take_length] at hys
    exact go_out (ev_n 5 (.lst ha' hys)) (z14.trans z) q
end
end Pw
namespace Pw
open PySem PySem.Spec L2
open Evl (Ex)
/-! ### drawing: the draws at l stand beside the heap G -/
def DsOk (s : Addr) (G : Hp) (ds : List V) : Prop := ∃ (a b c : Int) (ns : List Int), ds = [.ref s, .int a, .int b, .int c] ∧ G s = some (.lst (ns.map V.int)) ∧ 0 ≤ a ∧ 0 ≤ b ∧ 0 ≤ c
def DrSt (l s : Addr) (G H : Hp) : Prop := G l = none ∧ ∃ ds, DsOk s G ds ∧ H = upd G l (.lst ds)
theorem DsOk.mono {s : Addr} {G G' : Hp} {ds : List V} (h : DsOk s G ds) (z : Ex G G') : DsOk s G' ds := by
  obtain ⟨a, b, c, ns, e, hs, h1, h2, h3⟩ := h
  exact ⟨a, b, c, ns, e, z _ _ hs, h1, h2, h3⟩
theorem DrSt.ex {l s : Addr} {G H : Hp} (h : DrSt l s G H) : Ex G H := by
  obtain ⟨n, ds, _, rfl⟩ := h
  exact Ex.new n
theorem upd_comm {H : Hp} {a b : Addr} {o u : HO} (h : a ≠ b) : upd (upd H a o) b u = upd (upd H b u) a o := by
  funext x
  by_cases h1 : x = a
  · rw [h1, upd_ne h, upd_same, upd_same]
  · by_cases h2 : x = b
    · rw [h2, upd_same, upd_ne (Ne.symm h), upd_same]
    · rw [upd_ne h2, upd_ne h1, upd_ne h1, upd_ne h2]
/-- something put beside -/
theorem DrSt.put {l s a : Addr} {G H : Hp} {o : HO} (h : DrSt l s G H) (hne : a ≠ l) (hs : a ≠ s) : DrSt l s (upd G a o) (upd H a o) := by
  obtain ⟨n, ds, ok, rfl⟩ := h
  refine ⟨by rw [upd_ne (Ne.symm hne)]; exact n, ds, ?_, upd_comm (Ne.symm hne)⟩
  obtain ⟨x, b, c, ns, e, h0, h1, h2, h3⟩ := ok
  exact ⟨x, b, c, ns, e, by rw [upd_ne (Ne.symm hs)]; exact h0, h1, h2, h3⟩
theorem DrSt.sAt {l s : Addr} {G H : Hp} (h : DrSt l s G H) : ∃ ns : List Int, G s = some (.lst (ns.map V.int)) := by
  obtain ⟨n, ds, ⟨x, b, c, ns, e, h0, _⟩, _⟩ := h
  exact ⟨ns, h0⟩
theorem DrSt.lAt {l s : Addr} {G H : Hp} (h : DrSt l s G H) : ∃ ds, H l = some (.lst ds) := by
  obtain ⟨n, ds, _, rfl⟩ := h
  exact ⟨ds, upd_same⟩
theorem DrSt.new {l s a : Addr} {G H : Hp} {o : HO} (h : DrSt l s G H) (hn : H a = none) : DrSt l s (upd G a o) (upd H a o) := by
  obtain ⟨ns, h1⟩ := h.sAt
  obtain ⟨ds, h2⟩ := h.lAt
  refine h.put (fun e => by rw [e, h2] at hn; cases hn) fun e => ?_
  have := h.ex _ _ h1
  rw [← e, hn] at this
  cases this
def DW (l s : Addr) (X : Cx) (σ : L2.St) (G : Hp) (e : Expr) (P : PV) : Prop := ∀ G1, Ex G G1 → ∀ H1, DrSt l s G1 H1 → ∀ Q : VK, (∀ v G2 H2, Ex G1 G2 → DrSt l s G2 H2 → (∀ G3, Ex G2 G3 → P v G3) → Q v H2) → tE X e σ H1 Q
def DT (l s : Addr) (X : Cx) (σ : L2.St) (G : Hp) (e : Expr) (P : Bool → Prop) : Prop := ∀ G1, Ex G G1 → ∀ H1, DrSt l s G1 H1 → ∀ Q : Bool → Hp → Prop, (∀ b G2 H2, Ex G1 G2 → DrSt l s G2 H2 → P b → Q b H2) → tT X e σ H1 Q
def DA (l s : Addr) (X : Cx) (σ : L2.St) (G : Hp) (es : List Expr) (P : List V → Hp → Prop) : Prop := ∀ G1, Ex G G1 → ∀ H1, DrSt l s G1 H1 → ∀ Q : List V → Hp → Prop, (∀ vs G2 H2, Ex G1 G2 → DrSt l s G2 H2 → (∀ G3, Ex G2 G3 → P vs G3) → Q vs H2) → tA X es σ H1 Q
abbrev IntIn (lo hi : Int) : PV := fun v _ => ∃ r : Int, v = .int r ∧ lo ≤ r ∧ r < hi
section
variable {X : Cx} {e a b c : Expr} {es : List Expr} {σ : L2.St} {G H : Hp} {P P' R : PV} {l s : Addr} {pos : Pos} {x : Str} {k j : Nat}
theorem DW.up (h : DW l s X σ G e P) {G' : Hp} (z : Ex G G') : DW l s X σ G' e P := fun G1 y H1 st Q q => h G1 (z.trans y) H1 st Q q
theorem DT.up {P : Bool → Prop} (h : DT l s X σ G e P) {G' : Hp} (z : Ex G G') : DT l s X σ G' e P := fun G1 y H1 st Q q => h G1 (z.trans y) H1 st Q q
theorem DW.imp (h : DW l s X σ G e P) (w : ∀ v G1, Ex G G1 → P v G1 → P' v G1) : DW l s X σ G e P' := fun G1 z H1 st Q q => h G1 z H1 st Q fun v G2 H2 z2 st2 p => q v G2 H2 z2 st2 fun G3 z3 => w v G3 ((z.trans z2).trans z3) (p G3 z3)
theorem hideSt {G1 G2 : Hp} {ds : List V} (n : G1 l = none) (ok : DsOk s G1 ds) (y : Ex (delA (upd G1 l (.lst ds)) l) G2) (n2 : G2 l = none) : Ex G1 G2 ∧ DrSt l s G2 (upd G2 l (.lst ds)) := by
  rw [delA_upd n] at y
  exact ⟨y, n2, ds, ok.mono y, rfl⟩
/-- what does not draw -/
theorem dw_of (h : EW X σ G e P) : DW l s X σ G e P := fun G1 z H1 st Q q => by
  obtain ⟨n, ds, ok, rfl⟩ := st
  refine tE_hide (D := l) (o := .lst ds) upd_same trivial (h _ (by rw [delA_upd n]; exact z) _ fun v G2 y p n2 => ?_)
  obtain ⟨y', st'⟩ := hideSt n ok y n2
  exact q v G2 _ y' st' fun G3 z3 => p G3 z3
theorem dt_of {k : Bool} (h : TW X σ G e k) : DT l s X σ G e (fun b => b = k) := fun G1 z H1 st Q q => by
  obtain ⟨n, ds, ok, rfl⟩ := st
  refine tT_hide (D := l) (o := .lst ds) upd_same trivial (h _ (by rw [delA_upd n]; exact z) _ fun G2 y n2 => ?_)
  obtain ⟨y', st'⟩ := hideSt n ok y n2
  exact q k G2 _ y' st' rfl
theorem da_nil : DA l s X σ G [] (fun vs _ => vs = []) := fun G1 z H1 st Q q => toA pa_nil (q [] G1 H1 (Ex.refl _) st fun _ _ => rfl)
theorem da_cons {P' : List V → Hp → Prop} (h : DW l s X σ G e P) (t : DA l s X σ G es P') (hs : starEach (e :: es) X.env = (false, eval e X.env) :: starEach es X.env := by rfl) : DA l s X σ G (e :: es) (fun vs G1 => ∃ v r, vs = v :: r ∧ P v G1 ∧ P' r G1) := fun G1 z H1 st Q q =>
  toA (pa_cons pE pA hs) (h G1 z H1 st _ fun v G2 H2 y st2 p => t G2 (z.trans y) H2 st2 _ fun r G3 H3 y2 st3 p' => q (v :: r) G3 H3 (y.trans y2) st3 fun G4 y4 => ⟨v, r, rfl, p G4 (y2.trans y4), p' G4 y4⟩)
/-- the promise of a def that draws: its first argument is the draws -/
def SpD (pre : List V → Hp → PV → Prop) : Sp := fun vs H Q _ => ∃ l s G ws R, DrSt l s G H ∧ vs = .ref l :: ws ∧ pre ws G R ∧ ∀ v G2 H2, Ex G G2 → DrSt l s G2 H2 → (∀ G3, Ex G2 G3 → R v G3) → Q v H2
theorem dw_call {pre : List V → Hp → PV → Prop} {p : Pos} {PA : List V → Hp → Prop} (F : Fnc X.prog X.w X.K X.mg X.base k x (SpD pre)) (hr : Room j X.A) (hk : k ≤ j) (h0 : EX X σ G e (.ref l)) (ha : DA l s X σ G es PA) (hs : ∀ vs G2, Ex G G2 → PA vs G2 → pre vs G2 R)
    (hg : Gl X x := by rfl) (hdb : (x == ("__debug__" : Str)) = false := by decide) (he : starEach (e :: es) X.env = (false, eval e X.env) :: starEach es X.env := by rfl) (hpl : (backTo pos (starEach es X.env)).any (·.1) = false := by rfl) : DW l s X σ G (.Call (.Name x p) (e :: es) [] pos) R := by
  obtain ⟨f, fd, ps, F, hm, kp, hb⟩ := F
  exact fun G1 z H1 st Q q => toE (pe_call F (hr.mono hk) hg hm kp hb .nil passL pA hdb he hpl) (da_cons (dw_of h0) ha he G1 z H1 st _ fun vs G2 H2 z2 st2 p => by
    rw [List.append_nil]
    obtain ⟨v, r, rfl, p1, p2⟩ := p G2 (Ex.refl G2)
    rw [show v = .ref l from p1]
    exact ⟨l, s, G2, r, R, st2, rfl, hs r G2 (z.trans z2) p2, fun w G3 H3 z3 st3 g => q w G3 H3 (z2.trans z3) st3 g⟩)
theorem dw_opI {op : Operator} {g : Int → Int → Int} (ho : OpR X (binaryOp op) (rI0 fun i j => .int (g i j))) (ha : DW l s X σ G a P) (hb : DW l s X σ G b P') (h : ∀ u v G1, Ex G G1 → P u G1 → P' v G1 → ∃ i j, u = .int i ∧ v = .int j ∧ ∀ G2, R (.int (g i j)) G2) : DW l s X σ G (.BinOp a op b pos) R := fun G1 z H1 st Q q =>
  toE (pe_op ho pE pE) (ha G1 z H1 st _ fun u G2 H2 z2 st2 p => hb G2 (z.trans z2) H2 st2 _ fun v G3 H3 z3 st3 p' => by
    obtain ⟨i, j, rfl, rfl, hR⟩ := h u v G3 ((z.trans z2).trans z3) (p G3 z3) (p' G3 (Ex.refl _))
    exact ⟨i, j, rfl, rfl, q _ G3 H3 (z2.trans z3) st3 fun G4 _ => hR G4⟩)
theorem dt_cmpI {op : CmpOp} {g : Int → Int → Bool} (ho : OpR X (compareOp op) (rI0 fun i j => .bl (g i j))) (hm : behindInMarks op b = false) (ha : DW l s X σ G a P) (hb : DW l s X σ G b P') (h : ∀ u v G1, Ex G G1 → P u G1 → P' v G1 → ∃ i j, u = .int i ∧ v = .int j) : DT l s X σ G (.Compare a [op] [b] pos) (fun _ => True) := fun G1 z H1 st Q q =>
  toT (pt_cmpR ho pE pE hm) (ha G1 z H1 st _ fun u G2 H2 z2 st2 p => hb G2 (z.trans z2) H2 st2 _ fun v G3 H3 z3 st3 p' => by
    obtain ⟨i, j, rfl, rfl⟩ := h u v G3 ((z.trans z2).trans z3) (p G3 z3) (p' G3 (Ex.refl _))
    exact ⟨i, j, rfl, rfl, ⟨_, rfl, q _ G3 H3 (z2.trans z3) st3 True.intro⟩⟩)
theorem dw_if {Pb : Bool → Prop} (hc : DT l s X σ G c Pb) (h1 : Pb true → DW l s X σ G a P) (h2 : Pb false → DW l s X σ G b P) : DW l s X σ G (.IfExp c a b pos) P := fun G1 z H1 st Q q =>
  toE (pe_ifExp pT pE pE) (hc G1 z H1 st _ fun bb G2 H2 z2 st2 pb => by
    cases bb with
    | true =>
      rw [if_pos rfl]
      exact h1 pb G2 (z.trans z2) H2 st2 Q fun v G3 H3 z3 st3 p => q v G3 H3 (z2.trans z3) st3 p
    | false =>
      rw [if_neg Bool.false_ne_true]
      exact h2 pb G2 (z.trans z2) H2 st2 Q fun v G3 H3 z3 st3 p => q v G3 H3 (z2.trans z3) st3 p)
end
end Pw
namespace Pw
open PySem PySem.Spec L2
open Evl (Ex)
/-- the draws' cells -/
def DS (l s : Addr) (G : Hp) (ns : List Int) (H : Hp) (a b c : Int) : Prop := ∃ G', Ex G G' ∧ G' l = none ∧ G' s = some (.lst (ns.map V.int)) ∧ H = upd G' l (.lst [.ref s, .int a, .int b, .int c]) ∧ 0 ≤ a ∧ 0 ≤ b ∧ 0 ≤ c
section
variable {l s : Addr} {G H H1 : Hp} {ns : List Int} {a b c : Int}
theorem DS.ex (h : DS l s G ns H a b c) (z : Ex H H1) : DS l s G ns H1 a b c := by
  obtain ⟨G', e, n, hs, rfl, h1, h2, h3⟩ := h
  have ls : l ≠ s := fun e => by rw [e, hs] at n; cases n
  refine ⟨delA H1 l, fun x o hx => ?_, delA_at, ?_, ?_, h1, h2, h3⟩
  · have hx' := e _ _ hx
    have ne : x ≠ l := fun q => by rw [q, n] at hx'; cases hx'
    rw [delA_ne ne]
    exact z _ _ (by rw [upd_ne ne]; exact hx')
  · rw [delA_ne (Ne.symm ls)]
    exact z _ _ (by rw [upd_ne (Ne.symm ls)]; exact hs)
  · funext x
    by_cases q : x = l
    · rw [q, upd_same]
      exact z _ _ upd_same
    · rw [upd_ne q, delA_ne q]
theorem DS.at_ (h : DS l s G ns H a b c) : H l = some (.lst [.ref s, .int a, .int b, .int c]) := by
  obtain ⟨G', e, n, hs, rfl, h1, h2, h3⟩ := h
  exact upd_same
theorem DS.is (h : DS l s G ns H a b c) : Is H (.ref l) (.list [.list (ns.map PyData.int), .int a, .int b, .int c]) := by
  have h0 := h.at_
  obtain ⟨G', e, n, hs, rfl, h1, h2, h3⟩ := h
  have ls : l ≠ s := fun e => by rw [e, hs] at n; cases n
  exact .lst h0 (.cons (.lst (by rw [upd_ne (Ne.symm ls)]; exact hs) (IsA.ints _)) (.cons (.int _) (.cons (.int _) (.cons (.int _) .nil))))
theorem DS.put (h : DS l s G ns H a b c) {a' b' c' : Int} (h1 : 0 ≤ a') (h2 : 0 ≤ b') (h3 : 0 ≤ c') : DS l s G ns (upd H l (.lst [.ref s, .int a', .int b', .int c'])) a' b' c' := by
  obtain ⟨G', e, n, hs, rfl, _⟩ := h
  exact ⟨G', e, n, hs, upd_upd, h1, h2, h3⟩
theorem DS.st (h : DS l s G ns H a b c) : ∃ G2, Ex G G2 ∧ DrSt l s G2 H := by
  obtain ⟨G', e, n, hs, rfl, h1, h2, h3⟩ := h
  exact ⟨G', e, n, _, ⟨a, b, c, ns, rfl, hs, h1, h2, h3⟩, rfl⟩
end
section
variable {P : Program} {w : World} {K : PySem.W.Frag} {mg : Str → Option Value} {base : Heap}
/-- _law_draw: some number below the limit -/
def preDraw : List V → Hp → PV → Prop := fun vs G R => ∃ m : Int, vs = [.int m] ∧ 0 < m ∧ m < 1073741824 ∧ R = IntIn 0 m
theorem ok_L_draw (g : Gd P w K mg base) : Fnc P w K mg base 1 "_law_draw" (SpD preDraw) := by
  refine g.fnc 41 22 d_L_draw "_law_draw" _ _ sc_L_draw ?_ ?_ bn_L_draw
  · rintro vs H Q E ⟨l, s, G, ws, R, _, rfl, ⟨m, rfl, _⟩, _⟩
    rfl
  rintro cdv A outer s0 H vs Q E hr ⟨l, s, G, ws, R, st, rfl, ⟨m, rfl, m1, m2, rfl⟩, q⟩
  obtain ⟨nG, ds, ⟨a, b, c, ns, rfl, hs, ha, hb, hc⟩, rfl⟩ := st
  have d0 : DS l s G ns (upd G l (.lst [.ref s, .int a, .int b, .int c])) a b c := ⟨G, Ex.refl _, nG, hs, rfl, ha, hb, hc⟩
  generalize upd G l (.lst [.ref s, .int a, .int b, .int c]) = H at *
  refine go_join (fun σ' H' => ∃ y a b c, σ' = [some (.ref l), some (.int m), y, none] ∧ DS l s G ns H' a b c) (k := decide (b = 0) && decide (a < (ns.length : Int))) (tw_w (ww_and (tw_cmp op_eq rfl (ev_ixL (d := .int b) (ev_n 0 d0.is) ev_int (atI_n (j := 2) rfl 2 rfl)) ev_int rb_eqI) fun _ => ww_and1 (TW.is (tw_cmp op_lt rfl (ev_ixL (d := .int a) (ev_n 0 d0.is) ev_int (atI_n (j := 1) rfl 1 rfl)) (ev_lenL g.len (ev_ixL (d := .list (ns.map PyData.int)) (ev_n 0 d0.is) ev_int (atI_n (j := 0) rfl 0 rfl))) rb_I) (by rw [List.length_map])))) (fun kt H1 z1 => ?_) (fun kt H1 z1 => ⟨none, a, b, c, rfl, d0.ex z1⟩) fun σ' H' ⟨y, a, b, c, eσ, d⟩ => ?_
  · have d1 := d0.ex z1
    simp only [Bool.and_eq_true, decide_eq_true_eq] at kt
    obtain ⟨x, hx⟩ : ∃ x, ns[a.toNat]? = some x := ⟨_, List.getElem?_eq_getElem (by omega)⟩
    refine go_set 2 sc_L_draw.nd (ev_ixL (d := .int x) (ev_ixL (d := .list (ns.map PyData.int)) (ev_n 0 d1.is) ev_int (atI_n (j := 0) rfl 0 rfl)) (ev_ixL (d := .int a) (ev_n 0 d1.is) ev_int (atI_n (j := 1) rfl 1 rfl)) (atI_n (j := a.toNat) (by rw [List.getElem?_map, hx]; rfl) a (by omega))) fun v2 H2 z2 p2 => ?_
    rw [p2.int_eq]
    have d2 := d1.ex z2
    refine go_lput (n := 1) (ev_add (ev_ixL (d := .int a) (ev_n 0 d2.is) ev_int (atI_n (j := 1) rfl 1 rfl)) ev_int) (ex_v 0) ev_int d2.at_ (by rfl) fun v3 H3 z3 p3 => ?_
    have d3 := (d2.ex z3).put (a' := a + 1) (b' := b) (c' := c) (by omega) hb hc
    rw [p3.int_eq]
    change DS l s G ns (upd H3 l (.lst ([V.ref s, V.int a, V.int b, V.int c].set 1 (V.int (a + 1))))) _ _ _ at d3
    generalize upd H3 l (.lst ([V.ref s, V.int a, V.int b, V.int c].set 1 (V.int (a + 1)))) = H4 at *
    refine go_join (fun σ' H' => ∃ b, σ' = [some (.ref l), some (.int m), some (.int x), none] ∧ DS l s G ns H' (a + 1) b c) (k := decide (x ≥ 10 ^ 18)) (tw_cmp op_ge rfl (ev_n 2 (.int _)) (ev_pow ev_int ev_int (by decide)) rb_I) (fun kx H5 z5 => ?_) (fun kx H5 z5 => ⟨b, rfl, d3.ex z5⟩) fun σ' H6 ⟨b, eσ, d6⟩ => ?_
    · have d5 := d3.ex z5
      have hx18 := of_decide_eq_true kx
      refine go_lput (n := 2) (ev_n 2 (.int x)) (ex_v 0) ev_int d5.at_ (by rfl) fun v6 H6 z6 p6 => go_nil ⟨x, rfl, ?_⟩
      rw [p6.int_eq]
      exact (d5.ex z6).put (by omega) (by omega) hc
    · subst eσ
      refine go_lput (n := 3) (ev_mod (ev_intI g.int (ev_add (ev_add (ev_mulR (ev_ixL (d := .int c) (ev_n 0 d6.is) ev_int (atI_n (j := 3) rfl 3 rfl)) ev_int (by decide)) (ev_n 2 (.int x))) ev_int)) ev_int (by decide)) (ex_v 0) ev_int d6.at_ (by rfl) fun v7 H7 z7 p7 => go_nil ⟨some (.int x), a + 1, b, (c * 48271 + x + 13) % 2147483647, rfl, ?_⟩
      rw [p7.int_eq]
      have d7 := d6.ex z7
      obtain ⟨_, _, _, _, _, h1, h2, h3⟩ := id d7
      exact d7.put h1 h2 (Int.emod_nonneg _ (by decide))
  · subst eσ
    obtain ⟨_, _, _, _, _, h1, h2, h3⟩ := id d
    refine go_when (k := decide (b > 0)) (tw_cmp op_gt rfl (ev_ixL (d := .int b) (ev_n 0 d.is) ev_int (atI_n (j := 2) rfl 2 rfl)) ev_int rb_I) (fun kt H1 z1 => ?_) fun kt H1 z1 => ?_
    · have d1 := d.ex z1
      refine go_set 3 sc_L_draw.nd (ev_mod (ev_intI g.int (ev_ixL (d := .int b) (ev_n 0 d1.is) ev_int (atI_n (j := 2) rfl 2 rfl))) (ev_n 1 (.int m)) m1) fun v2 H2 z2 p2 => ?_
      have d2 := d1.ex z2
      refine go_lput (n := 2) (ev_fdiv (ev_ixL (d := .int b) (ev_n 0 d2.is) ev_int (atI_n (j := 2) rfl 2 rfl)) (ev_n 1 (.int m)) ⟨m1, m2⟩) (ex_v 0) ev_int d2.at_ (by rfl) fun v3 H3 z3 p3 => ?_
      rw [p3.int_eq]
      have d3 := (d2.ex z3).put (a' := a) (b' := b / m) (c' := c) h1 (Int.ediv_nonneg h2 (by omega)) h3
      refine go_ret (ex_v 3) fun v H4 z4 p4 => ?_
      have d4 := d3.ex z4
      obtain ⟨G2, zz, st⟩ := d4.st
      have p4 : v = v2 := p4
      rw [p4, p2.int_eq]
      exact q _ G2 H4 zz st fun _ _ => ⟨b % m, rfl, Int.emod_nonneg _ (by omega), Int.emod_lt_of_pos _ m1⟩
    · have d1 := d.ex z1
      refine go_lput (n := 3) (ev_mod (ev_intI g.int (ev_add (ev_mulR (ev_ixL (d := .int c) (ev_n 0 d1.is) ev_int (atI_n (j := 3) rfl 3 rfl)) ev_int (by decide)) ev_int)) ev_int (by decide)) (ex_v 0) ev_int d1.at_ (by rfl) fun v2 H2 z2 p2 => ?_
      rw [p2.int_eq]
      have d2 := (d1.ex z2).put (a' := a) (b' := b) (c' := (c * 69621 + 7) % 2147483629) h1 h2 (Int.emod_nonneg _ (by decide))
      refine go_ret (ev_mod (ev_intI g.int (ev_fdiv (ev_ixL (ev_n 0 d2.is) ev_int (atI_n (j := 3) rfl 3 rfl)) ev_int (by decide))) (ev_n 1 (.int m)) m1) fun v H4 z4 p4 => ?_
      have d4 := d2.ex z4
      obtain ⟨G2, zz, st⟩ := d4.st
      rw [p4.int_eq]
      exact q _ G2 H4 zz st fun _ _ => ⟨_, rfl, Int.emod_nonneg _ (by omega), Int.emod_lt_of_pos _ m1⟩
end
end Pw
namespace Pw
open PySem PySem.Spec L2
open Evl (Ex)
section
variable {X : Cx} {e a b c elt : Expr} {es : List Expr} {σ : L2.St} {G H : Hp} {P P' R : PV} {l s : Addr} {px p pos pos' : Pos} {x : Str} {k j : Nat} {scope : Scope} {ds : List PyData}
/-- list[drawn] -/
def OneOf (ds : List PyData) : PV := fun v G => ∃ d ∈ ds, Is G v d
theorem dw_ix (ha : EV X σ G a (.list ds)) (hb : DW l s X σ G b (IntIn 0 ds.length)) (hs : PlainIx b := by exact fun _ _ => rfl) : DW l s X σ G (.Subscript a b pos) (OneOf ds) := fun G1 z H1 st Q q =>
  toE (pe_ix ix_list pE pE hs) (dw_of ha G1 z H1 st _ fun u G2 H2 z2 st2 p => hb G2 (z.trans z2) H2 st2 _ fun v G3 H3 z3 st3 p' => by
    obtain ⟨r, rfl, r0, r1⟩ := p' G3 (Ex.refl _)
    cases p G3 z3 with
    | @lst l1 xs _ hl hx =>
      have hr : r.toNat < ds.length := by omega
      obtain ⟨w, hw, hi⟩ := hx.get (List.getElem?_eq_getElem hr)
      exact ⟨l1, xs, r, w, rfl, rfl, SqL.of (st3.ex _ _ hl), atI_n hw r (by omega), q w G3 H3 (z2.trans z3) st3 fun G4 z4 => ⟨_, List.getElem_mem hr, hi.mono z4⟩⟩)
theorem dw_ixN {lo hi : Int} (ha : EV X σ G a (.list ds)) (hb : DW l s X σ G b (IntIn lo hi)) (h1 : -(ds.length : Int) ≤ lo) (h2 : hi ≤ 0) (hs : PlainIx b := by exact fun _ _ => rfl) : DW l s X σ G (.Subscript a b pos) (OneOf ds) := fun G1 z H1 st Q q =>
  toE (pe_ix ix_list pE pE hs) (dw_of ha G1 z H1 st _ fun u G2 H2 z2 st2 p => hb G2 (z.trans z2) H2 st2 _ fun v G3 H3 z3 st3 p' => by
    obtain ⟨r, rfl, r0, r1⟩ := p' G3 (Ex.refl _)
    cases p G3 z3 with
    | @lst l1 xs _ hl hx =>
      have hr : (r + ds.length).toNat < ds.length := by omega
      obtain ⟨w, hw, hi⟩ := hx.get (List.getElem?_eq_getElem hr)
      refine ⟨l1, xs, r, w, rfl, rfl, SqL.of (st3.ex _ _ hl), ?_, q w G3 H3 (z2.trans z3) st3 fun G4 z4 => ⟨_, List.getElem_mem hr, hi.mono z4⟩⟩
      unfold atI ixN
      rw [if_neg (by omega), if_pos (by rw [hx.length]; omega), hx.length]
      exact hw)
/-- a list, a tuple of such data -/
def LstP (Good : List PyData → Prop) : PV := fun v G => ∃ ds : List PyData, Is G v (.list ds) ∧ Good ds
def TupP (Good : List PyData → Prop) : PV := fun v G => ∃ ds : List PyData, Is G v (.tuple ds) ∧ Good ds
def DatP (Good : PyData → Prop) : PV := fun v G => ∃ d : PyData, Is G v d ∧ Good d
theorem dw_tuple {Good : List PyData → Prop} {p : Pos} (hm : X.mg "tuple" = none) (ha : DW l s X σ G a (LstP Good)) (hg : Gl X "tuple" := by rfl) (he : starEach [a] X.env = (false, eval a X.env) :: starEach [] X.env := by rfl) (hpl : (backTo pos (starEach [] X.env)).any (·.1) = false := by rfl) : DW l s X σ G (.Call (.Name "tuple" p) [a] [] pos) (TupP Good) := fun G1 z H1 st Q q =>
  toE (pe_callTy call_tuple_of hg hm boot_tuple' pA (by decide) (by decide) he hpl) (da_cons ha da_nil he G1 z H1 st _ fun vs G2 H2 z2 st2 p => by
    obtain ⟨v, r, rfl, ⟨dsx, i1, hG⟩, rfl⟩ := p G2 (Ex.refl _)
    cases i1 with
    | @lst a1 xs _ h hs =>
      exact ⟨a1, xs, rfl, .inl ⟨SqL.of (st2.ex _ _ h), fun t ht => by
        have gn : G2 t = none := none_of st2.ex ht
        exact q _ _ _ (z2.trans (Ex.new gn)) (st2.new ht) fun G3 z3 => ⟨dsx, (Is.tup upd_same (hs.mono (Ex.new gn))).mono z3, hG⟩⟩⟩)
theorem dw_cat {Good : List PyData → Prop} {es' : List PyData} (ha : DW l s X σ G a (LstP Good)) (hb : EV X σ G b (.list es')) (hl : ∀ ds, Good ds → ds.length + es'.length ≤ 100000) : DW l s X σ G (.BinOp a .Add b pos) (LstP fun ds => ∃ d0, ds = d0 ++ es' ∧ Good d0) := fun G1 z H1 st Q q =>
  toE (pe_op op_cat pE pE) (ha G1 z H1 st _ fun u G2 H2 z2 st2 p => dw_of (hb.up (z.trans z2)) G2 (Ex.refl _) H2 st2 _ fun v G3 H3 z3 st3 p' => by
    obtain ⟨dsx, i1, hG⟩ := p G3 z3
    cases i1 with
    | @lst a1 xs _ h hs =>
      cases p' G3 (Ex.refl _) with
      | @lst a2 ys _ h' hs' =>
        refine ⟨a1, a2, xs, ys, rfl, rfl, st3.ex _ _ h, st3.ex _ _ h', ?_, fun t ht => ?_⟩
        · rw [hs.length, hs'.length]
          exact sz10 (hl _ hG)
        · have gn : G3 t = none := none_of st3.ex ht
          exact q _ _ _ ((z2.trans z3).trans (Ex.new gn)) (st3.new ht) fun G4 z4 => ⟨dsx ++ es', (Is.lst upd_same ((hs.append hs').mono (Ex.new gn))).mono z4, dsx, rfl, hG⟩)
/-- a tuple of two -/
theorem dw_tup2 {G1' G2' : PyData → Prop} {kk : Nat} (ha : DW l s X σ G a (DatP G1')) (hb : DW l s X σ G b (DatP G2')) (he : starEach [a, b] X.env = (false, eval a X.env) :: starEach [b] X.env := by rfl) (he2 : starEach [b] X.env = (false, eval b X.env) :: starEach [] X.env := by rfl) : DW l s X σ G (.Tuple [a, b] kk pos) (DatP fun d => ∃ d1 d2, d = .tuple [d1, d2] ∧ G1' d1 ∧ G2' d2) := fun G1 z H1 st Q q =>
  toE (pe_tup pA) (da_cons ha (da_cons hb da_nil he2) he G1 z H1 st _ fun vs G2 H2 z2 st2 p => by
    obtain ⟨v, r, rfl, ⟨d1, i1, g1⟩, v2, r2, rfl, ⟨d2, i2, g2⟩, rfl⟩ := p G2 (Ex.refl _)
    refine ⟨sz10 (by simp), fun t ht => ?_⟩
    have gn : G2 t = none := none_of st2.ex ht
    exact q _ _ _ (z2.trans (Ex.new gn)) (st2.new ht) fun G3 z3 => ⟨.tuple [d1, d2], (Is.tup upd_same (.cons (i1.mono (Ex.new gn)) (.cons (i2.mono (Ex.new gn)) .nil))).mono z3, d1, d2, rfl, g1, g2⟩)
/-- what a drawing comprehension has gathered -/
def DJ (l s : Addr) (G2 : Hp) (Ei : Nat → PyData → Prop) : Nat → List V → Hp → Prop := fun i acc H' => ∃ G', Ex G2 G' ∧ DrSt l s G' H' ∧ ∃ ds : List PyData, IsA G' acc ds ∧ ds.length = i ∧ ∀ (k : Nat) d, ds[k]? = some d → Ei k d
theorem snoc_at {ds : List PyData} {Ei : Nat → PyData → Prop} {d : PyData} (h : ∀ (k : Nat) d, ds[k]? = some d → Ei k d) (hd : Ei ds.length d) : ∀ (k : Nat) e, (ds ++ [d])[k]? = some e → Ei k e := fun k e he => by
  rcases Nat.lt_trichotomy k ds.length with c | c | c
  · rw [List.getElem?_append_left c] at he
    exact h k e he
  · subst c
    rw [List.getElem?_append_right (Nat.le_refl _), Nat.sub_self] at he
    cases he
    exact hd
  · rw [List.getElem?_eq_none (by rw [List.length_append, List.length_singleton]; omega)] at he
    cases he
/-- [drawn for x in range(drawn)] -/
theorem dw_lcR {hi : Int} {Ei : Nat → PyData → Prop} (x : Str) (j : Nat) (hN : X.N.Nodup) (hm : X.mg "range" = none) (ha : DW l s X σ G a (IntIn 0 hi)) (hz : hi ≤ 40000)
    (he : ∀ (y : Nat) (G1 : Hp), (y : Int) < hi → Ex G G1 → ∀ (s1 : Shared) (H0 : Hp) (C : Addr) (cl : List (Str × Addr)) (fp : List Addr), DW l s (X.blk s1 H0 scope (compEnvC scope cl C X.env) fp) (σ.set j (some (.int y))) G1 elt (DatP (Ei y))) (hc : X.calm = true := by rfl) (ok : blkC X.N X.env.scope scope [(x, j)] = true := by kernel_rfl) (hj : X.N[j]? = some x := by rfl) (hg : Gl X "range" := by rfl) (hs1 : starEach [a] X.env = (false, eval a X.env) :: starEach [] X.env := by rfl)
    (hx : ∀ (cl : List (Str × Addr)) (C : Addr), Loc (compEnvC scope cl C X.env).scope x := by first | exact fun _ _ => Or.inl rfl | exact fun _ _ => Or.inr rfl)
    (hf : (scope.names.lookup x == some .cell) = true ∨ (∀ (cl : List (Str × Addr)) (C : Addr), (compEnvC scope cl C X.env).scope.names.lookup x = some .local) := by first | exact Or.inl rfl | exact Or.inr (fun _ _ => rfl)) : DW l s X σ G (.ListComp elt [⟨.Name x px, .Call (.Name "range" p) [a] [] pos', [], 0⟩] scope pos) (LstP fun ds => (ds.length : Int) < hi ∧ ∀ (k : Nat) d, ds[k]? = some d → Ei k d) := fun G0 z0 H0 st0 Q q =>
  tE_lc (ifs := []) x j hc hN (pi_range1 hg hm pA hs1) (da_cons ha da_nil hs1 G0 z0 H0 st0 _ fun vs G1 H1 z1 st1 p => by
    obtain ⟨v, r, rfl, ⟨n, rfl, n0, n1⟩, rfl⟩ := p G1 (Ex.refl _)
    obtain ⟨m, rfl⟩ := Int.eq_ofNat_of_zero_le n0
    refine ⟨m, rfl, by omega, by omega, fun D hD => ?_⟩
    rw [Int.toNat_natCast]
    refine lc_range (lo := 0) (n := m) (LcW D (DJ l s G1 Ei)) (lcw_start hD ⟨G1, Ex.refl _, st1, [], .nil, rfl, fun k d h => by simp at h⟩) (fun i H' hi w => ⟨wipe1, ?_⟩) (fun H' w => ?_)
    · rw [wipe1s, Int.zero_add]
      exact lcw_turn (ifs := []) (by omega) w fun acc hl hJ => by
        obtain ⟨G', zG, st', ds, hds, hlen, hE⟩ := hJ
        intro s1 H00 C cl fp
        exact he i G' (by omega) ((z0.trans z1).trans zG) s1 H00 C cl fp G' (Ex.refl _) _ st' _ fun y G2 H2 z2 st2 p2 => by
          obtain ⟨d, id, gd⟩ := p2 G2 (Ex.refl _)
          exact ⟨G2, zG.trans z2, st2, ds ++ [d], (hds.mono z2).append (.cons id .nil), by rw [List.length_append, hlen]; rfl, snoc_at hE (by rw [hlen]; exact gd)⟩
    · obtain ⟨acc, hD2, _, G', zG, st', ds, hds, hlen, hE⟩ := w
      have e : H' = upd (delA H' D) D (.lst acc) := by
        funext b
        by_cases z : b = D
        · rw [z, upd_same, hD2]
        · rw [upd_ne z, delA_ne z]
      rw [e]
      have gn : G' D = none := none_of st'.ex delA_at
      exact q _ _ _ ((z1.trans zG).trans (Ex.new gn)) (st'.new delA_at) fun G3 z3 => ⟨ds, (Is.lst upd_same (hds.mono (Ex.new gn))).mono z3, by omega, hE⟩) ok hj True.intro (by intro _; rfl) hx hf
/-- [k for k in range(n) if drawn] -/
theorem dw_lcF {n : Nat} {cnd : Expr} {Pb : Bool → Prop} (x : Str) (j : Nat) (hN : X.N.Nodup) (hm : X.mg "range" = none) (ha : EV X σ G a (.int (n : Int))) (hz : n ≤ 40000)
    (ht : ∀ (y : Nat) (G1 : Hp), y < n → Ex G G1 → ∀ (s1 : Shared) (H0 : Hp) (C : Addr) (cl : List (Str × Addr)) (fp : List Addr), DT l s (X.blk s1 H0 scope (compEnvC scope cl C X.env) fp) (σ.set j (some (.int y))) G1 cnd Pb)
    (he : ∀ (y : Nat) (G1 : Hp), ∀ (s1 : Shared) (H0 : Hp) (C : Addr) (cl : List (Str × Addr)) (fp : List Addr), EV (X.blk s1 H0 scope (compEnvC scope cl C X.env) fp) (σ.set j (some (.int y))) G1 elt (.int (y : Int))) (hc : X.calm = true := by rfl) (ok : blkC X.N X.env.scope scope [(x, j)] = true := by kernel_rfl) (hj : X.N[j]? = some x := by rfl) (hg : Gl X "range" := by rfl) (hs1 : starEach [a] X.env = (false, eval a X.env) :: starEach [] X.env := by rfl)
    (hx : ∀ (cl : List (Str × Addr)) (C : Addr), Loc (compEnvC scope cl C X.env).scope x := by first | exact fun _ _ => Or.inl rfl | exact fun _ _ => Or.inr rfl)
    (hf : (scope.names.lookup x == some .cell) = true ∨ (∀ (cl : List (Str × Addr)) (C : Addr), (compEnvC scope cl C X.env).scope.names.lookup x = some .local) := by first | exact Or.inl rfl | exact Or.inr (fun _ _ => rfl)) : DW l s X σ G (.ListComp elt [⟨.Name x px, .Call (.Name "range" p) [a] [] pos', [cnd], 0⟩] scope pos) (LstP fun ds => ∃ ks : List Nat, ds = wsD ks ∧ (∀ k ∈ ks, k < n) ∧ List.Pairwise (· < ·) ks) := fun G0 z0 H0 st0 Q q =>
  tE_lc (ifs := [cnd]) x j hc hN (pi_range1 hg hm pA hs1) (da_cons (dw_of ha) da_nil hs1 G0 z0 H0 st0 _ fun vs G1 H1 z1 st1 p => by
    obtain ⟨v, r, rfl, p1, rfl⟩ := p G1 (Ex.refl _)
    rw [p1.int_eq]
    refine ⟨n, rfl, by omega, by omega, fun D hD => ?_⟩
    rw [Int.toNat_natCast]
    refine lc_range (lo := 0) (n := n) (LcW D fun i acc H' => ∃ G', Ex G1 G' ∧ DrSt l s G' H' ∧ ∃ ks : List Nat, acc = ks.map (fun (k : Nat) => V.int (k : Int)) ∧ (∀ k ∈ ks, k < i) ∧ List.Pairwise (· < ·) ks) (lcw_start hD ⟨G1, Ex.refl _, st1, [], rfl, fun k h => absurd h List.not_mem_nil, .nil⟩) (fun i H' hi w => ⟨wipe1, ?_⟩) (fun H' w => ?_)
    · rw [wipe1s, Int.zero_add]
      exact lcw_turn (ifs := [cnd]) (by omega) w fun acc hl hJ => by
        obtain ⟨G', zG, st', ks, rfl, hk, hp⟩ := hJ
        intro s1 H00 C cl fp
        exact ht i G' (by omega) ((z0.trans z1).trans zG) s1 H00 C cl fp G' (Ex.refl _) _ st' _ fun b G2 H2 z2 st2 _ => by
          cases b with
          | true =>
            rw [if_pos rfl]
            intro s2 H02 C2 cl2 fp2
            exact dw_of (he i G2 s2 H02 C2 cl2 fp2) G2 (Ex.refl _) _ st2 _ fun y G3 H3 z3 st3 p3 => ⟨G3, (zG.trans z2).trans z3, st3, ks ++ [i], by
              rw [(p3 G3 (Ex.refl _)).int_eq, List.map_append]
              rfl, fun k hk' => by
              rcases List.mem_append.mp hk' with h | h
              · exact Nat.lt_succ_of_lt (hk k h)
              · rw [List.mem_singleton.mp h]; exact Nat.lt_succ_self _, List.pairwise_append.mpr ⟨hp, List.pairwise_singleton _ _, fun a ha b hb => by rw [List.mem_singleton.mp hb]; exact hk a ha⟩⟩
          | false =>
            rw [if_neg Bool.false_ne_true]
            exact ⟨G2, zG.trans z2, st2, ks, rfl, fun k h => Nat.lt_succ_of_lt (hk k h), hp⟩
    · obtain ⟨acc, hD2, _, G', zG, st', ks, rfl, hk, hp⟩ := w
      have e : H' = upd (delA H' D) D (.lst (ks.map fun (k : Nat) => V.int (k : Int))) := by
        funext b
        by_cases z : b = D
        · rw [z, upd_same, hD2]
        · rw [upd_ne z, delA_ne z]
      rw [e]
      have gn : G' D = none := none_of st'.ex delA_at
      exact q _ _ _ ((z1.trans zG).trans (Ex.new gn)) (st'.new delA_at) fun G3 z3 => ⟨wsD ks, (Is.lst upd_same (wsD_is ks)).mono z3, ks, rfl, hk, hp⟩) ok hj True.intro (by intro _; rfl) hx hf
end
/-! statements -/
section
variable {X : Cx} {e : Expr} {σ : L2.St} {G H : Hp} {P : PV} {l s : Addr} {px pos pos' : Pos} {x : Str} {rest : List Stmt} {D : Ends}
theorem go_setD (i : Nat) (hN : X.N.Nodup) (h : DW l s X σ G e P) (st : DrSt l s G H) (q : ∀ v G1 H1, Ex G G1 → DrSt l s G1 H1 → P v G1 → tSs X rest D (σ.set i (some v)) H1) (hi : X.N[i]? = some x := by rfl) (hx : Loc X.env.scope x := by first | exact Or.inl rfl | exact Or.inr rfl)
    (hs : swapsWith e (some (.Name x pos')) pos.line X.env = pure false := by rfl) (hf : X.fn x = true ∨ X.env.scope.names.lookup x = some .local := by first | exact Or.inl rfl | exact Or.inr rfl) : tSs X (.Assign [.Name x pos'] e pos :: rest) D σ H :=
  go_setT i hN (h G (Ex.refl _) H st _ fun v G1 H1 z st1 p => q v G1 H1 z st1 (p G1 (Ex.refl _))) hi hx hs hf
theorem go_retD (h : DW l s X σ G e P) (st : DrSt l s G H) (q : ∀ v G1 H1, Ex G G1 → DrSt l s G1 H1 → (∀ G2, Ex G1 G2 → P v G2) → D.rt v H1) : tSs X (.Return (some e) pos :: rest) D σ H :=
  go_cons (toS (ps_ret pE) (h G (Ex.refl _) H st _ q))
end
end Pw
namespace Pw
open PySem PySem.Spec L2
open Evl (Ex)
theorem unmap {α : Type} {enc : α → PyData} {Q : α → Prop} : ∀ {ds : List PyData}, (∀ (k : Nat) d, ds[k]? = some d → ∃ x, d = enc x ∧ Q x) → ∃ xs : List α, ds = xs.map enc ∧ ∀ x ∈ xs, Q x
  | [], _ => ⟨[], rfl, fun x h => absurd h List.not_mem_nil⟩
  | d :: r, h => by
    obtain ⟨x, e, hx⟩ := h 0 d rfl
    obtain ⟨xs, e2, hs⟩ := unmap (ds := r) fun k d hd => h (k + 1) d hd
    exact ⟨x :: xs, by rw [e, e2]; rfl, fun y hy => by
      rcases List.mem_cons.mp hy with rfl | hy
      · exact hx
      · exact hs y hy⟩
section
variable {X : Cx} {e a b c elt : Expr} {es : List Expr} {σ : L2.St} {G H : Hp} {P P' R : PV} {l s : Addr} {px p pos pos' : Pos} {x : Str} {k j : Nat} {scope : Scope} {ds : List PyData}
/-- [drawn for x in range(drawn)], the number known -/
theorem rd_lcP {Pn : Nat → Prop} {Ei : Nat → PyData → Prop} {G0 H0 : Hp} {Q : VK} (ha : DW l s X σ G a (fun v _ => ∃ n : Nat, v = .int (n : Int) ∧ Pn n)) (hz : ∀ n, Pn n → n ≤ 40000)
    (he : ∀ (y n : Nat) (G1 : Hp), Pn n → y < n → Ex G G1 → ∀ (s1 : Shared) (H0 : Hp) (C : Addr) (cl : List (Str × Addr)) (fp : List Addr), DW l s (X.blk s1 H0 scope (compEnvC scope cl C X.env) fp) (σ.set j (some (.int y))) G1 elt (DatP (Ei y))) (hs1 : starEach [a] X.env = (false, eval a X.env) :: starEach [] X.env) (z0 : Ex G G0) (st0 : DrSt l s G0 H0)
    (q : ∀ v G2 H2, Ex G0 G2 → DrSt l s G2 H2 → (∀ G3, Ex G2 G3 → LstP (fun ds => Pn ds.length ∧ ∀ (k : Nat) d, ds[k]? = some d → Ei k d) v G3) → Q v H2) : tLc (iRng1 (tA X [a])) (gName j) (ttOf X scope []) (bE X scope elt) [j] σ H0 Q :=
  da_cons ha da_nil hs1 G0 z0 H0 st0 _ fun vs G1 H1 z1 st1 p => by
    obtain ⟨v, r, rfl, ⟨m, rfl, hP⟩, rfl⟩ := p G1 (Ex.refl _)
    refine ⟨m, rfl, by omega, by have := hz m hP; omega, fun D hD => ?_⟩
    rw [Int.toNat_natCast]
    refine lc_range (lo := 0) (n := m) (LcW D (DJ l s G1 Ei)) (lcw_start hD ⟨G1, Ex.refl _, st1, [], .nil, rfl, fun k d h => by simp at h⟩) (fun i H' hi w => ⟨wipe1, ?_⟩) (fun H' w => ?_)
    · rw [wipe1s, Int.zero_add]
      exact lcw_turn (ifs := []) (by have := hz m hP; omega) w fun acc hl hJ => by
        obtain ⟨G', zG, st', ds, hds, hlen, hE⟩ := hJ
        intro s1 H00 C cl fp
        exact he i m G' hP hi ((z0.trans z1).trans zG) s1 H00 C cl fp G' (Ex.refl _) _ st' _ fun y G2 H2 z2 st2 p2 => by
          obtain ⟨d, id, gd⟩ := p2 G2 (Ex.refl _)
          exact ⟨G2, zG.trans z2, st2, ds ++ [d], (hds.mono z2).append (.cons id .nil), by rw [List.length_append, hlen]; rfl, snoc_at hE (by rw [hlen]; exact gd)⟩
    · obtain ⟨acc, hD2, _, G', zG, st', ds, hds, hlen, hE⟩ := w
      have e : H' = upd (delA H' D) D (.lst acc) := by
        funext b
        by_cases z : b = D
        · rw [z, upd_same, hD2]
        · rw [upd_ne z, delA_ne z]
      rw [e]
      have gn : G' D = none := none_of st'.ex delA_at
      exact q _ _ _ ((z1.trans zG).trans (Ex.new gn)) (st'.new delA_at) fun G3 z3 => ⟨ds, (Is.lst upd_same (hds.mono (Ex.new gn))).mono z3, by rw [hlen]; exact hP, hE⟩
theorem dw_lcP {Pn : Nat → Prop} {Ei : Nat → PyData → Prop} (x : Str) (j : Nat) (hN : X.N.Nodup) (hm : X.mg "range" = none) (ha : DW l s X σ G a (fun v _ => ∃ n : Nat, v = .int (n : Int) ∧ Pn n)) (hz : ∀ n, Pn n → n ≤ 40000)
    (he : ∀ (y n : Nat) (G1 : Hp), Pn n → y < n → Ex G G1 → ∀ (s1 : Shared) (H0 : Hp) (C : Addr) (cl : List (Str × Addr)) (fp : List Addr), DW l s (X.blk s1 H0 scope (compEnvC scope cl C X.env) fp) (σ.set j (some (.int y))) G1 elt (DatP (Ei y))) (hc : X.calm = true := by rfl) (ok : blkC X.N X.env.scope scope [(x, j)] = true := by kernel_rfl) (hj : X.N[j]? = some x := by rfl) (hg : Gl X "range" := by rfl) (hs1 : starEach [a] X.env = (false, eval a X.env) :: starEach [] X.env := by rfl)
    (hx : ∀ (cl : List (Str × Addr)) (C : Addr), Loc (compEnvC scope cl C X.env).scope x := by first | exact fun _ _ => Or.inl rfl | exact fun _ _ => Or.inr rfl)
    (hf : (scope.names.lookup x == some .cell) = true ∨ (∀ (cl : List (Str × Addr)) (C : Addr), (compEnvC scope cl C X.env).scope.names.lookup x = some .local) := by first | exact Or.inl rfl | exact Or.inr (fun _ _ => rfl)) : DW l s X σ G (.ListComp elt [⟨.Name x px, .Call (.Name "range" p) [a] [] pos', [], 0⟩] scope pos) (LstP fun ds => Pn ds.length ∧ ∀ (k : Nat) d, ds[k]? = some d → Ei k d) := fun G0 z0 H0 st0 Q q =>
  tE_lc (ifs := []) x j hc hN (pi_range1 hg hm pA hs1) (rd_lcP ha hz he hs1 z0 st0 q) ok hj True.intro (by intro _; rfl) hx hf
/-- y = [drawn for x in range(drawn)], y a plain local -/
theorem go_lcPD {Pn : Nat → Prop} {Ei : Nat → PyData → Prop} {y : Str} {py spos : Pos} {rest : List Stmt} {D : Ends} (i : Nat) (x : Str) (j : Nat) (hN : X.N.Nodup) (hm : X.mg "range" = none) (ha : DW l s X σ G a (fun v _ => ∃ n : Nat, v = .int (n : Int) ∧ Pn n)) (hz : ∀ n, Pn n → n ≤ 40000)
    (he : ∀ (y n : Nat) (G1 : Hp), Pn n → y < n → Ex G G1 → ∀ (s1 : Shared) (H0 : Hp) (C : Addr) (cl : List (Str × Addr)) (fp : List Addr), DW l s (X.blk s1 H0 scope (compEnvC scope cl C X.env) fp) (σ.set j (some (.int y))) G1 elt (DatP (Ei y))) (st : DrSt l s G H)
    (q : ∀ v G2 H2, Ex G G2 → DrSt l s G2 H2 → LstP (fun ds => Pn ds.length ∧ ∀ (k : Nat) d, ds[k]? = some d → Ei k d) v G2 → tSs X rest D (σ.set i (some v)) H2)
    (hc : X.calm = true := by rfl) (ok : blkC X.N X.env.scope scope [(x, j)] = true := by kernel_rfl) (hj : X.N[j]? = some x := by rfl) (hy : X.N[i]? = some y := by rfl) (hyl : X.env.scope.names.lookup y = some .local := by rfl) (hg : Gl X "range" := by rfl) (hs1 : starEach [a] X.env = (false, eval a X.env) :: starEach [] X.env := by rfl)
    (hk : X.env.scope.kind = .function := by rfl) (hl : (py.line == pos.line) = true := by rfl) (hb : (scope.names.any fun (n, k) => n == y && (k == .local || k == .cell)) = false := by rfl)
    (hx : ∀ (cl : List (Str × Addr)) (C : Addr), Loc (compEnvC scope cl C X.env).scope x := by first | exact fun _ _ => Or.inl rfl | exact fun _ _ => Or.inr rfl)
    (hf : (scope.names.lookup x == some .cell) = true ∨ (∀ (cl : List (Str × Addr)) (C : Addr), (compEnvC scope cl C X.env).scope.names.lookup x = some .local) := by first | exact Or.inl rfl | exact Or.inr (fun _ _ => rfl)) : tSs X (.Assign [.Name y py] (.ListComp elt [⟨.Name x px, .Call (.Name "range" p) [a] [] pos', [], 0⟩] scope pos) spos :: rest) D σ H :=
  go_cons (toS (ps_setLc (i := i) hc hN hy hyl (sw_true hk hyl hl hb) (pi_range1 hg hm pA hs1) (blkOk_by ok) (fun s H0 C cl fp => pg_name (X := X.blk s H0 scope (compEnvC scope cl C X.env) fp) hN hj (hx cl C) (by
    rcases hf with z | z
    · exact .inl z
    · exact .inr (z cl C))) (fun s H0 C cl fp => pts_of (ifs := []) True.intro) (fun s H0 C cl fp => pbE) (by intro _; rfl)) (rd_lcP ha hz he hs1 (Ex.refl _) st fun v G2 H2 z2 st2 p => q v G2 H2 z2 st2 (p G2 (Ex.refl _))))
theorem dt_eqI (hm : behindInMarks .Eq b = false) (ha : DW l s X σ G a P) (hb : DW l s X σ G b P') (h : ∀ u v G1, Ex G G1 → P u G1 → P' v G1 → ∃ i j, u = .int i ∧ v = .int j) : DT l s X σ G (.Compare a [.Eq] [b] pos) (fun _ => True) := fun G1 z H1 st Q q =>
  toT (pt_cmpR op_eq pE pE hm) (ha G1 z H1 st _ fun u G2 H2 z2 st2 p => hb G2 (z.trans z2) H2 st2 _ fun v G3 H3 z3 st3 p' => by
    obtain ⟨i, j, rfl, rfl⟩ := h u v G3 ((z.trans z2).trans z3) (p G3 z3) (p' G3 (Ex.refl _))
    exact (rb_eqI (i := i) (j := j)) (.int i) (.int j) H3 (Ex.refl _) (.int _) (.int _) _ ⟨_, rfl, q _ G3 H3 (z2.trans z3) st3 True.intro⟩)
theorem DW.below {n : Int} (h : DW l s X σ G e (IntIn 0 n)) : DW l s X σ G e (fun v _ => ∃ m : Nat, v = .int (m : Int) ∧ (m : Int) < n) := h.imp fun v G1 _ ⟨r, e, h0, h1⟩ => by
  obtain ⟨m, rfl⟩ := Int.eq_ofNat_of_zero_le h0
  exact ⟨m, e, h1⟩
theorem dw_nat {n : Nat} (h : EV X σ G e (.int (n : Int))) : DW l s X σ G e (fun v _ => ∃ m : Nat, v = .int (m : Int) ∧ m = n) := (dw_of h).imp fun v G1 _ p => ⟨n, p.int_eq, rfl⟩
theorem dw_bit (h : DW l s X σ G e (IntIn 0 2)) : DW l s X σ G e (DatP fun d => ∃ b, d = .int (bi b)) := h.imp fun v G1 _ ⟨r, e, h0, h1⟩ => by
  subst e
  rcases (by omega : r = 0 ∨ r = 1) with rfl | rfl
  · exact ⟨_, .int _, false, rfl⟩
  · exact ⟨_, .int _, true, rfl⟩
/-- a call of _law_draw -/
theorem dw_draw {m : Int} (F : Fnc X.prog X.w X.K X.mg X.base 1 "_law_draw" (SpD preDraw)) (hr : Room j X.A) (hk : 1 ≤ j) (h0 : EX X σ G a (.ref l)) (hb : EV X σ G b (.int m)) (h1 : 0 < m) (h2 : m < 1073741824)
    (hg : Gl X "_law_draw" := by rfl) (he : starEach [a, b] X.env = (false, eval a X.env) :: starEach [b] X.env := by rfl) (he2 : starEach [b] X.env = (false, eval b X.env) :: starEach [] X.env := by rfl) (hpl : (backTo pos (starEach [b] X.env)).any (·.1) = false := by rfl) : DW l s X σ G (.Call (.Name "_law_draw" p) [a, b] [] pos) (IntIn 0 m) :=
  dw_call F hr hk h0 (da_cons (dw_of hb) da_nil he2) (fun vs G2 _ ⟨v, r, e1, p, e2⟩ => by
    subst e2
    rw [p.int_eq] at e1
    exact ⟨m, e1, h1, h2, rfl⟩) hg (by decide) he hpl
end
section
variable {P : Program} {w : World} {K : PySem.W.Frag} {mg : Str → Option Value} {base : Heap}
theorem inc_ge {ks : List Nat} (h : List.Pairwise (· < ·) ks) : ∀ (i : Nat) (hi : i < ks.length), i ≤ ks[i]
  | 0, _ => Nat.zero_le _
  | i + 1, hi => by
    have a := inc_ge h i (by omega)
    have b := List.pairwise_iff_getElem.mp h i (i + 1) (by omega) hi (Nat.lt_succ_self _)
    omega
theorem inc_len {ks : List Nat} {W : Nat} (h : List.Pairwise (· < ·) ks) (h2 : ∀ k ∈ ks, k < W) : ks.length ≤ W := by
  by_cases c : ks.length ≤ W
  · exact c
  · have a := inc_ge h W (by omega)
    have b := h2 _ (List.getElem_mem (by omega : W < ks.length))
    omega
/-- _law_draws: the cells of the draws -/
def spDraws : Sp := fun vs H Q _ => ∃ (a : Addr) (ns : List Int), vs = [.ref a] ∧ H a = some (.lst (ns.map V.int)) ∧ ∀ l s G H2, Ex H G → DrSt l s G H2 → Q (.ref l) H2
/-- _law_bits_of -/
def preBits : List V → Hp → PV → Prop := fun vs G R => ∃ n : Nat, vs = [.int (n : Int)] ∧ n ≤ 1000 ∧ R = DatP fun d => ∃ bs : List Bool, d = .tuple (bitsD bs) ∧ bs.length = n
theorem ok_L_bits_of (g : Gd P w K mg base) : Fnc P w K mg base 2 "_law_bits_of" (SpD preBits) := by
  refine g.fnc 59 40 d_L_bits_of "_law_bits_of" _ _ sc_L_bits_of ?_ ?_ bn_L_bits_of
  · rintro vs H Q E ⟨l, s, G, ws, R, _, rfl, ⟨m, rfl, _⟩, _⟩
    rfl
  rintro cdv A outer s0 H vs Q E hr ⟨l, s, G, ws, R, st, rfl, ⟨n, rfl, hn, rfl⟩, q⟩
  refine go_retD ((dw_tuple g.tuple (dw_lcP (Pn := fun m => m = n) (Ei := fun _ d => ∃ b, d = .int (bi b)) "_law_k" 2 sc_L_bits_of.nd g.range (dw_nat (ev_n 1 (.int _))) (fun m e => by omega) fun y m G1 hm hy z s1 H0 C cl fp => dw_bit (dw_draw (ok_L_draw g) hr (Nat.le_refl _) (ex_v 0) ev_int (by decide) (by decide)))).imp fun v G1 _ ⟨ds, i1, h1, h2⟩ => ?_) st fun v G2 H2 z2 st2 p2 => q v G2 H2 z2 st2 p2
  obtain ⟨bs, rfl, _⟩ := unmap (enc := fun b => PyData.int (bi b)) (Q := fun _ => True) fun k d hd => (h2 k d hd).imp fun b hb => ⟨hb, True.intro⟩
  exact ⟨_, i1, bs, rfl, by rw [← h1, List.length_map]⟩
/-- _law_press -/
def prePress : List V → Hp → PV → Prop := fun vs G R => vs = [.int 5] ∧ R = DatP fun d => ∃ (W : Nat) (taps : List Nat), d = .tuple [.int (W : Int), .tuple (wsD taps)] ∧ PrW W taps
theorem press_ok {W : Nat} {ks : List Nat} (h1 : W + 1 ≤ 5) (h2 : ∀ k ∈ ks, k < W) (h3 : List.Pairwise (· < ·) ks) : PrW (W + 1) (ks ++ [W]) := by
  have hp : List.Pairwise (· < ·) (ks ++ [W]) := List.pairwise_append.mpr ⟨h3, List.pairwise_singleton _ _, fun a ha b hb => by rw [List.mem_singleton.mp hb]; exact h2 a ha⟩
  refine ⟨by omega, h1, by simp, fun t ht => ?_, fun i a b ha hb => ?_, by simp, ?_⟩
  · rcases List.mem_append.mp ht with h | h
    · exact Nat.lt_succ_of_lt (h2 t h)
    · rw [List.mem_singleton.mp h]; exact Nat.lt_succ_self _
  · rw [List.pairwise_iff_getElem] at hp
    obtain ⟨h1, rfl⟩ := List.getElem?_eq_some_iff.mp ha
    obtain ⟨h2, rfl⟩ := List.getElem?_eq_some_iff.mp hb
    exact hp i (i + 1) h1 h2 (Nat.lt_succ_self _)
  · have := inc_len h3 h2
    rw [List.length_append, List.length_singleton]
    omega
theorem ok_L_press (g : Gd P w K mg base) : Fnc P w K mg base 2 "_law_press" (SpD prePress) := by
  refine g.fnc 58 39 d_L_press "_law_press" _ _ sc_L_press ?_ ?_ bn_L_press
  · rintro vs H Q E ⟨l, s, G, ws, R, _, rfl, ⟨rfl, _⟩, _⟩
    rfl
  rintro cdv A outer s0 H vs Q E hr ⟨l, s, G, ws, R, st, rfl, ⟨rfl, rfl⟩, q⟩
  refine go_setD (P := fun v _ => ∃ W : Nat, v = .int ((W + 1 : Nat) : Int) ∧ W + 1 ≤ 5) 2 sc_L_press.nd (dw_opI op_add (dw_of ev_int) (dw_draw (ok_L_draw g) hr (Nat.le_refl _) (ex_v 0) (ev_n 1 (.int 5)) (by decide) (by decide)) fun u v G1 _ p1 p2 => ?_) st fun v G1 H1 z1 st1 p1 => ?_
  · obtain ⟨r, rfl, h0, h1⟩ := p2
    obtain ⟨m, rfl⟩ := Int.eq_ofNat_of_zero_le h0
    exact ⟨1, m, p1.int_eq, rfl, fun _ => ⟨m, by rw [show (1 : Int) + (m : Int) = ((m + 1 : Nat) : Int) by omega], by omega⟩⟩
  obtain ⟨W, rfl, hW⟩ := p1
  refine go_setD (P := LstP fun ds => ∃ taps, ds = wsD taps ∧ PrW (W + 1) taps) 3 sc_L_press.nd ((dw_cat (es' := [.int (W : Int)]) (dw_lcF (n := W) (Pb := fun _ => True) "_law_k" 4 sc_L_press.nd g.range (EV.is (ev_sub (ev_n 2 (.int _)) ev_int) (by congr 1; omega)) (by omega) (fun y G2 hy z s1 H0 C cl fp => dt_eqI rfl (dw_draw (ok_L_draw g) hr (Nat.le_refl _) (ex_v 0) ev_int (by decide) (by decide)) (dw_of ev_int) fun u v G3 _ p p' => ⟨_, _, p.choose_spec.1, p'.int_eq⟩) fun y G2 s1 H0 C cl fp => ev_n 4 (.int _)) (ev_lst (av_cons (EV.is (ev_sub (ev_n 2 (.int _)) ev_int) (by congr 1; omega)) av_nil)) fun ds ⟨ks, e, h1, h2⟩ => ?_).imp fun v G2 _ ⟨ds, i1, d0, e, ks, e2, h1, h2⟩ => ?_) st1 fun v G2 H2 z2 st2 p2 => ?_
  · have := inc_len h2 h1
    rw [e, List.length_map]
    exact Nat.le_trans (Nat.add_le_add this (Nat.le_refl 1)) (by omega)
  · subst e2
    subst e
    refine ⟨_, i1, ks ++ [W], by rw [wsD, wsD, List.map_append]; rfl, press_ok hW h1 h2⟩
  · obtain ⟨ds, i2, taps, rfl, pw⟩ := p2
    refine go_retD (dw_of (P := DatP _) ((ev_tup (av_cons (ev_n 2 (.int ((W + 1 : Nat) : Int))) (av_cons (ev_tupleL g.tuple (ev_n 3 i2)) av_nil))).imp fun v G3 _ p => ⟨_, p, W + 1, taps, rfl, pw⟩)) st2 fun v G3 H3 z3 st3 p3 => q v G3 H3 ((z1.trans z2).trans z3) st3 p3
end
end Pw
namespace Pw
open PySem PySem.Spec L2
open Evl (Ex)
theorem ev_listS {X : Cx} {a : Expr} {σ : L2.St} {H : Hp} {pos p : Pos} {u : Addr} {ns : List Int} (hm : X.mg "list" = none) (ha : EX X σ H a (.ref u)) (hu : SqL X.K H u (ns.map V.int)) (hg : Gl X "list" := by rfl) (he : starEach [a] X.env = (false, eval a X.env) :: starEach [] X.env := by rfl) (hpl : (backTo pos (starEach [] X.env)).any (·.1) = false := by rfl) : EV X σ H (.Call (.Name "list" p) [a] [] pos) (.list (ns.map PyData.int)) :=
  ew_ct call_list_of hm boot_list' (aw_cons ha aw_nil he) (fun vs H2 z w Q q => by
    obtain ⟨v, r, rfl, e, rfl⟩ := w
    rw [show v = .ref u from e]
    exact ⟨u, _, rfl, .inl (SqL.ext hu z), fun t ht => q.dat (Ex.new ht) (.lst upd_same (IsA.ints ns))⟩) hg (by decide) (by decide) he hpl
section
variable {P : Program} {w : World} {K : PySem.W.Frag} {mg : Str → Option Value} {base : Heap}
def spDraws' (K : PySem.W.Frag) : Sp := fun vs H Q _ => ∃ (a : Addr) (ns : List Int), vs = [.ref a] ∧ SqL K H a (ns.map V.int) ∧ ∀ l s G H2, Ex H G → DrSt l s G H2 → Q (.ref l) H2
theorem ok_L_draws (g : Gd P w K mg base) : Fnc P w K mg base 1 "_law_draws" (spDraws' K) := by
  refine g.fnc 40 21 d_L_draws "_law_draws" _ _ sc_L_draws ?_ ?_ bn_L_draws
  · rintro vs H Q E ⟨a, ns, rfl, _⟩
    rfl
  rintro cdv A outer s0 H vs Q E hr ⟨a, ns, rfl, hs, q⟩
  refine go_cons (toS (ps_ret pE) ((ef_lst (av_cons (ev_listS g.list (ex_v 0) hs) (av_cons ev_int (av_cons ev_int (av_cons ev_int av_nil))))) H (Ex.refl H) _ fun v H2 z p => ?_))
  obtain ⟨l, xs, rfl, hn, hl, hx⟩ := p H2 (Ex.refl H2)
  obtain ⟨v1, v2, v3, v4, rfl, i1, i2, i3, i4⟩ := hx.four
  rw [i2.int_eq, i3.int_eq, i4.int_eq] at hl
  cases i1 with
  | @lst sa ys _ h hy =>
    have e := hy.ints_eq
    subst e
    have ne : sa ≠ l := fun e => by
      rw [e, hl] at h
      cases ns with
      | nil => cases h
      | cons n r => cases h
    refine q l sa (delA H2 l) H2 (fun x o hx => ?_) ⟨delA_at, _, ⟨0, 0, 1, ns, rfl, by rw [delA_ne ne]; exact h, by decide, by decide, by decide⟩, ?_⟩
    · have nx : x ≠ l := fun e => by rw [e, hn] at hx; cases hx
      rw [delA_ne nx]
      exact z _ _ hx
    · funext b
      by_cases c : b = l
      · rw [c, upd_same, hl]
      · rw [upd_ne c, delA_ne c]
/-- _law_patterns -/
def prePats : List V → Hp → PV → Prop := fun vs G R => ∃ p v, vs = [v, .int 8] ∧ Is G v (ptD p) ∧ Sm p ∧ R = DatP fun d => ∃ pats : List (List Bool), d = patsD pats ∧ pats.length ≤ 8 ∧ ∀ b ∈ pats, b.length = p.src.length
theorem ok_L_patterns (g : Gd P w K mg base) : Fnc P w K mg base 2 "_law_patterns" (SpD prePats) := by
  refine g.fnc 56 37 d_L_patterns "_law_patterns" _ _ sc_L_patterns ?_ ?_ bn_L_patterns
  · rintro vs H Q E ⟨l, s, G, ws, R, _, rfl, ⟨p, v, rfl, _⟩, _⟩
    rfl
  rintro cdv A outer s0 H vs Q E hr ⟨l, s, G, ws, R, st, rfl, ⟨p, v, rfl, h1, sm, rfl⟩, q⟩
  have sl := sm.src
  refine go_setD (P := dat (.int (p.src.length : Int))) 3 sc_L_patterns.nd (dw_of (EV.is (ev_lenL g.len (ev_callD (ok_L_sources g) hr (Nat.le_refl _) (av_cons (ev_n 1 h1) av_nil) ⟨p, rfl, sm, rfl⟩)) (by rw [List.length_map]))) st fun v2 G1 H1 z1 st1 p1 => ?_
  rw [p1.int_eq]
  refine go_retD ((dw_lcP (Pn := fun m => (m : Int) < 8 + 1) (Ei := fun _ d => ∃ bs : List Bool, d = .tuple (bitsD bs) ∧ bs.length = p.src.length) "_law_j" 4 sc_L_patterns.nd g.range (dw_draw (ok_L_draw g) hr (Nat.le_refl _) (ex_v 0) (ev_add (ev_n 2 (.int 8)) ev_int) (by decide) (by decide)).below (fun m e => by omega) fun y m G2 hm hy z s1 H0 C cl fp => (dw_tuple g.tuple (dw_lcP (Pn := fun m => m = p.src.length) (Ei := fun _ d => ∃ b, d = .int (bi b)) "_law_k" 5 sc_L_patterns.nd g.range (dw_nat (ev_n 3 (.int _))) (fun m e => by omega) fun y m G1 hm hy z s1 H0 C cl fp => dw_bit (dw_draw (ok_L_draw g) hr (Nat.le_refl _) (ex_v 0) ev_int (by decide) (by decide)))).imp fun v G1 _ ⟨ds, i1, h1, h2⟩ => ?_).imp fun v G3 _ ⟨ds, i1, h1, h2⟩ => ?_) st1 fun v G2 H2 z2 st2 p2 => q v G2 H2 (z1.trans z2) st2 p2
  · obtain ⟨bs, rfl, _⟩ := unmap (enc := fun b => PyData.int (bi b)) (Q := fun _ => True) fun k d hd => (h2 k d hd).imp fun b hb => ⟨hb, True.intro⟩
    exact ⟨_, i1, bs, rfl, by rw [← h1, List.length_map]⟩
  · obtain ⟨pats, rfl, hp⟩ := unmap (enc := fun r => PyData.tuple (bitsD r)) (Q := fun r => r.length = p.src.length) h2
    exact ⟨_, i1, pats, rfl, by rw [List.length_map] at h1; omega, hp⟩
/-- _law_some -/
def preSome : List V → Hp → PV → Prop := fun vs G R => ∃ ds v, vs = [v, .int 15] ∧ Is G v (.list ds) ∧ ds ≠ [] ∧ ds.length ≤ 100000 ∧ R = LstP fun es => es.length ≤ 15 ∧ ∀ e ∈ es, e ∈ ds
theorem ok_L_some (g : Gd P w K mg base) : Fnc P w K mg base 2 "_law_some" (SpD preSome) := by
  refine g.fnc 57 38 d_L_some "_law_some" _ _ sc_L_some ?_ ?_ bn_L_some
  · rintro vs H Q E ⟨l, s, G, ws, R, _, rfl, ⟨p, v, rfl, _⟩, _⟩
    rfl
  rintro cdv A outer s0 H vs Q E hr ⟨l, s, G, ws, R, st, rfl, ⟨ds, v, rfl, h1, ne, hl, rfl⟩, q⟩
  have l0 : 0 < ds.length := List.length_pos_iff.mpr ne
  refine go_retD ((dw_lcP (Pn := fun m => (m : Int) < 15 + 1) (Ei := fun _ d => d ∈ ds) "_law_k" 3 sc_L_some.nd g.range (dw_draw (ok_L_draw g) hr (Nat.le_refl _) (ex_v 0) (ev_add (ev_n 2 (.int 15)) ev_int) (by decide) (by decide)).below (fun m e => by omega) fun y m G2 hm hy z s1 H0 C cl fp => DW.imp (P := OneOf ds) (dw_ix (ev_n 1 (h1.mono z)) (dw_draw (ok_L_draw g) hr (Nat.le_refl _) (ex_v 0) (ev_lenL g.len (ev_n 1 (h1.mono z))) (by omega) (by omega))) fun v G1 _ ⟨d, hd, id⟩ => ?_).imp fun v G3 _ ⟨es, i1, h1, h2⟩ => ?_) st fun v G2 H2 z2 st2 p2 => q v G2 H2 z2 st2 p2
  · exact ⟨d, id, hd⟩
  refine ⟨es, i1, by omega, fun e he => ?_⟩
  obtain ⟨k, hk⟩ := List.getElem?_of_mem he
  exact h2 k e hk
end
end Pw
namespace Pw
open PySem PySem.Spec L2
open Evl (Ex)
theorem IsA.set {H : Hp} : ∀ {xs : List V} {ds : List PyData} {v : V} {d : PyData} (n : Nat), IsA H xs ds → Is H v d → IsA H (xs.set n v) (ds.set n d)
  | _, _, _, _, _, .nil, _ => .nil
  | _, _, _, _, 0, .cons _ t, h => .cons h t
  | _, _, _, _, n + 1, .cons h0 t, h => .cons h0 (IsA.set n t h)
section
variable {X : Cx} {e a b c o tg : Expr} {es : List Expr} {σ : L2.St} {G H : Hp} {P P' R : PV} {l s u : Addr} {px pos pos' : Pos} {x : Str} {rest body sts : List Stmt} {D : Ends} {ds : List PyData} {k : Bool}
/-- for x in range(drawn): -/
theorem go_forRD {p : Pos} {hi : Int} (hp : PassesOwn (model X.prog X.w) X.A X.env X.xe) (hc : X.calm = true) (hm : X.mg "range" = none) (h : DW l s X σ G a (IntIn 0 hi)) (st : DrSt l s G H) (hh : hi ≤ 100000)
    (q : ∀ (n : Nat) (G1 H1 : Hp), (n : Int) < hi → Ex G G1 → DrSt l s G1 H1 → ∃ Pv : Nat → L2.St → Hp → Prop, Pv 0 σ H1 ∧
      (∀ (i : Nat) σ' H', i < n → Pv i σ' H' → tG X tg (.int i) σ' H' fun σ2 H2 => tSs X body { D with nx := Pv (i + 1), ct := Pv (i + 1), bk := tSs X rest D } σ2 H2) ∧ (∀ σ' H', Pv n σ' H' → tSs X rest D σ' H'))
    (hg : Gl X "range" := by rfl) (hs1 : starEach [a] X.env = (false, eval a X.env) :: starEach [] X.env := by rfl) : tSs X (.For tg (.Call (.Name "range" p) [a] [] pos') body [] pos :: rest) D σ H :=
  go_cons (toS (ps_for hp hc (pi_range1 hg hm pA hs1) pG pSs) (da_cons h da_nil hs1 G (Ex.refl _) H st _ fun vs G1 H1 z1 st1 r => by
    obtain ⟨v, r2, rfl, ⟨m, rfl, m0, m1⟩, rfl⟩ := r G1 (Ex.refl _)
    obtain ⟨n, rfl⟩ := Int.eq_ofNat_of_zero_le m0
    obtain ⟨Pv, h0, hst, hd⟩ := q n G1 H1 m1 z1 st1
    refine ⟨(n : Int), rfl, by omega, by omega, ?_⟩
    rw [Int.toNat_natCast]
    refine for_range (lo := 0) (n := n) Pv h0 (fun i σ' H' hi p => ?_) hd
    rw [Int.zero_add]
    exact hst i σ' H' hi p))
/-- xs[i] = value, beside the draws -/
theorem go_lputD {y i : Expr} {xs : List V} {z : Int} {n : Nat} (hv : EW X σ G y P) (ho : EX X σ G o (.ref u)) (hi : EV X σ G i (.int z)) (hG : G u = some (.lst xs)) (hn : ixN xs.length z = some n) (st : DrSt l s G H) (us : u ≠ s) (q : ∀ v G1 H1, Ex G G1 → DrSt l s (upd G1 u (.lst (xs.set n v))) H1 → P v G1 → tSs X rest D σ H1)
    (hs : swapsWithSole [.Subscript o i pos'] y pos.line X.env = pure false := by rfl) (hw : swappedStores [.Subscript o i pos'] y X.env = pure none := by rfl) (h1 : (assignEach [.Subscript o i pos'] X.env).map (·.2) = [assign (.Subscript o i pos') X.env] := by rfl)
    (ha : ∀ t, assign (.Subscript o i pos') X.env t = (do let ov ← holding [t] (eval o X.env); let iv ← holding [t, ov] (eval i X.env); standAt pos'; holding [t, ov, iv] (setItem ov iv t); release [t, ov, iv] []) := by intro _; rfl) : tSs X (.Assign [.Subscript o i pos'] y pos :: rest) D σ H :=
  go_cons (toS (ps_asg pE (pg_sub pE pE set_list ha) hs hw h1) (dw_of hv G (Ex.refl G) H st _ fun v G1 H1 z1 st1 p => dw_of ho G1 z1 H1 st1 _ fun w G2 H2 z2 st2 p2 => dw_of hi G2 (z1.trans z2) H2 st2 _ fun t G3 H3 z3 st3 p3 => by
    rw [(p3 G3 (Ex.refl G3)).int_eq]
    have g3 := ((z1.trans z2).trans z3) _ _ hG
    refine ⟨u, xs, z, n, p2 G2 (Ex.refl G2), rfl, st3.ex _ _ g3, hn, q v G3 _ ((z1.trans z2).trans z3) (st3.put (fun e => ?_) us) (p G3 (z2.trans z3))⟩
    have := st3.1
    rw [← e, g3] at this
    cases this))
/-- xs.append(e), beside the draws -/
theorem go_pushD {y : Expr} {xs : List V} {apos cpos : Pos} (ho : EX X σ G o (.ref u)) (hv : EW X σ G y P) (hG : G u = some (.lst xs)) (hl : xs.length < 100000) (st : DrSt l s G H) (us : u ≠ s) (q : ∀ v G1 H1, Ex G G1 → DrSt l s (upd G1 u (.lst (xs ++ [v]))) H1 → P v G1 → tSs X rest D σ H1)
    (hbase : attributeBase o "append" X.env (eval o X.env) = eval o X.env := by rfl)
    (hfew : ((backTo cpos (starEach [y] X.env)).all (fun x => !x.1) && (backToKw cpos (keywordEach [] X.env)).all (fun x => x.1.isSome) && decide (([y] : List Expr).length + ([] : List Keyword).length + (if ([] : List Keyword).isEmpty then 0 else 1) < 30)) = true := by rfl)
    (hline : (apos.endLine == cpos.line) = true := by rfl) (hst : starEach [y] X.env = (false, eval y X.env) :: starEach [] X.env := by rfl) (hplain : (backTo cpos (starEach [] X.env)).any (·.1) = false := by rfl)
    (hs : swapsWith (.Call (.Attribute o "append" apos) [y] [] cpos) none pos.line X.env = pure false := by rfl) : tSs X (.Expr (.Call (.Attribute o "append" apos) [y] [] cpos) pos :: rest) D σ H :=
  go_expr (toE (pe_bm PySem.F.plainAttrs_list PySem.F.slot_list_append PySem.F.type_list_append mt_append pE (pa_cons pE pa_nil hst) hbase hfew hline hst hplain) (dw_of ho G (Ex.refl G) H st _ fun w G1 H1 z1 st1 p => by
    have e : w = .ref u := p G1 (Ex.refl G1)
    subst e
    exact ⟨.inl ⟨rfl, xs, SqL.of (st1.ex _ _ (z1 _ _ hG))⟩, dw_of hv G1 z1 H1 st1 _ fun v G2 H2 z2 st2 p2 => by
      have g2 := (z1.trans z2) _ _ hG
      refine ⟨u, xs, v, rfl, rfl, st2.ex _ _ g2, sz10' (Nat.le_of_lt hl), q v G2 _ (z1.trans z2) (st2.put (fun e => ?_) us) (p2 G2 (Ex.refl G2))⟩
      have := st2.1
      rw [← e, g2] at this
      cases this⟩)) hs
/-- an if, beside the draws -/
theorem go_joinD (J : L2.St → Hp → Prop) (h : TW X σ G c k) (st : DrSt l s G H) (h1 : k = true → ∀ G1 H1, Ex G G1 → DrSt l s G1 H1 → tSs X sts { D with nx := J } σ H1) (h2 : k = false → ∀ G1 H1, Ex G G1 → DrSt l s G1 H1 → J σ H1) (q : ∀ σ' H', J σ' H' → tSs X rest D σ' H') : tSs X (.If c sts [] pos :: rest) D σ H :=
  go_whenT (dt_of h G (Ex.refl G) H st (fun b H1 => b = k ∧ ∃ G1, Ex G G1 ∧ DrSt l s G1 H1) fun b G2 H2 z2 st2 e => ⟨e, G2, z2, st2⟩) (fun H1 ⟨e, G1, z, st1⟩ => tSs_nx (h1 e.symm G1 H1 z st1) q) fun H1 ⟨e, G1, z, st1⟩ => q σ H1 (h2 e.symm G1 H1 z st1)
end
abbrev rowD (r : List Bool) : PyData := .tuple (bitsD r)
theorem TD.row (r : List Bool) : TD (rowD r) := .tup fun d hd => by
  obtain ⟨b, _, rfl⟩ := List.mem_map.mp hd
  exact .int _
theorem TD.rows (t : List (List Bool)) : ∀ x ∈ t.map rowD, TD x := fun x hx => by
  obtain ⟨r, _, rfl⟩ := List.mem_map.mp hx
  exact .row r
def flipAt (r : List Bool) (p : Nat) (b : Bool) : List Bool := (r.take p ++ [!b]) ++ r.drop (p + 1)
theorem flip_len {r : List Bool} {p : Nat} {b : Bool} (h : p < r.length) : (flipAt r p b).length = r.length := by
  unfold flipAt
  rw [List.length_append, List.length_append, List.length_take, List.length_drop, List.length_singleton]
  omega
theorem flip_D (r : List Bool) (p : Nat) (b : Bool) : ((bitsD r).take p ++ [.int (1 - bi b)]) ++ (bitsD r).drop (p + 1) = bitsD (flipAt r p b) := by
  unfold flipAt bitsD
  rw [List.map_append, List.map_append, List.map_take, List.map_drop]
  cases b <;> rfl
section
variable {P : Program} {w : World} {K : PySem.W.Frag} {mg : Str → Option Value} {base : Heap}
def preTab : List V → Hp → PV → Prop := fun vs G R => vs = [] ∧ R = DatP fun d => ∃ t1 t2 : List (List Bool), d = .tuple [tabD t1, tabD t2] ∧ TabOk t1 ∧ TabOk t2
theorem ok_L_tables (g : Gd P w K mg base) : Fnc P w K mg base 3 "_law_tables" (SpD preTab) := by
  refine g.fnc 64 45 d_L_tables "_law_tables" _ _ sc_L_tables ?_ ?_ bn_L_tables
  · rintro vs H Q E ⟨l, s, G, ws, R, _, rfl, ⟨rfl, _⟩, _⟩
    rfl
  rintro cdv A outer s0 H vs Q E hr ⟨l, s, G, ws, R, st, rfl, ⟨rfl, rfl⟩, q⟩
  refine go_setD (P := fun v _ => ∃ W : Nat, v = .int ((W + 1 : Nat) : Int) ∧ W + 1 ≤ 6) 1 sc_L_tables.nd (dw_opI op_add (dw_of ev_int) (dw_draw (ok_L_draw g) hr (by omega) (ex_v 0) (ev_int (i := 6)) (by decide) (by decide)) fun u v G1 _ p1 p2 => ?_) st fun v G1 H1 z1 st1 p1 => ?_
  · obtain ⟨r, rfl, h0, h1⟩ := p2
    obtain ⟨m, rfl⟩ := Int.eq_ofNat_of_zero_le h0
    exact ⟨1, m, p1.int_eq, rfl, fun _ => ⟨m, by rw [show (1 : Int) + (m : Int) = ((m + 1 : Nat) : Int) by omega], by omega⟩⟩
  obtain ⟨W, rfl, hW⟩ := p1
  refine go_lcPD (Pn := fun m => (m : Int) < 6) (Ei := fun _ d => ∃ bs : List Bool, d = rowD bs ∧ bs.length = W + 1) 2 "_law_k" 3 sc_L_tables.nd g.range (dw_draw (ok_L_draw g) hr (by omega) (ex_v 0) ev_int (by decide) (by decide)).below (fun m e => by omega) (fun y m G2 hm hy z s1 H0 C cl fp => dw_call (ok_L_bits_of g) hr (Nat.le_refl _) (ex_v 0) (da_cons (dw_of (ev_n 1 (.int ((W + 1 : Nat) : Int)))) da_nil) fun vs G3 _ ⟨v, r, e1, p, e2⟩ => ?_) st1 fun v1 G2 H2 z2 st2 p2 => ?_
  · subst e2
    rw [p.int_eq] at e1
    exact ⟨W + 1, e1, by omega, rfl⟩
  have p2 : LstP (fun ds => ∃ t1 : List (List Bool), ds = t1.map rowD ∧ t1.length ≤ 6 ∧ ∀ r ∈ t1, r.length = W + 1) v1 G2 := by
    obtain ⟨ds, i1, h1, h2⟩ := p2
    obtain ⟨t1, rfl, hp⟩ := unmap (enc := rowD) (Q := fun r => r.length = W + 1) h2
    exact ⟨_, i1, t1, rfl, by rw [List.length_map] at h1; omega, hp⟩
  obtain ⟨ds1, i1, t1, rfl, ht1, hr1⟩ := p2
  refine go_setD (P := Fr G2 (t1.map rowD)) 4 sc_L_tables.nd (dw_of (ef_listL g.list (ev_n 2 i1))) st2 fun v2 G3 H3 z3 st3 p3 => ?_
  obtain ⟨a, xs, rfl, an, ha, hxs⟩ := p3
  cases i1 with
  | @lst a1 ys _ h1 hys =>
    have ne : a1 ≠ a := fun e => by rw [e, an] at h1; cases h1
    have as : a ≠ s := fun e => by
      obtain ⟨ns, hn⟩ := st2.sAt
      rw [← e, an] at hn
      cases hn
    have an1 : G a = none := none_of (z1.trans z2) an
    refine go_forRD (passes_of rfl) rfl g.range (dw_draw (ok_L_draw g) hr (by omega) (ex_v 0) (ev_int (i := 4)) (by decide) (by decide)) st3 (by decide) fun n G4 H4 hn z4 st4 => ⟨fun i σ' H' => ∃ y3 y5 y6 G' xs t2, σ' = [some (.ref l), some (.int ((W + 1 : Nat) : Int)), some (.ref a1), y3, some (.ref a), y5, y6] ∧ Ex G G' ∧ DrSt l s G' H' ∧ G' a1 = some (.lst ys) ∧ IsA G' ys (t1.map rowD) ∧ G' a = some (.lst xs) ∧ IsA G' xs (t2.map rowD) ∧ t2.length = t1.length ∧ ∀ r ∈ t2, r.length = W + 1, ⟨none, none, none, G4, xs, t1, rfl, ((z1.trans z2).trans z3).trans z4, st4, (z3.trans z4) _ _ h1, hys.mono (z3.trans z4), z4 _ _ ha, hxs.mono z4, rfl, hr1⟩, fun i σ' H' hi pv => ?_, fun σ' H' pv => ?_⟩
    · obtain ⟨y3, y5, y6, G', xs, t2, rfl, zz, st', k1, ky, k2, kx, ht2, hr2⟩ := pv
      refine gt_n 3 sc_L_tables.nd ?_
      refine go_joinD (fun σ' H' => ∃ y5 y6 G' xs t2, σ' = [some (.ref l), some (.int ((W + 1 : Nat) : Int)), some (.ref a1), some (.int (i : Int)), some (.ref a), y5, y6] ∧ Ex G G' ∧ DrSt l s G' H' ∧ G' a1 = some (.lst ys) ∧ IsA G' ys (t1.map rowD) ∧ G' a = some (.lst xs) ∧ IsA G' xs (t2.map rowD) ∧ t2.length = t1.length ∧ ∀ r ∈ t2, r.length = W + 1) (k := decide (((t1.map rowD).length : Int) > 0)) (tw_cmp op_gt rfl (ev_lenL g.len (ev_n 2 (.lst k1 ky))) ev_int rb_I) st' (fun kt G5 H5 z5 st5 => ?_) (fun kt G5 H5 z5 st5 => ⟨y5, y6, G5, xs, t2, rfl, zz.trans z5, st5, z5 _ _ k1, ky.mono z5, z5 _ _ k2, kx.mono z5, ht2, hr2⟩) fun σ2 H6 ⟨y5, y6, G', xs, t2, e, r⟩ => go_nil ⟨_, y5, y6, G', xs, t2, e, r⟩
      have l0 := of_decide_eq_true kt
      rw [List.length_map] at l0
      refine go_setD (P := IntIn 0 (t1.length : Int)) 5 sc_L_tables.nd (dw_draw (ok_L_draw g) hr (by omega) (ex_v 0) (EV.is (ev_lenL g.len (ev_n 2 (.lst (z5 _ _ k1) (ky.mono z5)))) (by rw [List.length_map])) (by omega) (by omega)) st5 fun v5 G6 H6 z6 st6 p6 => ?_
      obtain ⟨at0, rfl, q0, q1⟩ := p6
      obtain ⟨at_, rfl⟩ := Int.eq_ofNat_of_zero_le q0
      refine go_setD (P := IntIn 0 ((W + 1 : Nat) : Int)) 6 sc_L_tables.nd (dw_draw (ok_L_draw g) hr (by omega) (ex_v 0) (ev_n 1 (.int _)) (by omega) (by omega)) st6 fun v6 G7 H7 z7 st7 p7 => ?_
      obtain ⟨pl0, rfl, w0, w1⟩ := p7
      obtain ⟨pl, rfl⟩ := Int.eq_ofNat_of_zero_le w0
      have z57 := (z5.trans z6).trans z7
      obtain ⟨r, er⟩ : ∃ r, t2[at_]? = some r := ⟨_, List.getElem?_eq_getElem (by omega)⟩
      have hrl := hr2 r (memAt er)
      obtain ⟨b, eb⟩ : ∃ b, r[pl]? = some b := ⟨_, List.getElem?_eq_getElem (by omega)⟩
      have iL : Is G7 (.ref a) (.list (t2.map rowD)) := .lst (z57 _ _ k2) (kx.mono z57)
      have lb : (bitsD r).length = W + 1 := by rw [List.length_map, hrl]
      refine go_lputD (P := dat (rowD (flipAt r pl b))) (n := at_) (EV.is (ev_catT (ev_catT (ev_slTt pl (ev_ixL (d := rowD r) (ev_n 4 iL) (ev_n 5 (.int _)) (atI_n (j := at_) (by rw [List.getElem?_map, er]; rfl) at_ rfl)) (ev_n 6 (.int _)) (sIx_nat _ _ _)) (ev_tup (av_cons (ev_sub ev_int (ev_ixT (d := .int (bi b)) (ev_ixL (d := rowD r) (ev_n 4 iL) (ev_n 5 (.int _)) (atI_n (j := at_) (by rw [List.getElem?_map, er]; rfl) at_ rfl)) (ev_n 6 (.int _)) (atI_n (j := pl) (by rw [List.getElem?_map, eb]; rfl) pl rfl))) av_nil)) (by rw [List.length_take, lb]; simp; omega)) (ev_slTf (pl + 1) (ev_ixL (d := rowD r) (ev_n 4 iL) (ev_n 5 (.int _)) (atI_n (j := at_) (by rw [List.getElem?_map, er]; rfl) at_ rfl)) (ev_add (ev_n 6 (.int _)) ev_int) (sIx_nat _ _ (pl + 1))) (by rw [List.length_append, List.length_take, List.length_drop, lb]; simp; omega)) (congrArg PyData.tuple (flip_D r pl b))) (ex_v 4) (ev_n 5 (.int _)) (z57 _ _ k2) ?_ st7 as fun v7 G8 H8 z8 st8 p8 => ?_
      · have := kx.length
        rw [List.length_map] at this
        unfold ixN
        rw [if_pos (by omega), if_pos (by omega)]
        rfl
      have z58 := z57.trans z8
      refine go_nil ⟨_, _, _, _, t2.set at_ (flipAt r pl b), rfl, Ex.put (zz.trans z58) an1, st8, by rw [upd_ne ne]; exact z58 _ _ k1, (ky.mono z58).tput (TD.rows _) (z58 _ _ k2), upd_same, ?_, by rw [List.length_set, ht2], fun r' hr' => ?_⟩
      · rw [List.map_set]
        exact ((kx.mono z58).set at_ p8).tput (fun x hx => by rw [← List.map_set] at hx; exact TD.rows _ x hx) (z58 _ _ k2)
      · rcases List.mem_or_eq_of_mem_set hr' with h | h
        · exact hr2 r' h
        · rw [h, flip_len (by omega)]; exact hrl
    · obtain ⟨y3, y5, y6, G', xs, t2, rfl, zz, st', k1, ky, k2, kx, ht2, hr2⟩ := pv
      refine go_retD (dw_of (P := DatP _) ((ev_tup (av_cons (d := tabD t1) (ev_n 2 (.lst k1 ky)) (av_cons (d := tabD t2) (ev_n 4 (.lst k2 kx)) av_nil))).imp fun v G3 _ p => ⟨_, p, t1, t2, rfl, ⟨by omega, fun b hb => by have := hr1 b hb; omega⟩, ⟨by omega, fun b hb => by have := hr2 b hb; omega⟩⟩)) st' fun v G3 H3 z3 st3 p3 => q v G3 H3 (zz.trans z3) st3 p3
end
end Pw
set_option maxHeartbeats 1000000
namespace Pw
open PySem PySem.Spec L2
open Evl (Ex)
/-! ### two data said to be the same -/
inductive SC : PyData → Prop
  | int (i : Int) : SC (.int i)
  | bl (b : Bool) : SC (.bool b)
  | str (x : Str) : SC (.str x)
/-- data that _law_same meets, so many calls deep at most -/
inductive SM : Nat → PyData → Prop
  | sc (n : Nat) {d : PyData} (h : SC d) : SM n d
  | tup (n : Nat) {ds : List PyData} (hl : ds.length ≤ 1000) (h : ∀ d ∈ ds, SM n d) : SM (n + 1) (.tuple ds)
  | lst (n : Nat) {ds : List PyData} (h : SM n (.tuple ds)) : SM (n + 1) (.list ds)
section
variable {P : Program} {w : World} {K : PySem.W.Frag} {mg : Str → Option Value} {base : Heap}
theorem same_sc {k : Nat} (g : Gd P w K mg base) {cdv : Value} {A : Around} {outer : List Env} {s : Shared} {H : Hp} {Q : VK} {E : XK} {v1 v2 : V} {d : PyData} (hr : Room k (BX P w K mg base N_L_same d_L_same (He.fAd K d_L_same.at_) cdv A outer s H E).A) (h1 : Is H v1 d) (h2 : Is H v2 d) (sc : SC d) (q : Giv H (dat (.bool true)) Q) :
    tSs (BX P w K mg base N_L_same d_L_same (He.fAd K d_L_same.at_) cdv A outer s H E) d_L_same.body (BD Q) (L2.start N_L_same [v1, v2]) H := by
  cases sc with
  | int i =>
    refine go_when (k := false) (tw_val (ev_isi g.isi g.tuple "tuple" (ev_n 1 h2) boot_tuple' rfl)) (fun e _ _ => nomatch e) fun _ H1 z1 => ?_
    refine go_when (k := false) (tw_val (ev_isi g.isi g.list "list" (ev_n 1 (h2.mono z1)) boot_list' rfl)) (fun e _ _ => nomatch e) fun _ H2 z2 => ?_
    have z12 := z1.trans z2
    refine go_when (k := false) (tw_val (ev_isi g.isi g.str "str" (ev_n 1 (h2.mono z12)) boot_str' rfl)) (fun e _ _ => nomatch e) fun _ H3 z3 => ?_
    have z13 := z12.trans z3
    refine go_when (k := false) (TW.is (tw_isN (ex_v 1)) (decide_eq_false fun e => by rw [e] at h2; cases h2)) (fun e _ _ => nomatch e) fun _ H4 z4 => ?_
    have z14 := z13.trans z4
    refine go_when (k := false) (tw_w (ww_or (k := false) (l := false) (tw_val (ev_isi g.isi g.bool "bool" (ev_n 1 (h2.mono z14)) boot_bool' rfl)) fun _ => ww_or1 (tw_val (ev_isi g.isi g.bool "bool" (ev_n 0 (h1.mono z14)) boot_bool' rfl)))) (fun e _ _ => nomatch e) fun _ H5 z5 => ?_
    have z15 := z14.trans z5
    exact go_out (EV.is (ev_and (k := true) (ev_isi g.isi g.int "int" (ev_n 0 (h1.mono z15)) boot_int' rfl) fun _ => ev_one (ev_cmp op_eq rfl (ev_n 0 (h1.mono z15)) (ev_n 1 (h2.mono z15)) rb_eqI)) (by simp)) z15 q
  | bl b =>
    refine go_when (k := false) (tw_val (ev_isi g.isi g.tuple "tuple" (ev_n 1 h2) boot_tuple' rfl)) (fun e _ _ => nomatch e) fun _ H1 z1 => ?_
    refine go_when (k := false) (tw_val (ev_isi g.isi g.list "list" (ev_n 1 (h2.mono z1)) boot_list' rfl)) (fun e _ _ => nomatch e) fun _ H2 z2 => ?_
    have z12 := z1.trans z2
    refine go_when (k := false) (tw_val (ev_isi g.isi g.str "str" (ev_n 1 (h2.mono z12)) boot_str' rfl)) (fun e _ _ => nomatch e) fun _ H3 z3 => ?_
    have z13 := z12.trans z3
    refine go_when (k := false) (TW.is (tw_isN (ex_v 1)) (decide_eq_false fun e => by rw [e] at h2; cases h2)) (fun e _ _ => nomatch e) fun _ H4 z4 => ?_
    have z14 := z13.trans z4
    refine go_when (k := true) (tw_w (ww_or (k := true) (l := true) (tw_val (ev_isi g.isi g.bool "bool" (ev_n 1 (h2.mono z14)) boot_bool' rfl)) fun e => nomatch e)) (fun _ H5 z5 => ?_) fun e _ _ => nomatch e
    have z15 := z14.trans z5
    exact go_out (EV.is (ev_and (k := true) (ev_isi g.isi g.bool "bool" (ev_n 1 (h2.mono z15)) boot_bool' rfl) fun _ => ev_and (k := true) (ev_isi g.isi g.bool "bool" (ev_n 0 (h1.mono z15)) boot_bool' rfl) fun _ => ev_one (ev_cmp op_eq rfl (ev_n 0 (h1.mono z15)) (ev_n 1 (h2.mono z15)) rb_eqB)) (by simp)) z15 q
  | str x =>
    refine go_when (k := false) (tw_val (ev_isi g.isi g.tuple "tuple" (ev_n 1 h2) boot_tuple' rfl)) (fun e _ _ => nomatch e) fun _ H1 z1 => ?_
    refine go_when (k := false) (tw_val (ev_isi g.isi g.list "list" (ev_n 1 (h2.mono z1)) boot_list' rfl)) (fun e _ _ => nomatch e) fun _ H2 z2 => ?_
    have z12 := z1.trans z2
    refine go_when (k := true) (tw_val (ev_isi g.isi g.str "str" (ev_n 1 (h2.mono z12)) boot_str' rfl)) (fun _ H3 z3 => ?_) fun e _ _ => nomatch e
    have z13 := z12.trans z3
    exact go_out (EV.is (ev_and (k := true) (ev_isi g.isi g.str "str" (ev_n 0 (h1.mono z13)) boot_str' rfl) fun _ => ev_one (ev_cmp op_eq rfl (ev_n 0 (h1.mono z13)) (ev_n 1 (h2.mono z13)) rb_eqS)) (by simp)) z13 q
def smR (n : Nat) : List PyData → PyData → Prop := fun ds r => ∃ d, ds = [d, d] ∧ SM n d ∧ r = .bool true
theorem ok_L_same (g : Gd P w K mg base) : ∀ n : Nat, Fnc P w K mg base (n + 1) "_law_same" (PD (smR n)) := by
  intro n
  induction n with
  | zero =>
    refine g.fncD 42 23 d_L_same "_law_same" sc_L_same bn_L_same ?_ ?_
    · rintro ds r ⟨d, rfl, _⟩
      rfl
    rintro cdv A outer s H vs Q E ds r hr hA ⟨d, rfl, sm, rfl⟩ q
    obtain ⟨v1, v2, rfl, h1, h2⟩ := hA.two
    cases sm with
    | sc _ h => exact same_sc g hr h1 h2 h q
  | succ n F =>
    refine g.fncD 42 23 d_L_same "_law_same" sc_L_same bn_L_same ?_ ?_
    · rintro ds r ⟨d, rfl, _⟩
      rfl
    rintro cdv A outer s H vs Q E ds r hr hA ⟨d, rfl, sm, rfl⟩ q
    obtain ⟨v1, v2, rfl, h1, h2⟩ := hA.two
    cases sm with
    | sc _ h => exact same_sc g hr h1 h2 h q
    | @lst _ ds h =>
      refine go_when (k := false) (tw_val (ev_isi g.isi g.tuple "tuple" (ev_n 1 h2) boot_tuple' rfl)) (fun e _ _ => nomatch e) fun _ H1 z1 => ?_
      refine go_when (k := true) (tw_val (ev_isi g.isi g.list "list" (ev_n 1 (h2.mono z1)) boot_list' rfl)) (fun _ H2 z2 => ?_) fun e _ _ => nomatch e
      have z12 := z1.trans z2
      exact go_out (EV.is (ev_and (k := true) (l := true) (ev_isi g.isi g.list "list" (ev_n 0 (h1.mono z12)) boot_list' rfl) fun _ => ev_one (ev_callD F hr (Nat.le_refl _) (av_cons (ev_tupleL g.tuple (ev_n 0 (h1.mono z12))) (av_cons (ev_tupleL g.tuple (ev_n 1 (h2.mono z12))) av_nil)) ⟨_, rfl, h, rfl⟩)) rfl) z12 q
    | @tup _ ds hl h =>
      refine go_when (k := true) (tw_val (ev_isi g.isi g.tuple "tuple" (ev_n 1 h2) boot_tuple' rfl)) (fun _ H1 z1 => ?_) fun e _ _ => nomatch e
      refine go_when (k := false) (tw_w (ww_or (k := false) (l := false) (tw_not (k := true) (tw_val (ev_isi g.isi g.tuple "tuple" (ev_n 0 (h1.mono z1)) boot_tuple' rfl))) fun _ => ww_or1 (TW.is (tw_cmp op_ne rfl (ev_lenT g.len (ev_n 0 (h1.mono z1))) (ev_lenT g.len (ev_n 1 (h2.mono z1))) rb_neI) (by simp)))) (fun e _ _ => nomatch e) fun _ H2 z2 => ?_
      have z12 := z1.trans z2
      refine go_forR (n := ds.length) (passes_of rfl) rfl g.range (ev_lenT g.len (ev_n 1 (h2.mono z12))) (by omega) fun H3 z3 => ⟨fun i σ' H' => ∃ y, σ' = [some v1, some v2, y] ∧ Ex H H', ⟨none, rfl, z12.trans z3⟩, fun i σ' H' hi pv => ?_, fun σ' H' pv => ?_⟩
      · obtain ⟨y, rfl, z⟩ := pv
        obtain ⟨d, hd⟩ : ∃ d, ds[i]? = some d := ⟨_, List.getElem?_eq_getElem hi⟩
        refine gt_n 2 sc_L_same.nd (go_when (k := false) (tw_not (k := true) (tw_val (ev_callD F hr (Nat.le_refl _) (av_cons (ev_ixT (d := d) (ev_n 0 (h1.mono z)) (ev_n 2 (.int _)) (atI_n (j := i) hd i rfl)) (av_cons (ev_ixT (d := d) (ev_n 1 (h2.mono z)) (ev_n 2 (.int _)) (atI_n (j := i) hd i rfl)) av_nil)) ⟨d, rfl, h d (memAt hd), rfl⟩))) (fun e _ _ => nomatch e) fun _ H4 z4 => go_nil ⟨_, rfl, z.trans z4⟩)
      · obtain ⟨y, rfl, z⟩ := pv
        exact go_out ev_bl z q
end
end Pw
namespace Pw
open PySem PySem.Spec L2
open Evl (Ex)
/-! ### told: how lost ends -/
section
variable {P : Program} {w : World} {K : PySem.W.Frag} {mg : Str → Option Value} {base : Heap}
/-- a circuit, breaks, patterns and a press at hand -/
structure Asked (K : PySem.W.Frag) (H : Hp) (lc : Addr) (vb vp : V) (lp : Addr) (p : Pt) (ord : List G) (dxc : Addr) (fsc : List (Str × V)) (bks : List Bk) (pats : List (List Bool)) (W : Nat) (taps : List Nat) (dx : Addr) (vt : V) : Prop where
  hc : CircOk K H lc p ord dxc fsc
  hb : Is H vb (.list (bks.map bkD))
  hp : Is H vp (patsD pats)
  pr : HasPr K H lp W taps dx vt
  pw : PrW W taps
  wf : Wf p
  fm : Fm p
  bi : ∀ b ∈ bks, BkIn p b
  bl : bks.length ≤ 1000
  sz : Sizes pats
def toldS (b l : Prop) (z : Str) : Prop := (b → l → z = "") ∧ (¬ b → z = "break") ∧ (b → ¬ l → z = "pattern")
def spTold (K : PySem.W.Frag) : Sp := fun vs H Q _ => ∃ lc vb vp lp p ord dxc fsc bks pats W taps dx vt z, vs = [.ref lc, vb, vp, .ref lp] ∧ Asked K H lc vb vp lp p ord dxc fsc bks pats W taps dx vt ∧ toldS (bks.all bkB = true) (LenOk p pats) z ∧ Giv H (dat (.str z)) Q
theorem ok_L_told (g : Gd P w K mg base) : Fnc P w K mg base 9 "_law_told" (spTold K) := by
  refine g.fnc 65 46 d_L_told "_law_told" _ _ sc_L_told ?_ ?_ bn_L_told
  · rintro vs H Q E ⟨lc, vb, vp, lp, p, ord, dxc, fsc, bks, pats, W, taps, dx, vt, z, rfl, _⟩
    rfl
  rintro cdv A outer s H vs Q E hr ⟨lc, vb, vp, lp, p, ord, dxc, fsc, bks, pats, W, taps, dx, vt, z, rfl, as, ⟨t1, t2, t3⟩, q⟩
  have m1 := He.exm_ok (g.c.d.fact 111 (f := .exm "BadBreak" "BadBreak" true) rfl)
  have m2 := He.exm_ok (g.c.d.fact 112 (f := .exm "BadPattern" "BadBreak" false) rfl)
  have m3 := He.exm_ok (g.c.d.fact 113 (f := .exm "BadPattern" "BadPattern" true) rfl)
  have qz : ∀ H', Ex H H' → Q (.str z) H' := fun H' z' => q _ _ z' fun _ _ => .str _
  have body : ∀ (pn : List (Addr × Obj)) (xe : Value → Shared → Prop) (W0 : WX) (D : Ends), Takes ((BX P w K mg base N_L_told d_L_told (He.fAd K d_L_told.at_) cdv A outer s H E).tr pn xe) W0 → (∀ H', Ex H H' → bks.all bkB = true → LenOk p pats → D.nx (L2.start N_L_told [.ref lc, vb, vp, .ref lp]) H') → (∀ H', Ex H H' → ¬ bks.all bkB = true → W0 (BB K) none (L2.start N_L_told [.ref lc, vb, vp, .ref lp]) H') → (∀ H', Ex H H' → bks.all bkB = true → ¬ LenOk p pats → W0 (BP K) none (L2.start N_L_told [.ref lc, vb, vp, .ref lp]) H') → ∀ {p0 p1 p2 p3 p4 p5 p6 : Pos}, tSs ((BX P w K mg base N_L_told d_L_told (He.fAd K d_L_told.at_) cdv A outer s H E).tr pn xe) [.Expr (.Call (.Name "lost" p0) [.Name "_law_circuit_here" p1, .Name "_law_breaks_here" p2, .Name "_law_patterns_here" p3, .Name "_law_press_here" p4] [] p5) p6] D (L2.start N_L_told [.ref lc, vb, vp, .ref lp]) H := fun pn xe W0 D tk q1 q2 q3 {p0 p1 p2 p3 p4 p5 p6} => by
    refine go_expr (te_callX (X := (BX P w K mg base N_L_told d_L_told (He.fAd K d_L_told.at_) cdv A outer s H E).tr pn xe) (ok_lost g) hr (Nat.le_refl _) tk (aw_cons (ex_v 0) (aw_cons (P := dat (.list (bks.map bkD))) (ev_n 1 as.hb) (aw_cons (P := dat (patsD pats)) (ev_n 2 as.hp) (aw_cons (ex_v 3) aw_nil)))) fun vs H2 z2 hv => ?_)
    obtain ⟨w1, r1, rfl, i1, w2, r2, rfl, i2, w3, r3, rfl, i3, w4, r4, rfl, i4, rfl⟩ := hv
    rw [show w1 = .ref lc from i1, show w4 = .ref lp from i4]
    exact ⟨lc, w2, w3, lp, p, ord, dxc, fsc, bks, pats, W, taps, dx, vt, rfl, as.hc.mono z2, i2, i3, as.pr.mono z2, as.pw, as.wf, as.fm, as.bi, as.bl, as.sz, fun e lo u H3 z3 _ => go_nil (q1 H3 (z2.trans z3) e lo), fun e H3 z3 => q2 H3 (z2.trans z3) (by rw [e]; exact Bool.false_ne_true), fun e nlo H3 z3 => q3 H3 (z2.trans z3) e nlo⟩
  refine go_cons (toS (ps_try_many (Wout := fun _ _ _ _ => False) (tb := fun W D σ' H' => ∀ (pn : List (Addr × Obj)) (xe : Value → Shared → Prop), Takes ((BX P w K mg base N_L_told d_L_told (He.fAd K d_L_told.at_) cdv A outer s H E).tr pn xe) W → tSs ((BX P w K mg base N_L_told d_L_told (He.fAd K d_L_told.at_) cdv A outer s H E).tr pn xe) _ D σ' H') rfl rfl takes_none5 (fun W pn xe tk po => ⟨fun pins s' σ' H' D I h => pSs.run pins s' σ' H' D I (h pn xe tk)⟩) (.cons (c := BB K) ⟨rfl, by decide, .inl (g.glo 48)⟩ (fun a oe cls d pn _ _ => pss_one (ps_ret pe_str)) (.cons (c := BP K) ⟨rfl, by decide, .inl (g.glo 49)⟩ (fun a oe cls d pn _ _ => pss_one (ps_ret pe_str)) .nil))) ?_)
  intro pn xe tk
  refine body pn xe _ _ tk (fun H' z' e lo => ?_) (fun H' z' e => ⟨true, m1, fun _ a _ => ?_, fun e => nomatch e⟩) fun H' z' e nlo => ⟨false, m2, fun e => (nomatch e), fun _ => ⟨true, m3, fun _ a _ => ?_, fun e => nomatch e⟩⟩
  · have ez := t1 e lo
    rw [ez] at q
    exact go_out ev_str z' q
  · have ez := t2 e
    rw [ez] at qz
    exact qz H' z'
  · have ez := t3 e nlo
    rw [ez] at qz
    exact qz H' z'
end
end Pw
set_option maxHeartbeats 4000000
namespace Pw
open PySem PySem.Spec L2
open Evl (Ex)
/-! ### the drawn circuit, in plain words -/
def nK (c : Str) (k : Nat) : Str := c ++ (toString ((k : Nat) : Int) : String)
def gPre : List Str := ["g", "n", "x_"]
def aPre : List Str := ["i", "r", "g", "n", "x_"]
def goodB (z : Str) : Bool := decide (z ≠ "") && decide (z.length ≤ 12) && (match z.cps.toList[0]? with | some c => decide (c ∈ ("abcdefghijklmnopqrstuvwxyz" : Str).cps.toList) | none => false) && z.cps.toList.all goodC
theorem good_of {z : Str} (h : goodB z = true) : GoodName z := by
  unfold goodB at h
  simp only [Bool.and_eq_true, decide_eq_true_eq, List.all_eq_true] at h
  obtain ⟨⟨⟨h1, h2⟩, h3⟩, h4⟩ := h
  refine ⟨h1, h2, ?_, h4⟩
  cases e : z.cps.toList[0]? with
  | none => rw [e] at h3; cases h3
  | some c =>
    rw [e] at h3
    exact ⟨c, rfl, of_decide_eq_true h3⟩
theorem nK_goodB : ∀ c ∈ aPre, ∀ k < 10, goodB (nK c k) = true := by decide +kernel
theorem nK_good {c : Str} {k : Nat} (hc : c ∈ aPre) (hk : k < 10) : GoodName (nK c k) := good_of (nK_goodB c hc k hk)
theorem nK_injB : (aPre.all fun c => aPre.all fun c' => (List.range 10).all fun k => (List.range 10).all fun k' => !decide (nK c k = nK c' k') || (decide (k = k') && (decide (c = c') || (decide (c ∈ gPre) && decide (c' ∈ gPre))))) = true := by decide +kernel
theorem nK_inj (c : Str) (hc : c ∈ aPre) (c' : Str) (hc' : c' ∈ aPre) (k : Nat) (hk : k < 10) (k' : Nat) (hk' : k' < 10) (e : nK c k = nK c' k') : k = k' ∧ (c = c' ∨ (c ∈ gPre ∧ c' ∈ gPre)) := by
  have h := List.all_eq_true.mp (List.all_eq_true.mp (List.all_eq_true.mp (List.all_eq_true.mp nK_injB c hc) c' hc') k (List.mem_range.mpr hk)) k' (List.mem_range.mpr hk')
  simp only [e, decide_true, Bool.not_true, Bool.false_or, Bool.and_eq_true, Bool.or_eq_true, decide_eq_true_eq] at h
  exact h
theorem nK_none : ∀ c ∈ aPre, ∀ k < 10, nK c k ≠ "none" := by decide +kernel
theorem gP_a : ∀ c ∈ gPre, c ∈ aPre := by decide +kernel
def srcK (m h : Nat) : List Str := (List.range m).map (nK "i") ++ (List.range h).map (nK "r")
def lnK (m h : Nat) (gs : List G) : List Str := srcK m h ++ gs.map (·.nm)
structure Cir (m h : Nat) (gs : List G) : Prop where
  gate : ∀ j g, gs[j]? = some g → (∃ c ∈ gPre, g.nm = nK c j) ∧ KdOk g.kd g.ps.length ∧ ∀ x ∈ g.ps, x ∈ lnK m h (gs.take j)
  len : gs.length ≤ 10
  mh : m + h ≤ 5
theorem Cir.nil {m h : Nat} (mh : m + h ≤ 5) : Cir m h [] := ⟨fun j g e => by simp at e, by simp, mh⟩
theorem Cir.snoc {m h : Nat} {gs : List G} (C : Cir m h gs) (g : G) (h1 : ∃ c ∈ gPre, g.nm = nK c gs.length) (h2 : KdOk g.kd g.ps.length) (h3 : ∀ x ∈ g.ps, x ∈ lnK m h gs) (h4 : gs.length < 10) : Cir m h (gs ++ [g]) := by
  refine ⟨fun j y e => ?_, by rw [List.length_append, List.length_singleton]; omega, C.mh⟩
  rcases Nat.lt_trichotomy j gs.length with c | c | c
  · rw [List.getElem?_append_left c] at e
    obtain ⟨a1, a2, a3⟩ := C.gate j y e
    refine ⟨a1, a2, ?_⟩
    rw [List.take_append_of_le_length (Nat.le_of_lt c)]
    exact a3
  · subst c
    rw [List.getElem?_append_right (Nat.le_refl _), Nat.sub_self] at e
    cases e
    refine ⟨h1, h2, ?_⟩
    rw [List.take_append_of_le_length (Nat.le_refl _), List.take_length]
    exact h3
  · rw [List.getElem?_eq_none (by rw [List.length_append, List.length_singleton]; omega)] at e
    cases e
theorem iA : ("i" : Str) ∈ aPre := by decide +kernel
theorem rA : ("r" : Str) ∈ aPre := by decide +kernel
theorem mem_range_map {m : Nat} {c : Str} {x : Str} (h : x ∈ (List.range m).map (nK c)) : ∃ k, k < m ∧ x = nK c k := by
  obtain ⟨k, hk, rfl⟩ := List.mem_map.mp h
  exact ⟨k, List.mem_range.mp hk, rfl⟩
theorem nd_range {c : Str} (hc : c ∈ aPre) {m : Nat} (hm : m ≤ 10) : ((List.range m).map (nK c)).Nodup := by
  rw [List.nodup_iff_pairwise_ne, List.pairwise_map]
  refine List.Pairwise.imp_of_mem (fun {a b} ha hb hne e => hne ?_) (List.nodup_iff_pairwise_ne.mp List.nodup_range)
  exact (nK_inj c hc c hc a (by have := List.mem_range.mp ha; omega) b (by have := List.mem_range.mp hb; omega) e).1
theorem ne_pre {c c' : Str} {k k' : Nat} (hc : c ∈ aPre) (hc' : c' ∈ aPre) (h1 : c ≠ c') (h2 : ¬ (c ∈ gPre ∧ c' ∈ gPre)) (hk : k < 10) (hk' : k' < 10) : nK c k ≠ nK c' k' := fun e => by
  rcases (nK_inj c hc c' hc' k hk k' hk' e).2 with h | h
  · exact h1 h
  · exact h2 h
theorem i_nG : ("i" : Str) ∉ gPre := by decide +kernel
theorem r_nG : ("r" : Str) ∉ gPre := by decide +kernel
theorem i_ne_r : ("i" : Str) ≠ "r" := by decide +kernel
theorem Cir.nmAt {m h : Nat} {gs : List G} (C : Cir m h gs) {x : Str} (hx : x ∈ gs.map (·.nm)) : ∃ c ∈ gPre, ∃ k, k < 10 ∧ x = nK c k := by
  obtain ⟨g, hg, rfl⟩ := List.mem_map.mp hx
  obtain ⟨j, hj⟩ := List.getElem?_of_mem hg
  obtain ⟨⟨c, hc, e⟩, _⟩ := C.gate j g hj
  have := (List.getElem?_eq_some_iff.mp hj).1
  have := C.len
  exact ⟨c, hc, j, by omega, e⟩
theorem Cir.ndG {m h : Nat} {gs : List G} (C : Cir m h gs) : (gs.map (·.nm)).Nodup := by
  rw [List.nodup_iff_pairwise_ne, List.pairwise_iff_getElem]
  intro i j hi hj hij e
  rw [List.length_map] at hi hj
  obtain ⟨⟨c, hc, e1⟩, _⟩ := C.gate i _ (List.getElem?_eq_getElem hi)
  obtain ⟨⟨c', hc', e2⟩, _⟩ := C.gate j _ (List.getElem?_eq_getElem hj)
  rw [List.getElem_map, List.getElem_map, e1, e2] at e
  have := C.len
  have := (nK_inj c (gP_a c hc) c' (gP_a c' hc') i (by omega) j (by omega) e).1
  omega
theorem Cir.all {m h : Nat} {gs : List G} (C : Cir m h gs) {x : Str} (hx : x ∈ lnK m h gs) : ∃ c ∈ aPre, ∃ k, k < 10 ∧ x = nK c k := by
  have := C.mh
  rcases List.mem_append.mp hx with h1 | h1
  · rcases List.mem_append.mp h1 with h1 | h1
    · obtain ⟨k, hk, e⟩ := mem_range_map h1
      exact ⟨_, iA, k, by omega, e⟩
    · obtain ⟨k, hk, e⟩ := mem_range_map h1
      exact ⟨_, rA, k, by omega, e⟩
  · obtain ⟨c, hc, k, hk, e⟩ := C.nmAt h1
    exact ⟨c, gP_a c hc, k, hk, e⟩
theorem Cir.nd {m h : Nat} {gs : List G} (C : Cir m h gs) : (lnK m h gs).Nodup := by
  have := C.mh
  refine List.nodup_append.mpr ⟨List.nodup_append.mpr ⟨nd_range iA (by omega), nd_range rA (by omega), fun a ha b hb e => ?_⟩, C.ndG, fun a ha b hb e => ?_⟩
  · obtain ⟨k, hk, rfl⟩ := mem_range_map ha
    obtain ⟨k', hk', rfl⟩ := mem_range_map hb
    exact ne_pre iA rA i_ne_r (fun q => i_nG q.1) (by omega) (by omega) e
  · obtain ⟨c, hc, k', hk', rfl⟩ := C.nmAt hb
    rcases List.mem_append.mp ha with h1 | h1
    · obtain ⟨k, hk, rfl⟩ := mem_range_map h1
      exact ne_pre iA (gP_a c hc) (fun q => i_nG (q ▸ hc)) (fun q => i_nG q.1) (by omega) (by omega) e
    · obtain ⟨k, hk, rfl⟩ := mem_range_map h1
      exact ne_pre rA (gP_a c hc) (fun q => r_nG (q ▸ hc)) (fun q => r_nG q.1) (by omega) (by omega) e
theorem Cir.gd {m h : Nat} {gs : List G} (C : Cir m h gs) {x : Str} (hx : x ∈ lnK m h gs) : GoodName x := by
  obtain ⟨c, hc, k, hk, rfl⟩ := C.all hx
  exact nK_good hc hk
theorem Cir.non {m h : Nat} {gs : List G} (C : Cir m h gs) {x : Str} (hx : x ∈ lnK m h gs) : x ≠ "none" := by
  obtain ⟨c, hc, k, hk, rfl⟩ := C.all hx
  exact nK_none c hc k hk
theorem Cir.kd {m h : Nat} {gs : List G} (C : Cir m h gs) {g : G} (hg : g ∈ gs) : KdOk g.kd g.ps.length ∧ ∀ x ∈ g.ps, x ∈ lnK m h gs := by
  obtain ⟨j, hj⟩ := List.getElem?_of_mem hg
  obtain ⟨_, h1, h2⟩ := C.gate j g hj
  refine ⟨h1, fun x hx => ?_⟩
  rcases List.mem_append.mp (h2 x hx) with h | h
  · exact List.mem_append_left _ h
  · exact List.mem_append_right _ (by
      obtain ⟨g', hg', e⟩ := List.mem_map.mp h
      exact List.mem_map.mpr ⟨g', List.mem_of_mem_take hg', e⟩)
theorem kd_len {k : Str} {n : Nat} (h : KdOk k n) : n ≤ 4 := by
  rcases h with ⟨_, a⟩ | ⟨_, a⟩ | ⟨_, _, a⟩ <;> omega
/-- a circuit that is good for the program -/
structure PtOk (p : Pt) : Prop where
  wf : Wf p
  fm : Fm p
  use : ∀ x ∈ p.use, x ∈ p.lns
  non : ∀ x ∈ p.lns, x ≠ "none"
  ne : p.gs ≠ []
theorem rot_perm {α : Type} (gs : List α) (t : Nat) : (gs.drop t ++ gs.take t).Perm gs := by
  refine List.perm_append_comm.trans ?_
  rw [List.take_append_drop]
theorem Cir.pt {m h : Nat} {gs : List G} (C : Cir m h gs) {regs : List (Str × Str)} {outs : List Str} (t : Nat) (h1 : regs.map (·.1) = (List.range h).map (nK "r")) (h2 : ∀ r ∈ regs, r.2 ∈ lnK m h gs) (h3 : ∀ x ∈ outs, x ∈ lnK m h gs) (h4 : outs.length ≤ 3) (h5 : gs ≠ []) : PtOk ⟨(List.range m).map (nK "i"), regs, gs.drop t ++ gs.take t, outs⟩ := by
  have pm := rot_perm gs t
  have mh := C.mh
  have cl := C.len
  have src : Pt.src ⟨(List.range m).map (nK "i"), regs, gs.drop t ++ gs.take t, outs⟩ = srcK m h := by
    unfold Pt.src srcK
    rw [h1]
  have lns : (Pt.lns ⟨(List.range m).map (nK "i"), regs, gs.drop t ++ gs.take t, outs⟩).Perm (lnK m h gs) := by
    unfold Pt.lns lnK
    rw [src]
    exact List.Perm.append_left _ (pm.map _)
  have ml : ∀ x, x ∈ lnK m h gs → x ∈ Pt.lns ⟨(List.range m).map (nK "i"), regs, gs.drop t ++ gs.take t, outs⟩ := fun x hx => lns.mem_iff.mpr hx
  have rl : regs.length = h := by
    have := congrArg List.length h1
    rwa [List.length_map, List.length_map, List.length_range] at this
  have r1 : ∀ r ∈ regs, r.1 ∈ lnK m h gs := fun r hr => List.mem_append_left _ (List.mem_append_right _ (by rw [← h1]; exact List.mem_map_of_mem hr))
  have snk : ∀ x ∈ Pt.snk ⟨(List.range m).map (nK "i"), regs, gs.drop t ++ gs.take t, outs⟩, x ∈ lnK m h gs := fun x hx => by
    rcases List.mem_append.mp hx with q | q
    · exact h3 x q
    · obtain ⟨r, hr, rfl⟩ := List.mem_map.mp q
      exact h2 r hr
  refine ⟨⟨⟨by show ((List.range m).map (nK "i")).length ≤ 5; rw [List.length_map, List.length_range]; omega, by show regs.length ≤ 5; omega, by show (gs.drop t ++ gs.take t).length ≤ 10; rw [pm.length_eq]; omega, h4, fun g hg => kd_len (C.kd (pm.mem_iff.mp hg)).1⟩, lns.symm.nodup C.nd, fun g hg => (C.kd (pm.mem_iff.mp hg)).1, ⟨gs, pm.symm, fun k g e x hx => ?_⟩, fun x hx => ml x (snk x hx)⟩, ⟨fun x hx => C.gd (List.mem_append_left _ (List.mem_append_left _ hx)), fun x hx => C.gd (h3 x hx), fun r hr => ⟨C.gd (r1 r hr), C.gd (h2 r hr)⟩, fun g hg => ?_⟩, fun x hx => ?_, fun x hx => C.non (lns.mem_iff.mp hx), fun e => h5 ?_⟩
  · rw [src]
    exact (C.gate k g e).2.2 x hx
  · have hg := pm.mem_iff.mp hg
    exact ⟨C.gd (List.mem_append_right _ (List.mem_map_of_mem hg)), fun x hx => C.gd ((C.kd hg).2 x hx), (C.kd hg).1⟩
  · rcases List.mem_append.mp hx with q | q
    · rcases List.mem_append.mp q with q | q
      · obtain ⟨g, hg, hxg⟩ := List.mem_flatMap.mp q
        exact ml x ((C.kd (pm.mem_iff.mp hg)).2 x hxg)
      · obtain ⟨r, hr, rfl⟩ := List.mem_map.mp q
        exact ml _ (h2 r hr)
    · exact ml x (h3 x q)
  · have := pm.length_eq
    rw [show gs.drop t ++ gs.take t = [] from e] at this
    exact List.eq_nil_of_length_eq_zero this.symm
end Pw
set_option maxHeartbeats 1000000
namespace Pw
open PySem PySem.Spec L2
open Evl (Ex)
theorem av_str {X : Cx} {σ : L2.St} {H : Hp} {es : List Expr} {ds : List PyData} {z : Str} {k : Nat} {p : Pos} (h : AV X σ H es ds) : AV X σ H (.Constant (.str z) k p :: es) (.str z :: ds) := av_cons ev_str h rfl
theorem len12 {a b c d e f g h i j k l : PyData} : [a,b,c,d,e,f,g,h,i,j,k,l].length ≤ 100000 := by
  show 12 ≤ 100000
  decide
theorem sw_list {es : List Expr} {p : Pos} {t : Option Expr} {n : Nat} {env : Env} : swapsWith (.List es p) t n env = pure false := rfl
theorem ev_w12 {X : Cx} {σ : L2.St} {H : Hp} {w0 w1 w2 w3 w4 w5 w6 w7 w8 w9 w10 w11 : Str} {k0 k1 k2 k3 k4 k5 k6 k7 k8 k9 k10 k11 : Nat} {p0 p1 p2 p3 p4 p5 p6 p7 p8 p9 p10 p11 pos : Pos} {E : Expr} (hE : Expr.List [.Constant (.str w0) k0 p0, .Constant (.str w1) k1 p1, .Constant (.str w2) k2 p2, .Constant (.str w3) k3 p3, .Constant (.str w4) k4 p4, .Constant (.str w5) k5 p5, .Constant (.str w6) k6 p6, .Constant (.str w7) k7 p7, .Constant (.str w8) k8 p8, .Constant (.str w9) k9 p9, .Constant (.str w10) k10 p10, .Constant (.str w11) k11 p11] pos = E) : EV X σ H E (.list [.str w0, .str w1, .str w2, .str w3, .str w4, .str w5, .str w6, .str w7, .str w8, .str w9, .str w10, .str w11]) := by
  have h : AV X σ H [.Constant (.str w0) k0 p0, .Constant (.str w1) k1 p1, .Constant (.str w2) k2 p2, .Constant (.str w3) k3 p3, .Constant (.str w4) k4 p4, .Constant (.str w5) k5 p5, .Constant (.str w6) k6 p6, .Constant (.str w7) k7 p7, .Constant (.str w8) k8 p8, .Constant (.str w9) k9 p9, .Constant (.str w10) k10 p10, .Constant (.str w11) k11 p11] [.str w0, .str w1, .str w2, .str w3, .str w4, .str w5, .str w6, .str w7, .str w8, .str w9, .str w10, .str w11] := by
    refine av_str ?_
    refine av_str ?_
    refine av_str ?_
    refine av_str ?_
    refine av_str ?_
    refine av_str ?_
    refine av_str ?_
    refine av_str ?_
    refine av_str ?_
    refine av_str ?_
    refine av_str ?_
    exact av_str av_nil
  have hl : ([.str w0, .str w1, .str w2, .str w3, .str w4, .str w5, .str w6, .str w7, .str w8, .str w9, .str w10, .str w11] : List PyData).length ≤ 100000 := len12
  generalize ([.Constant (.str w0) k0 p0, .Constant (.str w1) k1 p1, .Constant (.str w2) k2 p2, .Constant (.str w3) k3 p3, .Constant (.str w4) k4 p4, .Constant (.str w5) k5 p5, .Constant (.str w6) k6 p6, .Constant (.str w7) k7 p7, .Constant (.str w8) k8 p8, .Constant (.str w9) k9 p9, .Constant (.str w10) k10 p10, .Constant (.str w11) k11 p11] : List Expr) = es at h hE
  generalize ([.str w0, .str w1, .str w2, .str w3, .str w4, .str w5, .str w6, .str w7, .str w8, .str w9, .str w10, .str w11] : List PyData) = ds at h hl ⊢
  subst hE
  exact ev_lst h hl
theorem unmapI {α : Type} {enc : α → PyData} : ∀ {Q : Nat → α → Prop} {ds : List PyData}, (∀ (k : Nat) d, ds[k]? = some d → ∃ x, d = enc x ∧ Q k x) → ∃ xs : List α, ds = xs.map enc ∧ ∀ k x, xs[k]? = some x → Q k x
  | _, [], _ => ⟨[], rfl, fun k x h => by simp at h⟩
  | Q, d :: r, h => by
    obtain ⟨x, e, hx⟩ := h 0 d rfl
    obtain ⟨xs, e2, hs⟩ := unmapI (Q := fun k => Q (k + 1)) (ds := r) fun k d hd => h (k + 1) d hd
    exact ⟨x :: xs, by rw [e, e2]; rfl, fun k y hy => by
      cases k with
      | zero => cases hy; exact hx
      | succ k => exact hs k y hy⟩
theorem TD.gd (g : G) : TD (gD g) := .tup fun d hd => by
  simp only [List.mem_cons, List.mem_nil_iff, or_false] at hd
  rcases hd with rfl | rfl | rfl
  · exact .str _
  · exact .str _
  · exact .tup (TD.str' _)
theorem TD.gds (gs : List G) : ∀ x ∈ gs.map gD, TD x := fun x hx => by
  obtain ⟨y, _, rfl⟩ := List.mem_map.mp hx
  exact .gd y
section
variable {X : Cx} {e a b c o tg : Expr} {es : List Expr} {σ : L2.St} {G H : Hp} {P P' R : PV} {l s u : Addr} {px pos pos' : Pos} {x : Str} {zs : List Str}
/-- one of these words -/
abbrev StrIn (zs : List Str) : PV := fun v _ => ∃ z ∈ zs, v = .str z
theorem dw_pick (ha : EV X σ G a (.list (strsD zs))) (hb : DW l s X σ G b (IntIn 0 (zs.length : Int))) (hs : PlainIx b := by exact fun _ _ => rfl) : DW l s X σ G (.Subscript a b pos) (StrIn zs) :=
  DW.imp (P := OneOf (strsD zs)) (dw_ix ha (by rw [List.length_map]; exact hb) hs) fun v G1 _ ⟨d, hd, id⟩ => by
    obtain ⟨z, hz, rfl⟩ := List.mem_map.mp hd
    exact ⟨z, hz, id.str_eq⟩
theorem dw_addS {t : Str} (ha : DW l s X σ G a (StrIn zs)) (hb : EV X σ G b (.str t)) (hc : ∀ z ∈ zs, z.length + t.length ≤ sizeLine) : DW l s X σ G (.BinOp a .Add b pos) (fun v _ => ∃ z ∈ zs, v = .str (z ++ t)) := fun G1 z H1 st Q q =>
  toE (pe_op op_add_str pE pE) (ha G1 z H1 st _ fun u G2 H2 z2 st2 p => dw_of hb G2 (z.trans z2) H2 st2 _ fun v G3 H3 z3 st3 p' => by
    obtain ⟨w, hw, rfl⟩ := p G2 (Ex.refl _)
    rw [(p' G3 (Ex.refl _)).str_eq]
    exact ⟨w, t, rfl, rfl, hc w hw, q _ G3 H3 (z2.trans z3) st3 fun G4 _ => ⟨w, hw, rfl⟩⟩)
/-- for x in range(drawn), from the least on: -/
theorem go_forRL {tg' : Expr} {rest body : List Stmt} {D : Ends} {p : Pos} {lo hi : Int} (hp : PassesOwn (model X.prog X.w) X.A X.env X.xe) (hc : X.calm = true) (hm : X.mg "range" = none) (h : DW l s X σ G a (IntIn lo hi)) (st : DrSt l s G H) (h0 : 0 ≤ lo) (hh : hi ≤ 100000)
    (q : ∀ (n : Nat) (G1 H1 : Hp), lo ≤ (n : Int) → (n : Int) < hi → Ex G G1 → DrSt l s G1 H1 → ∃ Pv : Nat → L2.St → Hp → Prop, Pv 0 σ H1 ∧
      (∀ (i : Nat) σ' H', i < n → Pv i σ' H' → tG X tg' (.int i) σ' H' fun σ2 H2 => tSs X body { D with nx := Pv (i + 1), ct := Pv (i + 1), bk := tSs X rest D } σ2 H2) ∧ (∀ σ' H', Pv n σ' H' → tSs X rest D σ' H'))
    (hg : Gl X "range" := by rfl) (hs1 : starEach [a] X.env = (false, eval a X.env) :: starEach [] X.env := by rfl) : tSs X (.For tg' (.Call (.Name "range" p) [a] [] pos') body [] pos :: rest) D σ H :=
  go_cons (toS (ps_for hp hc (pi_range1 hg hm pA hs1) pG pSs) (da_cons h da_nil hs1 G (Ex.refl _) H st _ fun vs G1 H1 z1 st1 r => by
    obtain ⟨v, r2, rfl, ⟨m, rfl, m0, m1⟩, rfl⟩ := r G1 (Ex.refl _)
    obtain ⟨n, rfl⟩ := Int.eq_ofNat_of_zero_le (Int.le_trans h0 m0)
    obtain ⟨Pv, p0, hst, hd⟩ := q n G1 H1 m0 m1 z1 st1
    refine ⟨(n : Int), rfl, by omega, by omega, ?_⟩
    rw [Int.toNat_natCast]
    refine for_range (lo := 0) (n := n) Pv p0 (fun i σ' H' hi p => ?_) hd
    rw [Int.zero_add]
    exact hst i σ' H' hi p))
end
/-- what the loop over gates keeps -/
def CInv (l s aL aR : Addr) (m h : Nat) (G : Hp) (vin : V) (gs : List Pw.G) (G' H' : Hp) : Prop := Ex G G' ∧ DrSt l s G' H' ∧ Is G' vin (.tuple (strsD ((List.range m).map (nK "i")))) ∧ G' aL = some (.lst ((lnK m h gs).map V.str)) ∧ (∃ xs, G' aR = some (.lst xs) ∧ IsA G' xs (gs.map gD)) ∧ Cir m h gs
theorem CInv.ex {l s aL aR : Addr} {m h : Nat} {G : Hp} {vin : V} {gs : List Pw.G} {G' H' G'' H'' : Hp} (i : CInv l s aL aR m h G vin gs G' H') (z : Ex G' G'') (st : DrSt l s G'' H'') : CInv l s aL aR m h G vin gs G'' H'' := by
  obtain ⟨i1, i2, i3, i4, ⟨xs, i5, i6⟩, i7⟩ := i
  exact ⟨i1.trans z, st, i3.mono z, z _ _ i4, ⟨xs, z _ _ i5, i6.mono z⟩, i7⟩
def cKinds : List Str := ["and", "or", "nand", "nor", "xor", "xnor", "not", "buf", "and", "or", "low", "high"]
theorem kE : PyData.list [.str "and", .str "or", .str "nand", .str "nor", .str "xor", .str "xnor", .str "not", .str "buf", .str "and", .str "or", .str "low", .str "high"] = .list (strsD cKinds) := rfl
theorem lh_all : ∀ z ∈ (["low", "high"] : List Str), z ∈ cKinds := by decide +kernel
theorem str_len (k : Nat) (hk : k < 10) : ((toString ((k : Nat) : Int) : String) : Str).length ≤ 5 := by
  revert k
  decide +kernel
theorem pre_len : ∀ z ∈ gPre, z.length ≤ 5 := by decide +kernel
theorem log_ok (k : Nat) (hk : k < 10) : ((k : Nat) : Int).natAbs.log2 < 1920 := by
  revert k
  decide +kernel
theorem fin_le {a b : Nat} (h1 : a ≤ 5) (h2 : b ≤ 5) : a + b ≤ sizeLine := Nat.le_trans (Nat.add_le_add h1 h2) (Nat.le_of_ble_eq_true rfl)
theorem kd_fix {kd : Str} {c : Nat} (h : kd ∈ cKinds) (c1 : 1 ≤ c) (c4 : c ≤ 4) : KdOk kd (if kd ∈ (["not", "buf"] : List Str) then 1 else if kd ∈ (["low", "high"] : List Str) then 0 else c) := by
  unfold cKinds at h
  have e : kd ∈ (["low", "high"] : List Str) ∨ kd ∈ (["not", "buf"] : List Str) ∨ kd ∈ (["and", "or", "nand", "nor", "xor", "xnor"] : List Str) := by
    simp only [List.mem_cons, List.mem_nil_iff, or_false] at h ⊢
    rcases h with h | h | h | h | h | h | h | h | h | h | h | h <;> simp [h]
  by_cases n : kd ∈ (["not", "buf"] : List Str)
  · rw [if_pos n]
    exact .inr (.inl ⟨n, rfl⟩)
  · rw [if_neg n]
    by_cases m : kd ∈ (["low", "high"] : List Str)
    · rw [if_pos m]
      exact .inl ⟨m, rfl⟩
    · rw [if_neg m]
      rcases e with e | e | e
      · exact absurd e m
      · exact absurd e n
      · exact .inr (.inr ⟨e, c1, c4⟩)
section
variable {P : Program} {w : World} {K : PySem.W.Frag} {mg : Str → Option Value} {base : Heap}
def preCir : List V → Hp → PV → Prop := fun vs G R => vs = [.int 5, .int 10] ∧ R = DatP fun d => ∃ p, d = ptD p ∧ PtOk p
theorem ok_L_circuit (g : Gd P w K mg base) : Fnc P w K mg base 2 "_law_circuit" (SpD preCir) := by
  refine g.fnc 43 24 d_L_circuit "_law_circuit" _ _ sc_L_circuit ?_ ?_ bn_L_circuit
  · rintro vs H Q E ⟨l, s, G, ws, R, _, rfl, ⟨rfl, _⟩, _⟩
    rfl
  rintro cdv A outer s0 H vs Q E hr ⟨l, s, G, ws, R, st, rfl, ⟨rfl, rfl⟩, q⟩
  refine go_setD (P := IntIn 0 (5 + 1)) 3 sc_L_circuit.nd (dw_draw (ok_L_draw g) hr (Nat.le_refl _) (ex_v 0) (ev_add (ev_n 1 (.int 5)) ev_int) (by decide) (by decide)) st fun v G1 H1 z1 st1 p1 => ?_
  obtain ⟨m0, rfl, q0, q1⟩ := p1
  obtain ⟨m, rfl⟩ := Int.eq_ofNat_of_zero_le q0
  refine go_setD (P := fun v _ => ∃ h : Nat, v = .int (h : Int) ∧ m + h ≤ 5) 4 sc_L_circuit.nd (dw_if (dt_of (tw_cmp op_gt rfl (ev_n 1 (.int 5)) (ev_n 3 (.int _)) rb_I)) (fun e => (dw_draw (m := 5 + 1 - (m : Int)) (ok_L_draw g) hr (Nat.le_refl _) (ex_v 0) (ev_sub (ev_add (ev_n 1 (.int 5)) ev_int) (ev_n 3 (.int _))) (by omega) (by omega)).below.imp fun v G2 _ ⟨h, e, hh⟩ => ⟨h, e, by omega⟩) fun e => (dw_of (ev_int (i := 0))).imp fun v G2 _ p => ⟨0, p.int_eq, by omega⟩) st1 fun v G2 H2 z2 st2 p2 => ?_
  obtain ⟨h, rfl, mh⟩ := p2
  refine go_setD (P := dat (.tuple (strsD ((List.range m).map (nK "i"))))) 5 sc_L_circuit.nd (dw_of (EV.is (ev_tupleL g.tuple (ev_lcRm (n := m) "_law_k" 6 (fun k => .str (nK "i" k)) sc_L_circuit.nd g.range (ev_n 3 (.int _)) rfl (by omega) fun k G3 hk z s1 H0 C cl fp => ev_addS (EV.is ev_str rfl) (ev_strI g.str (ev_n 6 (.int _)) (log_ok k (by omega))) (fin_le (by decide) (str_len k (by omega))))) (by unfold strsD; rw [List.map_map]; rfl))) st2 fun vin G3 H3 z3 st3 p3 => ?_
  refine go_setD (P := Fr G3 (strsD ((List.range m).map (nK "i")) ++ (List.range h).map fun k => PyData.str (nK "r" k))) 7 sc_L_circuit.nd (dw_of (ef_cat (ev_listT g.list (ev_n 5 p3)) (ev_lcRm (n := h) "_law_k" 6 (fun k => .str (nK "r" k)) sc_L_circuit.nd g.range (ev_n 4 (.int _)) rfl (by omega) fun k G3 hk z s1 H0 C cl fp => ev_addS (EV.is ev_str rfl) (ev_strI g.str (ev_n 6 (.int _)) (log_ok k (by omega))) (fin_le (by decide) (str_len k (by omega)))) (by simp; omega))) st3 fun vl G4 H4 z4 st4 p4 => ?_
  have eS : strsD ((List.range m).map (nK "i")) ++ ((List.range h).map fun k => PyData.str (nK "r" k)) = strsD (srcK m h) := by
    unfold srcK strsD
    rw [List.map_append, List.map_map, List.map_map]
    rfl
  rw [eS] at p4
  obtain ⟨aL, xL, rfl, nL, hL, iL⟩ := p4
  have eL := IsA.strs_eq iL
  subst eL
  refine go_setD (P := Fr G4 []) 8 sc_L_circuit.nd (dw_of (ef_lst av_nil)) st4 fun vr G5 H5 z5 st5 p5 => ?_
  obtain ⟨aR, xR, rfl, nR, hR, iR⟩ := p5
  have eR : xR = [] := by cases iR; rfl
  subst eR
  have Ls : aL ≠ s := fun e => by
    obtain ⟨ns, hn⟩ := st3.sAt
    rw [← e, nL] at hn
    cases hn
  have Rs : aR ≠ s := fun e => by
    obtain ⟨ns, hn⟩ := st4.sAt
    rw [← e, nR] at hn
    cases hn
  have LR : aL ≠ aR := fun e => by rw [e, nR] at hL; cases hL
  have z03 := (z1.trans z2).trans z3
  have nL0 : G aL = none := none_of z03 nL
  have nR0 : G aR = none := none_of (z03.trans z4) nR
  refine go_forRL (lo := 1) (hi := 11) (passes_of rfl) rfl g.range (DW.imp (P := fun v _ => ∃ r : Int, v = .int (1 + r) ∧ 0 ≤ r ∧ r < 10) (dw_opI op_add (dw_of (ev_int (i := 1))) (dw_draw (ok_L_draw g) hr (Nat.le_refl _) (ex_v 0) (ev_n 2 (.int 10)) (by decide) (by decide)) fun u v G1 _ p1 ⟨r, e, h0, h1⟩ => ⟨1, r, p1.int_eq, e, fun _ => ⟨r, rfl, h0, h1⟩⟩) fun v G6 _ ⟨r, e, h0, h1⟩ => ⟨1 + r, e, by omega, by omega⟩) st5 (by decide) (by decide) fun n G6 H6 n1 n2 z6 st6 => ⟨fun i σ' H' => ∃ y6 y9 y10 y11 y12 y13 y15 G' gs, σ' = [some (.ref l), some (.int 5), some (.int 10), some (.int (m : Int)), some (.int (h : Int)), some vin, y6, some (.ref aL), some (.ref aR), y9, y10, y11, y12, y13, none, y15, none, none, none] ∧ CInv l s aL aR m h G vin gs G' H' ∧ gs.length = i, ⟨none, none, none, none, none, none, none, G6, [], rfl, ⟨z03.trans ((z4.trans z5).trans z6), st6, p3.mono ((z4.trans z5).trans z6), by rw [(z5.trans z6) _ _ hL]; unfold lnK; rw [List.map_nil, List.append_nil], ⟨[], z6 _ _ hR, .nil⟩, Cir.nil mh⟩, rfl⟩, fun i σ' H' hi pv => ?_, fun σ' H' pv => ?_⟩
  · obtain ⟨y6, y9, y10, y11, y12, y13, y15, G', gs, rfl, I, gl⟩ := pv
    refine gt_n 6 sc_L_circuit.nd ?_
    have st7 := I.2.1
    have ln1 : (lnK m h gs).length = m + h + i := by
      unfold lnK srcK
      simp [gl]
      omega
    generalize hE : Expr.List _ _ = e0
    refine go_setD (P := dat (.list (strsD cKinds))) 9 sc_L_circuit.nd ?_ I.2.1 (fun v9 G9 H9 z9 st9 p9 => ?_) (hs := hE ▸ sw_list)
    · exact dw_of (EV.is (ev_w12 hE) kE)
    have I9 := CInv.ex I z9 st9
    have L9 : Is G9 (.ref aL) (.list (strsD (lnK m h gs))) := .lst I9.2.2.2.1 (IsA.strs _)
    have kQ : decide (((strsD (lnK m h gs)).length : Int) > 0) = decide (m + h + i > 0) := by
      rw [List.length_map, ln1]
      exact decide_eq_decide.mpr (by omega)
    refine go_setD (P := fun v _ => ∃ kd ∈ cKinds, v = .str kd ∧ (m + h + i = 0 → kd ∈ (["low", "high"] : List Str))) 10 sc_L_circuit.nd (dw_if (Pb := fun b => b = decide (m + h + i > 0)) (dt_of (TW.is (tw_cmp op_gt rfl (ev_lenL g.len (ev_n 7 L9)) (ev_int (i := 0)) rb_I) kQ)) (fun e => DW.imp (P := StrIn cKinds) (dw_pick (ev_n 9 p9) (dw_draw (ok_L_draw g) hr (Nat.le_refl _) (ex_v 0) ev_int (by decide) (by decide))) fun v G1 _ ⟨z, hz, e2⟩ => ?_) fun e => DW.imp (P := StrIn ["low", "high"]) (dw_pick (zs := ["low", "high"]) (ev_lst (av_cons ev_str (av_cons ev_str av_nil))) (dw_draw (ok_L_draw g) hr (Nat.le_refl _) (ex_v 0) ev_int (by decide) (by decide))) fun v G1 _ ⟨z, hz, e2⟩ => ?_) I9.2.1 fun v10 G10 H10 z10 st10 p10 => ?_
    · exact ⟨z, hz, e2, fun e3 => by have := of_decide_eq_true e.symm; omega⟩
    · exact ⟨z, lh_all z hz, e2, fun _ => hz⟩
    obtain ⟨kd, hkd, rfl, kz⟩ := p10
    have I10 := CInv.ex I9 z10 st10
    refine go_setD (P := fun v _ => ∃ c : Nat, v = .int (c : Int) ∧ 1 ≤ c ∧ c ≤ 4) 11 sc_L_circuit.nd (dw_if (Pb := fun _ => True) (dt_cmpI op_gt rfl (dw_draw (ok_L_draw g) hr (Nat.le_refl _) (ex_v 0) (ev_int (i := 3)) (by decide) (by decide)) (dw_of ev_int) fun u v G3 _ p p' => ⟨_, _, p.choose_spec.1, p'.int_eq⟩) (fun _ => DW.imp (P := dat (.int 2)) (dw_of ev_int) fun v G1 _ p => ?_) fun _ => dw_opI op_add (dw_of (ev_int (i := 1))) (dw_draw (ok_L_draw g) hr (Nat.le_refl _) (ex_v 0) (ev_int (i := 4)) (by decide) (by decide)) fun u v G1 _ p1 p2 => ?_) I10.2.1 fun v11 G11 H11 z11 st11 p11 => ?_
    · exact ⟨2, p.int_eq, by decide, by decide⟩
    · obtain ⟨r, rfl, q0, q1⟩ := p2
      obtain ⟨c, rfl⟩ := Int.eq_ofNat_of_zero_le q0
      exact ⟨1, c, p1.int_eq, rfl, fun _ => ⟨c + 1, by rw [show (1 : Int) + (c : Int) = ((c + 1 : Nat) : Int) by omega], by omega, by omega⟩⟩
    obtain ⟨c, rfl, c1, c4⟩ := p11
    have I11 := CInv.ex I10 z11 st11
    let J : Nat → L2.St → Hp → Prop := fun cc σ' H' => ∃ G', σ' = [some (.ref l), some (.int 5), some (.int 10), some (.int (m : Int)), some (.int (h : Int)), some vin, some (.int (i : Int)), some (.ref aL), some (.ref aR), some v9, some (.str kd), some (.int (cc : Int)), y12, y13, none, y15, none, none, none] ∧ CInv l s aL aR m h G vin gs G' H'
    refine go_joinD (J (if kd ∈ (["low", "high"] : List Str) then 0 else c)) (tw_inL ["low", "high"] (ev_n 10 (.str kd)) (av_str (av_str av_nil))) I11.2.1 (fun kt G1 H1 z st1 => ?_) (fun kt G1 H1 z st1 => ?_) fun σ' H' pv => ?_
    · refine go_setD (P := dat (.int 0)) 11 sc_L_circuit.nd (dw_of ev_int) st1 fun v G2 H2 z2 st2 p => go_nil ⟨G2, ?_, CInv.ex (CInv.ex I11 z st1) z2 st2⟩
      rw [p.int_eq, if_pos (of_decide_eq_true kt)]
      rfl
    · refine ⟨G1, ?_, CInv.ex I11 z st1⟩
      rw [if_neg (of_decide_eq_false kt)]
      rfl
    obtain ⟨G12, rfl, I12⟩ := pv
    refine go_joinD (J (if kd ∈ (["not", "buf"] : List Str) then 1 else if kd ∈ (["low", "high"] : List Str) then 0 else c)) (tw_inL ["not", "buf"] (ev_n 10 (.str kd)) (av_str (av_str av_nil))) I12.2.1 (fun kt G1 H1 z st1 => ?_) (fun kt G1 H1 z st1 => ?_) fun σ' H' pv => ?_
    · refine go_setD (P := dat (.int 1)) 11 sc_L_circuit.nd (dw_of ev_int) st1 fun v G2 H2 z2 st2 p => go_nil ⟨G2, ?_, CInv.ex (CInv.ex I12 z st1) z2 st2⟩
      rw [p.int_eq, if_pos (of_decide_eq_true kt)]
      rfl
    · refine ⟨G1, ?_, CInv.ex I12 z st1⟩
      rw [if_neg (of_decide_eq_false kt)]
    obtain ⟨G13, rfl, I13⟩ := pv
    have kOk := kd_fix hkd c1 c4
    have L13 : Is G13 (.ref aL) (.list (strsD (lnK m h gs))) := .lst I13.2.2.2.1 (IsA.strs _)
    refine go_setD (P := fun v G => ∃ nr : List Str, Is G v (.list (strsD nr)) ∧ (∀ x ∈ nr, x ∈ lnK m h gs) ∧ (0 < m + h + i → nr ≠ []) ∧ nr.length ≤ 100) 12 sc_L_circuit.nd (dw_if (Pb := fun _ => True) (dt_eqI rfl (dw_draw (ok_L_draw g) hr (Nat.le_refl _) (ex_v 0) (ev_int (i := 2)) (by decide) (by decide)) (dw_of ev_int) fun u v G3 _ p p' => ⟨_, _, p.choose_spec.1, p'.int_eq⟩) (fun _ => DW.imp (P := dat (.list ((strsD (lnK m h gs)).drop (m + h + i - 4)))) (dw_of (ev_slLf (m + h + i - 4) (ev_n 7 L13) (ev_neg ev_int) ?_)) fun v G1 _ p => ?_) fun _ => DW.imp (P := dat (.list (strsD (lnK m h gs)))) (dw_of (ev_n 7 L13)) fun v G1 _ p => ?_) I13.2.1 fun v12 G14 H14 z14 st14 p14 => ?_
    · rw [List.length_map, ln1]
      show (if (-4 : Int) < 0 then ((-4 : Int) + ((m + h + i : Nat) : Int)).toNat else min (-4 : Int).toNat (m + h + i)) = _
      rw [if_pos (by decide)]
      omega
    · refine ⟨(lnK m h gs).drop (m + h + i - 4), by rw [strsD, List.map_drop]; exact p, fun x hx => List.mem_of_mem_drop hx, fun h0 e => ?_, by rw [List.length_drop, ln1]; omega⟩
      have := congrArg List.length e
      rw [List.length_drop, ln1, List.length_nil] at this
      omega
    · refine ⟨lnK m h gs, p, fun x hx => hx, fun h0 e => ?_, by rw [ln1]; omega⟩
      have := congrArg List.length e
      rw [ln1, List.length_nil] at this
      omega
    obtain ⟨nr, iN, nS, nE, nL100⟩ := p14
    have I14 := CInv.ex I13 z14 st14
    generalize hcc : (if kd ∈ (["not", "buf"] : List Str) then 1 else if kd ∈ (["low", "high"] : List Str) then 0 else c) = cc at kOk ⊢
    have cc4 := kd_len kOk
    have cN : 0 < cc → 0 < nr.length := fun h0 => by
      refine List.length_pos_iff.mpr (nE ?_)
      rcases Nat.eq_zero_or_pos (m + h + i) with e | e
      · have lh := kz e
        have nb : kd ∉ (["not", "buf"] : List Str) := by
          simp only [List.mem_cons, List.mem_nil_iff, or_false] at lh
          rcases lh with rfl | rfl <;> decide +kernel
        rw [if_neg nb, if_pos lh] at hcc
        omega
      · exact e
    refine go_setD (P := TupP fun ds => ∃ ps : List Str, ds = strsD ps ∧ ps.length = cc ∧ ∀ x ∈ ps, x ∈ nr) 13 sc_L_circuit.nd (DW.imp (P := TupP fun ds => ds.length = cc ∧ ∀ (k : Nat) d, ds[k]? = some d → ∃ z, d = PyData.str z ∧ z ∈ nr) (dw_tuple g.tuple (dw_lcP (Pn := fun q => q = cc) (Ei := fun _ d => ∃ z, d = PyData.str z ∧ z ∈ nr) "_law_j" 14 sc_L_circuit.nd g.range (dw_nat (ev_n 11 (.int _))) (fun q e => by omega) fun y q G1 hq hy z s1 H0 C cl fp => DW.imp (P := OneOf (strsD nr)) (dw_ix (ev_n 12 (iN.mono z)) (dw_draw (ok_L_draw g) hr (Nat.le_refl _) (ex_v 0) (ev_lenL g.len (ev_n 12 (iN.mono z))) ?_ ?_)) fun v G1 _ ⟨d, hd, id⟩ => ?_)) fun v G1 _ ⟨ds, i1, h1, h2⟩ => ?_) I14.2.1 fun v13 G15 H15 z15 st15 p15 => ?_
    · rw [List.length_map]; have := cN (by omega); omega
    · rw [List.length_map]; omega
    · obtain ⟨z, hz, rfl⟩ := List.mem_map.mp hd
      exact ⟨_, id, z, rfl, hz⟩
    · obtain ⟨ps, rfl, hp⟩ := unmap (enc := PyData.str) (Q := fun z => z ∈ nr) h2
      exact ⟨_, i1, ps, rfl, by rw [← h1, List.length_map], hp⟩
    obtain ⟨dps, iP, ps, rfl, pl, pn⟩ := p15
    have I15 := CInv.ex I14 z15 st15
    refine go_setD (P := fun v _ => ∃ z ∈ gPre, v = .str (z ++ (toString ((i : Nat) : Int) : String))) 15 sc_L_circuit.nd (dw_addS (dw_pick (zs := gPre) (EV.is (ev_lst (av_str (av_str (av_str av_nil)))) rfl) (dw_draw (ok_L_draw g) hr (Nat.le_refl _) (ex_v 0) (ev_int (i := 3)) (by decide) (by decide))) (ev_strI g.str (ev_n 6 (.int _)) (log_ok i (by omega))) fun z hz => fin_le (pre_len z hz) (str_len i (by omega))) I15.2.1 fun v15 G16 H16 z16 st16 p16 => ?_
    obtain ⟨z, hz, rfl⟩ := p16
    have I16 := CInv.ex I15 z16 st16
    have eN : z ++ (toString ((i : Nat) : Int) : String) = nK z i := rfl
    rw [eN]
    obtain ⟨J1, J2, J3, J4, ⟨xs, J5, J6⟩, J7⟩ := I16
    have xl : xs.length = i := by rw [J6.length, List.length_map, gl]
    refine go_pushD (P := dat (gD ⟨nK z i, kd, ps⟩)) (ex_v 8) (ev_tup (av_cons (ev_n 15 (.str _)) (av_cons (ev_n 10 (.str kd)) (av_cons (ev_n 13 (iP.mono z16)) av_nil)))) J5 (by omega) J2 Rs fun v17 G17 H17 z17 st17 p17 => ?_
    have k17 : (upd G17 aR (.lst (xs ++ [v17]))) aL = some (.lst ((lnK m h gs).map V.str)) := by
      rw [upd_ne LR]
      exact z17 _ _ J4
    refine go_pushD (P := dat (.str (nK z i))) (ex_v 7) (ev_n 15 (.str _)) k17 (by rw [List.length_map, ln1]; omega) st17 Ls fun v18 G18 H18 z18 st18 p18 => go_nil ⟨_, _, _, _, _, _, _, _, gs ++ [⟨nK z i, kd, ps⟩], rfl, ⟨Ex.put (Ex.trans (Ex.put (J1.trans z17) nR0) z18) nL0, st18, ?_, ?_, ⟨xs ++ [v17], ?_, ?_⟩, J7.snoc _ ⟨z, hz, by rw [gl]⟩ ?_ (fun x hx => nS x (pn x hx)) (by omega)⟩, by rw [List.length_append, gl]; rfl⟩
    · exact Is.tmono (((ExT.of z17).put (z17 _ _ J5) fun _ q => nomatch q).trans ((ExT.of z18).put (z18 _ _ k17) fun _ q => nomatch q)) J3 (.tup (TD.str' _))
    · rw [upd_same, p18.str_eq]
      unfold lnK
      rw [List.map_append (f := Pw.G.nm), ← List.append_assoc, List.map_append (l₂ := [_].map _)]
      rfl
    · rw [upd_ne (Ne.symm LR)]
      exact z18 _ _ upd_same
    · rw [List.map_append]
      have b1 : IsA (upd G18 aL (.lst ((lnK m h gs).map V.str ++ [v18]))) xs (gs.map gD) := IsA.tmono (((ExT.of z17).put (z17 _ _ J5) fun _ q => nomatch q).trans ((ExT.of z18).put (z18 _ _ k17) fun _ q => nomatch q)) J6 (TD.gds _)
      exact b1.append (IsA.tmono (((ExT.refl _).put (z17 _ _ J5) fun _ q => nomatch q).trans ((ExT.of z18).put (z18 _ _ k17) fun _ q => nomatch q)) (.cons p17 .nil) (TD.gds [⟨nK z i, kd, ps⟩]))
    · show KdOk kd ps.length
      rw [pl]
      exact kOk
  · obtain ⟨y6, y9, y10, y11, y12, y13, y15, G', gs, rfl, ⟨J1, J2, J3, J4, ⟨xs, J5, J6⟩, J7⟩, gl⟩ := pv
    have n1' : 1 ≤ n := by omega
    have n2' : n ≤ 10 := by omega
    have ln1 : (lnK m h gs).length = m + h + n := by
      unfold lnK srcK
      simp [gl]
      omega
    have R0 : Is G' (.ref aR) (.list (gs.map gD)) := .lst J5 J6
    have L0 : Is G' (.ref aL) (.list (strsD (lnK m h gs))) := .lst J4 (IsA.strs _)
    refine go_setD (P := IntIn 0 (n : Int)) 16 sc_L_circuit.nd (dw_draw (ok_L_draw g) hr (Nat.le_refl _) (ex_v 0) (EV.is (ev_lenL g.len (ev_n 8 R0)) (by rw [List.length_map, gl])) (by omega) (by omega)) J2 fun v16 G7 H7 z7 st7 p16 => ?_
    obtain ⟨t0, rfl, t00, t01⟩ := p16
    obtain ⟨t, rfl⟩ := Int.eq_ofNat_of_zero_le t00
    refine go_setD (P := dat (.list ((gs.drop t ++ gs.take t).map gD))) 8 sc_L_circuit.nd (dw_of (EV.is (ev_cat (ev_slLf t (ev_n 8 (R0.mono z7)) (ev_n 16 (.int _)) (sIx_nat _ _ t)) (ev_slLt t (ev_n 8 (R0.mono z7)) (ev_n 16 (.int _)) (sIx_nat _ _ t)) (by rw [List.length_drop, List.length_take, List.length_map, gl]; omega)) (by rw [List.map_append, List.map_drop, List.map_take]))) st7 fun v8 G8 H8 z8 st8 p8 => ?_
    have z78 := z7.trans z8
    have L8 := L0.mono z78
    let lim : Nat → Int := fun y => if y = 0 then ((m + h + n : Nat) : Int) else if y = 1 then 1 else (if ((m + h + n : Nat) : Int) < 2 then ((m + h + n : Nat) : Int) else 2)
    have lim1 : ∀ y, 0 < lim y ∧ lim y ≤ ((m + h + n : Nat) : Int) := fun y => by
      show 0 < (if y = 0 then ((m + h + n : Nat) : Int) else if y = 1 then 1 else (if ((m + h + n : Nat) : Int) < 2 then ((m + h + n : Nat) : Int) else 2)) ∧ (if y = 0 then ((m + h + n : Nat) : Int) else if y = 1 then 1 else (if ((m + h + n : Nat) : Int) < 2 then ((m + h + n : Nat) : Int) else 2)) ≤ _
      by_cases h0 : y = 0
      · rw [if_pos h0]; omega
      · rw [if_neg h0]
        by_cases h1 : y = 1
        · rw [if_pos h1]; omega
        · rw [if_neg h1]
          by_cases h2 : ((m + h + n : Nat) : Int) < 2
          · rw [if_pos h2]; omega
          · rw [if_neg h2]; omega
    have lenE : ((strsD (lnK m h gs)).length : Int) = ((m + h + n : Nat) : Int) := by rw [List.length_map, ln1]
    refine go_setD (P := TupP fun ds => ∃ os : List Str, ds = strsD os ∧ os.length ≤ 3 ∧ ∀ x ∈ os, x ∈ lnK m h gs) 17 sc_L_circuit.nd (DW.imp (P := TupP fun ds => (ds.length : Int) < 4 ∧ ∀ (k : Nat) d, ds[k]? = some d → ∃ z, d = PyData.str z ∧ z ∈ lnK m h gs) (dw_tuple g.tuple (dw_lcP (Pn := fun q => (q : Int) < 4) (Ei := fun _ d => ∃ z, d = PyData.str z ∧ z ∈ lnK m h gs) "_law_j" 14 sc_L_circuit.nd g.range (dw_draw (ok_L_draw g) hr (Nat.le_refl _) (ex_v 0) (ev_int (i := 4)) (by decide) (by decide)).below (fun q e => by omega) fun y q G1 hq hy z s1 H0 C cl fp => DW.imp (P := OneOf (strsD (lnK m h gs))) (dw_ixN (lo := -((m + h + n : Nat) : Int)) (hi := 0) (ev_n 7 (L8.mono z)) (dw_opI op_sub (dw_of (ev_neg ev_int)) (dw_draw (m := lim y) (ok_L_draw g) hr (Nat.le_refl _) (ex_v 0) (ev_ixL (d := .int (lim y)) (ev_lst (av_cons (EV.is (ev_lenL g.len (ev_n 7 (L8.mono z))) (congrArg PyData.int lenE)) (av_cons (ev_int (i := 1)) (av_cons (EV.is (ev_min g.min rfl (ev_int (i := 2)) (ev_lenL g.len (ev_n 7 (L8.mono z)))) (congrArg (fun z => PyData.int (if z < 2 then z else 2)) lenE)) av_nil)))) (ev_n 14 (.int _)) (atI_n (j := y) ?_ y rfl)) (lim1 y).1 (by have := (lim1 y).2; omega)) fun u v G3 _ p1 p2 => ?_) ?_ (by decide)) fun v G1 _ ⟨d, hd, id⟩ => ?_)) fun v G1 _ ⟨ds, i1, h1, h2⟩ => ?_) st8 fun v17 G9 H9 z9 st9 p17 => ?_
    · rcases (by omega : y = 0 ∨ y = 1 ∨ y = 2) with rfl | rfl | rfl <;> rfl
    · obtain ⟨r, rfl, q0, q1⟩ := p2
      have := (lim1 y).2
      exact ⟨-1, r, p1.int_eq, rfl, fun _ => ⟨-1 - r, rfl, by omega, by omega⟩⟩
    · rw [lenE]; exact Int.le_refl _
    · obtain ⟨z, hz, rfl⟩ := List.mem_map.mp hd
      exact ⟨_, id, z, rfl, hz⟩
    · obtain ⟨os, rfl, hp⟩ := unmap (enc := PyData.str) (Q := fun z => z ∈ lnK m h gs) h2
      exact ⟨_, i1, os, rfl, by rw [List.length_map] at h1; omega, hp⟩
    obtain ⟨dos, iO, os, rfl, ol, om⟩ := p17
    have L9 := L8.mono z9
    refine go_setD (P := TupP fun ds => ∃ regs : List (Str × Str), ds = regs.map rD ∧ regs.map (·.1) = (List.range h).map (nK "r") ∧ ∀ r ∈ regs, r.2 ∈ lnK m h gs) 18 sc_L_circuit.nd (DW.imp (P := TupP fun ds => ds.length = h ∧ ∀ (k : Nat) d, ds[k]? = some d → ∃ r : Str × Str, d = rD r ∧ r.1 = nK "r" k ∧ r.2 ∈ lnK m h gs) (dw_tuple g.tuple (dw_lcP (Pn := fun q => q = h) (Ei := fun k d => ∃ r : Str × Str, d = rD r ∧ r.1 = nK "r" k ∧ r.2 ∈ lnK m h gs) "_law_k" 6 sc_L_circuit.nd g.range (dw_nat (ev_n 4 (.int _))) (fun q e => by omega) fun y q G1 hq hy z s1 H0 C cl fp => DW.imp (P := DatP fun d => ∃ d1 d2, d = .tuple [d1, d2] ∧ d1 = .str (nK "r" y) ∧ ∃ z, d2 = PyData.str z ∧ z ∈ lnK m h gs) (dw_tup2 (G1' := fun d => d = .str (nK "r" y)) (G2' := fun d => ∃ z, d = PyData.str z ∧ z ∈ lnK m h gs) (DW.imp (P := dat (.str (nK "r" y))) (dw_of (ev_addS (EV.is ev_str rfl) (ev_strI g.str (ev_n 6 (.int _)) (log_ok y (by omega))) (fin_le (by decide) (str_len y (by omega))))) fun v G2 _ p => ⟨_, p, rfl⟩) (DW.imp (P := OneOf (strsD (lnK m h gs))) (dw_ix (ev_n 7 (L9.mono z)) (dw_draw (ok_L_draw g) hr (Nat.le_refl _) (ex_v 0) (ev_lenL g.len (ev_n 7 (L9.mono z))) (by omega) (by omega))) fun v G1 _ ⟨d, hd, id⟩ => ?_)) fun v G1 _ ⟨d, id, d1, d2, e, e1, x, e2, hx⟩ => ?_)) fun v G1 _ ⟨ds, i1, h1, h2⟩ => ?_) st9 fun v18 G10 H10 z10 st10 p18 => ?_
    · obtain ⟨z, hz, rfl⟩ := List.mem_map.mp hd
      exact ⟨_, id, z, rfl, hz⟩
    · subst e1; subst e2; subst e
      exact ⟨_, id, (nK "r" y, x), rfl, rfl, hx⟩
    · obtain ⟨regs, rfl, hp⟩ := unmapI (enc := rD) (Q := fun k r => r.1 = nK "r" k ∧ r.2 ∈ lnK m h gs) h2
      refine ⟨_, i1, regs, rfl, ?_, fun r hr => ?_⟩
      · rw [List.length_map] at h1
        refine List.ext_getElem? fun k => ?_
        rw [List.getElem?_map, List.getElem?_map]
        by_cases hk : k < h
        · rw [List.getElem?_range hk, List.getElem?_eq_getElem (by omega)]
          exact congrArg some (hp k _ (List.getElem?_eq_getElem (by omega))).1
        · rw [List.getElem?_eq_none (by omega), List.getElem?_eq_none (by rw [List.length_range]; omega)]
          rfl
      · obtain ⟨k, hk⟩ := List.getElem?_of_mem hr
        exact (hp k r hk).2
    obtain ⟨drs, iR2, regs, rfl, hr1, hr2⟩ := p18
    have z910 := z9.trans z10
    refine go_retD (dw_of (P := DatP fun d => ∃ p, d = ptD p ∧ PtOk p) ((ev_tup (av_cons (ev_n 5 (J3.mono (z78.trans z910))) (av_cons (ev_n 18 iR2) (av_cons (ev_tupleL g.tuple (ev_n 8 (p8.mono z910))) (av_cons (ev_n 17 (iO.mono z10)) av_nil))))).imp fun v G3 _ p => ⟨_, p, ⟨(List.range m).map (nK "i"), regs, gs.drop t ++ gs.take t, os⟩, rfl, J7.pt t hr1 hr2 om ol fun e => by rw [e] at gl; simp at gl; omega⟩)) st10 fun v G3 H3 z3 st3 p3 => q v G3 H3 ((J1.trans (z78.trans z910)).trans z3) st3 p3
end
end Pw
namespace Pw
open PySem PySem.Spec L2
open Evl (Ex)
/-! ### rules for the law's own body -/
section
variable {X : Cx} {e a b c o tg iter e1 e2 : Expr} {es : List Expr} {σ : L2.St} {G H : Hp} {P P' R : PV} {l s u : Addr} {px pos pos' p1 p2 p tp : Pos} {x x1 x2 : Str} {rest body sts : List Stmt} {D : Ends} {ds : List PyData} {k : Bool}
theorem gt_tup2v {kk : Nat} {T : Addr} {v1 v2 : V} {Q : L2.St → Hp → Prop} (hc : X.calm = true) (h : H T = some (.tup [v1, v2])) (q : tG X e1 v1 σ H fun σ1 H1 => tG X e2 v2 σ1 H1 Q)
    (hn : (assignEach [e1, e2] X.env).length = 2 := by rfl) (hst : (assignEach [e1, e2] X.env).findIdx? (·.1) = none := by rfl) (hs : (assignEach [e1, e2] X.env).map (·.2) = assign e1 X.env :: (assignEach [e2] X.env).map (·.2) := by rfl) (hs2 : (assignEach [e2] X.env).map (·.2) = assign e2 X.env :: (assignEach [] X.env).map (·.2) := by rfl) :
    tG X (.Tuple [e1, e2] kk pos) (.ref T) σ H Q := toG (pg_tup hc (pgs_cons pG (pgs_cons pG pgs_nil hs2) hs) hn hst)
  ⟨T, _, rfl, SqT.of h, rfl, v1, [v2], rfl, toG pG (fun pins s u I r => wpAny_mono (q pins s u I r) (fun _ s' ⟨σ1, H1, J, w⟩ => ⟨σ1, H1, J, v2, [], rfl, toG pG (fun pins s u I r => wpAny_mono (w pins s u I r) (fun _ s' ⟨σ1, H1, J, w⟩ => ⟨σ1, H1, J, rfl, w⟩) fun _ _ z => z)⟩) fun _ _ z => z)⟩
/-- x, y = drawn -/
theorem go_unpD {kk : Nat} {P0 : PyData → Prop} (i j : Nat) (hN : X.N.Nodup) (hc : X.calm = true) (h : DW l s X σ G e (DatP P0)) (h2 : ∀ d, P0 d → ∃ d1 d2, d = .tuple [d1, d2]) (st : DrSt l s G H) (q : ∀ v1 v2 d1 d2 G1 H1, Ex G G1 → DrSt l s G1 H1 → Is G1 v1 d1 → Is G1 v2 d2 → P0 (.tuple [d1, d2]) → tSs X rest D ((σ.set i (some v1)).set j (some v2)) H1)
    (hi : X.N[i]? = some x1 := by rfl) (hj : X.N[j]? = some x2 := by rfl) (hx : Loc X.env.scope x1 := by first | exact Or.inl rfl | exact Or.inr rfl) (hx2 : Loc X.env.scope x2 := by first | exact Or.inl rfl | exact Or.inr rfl)
    (hf : X.fn x1 = true ∨ X.env.scope.names.lookup x1 = some .local := by first | exact Or.inl rfl | exact Or.inr rfl) (hf2 : X.fn x2 = true ∨ X.env.scope.names.lookup x2 = some .local := by first | exact Or.inl rfl | exact Or.inr rfl)
    (hs : swapsWithSole [.Tuple [.Name x1 p1, .Name x2 p2] kk tp] e pos.line X.env = pure false := by rfl) (hw : swappedStores [.Tuple [.Name x1 p1, .Name x2 p2] kk tp] e X.env = pure none := by rfl) (h1 : (assignEach [.Tuple [.Name x1 p1, .Name x2 p2] kk tp] X.env).map (·.2) = [assign (.Tuple [.Name x1 p1, .Name x2 p2] kk tp) X.env] := by rfl)
    (hn : (assignEach [.Name x1 p1, .Name x2 p2] X.env).length = 2 := by rfl) (hst : (assignEach [.Name x1 p1, .Name x2 p2] X.env).findIdx? (·.1) = none := by rfl) (hs1 : (assignEach [.Name x1 p1, .Name x2 p2] X.env).map (·.2) = assign (.Name x1 p1) X.env :: (assignEach [.Name x2 p2] X.env).map (·.2) := by rfl) (hs2 : (assignEach [.Name x2 p2] X.env).map (·.2) = assign (.Name x2 p2) X.env :: (assignEach [] X.env).map (·.2) := by rfl) : tSs X (.Assign [.Tuple [.Name x1 p1, .Name x2 p2] kk tp] e pos :: rest) D σ H :=
  go_cons (toS (ps_asg pE pG hs hw h1) (h G (Ex.refl _) H st _ fun v G1 H1 z st1 p => by
    obtain ⟨d, id, hd⟩ := p G1 (Ex.refl _)
    obtain ⟨d1, d2, rfl⟩ := h2 d hd
    cases id with
    | @tup T xs _ ha hxs =>
      obtain ⟨v1, v2, rfl, i1, i2⟩ := hxs.two
      exact gt_tup2v hc (st1.ex _ _ ha) (gt_name hN hi (gt_name hN hj (q v1 v2 d1 d2 G1 H1 z st1 i1 i2 hd) hx2 hf2) hx hf) hn hst hs1 hs2))
/-- for x in list, the list's place known, beside the draws -/
theorem go_forAD {la : Addr} {xs : List V} (hp : PassesOwn (model X.prog X.w) X.A X.env X.xe) (hc : X.calm = true) (hi : EX X σ G iter (.ref la)) (ha : G la = some (.lst xs)) (hx : IsA G xs ds) (st : DrSt l s G H)
    (q : ∀ (G1 H1 : Hp), Ex G G1 → DrSt l s G1 H1 → ∃ Pv : Nat → L2.St → Hp → Prop, Pv 0 σ H1 ∧ (∀ i σ' H', Pv i σ' H' → H' la = some (.lst xs)) ∧
      (∀ i v d σ' H', xs[i]? = some v → ds[i]? = some d → Is G v d → Pv i σ' H' → tG X tg v σ' H' fun σ2 H2 => tSs X body { D with nx := Pv (i + 1), ct := Pv (i + 1), bk := tSs X rest D } σ2 H2) ∧ (∀ σ' H', Pv ds.length σ' H' → tSs X rest D σ' H'))
    (hs : ∀ x, foldedSetIterable iter X.env x = pure x := by intro _; rfl) : tSs X (.For tg iter body [] pos :: rest) D σ H :=
  go_cons (toS (ps_for hp hc (pi_list pE) pG pSs hs) (dw_of hi G (Ex.refl _) H st _ fun v G1 H1 z st1 r => by
    have e : v = .ref la := r G1 (Ex.refl _)
    subst e
    obtain ⟨Pv, h0, hl, hst, hd⟩ := q G1 H1 z st1
    refine ⟨la, rfl, ⟨xs, SqL.of (st1.ex _ _ (z _ _ ha))⟩, for_list (K := X.K) (a := la) (xs := xs) Pv h0 (fun i σ' H' _ p => SqL.of (hl i σ' H' p)) (fun i v σ' H' e p => ?_) (fun σ' H' p => hd σ' H' (by rw [← hx.length]; exact p))⟩
    obtain ⟨d, e2, r⟩ := hx.at_ e
    exact hst i v d σ' H' e e2 r p))
/-- an if that is not taken, beside the draws -/
theorem go_skipD (h : TW X σ G c false) (st : DrSt l s G H) (q : ∀ G1 H1, Ex G G1 → DrSt l s G1 H1 → tSs X rest D σ H1) : tSs X (.If c sts [] pos :: rest) D σ H :=
  go_joinD (fun σ' H' => σ' = σ ∧ ∃ G1, Ex G G1 ∧ DrSt l s G1 H') h st (fun e _ _ _ _ => nomatch e) (fun _ G1 H1 z st1 => ⟨rfl, G1, z, st1⟩) fun σ' H' ⟨e, G1, z, st1⟩ => by
    rw [e]
    exact q G1 H' z st1
/-- a call that draws, what it gives by its arguments -/
theorem dw_callR {k j : Nat} {pre : List V → Hp → PV → Prop} {p : Pos} {PA : List V → Hp → Prop} (F : Fnc X.prog X.w X.K X.mg X.base k x (SpD pre)) (hr : Room j X.A) (hk : k ≤ j) (h0 : EX X σ G e (.ref l)) (ha : DA l s X σ G es PA) (hs : ∀ vs G2, Ex G G2 → PA vs G2 → ∃ R', pre vs G2 R' ∧ ∀ v G3, Ex G2 G3 → R' v G3 → R v G3)
    (hg : Gl X x := by rfl) (hdb : (x == ("__debug__" : Str)) = false := by decide) (he : starEach (e :: es) X.env = (false, eval e X.env) :: starEach es X.env := by rfl) (hpl : (backTo pos (starEach es X.env)).any (·.1) = false := by rfl) : DW l s X σ G (.Call (.Name x p) (e :: es) [] pos) R := by
  obtain ⟨f, fd, ps, F, hm, kp, hb⟩ := F
  exact fun G1 z H1 st Q q => toE (pe_call F (hr.mono hk) hg hm kp hb .nil passL pA hdb he hpl) (da_cons (dw_of h0) ha he G1 z H1 st _ fun vs G2 H2 z2 st2 p => by
    rw [List.append_nil]
    obtain ⟨v, r, rfl, p1, p2⟩ := p G2 (Ex.refl G2)
    rw [show v = .ref l from p1]
    obtain ⟨R', h1, h2⟩ := hs r G2 (z.trans z2) p2
    exact ⟨l, s, G2, r, R', st2, rfl, h1, fun w G3 H3 z3 st3 g => q w G3 H3 (z2.trans z3) st3 fun G4 z4 => h2 w G4 (z3.trans z4) (g G4 z4)⟩)
/-- the law's breaks and shorts, one behind the other -/
def BkR (p : Pt) : PV := fun v H2 => ∃ ws : List Vn, Is H2 v (.list (ws.map vD)) ∧ (∀ x ∈ ws, VOk p x) ∧ ws ≠ [] ∧ ws.length ≤ 3000
end
end Pw
namespace Pw
open PySem PySem.Spec L2
open Evl (Ex)
/-! ### what the law draws and asks, in plain words -/
theorem brk_ok {p : Pt} {v : Vn} (h : v ∈ p.brk) : VOk p v := by
  unfold Pt.brk at h
  rcases List.mem_append.mp h with h | h
  · obtain ⟨l, hl, hv⟩ := List.mem_flatMap.mp h
    unfold brS at hv
    simp only [List.mem_cons, List.mem_nil_iff, or_false] at hv
    rcases hv with rfl | rfl <;> exact hl
  · obtain ⟨t, ht, hv⟩ := List.mem_flatMap.mp h
    obtain ⟨i, hi, hv⟩ := List.mem_flatMap.mp hv
    have hi := List.mem_range.mp hi
    unfold brP at hv
    simp only [List.mem_cons, List.mem_nil_iff, or_false] at hv
    rcases hv with rfl | rfl <;> exact ⟨t, ht, rfl, hi⟩
theorem sh_ok {p : Pt} {v : Vn} (h : ShOk p v) : VOk p v := by
  obtain ⟨a, b, k, rfl, h1, h2, h3, h4, h5⟩ := h
  exact ⟨h1, h2, h3, h4, h5⟩
theorem brk_len {p : Pt} (sm : Sm p) : p.brk.length ≤ 200 := by
  have l1 := sm.lns; have l2 := sm.gs
  have a := len_flatMap (f := brS) (m := 2) (xs := p.lns) fun _ _ => Nat.le_refl _
  have b := len_flatMap (f := fun g => (List.range g.ps.length).flatMap (brP g)) (m := 8) (xs := p.gs) (brP_len sm)
  unfold Pt.brk
  rw [List.length_append]
  omega
theorem brk_ne {p : Pt} (h : p.gs ≠ []) : p.brk ≠ [] := fun e => by
  unfold Pt.brk at e
  have e := (List.append_eq_nil_iff.mp e).1
  cases c : p.gs with
  | nil => exact h c
  | cons g r =>
    have hg : g.nm ∈ p.lns := List.mem_append_right _ (by rw [c]; exact List.mem_cons_self)
    have : Vn.stem g.nm false ∈ p.lns.flatMap brS := List.mem_flatMap.mpr ⟨_, hg, List.mem_cons_self⟩
    rw [e] at this
    cases this
theorem sm_vn (v : Vn) : SM 1 (vD v) := by
  cases v with
  | stem l b =>
    refine .tup 0 (Nat.le_of_ble_eq_true rfl) fun d hd => .sc 0 ?_
    simp only [List.mem_cons, List.mem_nil_iff, or_false] at hd
    rcases hd with rfl | rfl | rfl
    · exact .str _
    · exact .str _
    · exact .int _
  | pin l i b =>
    refine .tup 0 (Nat.le_of_ble_eq_true rfl) fun d hd => .sc 0 ?_
    simp only [List.mem_cons, List.mem_nil_iff, or_false] at hd
    rcases hd with rfl | rfl | rfl | rfl
    · exact .str _
    · exact .str _
    · exact .int _
    · exact .int _
  | short a b k =>
    refine .tup 0 (Nat.le_of_ble_eq_true rfl) fun d hd => .sc 0 ?_
    simp only [List.mem_cons, List.mem_nil_iff, or_false] at hd
    rcases hd with rfl | rfl | rfl | rfl <;> exact .str _
theorem sm_vns (vs : List Vn) (h : vs.length ≤ 1000) : SM 3 (.list (vs.map vD)) := .lst 2 (.tup 1 (by rw [List.length_map]; exact h) fun d hd => by
  obtain ⟨v, _, rfl⟩ := List.mem_map.mp hd
  exact sm_vn v)
/-- the law's test of a break is the program's -/
theorem hid_sym (W : Nat) (taps : List Nat) (t1 t2 : List (List Bool)) : (!decide (t2 = t1) && decide (sig W taps t2 = sig W taps t1)) = hid W taps t1 t2 := by
  unfold hid
  rw [decide_eq_decide.mpr (eq_comm (a := t2) (b := t1)), decide_eq_decide.mpr (eq_comm (a := sig W taps t2) (b := sig W taps t1))]
theorem vns_bks (vs : List Vn) : vs.map vD = (vs.map Bk.ok).map bkD := by
  rw [List.map_map]
  rfl
theorem all_ok (vs : List Vn) : (vs.map Bk.ok).all bkB = true := by
  rw [List.all_map]
  exact List.all_eq_true.mpr fun _ _ => rfl
theorem lost_vns (p : Pt) (W : Nat) (taps : List Nat) (pats : List (List Bool)) (vs : List Vn) : ((vs.map Bk.ok).filter (lostB p W taps pats)).map bkD = (vs.filter fun v => hid W taps (lRes p none pats) (lRes p (some v) pats)).map vD := by
  induction vs with
  | nil => rfl
  | cons v r ih =>
    rw [List.map_cons, List.filter_cons, List.filter_cons]
    show List.map bkD (if hid W taps (lRes p none pats) (lRes p (some v) pats) = true then _ else _) = _
    by_cases h : hid W taps (lRes p none pats) (lRes p (some v) pats) = true
    · rw [if_pos h, if_pos h, List.map_cons, List.map_cons, ih]
      rfl
    · rw [if_neg h, if_neg h, ih]
section
variable {X : Cx} {e a b c d o : Expr} {es : List Expr} {σ : L2.St} {H : Hp} {pos p0 : Pos} {j : Nat}
/-- the law's call of its own responses -/
theorem ev_lres {p : Pt} {ver : Option Vn} {pats : List (List Bool)} (F : Fnc X.prog X.w X.K X.mg X.base 4 "_law_responses" spLRes) (hr : Room j X.A) (hk : 4 ≤ j) (ha : EV X σ H a (ptD p)) (hb : EV X σ H b (voD ver)) (hp : EV X σ H c (patsD pats)) (wf : Wf p) (vg : VGo p ver) (po : PatOk p pats)
    (hg : Gl X "_law_responses" := by rfl) (he : starEach [a, b, c] X.env = (false, eval a X.env) :: starEach [b, c] X.env := by rfl) (he2 : starEach [b, c] X.env = (false, eval b X.env) :: starEach [c] X.env := by rfl) (he3 : starEach [c] X.env = (false, eval c X.env) :: starEach [] X.env := by rfl) (hpl : (backTo pos (starEach [b, c] X.env)).any (·.1) = false := by rfl) : EV X σ H (.Call (.Name "_law_responses" p0) [a, b, c] [] pos) (tabD (lRes p ver pats)) :=
  ew_call F hr hk (aw_cons ha (aw_cons hb (aw_cons hp aw_nil he3) he2) he) (fun vs H2 y hv Q q => by
    obtain ⟨w1, r1, rfl, i1, w2, r2, rfl, i2, w3, r3, rfl, i3, rfl⟩ := hv
    exact ⟨p, ver, pats, w1, w2, w3, rfl, i1, i2, i3, wf, vg, po, q⟩) hg (by decide) he hpl
/-- the law's call of _law_told -/
theorem ev_told {lc lp : Addr} {p : Pt} {ord : List G} {dxc : Addr} {fsc : List (Str × V)} {bks : List Bk} {pats : List (List Bool)} {W : Nat} {taps : List Nat} {dx : Addr} {vt : V} {z : Str} (F : Fnc X.prog X.w X.K X.mg X.base 9 "_law_told" (spTold X.K)) (hr : Room j X.A) (hk : 9 ≤ j) (ha : EX X σ H a (.ref lc)) (hb : EV X σ H b (.list (bks.map bkD))) (hp : EV X σ H c (patsD pats)) (hd : EX X σ H d (.ref lp)) (hc : CircOk X.K H lc p ord dxc fsc) (pr : HasPr X.K H lp W taps dx vt) (pw : PrW W taps) (wf : Wf p) (fm : Fm p) (bi : ∀ b ∈ bks, BkIn p b) (bl : bks.length ≤ 1000) (sz : Sizes pats) (hz : toldS (bks.all bkB = true) (LenOk p pats) z)
    (hg : Gl X "_law_told" := by rfl) (he : starEach [a, b, c, d] X.env = (false, eval a X.env) :: starEach [b, c, d] X.env := by rfl) (he2 : starEach [b, c, d] X.env = (false, eval b X.env) :: starEach [c, d] X.env := by rfl) (he3 : starEach [c, d] X.env = (false, eval c X.env) :: starEach [d] X.env := by rfl) (he4 : starEach [d] X.env = (false, eval d X.env) :: starEach [] X.env := by rfl) (hpl : (backTo pos (starEach [b, c, d] X.env)).any (·.1) = false := by rfl) : EV X σ H (.Call (.Name "_law_told" p0) [a, b, c, d] [] pos) (.str z) :=
  ew_call F hr hk (aw_cons ha (aw_cons hb (aw_cons hp (aw_cons hd aw_nil he4) he3) he2) he) (fun vs H2 y hv Q q => by
    obtain ⟨w1, r1, rfl, i1, w2, r2, rfl, i2, w3, r3, rfl, i3, w4, r4, rfl, i4, rfl⟩ := hv
    rw [show w1 = .ref lc from i1, show w4 = .ref lp from i4]
    exact ⟨lc, w2, w3, lp, p, ord, dxc, fsc, bks, pats, W, taps, dx, vt, z, rfl, ⟨hc.mono y, i2, i3, pr.mono y, pw, wf, fm, bi, bl, sz⟩, hz, q⟩) hg (by decide) he hpl
end
end Pw
namespace Pw
open PySem PySem.Spec L2
open Evl (Ex)
section
variable {P : Program} {w : World} {K : PySem.W.Frag} {mg : Str → Option Value} {base : Heap}
def spLaw (K : PySem.W.Frag) : Sp := fun vs H Q _ => ∃ (a : Addr) (ns : List Int), vs = [.ref a] ∧ SqL K H a (ns.map V.int) ∧ ns.length ≤ 63 ∧ ∀ H', Q (.bl true) H'
theorem law_len : ∀ vs H Q E, spLaw K vs H Q E → vs.length = A_law.length := by
  rintro vs H Q E ⟨a, ns, rfl, _⟩
  rfl
theorem law_body (g : Gd P w K mg base) (cdv : Value) (A : Around) (outer : List Env) (s0 : Shared) (H : Hp) (vs : List V) (Q : VK) (E : XK) (hr : Room 19 (BX P w K mg base N_law d_law (He.fAd K d_law.at_) cdv A outer s0 H E).A) (ql : spLaw K vs H Q E) : tSs (BX P w K mg base N_law d_law (He.fAd K d_law.at_) cdv A outer s0 H E) d_law.body (BD Q) (L2.start N_law vs) H := by
  obtain ⟨a, ns, rfl, hs, _, q⟩ := ql
  have tk := bxTakes (P := P) (w := w) (K := K) (mg := mg) (base := base) (N := N_law) (d := d_law) (f := He.fAd K d_law.at_) (cdv := cdv) (A := A) (outer := outer) (s := s0) (H := H) (E := E) rfl
  refine go_setT 1 sc_law.nd (te_callX (ok_L_draws g) hr (by omega) tk (aw_cons (ex_v 0) aw_nil) fun vs H1 z1 hv => ?_)
  obtain ⟨w1, r1, rfl, i1, rfl⟩ := hv
  rw [show w1 = .ref a from i1]
  refine ⟨a, ns, rfl, SqL.ext hs z1, fun l s G H2 zz st => ?_⟩
  -- the press
  refine go_unpD (P0 := fun d => ∃ (W : Nat) (taps : List Nat), d = .tuple [.int (W : Int), .tuple (wsD taps)] ∧ PrW W taps) 2 3 sc_law.nd rfl (dw_call (ok_L_press g) hr (by omega) (ex_v 1) (da_cons (dw_of (ev_int (i := 5))) da_nil) fun vs G2 _ ⟨v, r, e1, p, e2⟩ => ?_) (fun d ⟨W, taps, e, _⟩ => ⟨_, _, e⟩) st fun v2 v3 d2 d3 G3 H3 z3 st3 i2 i3 ⟨W, taps, e, pw⟩ => ?_
  · subst e2
    rw [p.int_eq] at e1
    exact ⟨e1, rfl⟩
  injection e with e
  injection e with e4 e
  injection e with e5 _
  subst e4
  subst e5
  rw [i2.int_eq]
  refine go_setD (P := fun v G => ∃ lp dx vt, v = .ref lp ∧ HasPr K G lp W taps dx vt) 4 sc_law.nd (dw_of (ew_make (ok_Press_init g) hr (by omega) (aw_cons (P := dat (.int (W : Int))) (ev_n 2 (.int _)) (aw_cons (P := dat (.tuple (wsD taps))) (ev_n 3 i3) aw_nil)) fun vs H6 z6 hv6 lp dx hl hd hne Q6 q6 => ?_)) st3 fun v4 G4 H4 z4 st4 p4 => ?_
  · obtain ⟨w1, r1, rfl, i1, w2, r2, rfl, i2, rfl⟩ := hv6
    rw [i1.int_eq]
    have zm := Ex.make (C := PC K) hl hd
    exact ⟨lp, dx, W, taps, w2, rfl, upd_same, i2.mono zm, pw, fun H7 vt' b7 hp => ⟨rfl, q6 _ _ (Ex.made hl zm b7) fun H8 z8 => ⟨lp, dx, vt', rfl, hp.mono z8⟩⟩⟩
  obtain ⟨lp, dx, vt, rfl, pr4⟩ := p4
  have i3 := i3.mono z4
  -- the tables
  refine go_unpD (P0 := fun d => ∃ t1 t2 : List (List Bool), d = .tuple [tabD t1, tabD t2] ∧ TabOk t1 ∧ TabOk t2) 5 6 sc_law.nd rfl (dw_call (ok_L_tables g) hr (by omega) (ex_v 1) da_nil fun vs G2 _ e => ⟨e, rfl⟩) (fun d ⟨t1, t2, e, _⟩ => ⟨_, _, e⟩) st4 fun v5 v6 d5 d6 G5 H5 z5 st5 i5 i6 ⟨t1, t2, e, k1, k2⟩ => ?_
  injection e with e
  injection e with e4 e
  injection e with e5 _
  subst e4
  subst e5
  have i3 := i3.mono z5
  have pr5 := pr4.mono z5
  refine go_setD (P := dat (.bool (hid W taps t1 t2))) 7 sc_law.nd (dw_of (EV.is (ev_and (k := !decide (t1 = t2)) (EV.is (ev_cmp (op_neD hr.units) rfl (ev_n 5 i5) (ev_n 6 i6) (rb_neD (sd_tab t1).shaped (sd_tab t2).shaped)) (congrArg PyData.bool (congrArg (!·) (eqv_tab t1 t2)))) fun _ => ev_one (EV.is (ev_cmp (op_eqD hr.units) rfl (ev_callD (ok_L_signed g) hr (by omega) (av_cons (ev_n 2 (.int _)) (av_cons (ev_n 3 i3) (av_cons (ev_n 5 i5) av_nil))) ⟨W, taps, t1, rfl, pw, k1, rfl⟩) (ev_callD (ok_L_signed g) hr (by omega) (av_cons (ev_n 2 (.int _)) (av_cons (ev_n 3 i3) (av_cons (ev_n 6 i6) av_nil))) ⟨W, taps, t2, rfl, pw, k2, rfl⟩) (rb_eqD (sd_bits _).shaped (sd_bits _).shaped)) (congrArg PyData.bool (eqv_sig _ _)))) rfl)) st5 fun v7 G6 H6 z6 st6 p7 => ?_
  have i5 := i5.mono z6
  have i6 := i6.mono z6
  have i3 := i3.mono z6
  have pr6 := pr5.mono z6
  refine go_skipD (tw_not (k := true) (tw_val (ev_callD (ok_L_same g 0) hr (by omega) (av_cons (d := .bool (hid W taps t1 t2)) (ew_call (ok_hidden g) hr (by omega) (aw_cons (ex_v 4) (aw_cons (P := dat (tabD t1)) (ev_listL g.list (ev_n 5 i5)) (aw_cons (P := dat (tabD t2)) (ev_listL g.list (ev_n 6 i6)) aw_nil))) fun vs H7 z7 hv Q2 q2 => ?_) (av_cons (ev_n 7 p7) av_nil)) ⟨_, rfl, .sc 0 (.bl _), rfl⟩))) st6 fun G7 H7 z7 st7 => ?_
  · obtain ⟨w1, r1, rfl, j1, w2, r2, rfl, j2, w3, r3, rfl, j3, rfl⟩ := hv
    rw [show w1 = .ref lp from j1]
    exact ⟨lp, W, taps, dx, vt, w2, w3, t1, t2, rfl, pr6.mono z7, pw, j2, j3, k1, k2, q2⟩
  have i3 := i3.mono z7
  have pr7 := pr6.mono z7
  -- the circuit
  refine go_setD (P := DatP fun d => ∃ p, d = ptD p ∧ PtOk p) 8 sc_law.nd (dw_call (ok_L_circuit g) hr (by omega) (ex_v 1) (da_cons (dw_of (ev_int (i := 5))) (da_cons (dw_of (ev_int (i := 10))) da_nil)) fun vs G2 _ ⟨v, r, e1, p, v', r', e2, p', e3⟩ => ?_) st7 fun v8 G8 H8 z8 st8 p8 => ?_
  · subst e3
    rw [p'.int_eq] at e2
    subst e2
    rw [p.int_eq] at e1
    exact ⟨e1, rfl⟩
  obtain ⟨d8, i8, p, rfl, pk⟩ := p8
  have i3 := i3.mono z8
  have pr8 := pr7.mono z8
  refine go_setD (P := fun v G => ∃ lc ord dxc fsc, v = .ref lc ∧ CircOk K G lc p ord dxc fsc) 9 sc_law.nd (dw_of (ew_make (ok_Circuit_init g) hr (by omega) (aw_cons (P := dat (.tuple (strsD p.ins))) (ev_ixT (ev_n 8 i8) ev_int (atI_n (j := 0) rfl 0 rfl)) (aw_cons (P := dat (.tuple (p.regs.map rD))) (ev_ixT (ev_n 8 i8) ev_int (atI_n (j := 1) rfl 1 rfl)) (aw_cons (P := dat (.tuple (p.gs.map gD))) (ev_ixT (ev_n 8 i8) ev_int (atI_n (j := 2) rfl 2 rfl)) (aw_cons (P := dat (.tuple (strsD p.outs))) (ev_ixT (ev_n 8 i8) ev_int (atI_n (j := 3) rfl 3 rfl)) aw_nil)))) fun vs H6 z6 hv6 lc dxc hl hd hne Q6 q6 => ?_)) st8 fun v9 G9 H9 z9 st9 p9 => ?_
  · obtain ⟨w1, r1, rfl, j1, w2, r2, rfl, j2, w3, r3, rfl, j3, w4, r4, rfl, j4, rfl⟩ := hv6
    have zm := Ex.make (C := CC K) hl hd
    exact ⟨lc, dxc, p, w1, w2, w3, w4, rfl, upd_same, j1.mono zm, j2.mono zm, j3.mono zm, j4.mono zm, pk.wf, pk.fm, pk.use, fun H7 ord fs b7 hp => ⟨rfl, q6 _ _ (Ex.made hl zm b7) fun H8 z8 => ⟨lc, ord, dxc, fs, rfl, hp.mono z8⟩⟩⟩
  obtain ⟨lc, ord, dxc, fsc, rfl, hc9⟩ := p9
  have i3 := i3.mono z9
  have i8 := i8.mono z9
  have pr9 := pr8.mono z9
  have sm := pk.wf.sm
  -- breaks and patterns
  refine go_setD (P := LstP fun es => ∃ bs : List Vn, es = bs.map vD ∧ bs.length ≤ 15 ∧ ∀ v ∈ bs, VOk p v) 10 sc_law.nd (dw_callR (ok_L_some g) hr (by omega) (ex_v 1) (da_cons (P := BkR p) (dw_of (ew_op op_cat (ev_callD (ok_L_breaks g) hr (by omega) (av_cons (ev_n 8 i8) av_nil) ⟨p, rfl, sm, rfl⟩) (ew_call (R := ShR p) (ok_L_shorts g) hr (by omega) (aw_cons (P := dat (ptD p)) (ev_n 8 i8) aw_nil) fun vs H7 z7 hv Q2 q2 => ?_) fun x y H7 z7 px py Q7 q7 => ?_)) (da_cons (dw_of (ev_int (i := 15))) da_nil)) fun vs G2 _ ⟨v, r, e1, px, v', r', e2, p', e3⟩ => ?_) st9 fun v10 G10 H10 z10 st10 p10 => ?_
  · obtain ⟨w1, r1, rfl, j1, rfl⟩ := hv
    exact ⟨p, w1, rfl, j1, sm, pk.wf.nd, q2⟩
  · cases px with
    | @lst a1 xs _ h hs =>
      obtain ⟨ws, iw, hw, lw⟩ := py
      cases iw with
      | @lst a2 ys _ h' hs' =>
        have bl := brk_len sm
        refine ⟨a1, a2, xs, ys, rfl, rfl, h, h', ?_, fun t ht => q7 _ _ (Ex.new ht) fun H8 z8 => ⟨p.brk ++ ws, ?_, ?_, ?_, ?_⟩⟩
        · rw [hs.length, hs'.length, List.length_map, List.length_map]
          exact sz10 (by omega)
        · rw [List.map_append]
          exact (Is.lst upd_same ((hs.append hs').mono (Ex.new ht))).mono z8
        · intro x hx
          rcases List.mem_append.mp hx with h | h
          · exact brk_ok h
          · exact sh_ok (hw x h)
        · intro e
          exact brk_ne pk.ne (List.append_eq_nil_iff.mp e).1
        · rw [List.length_append]; omega
  · subst e3
    rw [p'.int_eq] at e2
    subst e2
    obtain ⟨ws, iw, hw, nw, lw⟩ := px
    refine ⟨_, ⟨ws.map vD, v, e1, iw, fun e => nw (List.map_eq_nil_iff.mp e), by rw [List.length_map]; omega, rfl⟩, fun u G3 z3 ⟨es, ie, le, he⟩ => ?_⟩
    obtain ⟨bs, rfl, hb⟩ := unmap (enc := vD) (Q := fun v => VOk p v) (ds := es) fun k d hd => by
      obtain ⟨x, hx, e⟩ := List.mem_map.mp (he d (memAt hd))
      exact ⟨x, e.symm, hw x hx⟩
    exact ⟨_, ie, bs, rfl, by rw [List.length_map] at le; exact le, hb⟩
  obtain ⟨d10, i10, bs, rfl, bl, bo⟩ := p10
  have i3 := i3.mono z10
  have i8 := i8.mono z10
  have pr10 := pr9.mono z10
  have hc10 := hc9.mono z10
  refine go_setD (P := DatP fun d => ∃ pats : List (List Bool), d = patsD pats ∧ pats.length ≤ 8 ∧ ∀ b ∈ pats, b.length = p.src.length) 11 sc_law.nd (dw_call (ok_L_patterns g) hr (by omega) (ex_v 1) (da_cons (dw_of (ev_n 8 i8)) (da_cons (dw_of (ev_int (i := 8))) da_nil)) fun vs G2 _ ⟨v, r, e1, p1, v', r', e2, p', e3⟩ => ?_) st10 fun v11 G11 H11 z11 st11 p11 => ?_
  · subst e3
    rw [p'.int_eq] at e2
    subst e2
    exact ⟨p, v, e1, p1, sm, rfl⟩
  obtain ⟨d11, i11, pats, rfl, pl, lo⟩ := p11
  have i3 := i3.mono z11
  have i8 := i8.mono z11
  have i10 := i10.mono z11
  have pr11 := pr10.mono z11
  have hc11 := hc10.mono z11
  have sl := sm.src
  have po : PatOk p pats := ⟨by omega, lo⟩
  have sz : Sizes pats := ⟨by omega, fun b hb => by rw [lo b hb]; omega⟩
  refine go_setD (P := dat (tabD (lRes p none pats))) 12 sc_law.nd (dw_of (ev_lres (ver := none) (ok_L_responses g) hr (by omega) (ev_n 8 i8) ev_non (ev_n 11 i11) pk.wf True.intro po)) st11 fun v12 G12 H12 z12 st12 i12 => ?_
  have i3 := i3.mono z12
  have i8 := i8.mono z12
  have i10 := i10.mono z12
  have i11 := i11.mono z12
  have pr12 := pr11.mono z12
  have hc12 := hc11.mono z12
  -- those that the signature hides
  refine go_setD (P := Fr G12 []) 13 sc_law.nd (dw_of (ef_lst av_nil)) st12 fun v13 G13 H13 z13 st13 p13 => ?_
  obtain ⟨ag, xg, rfl, ng, hg13, ig⟩ := p13
  cases ig
  cases i10 with
  | @lst lb xb _ hlb hxb =>
  have ags : ag ≠ s := fun e => by
    obtain ⟨ns, hn⟩ := st12.sAt
    rw [← e, ng] at hn
    cases hn
  let F : Vn → Bool := fun v => hid W taps (lRes p none pats) (lRes p (some v) pats)
  let Pv : Nat → L2.St → Hp → Prop := fun i σ' H' => ∃ y14 y15 G' ys, σ' = [some (.ref a), some (.ref l), some (.int (W : Int)), some v3, some (.ref lp), some v5, some v6, some v7, some v8, some (.ref lc), some (.ref lb), some v11, some v12, some (.ref ag), y14, y15, none, none] ∧ Ex G12 G' ∧ DrSt l s G' H' ∧ G' ag = some (.lst ys) ∧ IsA G' ys (((bs.take i).filter F).map vD)
  refine go_forAD (la := lb) (xs := xb) (ds := bs.map vD) (passes_of rfl) rfl (ex_v 10) (z13 _ _ hlb) (hxb.mono z13) st13 fun G14 H14 z14 st14 => ⟨Pv, ⟨none, none, G14, [], rfl, z13.trans z14, st14, z14 _ _ hg13, by rw [List.take_zero]; exact .nil⟩, fun i σ' H' pv => ?_, fun i v d σ' H' e1 e2 _ pv => ?_, fun σ' H' pv => ?_⟩
  · obtain ⟨_, _, G', ys, _, zz, st', _⟩ := pv
    exact st'.ex _ _ (zz _ _ hlb)
  · obtain ⟨y14, y15, G', ys, rfl, z, st', ha', hys⟩ := pv
    obtain ⟨vn, e3, rfl⟩ := gems e2
    have vo := bo vn (memAt e3)
    obtain ⟨d', e4, r12⟩ := hxb.at_ e1
    rw [e2] at e4
    cases e4
    have r' := r12.mono z
    refine gt_n 14 sc_law.nd ?_
    refine go_setD (P := dat (tabD (lRes p (some vn) pats))) 15 sc_law.nd (dw_of (ev_lres (ver := some vn) (ok_L_responses g) hr (by omega) (ev_n 8 (i8.mono z)) (ev_n 14 r') (ev_n 11 (i11.mono z)) pk.wf (vo.go pk.wf) po)) st' fun v15 G15 H15 z15 st15 i15 => ?_
    have zz := z.trans z15
    have fil : (bs.take (i + 1)).filter F = (bs.take i).filter F ++ (if F vn = true then [vn] else []) := by
      rw [List.take_add_one, e3, List.filter_append]
      show _ ++ List.filter F [vn] = _
      rw [List.filter_cons, List.filter_nil]
    refine go_joinD (Pv (i + 1)) (k := F vn) (TW.is (tw_w (ww_and (k := !decide (lRes p (some vn) pats = lRes p none pats)) (l := decide (sig W taps (lRes p (some vn) pats) = sig W taps (lRes p none pats))) (TW.is (tw_cmp (op_neD hr.units) rfl (ev_n 15 i15) (ev_n 12 (i12.mono zz)) (rb_neD (sd_tab _).shaped (sd_tab _).shaped)) (congrArg (!·) (eqv_tab _ _))) fun _ => ww_and1 (TW.is (tw_cmp (op_eqD hr.units) rfl (ev_callD (ok_L_signed g) hr (by omega) (av_cons (ev_n 2 (.int _)) (av_cons (ev_n 3 (i3.mono zz)) (av_cons (ev_n 15 i15) av_nil))) ⟨W, taps, _, rfl, pw, lRes_ok pk.wf (some vn) sz, rfl⟩) (ev_callD (ok_L_signed g) hr (by omega) (av_cons (ev_n 2 (.int _)) (av_cons (ev_n 3 (i3.mono zz)) (av_cons (ev_n 12 (i12.mono zz)) av_nil))) ⟨W, taps, _, rfl, pw, lRes_ok pk.wf none sz, rfl⟩) (rb_eqD (sd_bits _).shaped (sd_bits _).shaped)) (eqv_sig _ _)))) (hid_sym W taps _ _)) st15 (fun kt G16 H16 z16 st16 => ?_) (fun kt G16 H16 z16 st16 => ?_) fun σ2 H2 pv => go_nil pv
    · have h16 := (z15.trans z16) _ _ ha'
      refine go_pushD (P := dat (vD vn)) (ex_v 13) (ev_n 14 (r'.mono (z15.trans z16))) h16 (by rw [hys.length, List.length_map]; have := List.length_filter_le F (bs.take i); rw [List.length_take] at this; omega) st16 ags fun v17 G17 H17 z17 st17 p17 => go_nil ⟨_, _, _, _, rfl, Ex.put (zz.trans (z16.trans z17)) ng, st17, upd_same, ?_⟩
      have h17 := z17 _ _ h16
      rw [fil, if_pos kt, List.map_append]
      exact ((hys.mono ((z15.trans z16).trans z17)).tput (TD.vns _) h17).append (IsA.tput (.cons p17 .nil) (TD.vns [vn]) h17)
    · exact ⟨_, _, G16, ys, rfl, zz.trans z16, st16, (z15.trans z16) _ _ ha', by rw [fil, if_neg (by rw [kt]; exact Bool.false_ne_true), List.append_nil]; exact hys.mono (z15.trans z16)⟩
  obtain ⟨y14, y15, G', ys, rfl, z, st', ha', hys⟩ := pv
  rw [List.length_map, List.take_length] at hys
  have iG : Is G' (.ref ag) (.list ((bs.filter F).map vD)) := .lst ha' hys
  have i10 : Is G' (.ref lb) (.list ((bs.map Bk.ok).map bkD)) := by
    rw [← vns_bks]
    exact .lst (z _ _ hlb) (hxb.mono z)
  have i8 := i8.mono z
  have i11 := i11.mono z
  have prG := pr12.mono z
  have hcG := hc12.mono z
  have bin : ∀ b ∈ bs.map Bk.ok, BkIn p b := fun b hb => by
    obtain ⟨v, hv, rfl⟩ := List.mem_map.mp hb
    exact bo v hv
  have fl := List.length_filter_le F bs
  refine go_skipD (tw_not (k := true) (tw_val (ev_callD (ok_L_same g 3) hr (by omega) (av_cons (d := .list ((bs.filter F).map vD)) (fun H8 z8 Q8 q8 => te_callX (ok_lost g) hr (by omega) tk (aw_cons (ex_v 9) (aw_cons (P := dat (.list ((bs.map Bk.ok).map bkD))) (ev_listL g.list (ev_n 10 (i10.mono z8))) (aw_cons (P := dat (patsD pats)) (ev_listL g.list (ev_n 11 (i11.mono z8))) (aw_cons (ex_v 4) aw_nil)))) fun vs H9 z9 hv9 => ?_) (av_cons (ev_n 13 iG) av_nil)) ⟨_, rfl, sm_vns _ (by omega), rfl⟩))) st' fun G18 H18 z18 st18 => ?_
  · obtain ⟨w1, r1, rfl, j1, w2, r2, rfl, j2, w3, r3, rfl, j3, w4, r4, rfl, j4, rfl⟩ := hv9
    rw [show w1 = .ref lc from j1, show w4 = .ref lp from j4]
    exact ⟨lc, w2, w3, lp, p, ord, dxc, fsc, bs.map Bk.ok, pats, W, taps, dx, vt, rfl, hcG.mono (z8.trans z9), j2, j3, prG.mono (z8.trans z9), pw, pk.wf, pk.fm, bin, by rw [List.length_map]; omega, sz, fun _ _ u H10 z10 p10 => q8 u H10 (z9.trans z10) (by rw [lost_vns] at p10; exact p10), fun e => (by rw [all_ok] at e; cases e), fun _ nlo => absurd lo nlo⟩
  have i8 := i8.mono z18
  have i10 := i10.mono z18
  have i11 := i11.mono z18
  have prG := prG.mono z18
  have hcG := hcG.mono z18
  -- wrong lists
  refine go_setD (P := fun v G => ∃ b : Bk, Is G v (bkD b) ∧ bkB b = false ∧ BkIn p b) 16 sc_law.nd (DW.imp (P := OneOf [.none, bkD .nosuch, .int 3]) (dw_ix (ev_lst (av_cons ev_non (av_cons (EV.is (ev_tup (av_cons ev_str (av_cons ev_str (av_cons ev_int av_nil)))) rfl) (av_cons ev_int av_nil)))) (dw_draw (ok_L_draw g) hr (by omega) (ex_v 1) (ev_int (i := 3)) (by decide) (by decide))) fun v G1 _ ⟨d, hd, id⟩ => ?_) st18 fun v16 G19 H19 z19 st19 p16 => ?_
  · simp only [List.mem_cons, List.mem_nil_iff, or_false] at hd
    rcases hd with rfl | rfl | rfl
    · exact ⟨.non, id, rfl, True.intro⟩
    · exact ⟨.nosuch, id, rfl, fun h => pk.non _ h rfl⟩
    · exact ⟨.three, id, rfl, True.intro⟩
  obtain ⟨b, ib, hb, hbi⟩ := p16
  have i8 := i8.mono z19
  have i10 := i10.mono z19
  have i11 := i11.mono z19
  have prG := prG.mono z19
  have hcG := hcG.mono z19
  have bin2 : ∀ c ∈ bs.map Bk.ok ++ [b], BkIn p c := fun c hc => by
    rcases List.mem_append.mp hc with h | h
    · exact bin c h
    · rw [List.mem_singleton.mp h]; exact hbi
  have all2 : ¬ (bs.map Bk.ok ++ [b]).all bkB = true := fun e => by
    rw [List.all_append, Bool.and_eq_true] at e
    have := List.all_eq_true.mp e.2 b (List.mem_singleton.mpr rfl)
    rw [hb] at this
    cases this
  have len2 : (bs.map Bk.ok ++ [b]).length ≤ 1000 := by
    rw [List.length_append, List.length_map]
    show bs.length + 1 ≤ 1000
    omega
  have len3 : ((bs.map Bk.ok).map bkD).length + 1 ≤ 100000 := by
    rw [List.length_map, List.length_map]
    omega
  have cat2 : PyData.list ((bs.map Bk.ok).map bkD ++ [bkD b]) = .list ((bs.map Bk.ok ++ [b]).map bkD) := by
    rw [List.map_append]
    rfl
  refine go_skipD (TW.is (tw_cmp op_ne rfl (ev_told (z := "break") (bks := bs.map Bk.ok ++ [b]) (pats := pats) (ok_L_told g) hr (by omega) (ex_v 9) (EV.is (ev_cat (ev_n 10 i10) (ev_lst (av_cons (ev_n 16 ib) av_nil)) len3) cat2) (ev_n 11 i11) (ex_v 4) hcG prG pw pk.wf pk.fm bin2 len2 sz ⟨fun e => absurd e all2, fun _ => rfl, fun e => absurd e all2⟩) ev_str rb_neS) (by simp)) st19 fun G20 H20 z20 st20 => ?_
  have i8 := i8.mono z20
  have i10 := i10.mono z20
  have i11 := i11.mono z20
  have ib := ib.mono z20
  have prG := prG.mono z20
  have hcG := hcG.mono z20
  have catP : PyData.list (pats.map (fun b => PyData.tuple (bitsD b)) ++ [.tuple (bitsD (List.replicate (p.src.length + 1) false))]) = patsD (pats ++ [List.replicate (p.src.length + 1) false]) := by
    unfold patsD
    rw [List.map_append]
    rfl
  refine go_setD (P := dat (patsD (pats ++ [List.replicate (p.src.length + 1) false]))) 17 sc_law.nd (dw_of (EV.is (ev_cat (ev_n 11 i11) (ev_lst (av_cons (EV.is (ev_repT (n := p.src.length + 1) (ev_tup (av_cons ev_int av_nil)) (EV.is (ev_add (ev_lenL g.len (ev_callD (ok_L_sources g) hr (by omega) (av_cons (ev_n 8 i8) av_nil) ⟨p, rfl, sm, rfl⟩)) ev_int) (by rw [List.length_map]; rfl)) (by simp) (by omega) (by omega) (by decide)) (congrArg PyData.tuple (repT_eq _))) av_nil)) (by rw [List.length_map]; exact (by omega : pats.length + 1 ≤ 100000))) catP)) st20 fun v17 G21 H21 z21 st21 i17 => ?_
  have i10 := i10.mono z21
  have ib := ib.mono z21
  have prG := prG.mono z21
  have hcG := hcG.mono z21
  have szL : Sizes (pats ++ [List.replicate (p.src.length + 1) false]) := ⟨by rw [List.length_append]; exact (by omega : pats.length + 1 ≤ 500), fun c hc => by
    rcases List.mem_append.mp hc with h | h
    · exact sz.2 c h
    · rw [List.mem_singleton.mp h, List.length_replicate]; omega⟩
  have nL : ¬ LenOk p (pats ++ [List.replicate (p.src.length + 1) false]) := fun h => by
    have := h _ (List.mem_append_right _ (List.mem_singleton.mpr rfl))
    rw [List.length_replicate] at this
    omega
  refine go_retD (dw_of (P := dat (.bool true)) (EV.is (ev_and (k := true) (l := true) (EV.is (ev_cmp op_eq rfl (ev_told (z := "pattern") (bks := bs.map Bk.ok) (ok_L_told g) hr (by omega) (ex_v 9) (ev_n 10 i10) (ev_n 17 i17) (ex_v 4) hcG prG pw pk.wf pk.fm bin (by rw [List.length_map]; omega) szL ⟨fun _ e => absurd e nL, fun e => absurd (all_ok bs) e, fun _ _ => rfl⟩) ev_str rb_eqS) (by simp)) fun _ => ev_one (EV.is (ev_cmp op_eq rfl (ev_told (z := "break") (bks := bs.map Bk.ok ++ [b]) (ok_L_told g) hr (by omega) (ex_v 9) (EV.is (ev_cat (ev_n 10 i10) (ev_lst (av_cons (ev_n 16 ib) av_nil)) len3) cat2) (ev_n 17 i17) (ex_v 4) hcG prG pw pk.wf pk.fm bin2 len2 szL ⟨fun e => absurd e all2, fun _ => rfl, fun e => absurd e all2⟩) ev_str rb_eqS) (by simp))) rfl)) st21 fun v G22 H22 z22 st22 p22 => ?_
  rw [(p22 G22 (Ex.refl _)).bl_eq]
  exact q H22
end
end Pw
set_option maxHeartbeats 0
namespace Pw
open PySem PySem.Spec PyProof.Rows L2
/-- the end, where what leaves a def hangs on the world -/
theorem walk_end {l : PySem.W.OpenLaw} {m k : Nat} {pr : Program} {lo : List Str} {XP : (Str → Option Value) → Heap → Prop} {YP : World → Heap → Prop} {d : DefRec} {CX : World → CXT} {x : Str} (h1 : l.most = some m) (h2 : m ≤ sizeLine) (h3 : d.params.defaults = []) (h4 : Room k callerA)
    (F : ∀ (w : World) (mg : Str → Option Value) (fa : Addr) (h : Heap), YP w h → h.Ns mainGlobals mg → mg d.name = some (.ref fa) → ∃ (K : PySem.W.Frag) (fd : FuncData) (sp : Sp), K.In h ∧ (∀ (s : Shared) (u : Value), BindsTo s fd ⟨[u], []⟩ [(x, u)]) ∧ (∀ (H : Hp) (a : Addr) (ns : List Int), ns.length ≤ m → SqL K H a (ns.map V.int) → sp [.ref a] H (fun v _ => v = .bl true) fun _ _ _ => False) ∧ ∀ base : Heap, K.In base → base.Ns mainGlobals mg → FnOk l.prog w K mg base (CX w) k fa fd [x] sp)
    (h5 : ∀ (w : World) (H : Hp) (s : Shared) (e : Value) (s' : Shared), CX w [] H s (fun _ _ _ => False) e s' → False) : PySem.W.WalkO pr lo XP YP l.row.toRowW d [] (fun f vs => PySem.call f vs) := by
  refine Att.attach_call h1 h3 fun w _ s1 mg mb fa _ _ _ _ a vs ns gr y _ _ _ hm ho hi hl hg => ?_
  obtain ⟨K, fd, sp, kx, hb, hs, hF⟩ := F w mg fa _ y gr.T.g hm
  exact law_call kx gr.T.g gr.T.b gr.T.builtins gr.T.nolimit hg ho hi (Nat.le_trans hl h2) h4 hF hb (fun H _ q => hs H a ns hl q) fun H e s' => h5 w H s1 e s'
theorem cx_none {P : Program} (w : World) (H : Hp) (s : Shared) (e : Value) (s' : Shared) (h : L2.CX P w [] H s (fun _ _ _ => False) e s') : False := by
  obtain ⟨_, _, _, _, _, _, _, _, _, _, _, _, z⟩ := h
  exact z
theorem facts {P : Program} {w : World} {K : PySem.W.Frag} {h : Heap} {mg : Str → Option Value} {f : Addr} (X : K.In h) (G : h.Ns mainGlobals mg) (hfa : mg ("law" : Str) = some (.ref f)) (c : SaysM K) :
    ∃ fd : FuncData, (∀ (s : Shared) (v : Value), BindsTo s fd ⟨[v], []⟩ [("_law_script", v)]) ∧ ∀ base : Heap, K.In base → base.Ns mainGlobals mg → FnOk P w K mg base (L2.CX P w) 20 f fd ["_law_script"] (spLaw K) := by
  obtain ⟨fd, F⟩ := c.d.def_ 66 (d := d_law) rfl
  have e := hfa.symm.trans (He.glo_ok X G (c.d.fact 47 (f := .glo "law") rfl))
  cases e
  have F2 := F
  have e1 : d_law.dvs K = [] := rfl
  have e2 : d_law.kws K = [] := rfl
  rw [e1, e2] at F2
  have b := F2.bindsA (ps := ["_law_script"]) bn_law
  refine ⟨fd, fun s v => b s [v] rfl, fun base hk hn => F.ok sc_law law_len fun cdv A outer s H vs Q E hr q => ⟨_, pSs, law_body ⟨hk, hn, c⟩ cdv A outer s H vs Q E hr q⟩⟩
end Pw
open PySem PySem.W PySem.Calls PyProof.Rows
theorem PySem.Challenge.cw_probewright_k63_whole_lost_breaks_holds : PySem.Challenge.rw_probewright_k63_whole_lost_breaks.Holds := by
  w_on; o_law
  refine HandSHeadRun.head_any (r := Pw.Rw) (q := view Pw.Rw.prog [73]) (H := Pw.hk) (ob := Pw.ob) (M := 6000) (loose := Pw.loose) (d := HandSHeadRun.topDef Pw.Rw.prog 73) (kwd := []) Pw.ob_eq
    (by kernel_rfl) (fun s => by kernel_rfl) Pw.run (by kernel_rfl) (by kernel_rfl) (by kernel_rfl) (by rfl) (by first | assumption | decide +kernel) (by decide +kernel) ⟨rfl, rfl, rfl, rfl, rfl, by decide +kernel⟩ ?hw ?hc
  case hw => w_witness2
  case hc =>
    refine Pw.walk_end (l := PySem.Challenge.rw_probewright_k63_whole_lost_breaks) (m := 63) (k := 20) (x := "_law_script") (CX := fun w => L2.CX PySem.Challenge.rw_probewright_k63_whole_lost_breaks.prog w) rfl (by decide) (by kernel_rfl) ⟨rfl, by decide, by decide⟩ ?F (fun w => Pw.cx_none w)
    intro w mg fa h y ns hm0
    obtain ⟨K, kx, c⟩ := y
    have hm : mg ("law" : PySem.Str) = some (.ref fa) := by
      have e : (HandSHeadRun.topDef Pw.Rw.prog 73).name = ("law" : PySem.Str) := by kernel_rfl
      rw [← e]
      exact hm0
    obtain ⟨fd, hb, hF⟩ := Pw.facts (P := PySem.Challenge.rw_probewright_k63_whole_lost_breaks.prog) (w := w) kx ns hm c
    exact ⟨K, fd, Pw.spLaw K, kx, hb, fun H a is hl q => ⟨a, is, rfl, q, hl, fun _ => rfl⟩, hF⟩
#print axioms PySem.Challenge.cw_probewright_k63_whole_lost_breaks_holds
