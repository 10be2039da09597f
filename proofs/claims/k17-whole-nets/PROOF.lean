import PyProof.Rows.All
import Wide.All
import OpenK.AllK
import Wide.FinOn
import HandS.ForMost
import HandS.Exc
import HandS.TryOnly
import HandS.ExcOwn
import HandS.WordsExc
import HandS.IsInst
import HandS.ExcIs
import HandS.Steps
import HandS.Style
import HandS.Codes
import PySem.Challenge.RW_namepaths_k17_whole_nets_judged
set_option Elab.async false
set_option linter.all false
set_option maxRecDepth 100000
set_option maxHeartbeats 4000000
namespace K17
open PySem PySem.Spec PyProof.Rows L2
/-! ### 1. the data -/
abbrev Step := Str × Str × Int
abbrev Tell := Str × Str × Str × Int
abbrev Thg := Str × Int
abbrev Qst := Int × Int × List Str
abbrev Scp := List Step × List Tell
structure Net where
  sc : List Scp
  th : List Thg
  qu : List Qst
abbrev letters : Str := "abcdefghijklmnopqrstuvwxyz"
def nameOk (x : Str) : Bool := decide (1 ≤ x.length) && decide (x.length ≤ 8) && x.cps.toList.all fun c => decide (c ∈ letters.cps.toList)
def smallSc (s : Scp) : Bool := decide (s.1.length ≤ 8) && decide (s.2.length ≤ 12)
def smallQu (q : Qst) : Bool := decide (q.2.2.length ≤ 6)
def smallHd (N : Net) : Bool := decide (N.sc.length ≤ 40) && decide (N.th.length ≤ 80) && decide (N.qu.length ≤ 60)
def small (N : Net) : Bool := smallHd N && N.sc.all smallSc && N.qu.all smallQu
def namedSt (s : Step) : Bool := nameOk s.1
def namedTe (t : Tell) : Bool := nameOk t.1 && nameOk t.2.1
def namedSc (s : Scp) : Bool := s.1.all namedSt && s.2.all namedTe
def namedQu (q : Qst) : Bool := !q.2.2.isEmpty && q.2.2.all nameOk
def named (N : Net) : Bool := N.sc.all namedSc && N.qu.all namedQu
def within (n : Int) (m : Nat) : Bool := decide (0 ≤ n) && decide (n < (m : Int))
def thereSt (N : Net) (s : Step) : Bool := if s.2.1 = "to" then within s.2.2 N.sc.length else decide (s.2.1 = "by") && within s.2.2 N.qu.length
def thereTe (N : Net) (t : Tell) : Bool := if t.2.2.1 = "thing" then within t.2.2.2 N.th.length else decide (t.2.2.1 = "by") && within t.2.2.2 N.qu.length
def thereTh (N : Net) (t : Thg) : Bool := if t.1 = "plain" then decide (t.2 = 0) else if t.1 = "part" then within t.2 N.sc.length else decide (t.1 = "sort") && within t.2 N.qu.length
def thereSc (N : Net) (s : Scp) : Bool := s.1.all (thereSt N) && s.2.all (thereTe N)
def thereQu (N : Net) (q : Qst) : Bool := !(decide (q.1 < 0) || decide (q.1 ≥ (N.sc.length : Int)) || decide (q.2.1 < 0))
def there (N : Net) : Bool := N.sc.all (thereSc N) && N.th.all (thereTh N) && N.qu.all (thereQu N)
/-- a text that may stand in a net -/
def TOk (x : Str) : Prop := x.length ≤ 100 ∧ ∀ c ∈ x.cps.toList, c < 0x110000
structure StOk (s : Step) : Prop where
  l : TOk s.1
  k : TOk s.2.1
structure TeOk (t : Tell) : Prop where
  l : TOk t.1
  n : TOk t.2.1
  k : TOk t.2.2.1
def ThOk (t : Thg) : Prop := TOk t.1
structure QuOk (q : Qst) : Prop where
  n : q.2.2.length ≤ 100
  p : ∀ x ∈ q.2.2, TOk x
structure ScOk (s : Scp) : Prop where
  n1 : s.1.length ≤ 100
  n2 : s.2.length ≤ 100
  st : ∀ x ∈ s.1, StOk x
  te : ∀ x ∈ s.2, TeOk x
structure NOk (N : Net) : Prop where
  n1 : N.sc.length ≤ 100
  n2 : N.th.length ≤ 100
  n3 : N.qu.length ≤ 100
  sc : ∀ x ∈ N.sc, ScOk x
  th : ∀ x ∈ N.th, ThOk x
  qu : ∀ x ∈ N.qu, QuOk x
/-! ### 2. the data on the heap -/
def VStep (H : Hp) (v : V) (s : Step) : Prop := ∃ a, v = .ref a ∧ H a = some (.tup [.str s.1, .str s.2.1, .int s.2.2])
def VTell (H : Hp) (v : V) (t : Tell) : Prop := ∃ a, v = .ref a ∧ H a = some (.tup [.str t.1, .str t.2.1, .str t.2.2.1, .int t.2.2.2])
def VThg (H : Hp) (v : V) (t : Thg) : Prop := ∃ a, v = .ref a ∧ H a = some (.tup [.str t.1, .int t.2])
def VQst (H : Hp) (v : V) (q : Qst) : Prop := ∃ a b, v = .ref a ∧ H a = some (.tup [.int q.1, .int q.2.1, .ref b]) ∧ H b = some (.tup (q.2.2.map V.str))
def LAt {α : Type} (R : Hp → V → α → Prop) (H : Hp) (v : V) (xs : List α) : Prop := ∃ a vs, v = .ref a ∧ H a = some (.lst vs) ∧ Paired (R H) vs xs
def VScp (H : Hp) (v : V) (s : Scp) : Prop := ∃ a x y, v = .ref a ∧ H a = some (.tup [x, y]) ∧ LAt VStep H x s.1 ∧ LAt VTell H y s.2
def VNet (H : Hp) (v : V) (N : Net) : Prop := ∃ a x y z, v = .ref a ∧ H a = some (.tup [x, y, z]) ∧ LAt VScp H x N.sc ∧ LAt VThg H y N.th ∧ LAt VQst H z N.qu
theorem pmap {α β : Type} {F G : α → β → Prop} (f : ∀ a b, F a b → G a b) : ∀ {l : List α} {m : List β}, Paired F l m → Paired G l m
  | _, _, .nil => .nil
  | _, _, .cons r t => .cons (f _ _ r) (pmap f t)
theorem plen {α β : Type} {F : α → β → Prop} : ∀ {l : List α} {m : List β}, Paired F l m → l.length = m.length
  | _, _, .nil => rfl
  | _, _, .cons _ t => by rw [List.length_cons, List.length_cons, plen t]
theorem pget {α β : Type} {F : α → β → Prop} : ∀ {l : List α} {m : List β} {i : Nat} {x : α}, Paired F l m → l[i]? = some x → ∃ y, m[i]? = some y ∧ F x y
  | _, _, _, _, .nil, e => by simp at e
  | _, _, 0, _, .cons r _, e => by simp at e; subst e; exact ⟨_, rfl, r⟩
  | _, _, i + 1, x, .cons _ t, e => by
    obtain ⟨u, h1, h2⟩ := pget (i := i) (x := x) t (by simpa using e)
    exact ⟨u, by simpa using h1, h2⟩
section
variable {H H' : Hp}
theorem VStep.mono (e : Same H H') {v : V} {s : Step} (h : VStep H v s) : VStep H' v s := by
  obtain ⟨a, rfl, h⟩ := h
  exact ⟨a, rfl, e _ _ h⟩
theorem VTell.mono (e : Same H H') {v : V} {s : Tell} (h : VTell H v s) : VTell H' v s := by
  obtain ⟨a, rfl, h⟩ := h
  exact ⟨a, rfl, e _ _ h⟩
theorem VThg.mono (e : Same H H') {v : V} {s : Thg} (h : VThg H v s) : VThg H' v s := by
  obtain ⟨a, rfl, h⟩ := h
  exact ⟨a, rfl, e _ _ h⟩
theorem VQst.mono (e : Same H H') {v : V} {s : Qst} (h : VQst H v s) : VQst H' v s := by
  obtain ⟨a, b, rfl, h, h2⟩ := h
  exact ⟨a, b, rfl, e _ _ h, e _ _ h2⟩
theorem LAt.mono {α : Type} {R : Hp → V → α → Prop} (m : ∀ v s, R H v s → R H' v s) (e : Same H H') {v : V} {xs : List α} (h : LAt R H v xs) : LAt R H' v xs := by
  obtain ⟨a, vs, rfl, h, p⟩ := h
  exact ⟨a, vs, rfl, e _ _ h, pmap m p⟩
theorem VScp.mono (e : Same H H') {v : V} {s : Scp} (h : VScp H v s) : VScp H' v s := by
  obtain ⟨a, x, y, rfl, h, h1, h2⟩ := h
  exact ⟨a, x, y, rfl, e _ _ h, h1.mono (fun _ _ => VStep.mono e) e, h2.mono (fun _ _ => VTell.mono e) e⟩
theorem VNet.mono (e : Same H H') {v : V} {N : Net} (h : VNet H v N) : VNet H' v N := by
  obtain ⟨a, x, y, z, rfl, h, h1, h2, h3⟩ := h
  exact ⟨a, x, y, z, rfl, e _ _ h, h1.mono (fun _ _ => VScp.mono e) e, h2.mono (fun _ _ => VThg.mono e) e, h3.mono (fun _ _ => VQst.mono e) e⟩
theorem same_new {p : Addr} {o : HO} (h : H p = none) : Same H (upd H p o) := fun b x e => by
  rw [upd_ne (ne_of_none e h)]
  exact e
theorem same_new2 {p : Addr} {o : HO} (e : Same H H') (h : H' p = none) : Same H (upd H' p o) := e.trans (same_new h)
/-- an object that H doesn't know may change -/
theorem same_mut {p : Addr} {o : HO} (e : Same H H') (h : H p = none) : Same H (upd H' p o) := fun b x q => by
  rw [upd_ne (ne_of_none q h)]
  exact e b x q
end
/-! ### 3. the text -/
def topS (i : Nat) : Stmt := PySem.Challenge.pw_namepaths_k17_whole_nets_judged.main.body.getD i (.Pass ⟨0, 0, 0, 0⟩)
/-- what the walk asks of an own error's class -/
structure ExT (K : PySem.W.Frag) (C : Addr) : Prop where
  x : PySem.W.excIn K C [.type "ValueError", .type "Exception", .type "BaseException", .type "object"] "ValueError.__new__" = true
  k : PySem.W.keepIn K (.ref C) = true
  b : PySem.W.subIn K (.ref C) (.type "BaseException") = some true
  t : PySem.W.typeIn K (.ref C) = some (.type "type")
  c : ExcC K C
theorem ExT.r {X : Cx} {C : Addr} (e : ExT X.K C) : Raises X (.ref C) := raises_own e.b e.t
/-- what the top has written, but the defs -/
structure Txt (K : PySem.W.Frag) (mg : Str → Option Value) (cl : Fin 10 → Addr) : Prop where
  z_len : mg "len" = none
  z_range : mg "range" = none
  z_isinstance : mg "isinstance" = none
  z_list : mg "list" = none
  z_tuple : mg "tuple" = none
  z_str : mg "str" = none
  z_int : mg "int" = none
  z_any : mg "any" = none
  z_all : mg "all" = none
  z_max : mg "max" = none
  z_ValueError : mg "ValueError" = none
  g_LETTERS : ∃ u, mg "LETTERS" = some u ∧ RelV (.str letters) u
  g_MOST_SCOPES : ∃ u, mg "MOST_SCOPES" = some u ∧ RelV (.int 40) u
  g_MOST_THINGS : ∃ u, mg "MOST_THINGS" = some u ∧ RelV (.int 80) u
  g_MOST_QUESTIONS : ∃ u, mg "MOST_QUESTIONS" = some u ∧ RelV (.int 60) u
  g_MOST_STEPS : ∃ u, mg "MOST_STEPS" = some u ∧ RelV (.int 8) u
  g_MOST_TELLINGS : ∃ u, mg "MOST_TELLINGS" = some u ∧ RelV (.int 12) u
  g_MOST_NAMES : ∃ u, mg "MOST_NAMES" = some u ∧ RelV (.int 6) u
  g_PathError : mg "PathError" = some (.ref (cl 0))
  g_TooGreat : mg "TooGreat" = some (.ref (cl 1))
  g_NoName : mg "NoName" = some (.ref (cl 2))
  g_NoPlace : mg "NoPlace" = some (.ref (cl 3))
  g_Twice : mg "Twice" = some (.ref (cl 4))
  g_Tangled : mg "Tangled" = some (.ref (cl 5))
  g_NoText : mg "NoText" = some (.ref (cl 6))
  g_NoRow : mg "NoRow" = some (.ref (cl 7))
  g_Ring : mg "Ring" = some (.ref (cl 8))
  g_Caught : mg "Caught" = some (.ref (cl 9))
  e_TooGreat : ExT K (cl 1)
  e_NoName : ExT K (cl 2)
  e_NoPlace : ExT K (cl 3)
  /-- which of the classes an error of the i-th class is of -/
  sub : ∀ i : Fin 10, 1 ≤ i.val → i.val ≤ 3 → ∀ j : Fin 10, PySem.W.kitOne K (.ref (cl i)) (.ref (cl j)) = some (decide (j.val = 0) || decide (i = j))
  subV : ∀ i : Fin 10, 1 ≤ i.val → i.val ≤ 3 → PySem.W.kitOne K (.ref (cl i)) (.type "ValueError") = some true
  exm : ∀ i : Fin 10, 1 ≤ i.val → i.val ≤ 3 → PySem.W.exmOne K (.ref (cl i)) (.ref (cl 0)) = some true
/-- a def as the top has left it -/
def Df (K : PySem.W.Frag) (mg : Str → Option Value) (x : Str) (st : Stmt) : Prop := ∃ f fd, Fun K x x st f fd ∧ mg x = some (.ref f)
/-- a def with its promise -/
def Cal (P : Program) (w : World) (K : PySem.W.Frag) (mg : Str → Option Value) (base : Heap) (CX : CXT) (k : Nat) (x : Str) (ps : List Str) (sp : Sp) : Prop :=
  ∃ f fd, mg x = some (.ref f) ∧ PySem.W.keepIn K (.ref f) = true ∧ Binds K fd ps [] ∧ FnOk P w K mg base CX k f fd ps sp
section
variable {X : Cx} {k j : Nat} {ps : List Str} {sp : Sp} {x : Str} {p pos : Pos} {e : Expr} {es : List Expr} {t : TA}
theorem pe_cal (c : Cal X.prog X.w X.K X.mg X.base CX0 k x ps sp) (hr : Room j X.A) (hk : k ≤ j) (hg : Gl X x) (ha : PA X (e :: es) t) (hdb : (x == ("__debug__" : Str)) = false := by decide)
    (he : starEach (e :: es) X.env = (false, eval e X.env) :: starEach es X.env := by rfl) (hpl : (backTo pos (starEach es X.env)).any (·.1) = false := by rfl) :
    PE X (.Call (.Name x p) (e :: es) [] pos) (tCall sp [] E0 t) := by
  obtain ⟨f, fd, hm, kp, b, F⟩ := c
  exact pe_call F (hr.mono hk) hg hm kp b .nil pass0 ha hdb he hpl
theorem pe_calX (c : Cal X.prog X.w X.K X.mg X.base (L2.CX X.prog X.w) k x ps sp) (hr : Room j X.A) (hk : k ≤ j) (hg : Gl X x) (ha : PA X (e :: es) t) (hdb : (x == ("__debug__" : Str)) = false := by decide)
    (he : starEach (e :: es) X.env = (false, eval e X.env) :: starEach es X.env := by rfl) (hpl : (backTo pos (starEach es X.env)).any (·.1) = false := by rfl) :
    PE X (.Call (.Name x p) (e :: es) [] pos) (tCall sp [] E0 t) := by
  obtain ⟨f, fd, hm, kp, b, F⟩ := c
  exact pe_call F (hr.mono hk) hg hm kp b .nil passL ha hdb he hpl
theorem pe_calS {E : L2.St → XK} (c : Cal X.prog X.w X.K X.mg X.base (L2.CX X.prog X.w) k x ps sp) (hr : Room j X.A) (hk : k ≤ j) (hg : Gl X x) (hx : ∀ σ, PassesAt (L2.CX X.prog X.w) X σ (E σ)) (ha : PA X (e :: es) t) (hdb : (x == ("__debug__" : Str)) = false := by decide)
    (he : starEach (e :: es) X.env = (false, eval e X.env) :: starEach es X.env := by rfl) (hpl : (backTo pos (starEach es X.env)).any (·.1) = false := by rfl) :
    PE X (.Call (.Name x p) (e :: es) [] pos) (tCallS sp E t) := by
  obtain ⟨f, fd, hm, kp, b, F⟩ := c
  exact pe_callS F (hr.mono hk) hg hm kp b hx ha hdb he hpl
end
/-- isinstance(e, c) of the caught error -/
def rIsE2 (K : PySem.W.Frag) (cls : Value) (d : Option Addr) (a : Addr) : List V → Hp → VK → Prop := fun xs H Q => ∃ D, cls = .ref D ∧ d = none ∧ ExcC K D ∧ rIsE K D a xs H Q
theorem call_isE2 {X : Cx} {a : Addr} {oe : Obj} {cls : Value} {d : Option Addr} {pn : List (Addr × Obj)} (hz : Zc cls d oe) (hf : ∃ vs, oe.data = .fields vs) : CallR (X.suite a ((a, oe) :: pn)) (.builtin "isinstance") (rIsE2 X.K cls d a) := by
  intro pins s σ H xs us Q I r h
  obtain ⟨D, rfl, rfl, C, h⟩ := h
  exact call_isE C hz hf pins s σ H xs us Q I r h
def rLenS : List V → Hp → VK → Prop := fun xs H Q => ∃ z, xs = [.str z] ∧ z.length ≤ sizeLine ∧ Q (.int z.length) H
def rLenQ (K : PySem.W.Frag) : List V → Hp → VK → Prop := fun xs H Q => ∃ p ys, xs = [.ref p] ∧ (SqL K H p ys ∨ SqT K H p ys) ∧ Q (.int ys.length) H
section
variable {X : Cx}
theorem call_lenS : CallR X (.builtin "len") rLenS := call_len_str
theorem call_lenQ : CallR X (.builtin "len") (rLenQ X.K) := call_len_seq
def rListOf (K : PySem.W.Frag) : List V → Hp → VK → Prop := fun xs H Q => ∃ p ys, xs = [.ref p] ∧ (SqL K H p ys ∨ SqT K H p ys) ∧ ∀ l, H l = none → Q (.ref l) (upd H l (.lst ys))
theorem call_listOf : CallR X (.type "list") (rListOf X.K) := call_list_of
def rTupOf (K : PySem.W.Frag) : List V → Hp → VK → Prop := fun xs H Q => ∃ p ys, xs = [.ref p] ∧ ((SqL K H p ys ∧ ∀ l, H l = none → Q (.ref l) (upd H l (.tup ys))) ∨ (SqT K H p ys ∧ Q (.ref p) H))
theorem call_tupOf : CallR X (.type "tuple") (rTupOf X.K) := call_tuple_of
def rIntOf : List V → Hp → VK → Prop := fun xs H Q => (∃ i, xs = [.int i] ∧ Q (.int i) H) ∨ ∃ k, xs = [.bl k] ∧ Q (.int (if k then 1 else 0)) H
theorem call_intOf : CallR X (.type "int") rIntOf := call_int1
def rMaxOf : List V → Hp → VK → Prop := fun xs H Q => ∃ i j, xs = [.int i, .int j] ∧ Q (.int (if j > i then j else i)) H
theorem call_maxOf (hc : X.calm = true) : CallR X (.builtin "max") rMaxOf := call_max2 hc
theorem boot_listT : bootBuiltins "list" = some (.type "list") := by decide +kernel
theorem boot_tupT : bootBuiltins "tuple" = some (.type "tuple") := by decide +kernel
theorem boot_intT : bootBuiltins "int" = some (.type "int") := by decide +kernel
theorem boot_anyB : bootBuiltins "any" = some (.builtin "any") := by decide +kernel
theorem boot_allB : bootBuiltins "all" = some (.builtin "all") := by decide +kernel
theorem boot_maxB : bootBuiltins "max" = some (.builtin "max") := by decide +kernel
theorem boot_isi : bootBuiltins "isinstance" = some (.builtin "isinstance") := PyProof.Rows.boot_isinstance
end
/-! ### 4. values and tests that leave the heap as it is -/
section
variable {σ : L2.St} {H : Hp} {i : Nat} {v x y z : V} {ta tb tc te : TE} {b : Bool} {K : PySem.W.Frag} {t u c : TT}
def ValA (ta : TA) (σ : L2.St) (H : Hp) (vs : List V) : Prop := ∀ Q : List V → Hp → Prop, Q vs H → ta σ H Q
theorem va_nil : ValA tNil σ H [] := fun _ q => q
theorem va_cons {tr : TA} {vs : List V} (h : Val ta σ H x) (hr : ValA tr σ H vs) : ValA (tCons ta tr) σ H (x :: vs) := fun Q q => h _ (hr _ q)
theorem v_I0 {g : Int → Int → V} {a b : Int} (ha : Val ta σ H (.int a)) (hb : Val tb σ H (.int b)) : Val (tOp (rI0 g) ta tb) σ H (g a b) := fun Q q => ha _ (hb _ ⟨a, b, rfl, rfl, q⟩)
theorem v_I {C : Int → Int → Prop} {g : Int → Int → V} {a b : Int} (ha : Val ta σ H (.int a)) (hb : Val tb σ H (.int b)) (hc : C a b) : Val (tOp (rI C g) ta tb) σ H (g a b) := fun Q q => ha _ (hb _ ⟨a, b, rfl, rfl, hc, q⟩)
theorem v_neg {g : Int → V} {a : Int} (ha : Val ta σ H (.int a)) : Val (tUn (rU g) ta) σ H (g a) := fun Q q => ha _ ⟨a, rfl, q⟩
theorem v_eqS {a b : Str} (ha : Val ta σ H (.str a)) (hb : Val tb σ H (.str b)) : Val (tOp rEq ta tb) σ H (.bl (decide (a = b))) := fun Q q => ha _ (hb _ ⟨rfl, by
  rw [show decide (V.str a = V.str b) = decide (a = b) from decide_eq_decide.mpr ⟨V.str.inj, fun e => e ▸ rfl⟩]
  exact q⟩)
theorem v_eqI {a b : Int} (ha : Val ta σ H (.int a)) (hb : Val tb σ H (.int b)) : Val (tOp rEq ta tb) σ H (.bl (decide (a = b))) := fun Q q => ha _ (hb _ ⟨rfl, by
  rw [show decide (V.int a = V.int b) = decide (a = b) from decide_eq_decide.mpr ⟨V.int.inj, fun e => e ▸ rfl⟩]
  exact q⟩)
theorem v_neI {a b : Int} (ha : Val ta σ H (.int a)) (hb : Val tb σ H (.int b)) : Val (tOp rNe ta tb) σ H (.bl (!decide (a = b))) := fun Q q => ha _ (hb _ ⟨rfl, by
  rw [show decide (V.int a = V.int b) = decide (a = b) from decide_eq_decide.mpr ⟨V.int.inj, fun e => e ▸ rfl⟩]
  exact q⟩)
theorem v_isN (ha : Val ta σ H x) : Val (tOp rIsN ta (tC .non)) σ H (.bl (decide (x = .non))) := fun Q q => ha _ ⟨rfl, q⟩
theorem v_notN (ha : Val ta σ H x) : Val (tOp rNotN ta (tC .non)) σ H (.bl (!decide (x = .non))) := fun Q q => ha _ ⟨rfl, q⟩
theorem v_notB {a b : Bool} (ha : Val ta σ H (.bl a)) (hb : Val tb σ H (.bl b)) : Val (tOp rNotB ta tb) σ H (.bl (!decide (a = b))) := fun Q q => ha _ (hb _ ⟨a, b, rfl, rfl, q⟩)
theorem v_inS {a : Nat} {s : Str} (ha : Val ta σ H (.str ⟨#[a]⟩)) (hb : Val tb σ H (.str s)) : Val (tOp rInS ta tb) σ H (.bl (decide (a ∈ s.cps.toList))) := fun Q q => ha _ (hb _ ⟨a, s, rfl, rfl, q⟩)
theorem v_notInS {a : Nat} {s : Str} (ha : Val ta σ H (.str ⟨#[a]⟩)) (hb : Val tb σ H (.str s)) : Val (tOp rNotInS ta tb) σ H (.bl (!decide (a ∈ s.cps.toList))) := fun Q q => ha _ (hb _ ⟨a, s, rfl, rfl, q⟩)
theorem v_lenS {s : Str} (ha : Val ta σ H (.str s)) (hl : s.length ≤ 100) : Val (tCB rLenS (tCons ta tNil)) σ H (.int s.length) := fun Q q => ha _ ⟨s, rfl, Nat.le_trans hl (by decide), q⟩
theorem v_lenL {p : Addr} {xs : List V} (ha : Val ta σ H (.ref p)) (hl : H p = some (.lst xs)) : Val (tCB (rLenQ K) (tCons ta tNil)) σ H (.int xs.length) := fun Q q => ha _ ⟨p, xs, rfl, .inl (SqL.of hl), q⟩
theorem v_lenSq {p : Addr} {xs : List V} (ha : Val ta σ H (.ref p)) (hl : SqL K H p xs) : Val (tCB (rLenQ K) (tCons ta tNil)) σ H (.int xs.length) := fun Q q => ha _ ⟨p, xs, rfl, .inl hl, q⟩
theorem v_lenT {p : Addr} {xs : List V} (ha : Val ta σ H (.ref p)) (hl : H p = some (.tup xs)) : Val (tCB (rLenQ K) (tCons ta tNil)) σ H (.int xs.length) := fun Q q => ha _ ⟨p, xs, rfl, .inr (SqT.of hl), q⟩
theorem v_lenA {α : Type} {R : Hp → V → α → Prop} {xs : List α} (ha : Val ta σ H x) (hl : LAt R H x xs) : Val (tCB (rLenQ K) (tCons ta tNil)) σ H (.int xs.length) := by
  obtain ⟨a, vs, rfl, h, p⟩ := hl
  rw [← plen p]
  exact v_lenL ha h
theorem v_ixT {p : Addr} {xs : List V} {k : Int} (ha : Val ta σ H (.ref p)) (hb : Val tb σ H (.int k)) (hl : H p = some (.tup xs)) (hx : atI xs k = some v) : Val (tOp (rIxT K) ta tb) σ H v := fun Q q => ha _ (hb _ ⟨p, xs, k, v, rfl, rfl, SqT.of hl, hx, q⟩)
theorem v_ixL {p : Addr} {xs : List V} {k : Int} (ha : Val ta σ H (.ref p)) (hb : Val tb σ H (.int k)) (hl : H p = some (.lst xs)) (hx : atI xs k = some v) : Val (tOp (rIxL K) ta tb) σ H v := fun Q q => ha _ (hb _ ⟨p, xs, k, v, rfl, rfl, SqL.of hl, hx, q⟩)
theorem v_ixSq {p : Addr} {xs : List V} {k : Int} (ha : Val ta σ H (.ref p)) (hb : Val tb σ H (.int k)) (hl : SqL K H p xs) (hx : atI xs k = some v) : Val (tOp (rIxL K) ta tb) σ H v := fun Q q => ha _ (hb _ ⟨p, xs, k, v, rfl, rfl, hl, hx, q⟩)
theorem v_ixS {s : Str} {k : Int} {a : Nat} (ha : Val ta σ H (.str s)) (hb : Val tb σ H (.int k)) (hl : s.length ≤ 100) (hx : atI s.cps.toList k = some a) : Val (tOp rIxS ta tb) σ H (.str ⟨#[a]⟩) := fun Q q => ha _ (hb _ ⟨s, k, a, rfl, rfl, Nat.le_trans hl (by decide), hx, q⟩)
theorem v_chain {f g : Int → Int → Bool} {a b c : Int} (ha : Val ta σ H (.int a)) (hb : Val tb σ H (.int b)) (hc : Val tc σ H (.int c)) : Val (tChain (rI0 fun i j => .bl (f i j)) (rI0 fun i j => .bl (g i j)) ta tb tc) σ H (.bl (f a b && g b c)) := fun Q q => by
  refine ha _ (hb _ ⟨a, b, rfl, rfl, f a b, rfl, ?_⟩)
  cases h : f a b with
  | true =>
    refine iteT ?_
    refine hc _ ⟨b, c, rfl, rfl, ?_⟩
    rw [h, Bool.true_and] at q
    exact q
  | false =>
    refine iteF ?_
    rw [h, Bool.false_and] at q
    exact q
theorem v_and {a b : Bool} (ha : Val ta σ H (.bl a)) (hb : Val tb σ H (.bl b)) : Val (tAndV ta tb) σ H (.bl (a && b)) := fun Q q => by
  refine ha _ ⟨a, rfl, ?_⟩
  cases a with
  | true =>
    refine iteT (hb _ ?_)
    exact q
  | false => exact iteF q
theorem v_notV {a : Bool} (ha : Val ta σ H (.bl a)) : Val (tNotV ta) σ H (.bl (!a)) := fun Q q => ha _ ⟨a, rfl, q⟩
theorem v_isi {c : V} {t u : Value} {b : Bool} (ha : Val ta σ H x) (hb : Val tb σ H c) (k : ClsV c u) (ty : TyX K H x t) (e : PySem.W.kitOne K t u = some b) : Val (tCB (rIsi K) (tCons ta (tCons tb tNil))) σ H (.bl b) := fun Q q => ha _ (hb _ ⟨x, c, t, u, b, rfl, k, ty, e, q⟩)
theorem v_call {sp : Sp} {vs : List V} {E : XK} {ta : TA} (h : ValA ta σ H vs) (hs : ∀ (Q : VK) (E : XK), Q v H → sp vs H Q E) : Val (tCall sp [] E ta) σ H v := fun Q q => h _ (by
  rw [List.append_nil]
  exact hs Q E q)
theorem a_test (h : Val te σ H (.bl b)) : Ans (tTest te) σ H b := fun Q q => h _ ⟨b, rfl, q⟩
theorem a_B (h : Val te σ H (.bl b)) : Ans (tB te) σ H b := fun Q q => h _ ⟨b, rfl, q⟩
theorem a_or {a b : Bool} (h1 : Ans t σ H a) (h2 : Ans u σ H b) : Ans (tOr t u) σ H (a || b) := fun Q q => by
  refine h1 _ ?_
  cases a with
  | true => exact iteT q
  | false => exact iteF (h2 _ q)
theorem a_and {a b : Bool} (h1 : Ans t σ H a) (h2 : Ans u σ H b) : Ans (tAnd t u) σ H (a && b) := fun Q q => by
  refine h1 _ ?_
  cases a with
  | true => exact iteT (h2 _ q)
  | false => exact iteF q
theorem a_not {a : Bool} (h : Ans t σ H a) : Ans (tNot t) σ H (!a) := fun Q q => h _ q
/-! statements -/
variable {D : Ends} {t1 t2 tb' : TS} {g : TG}
theorem s_if (h : Ans c σ H b) (h1 : b = true → t1 D σ H) (h2 : b = false → t2 D σ H) : tIfS c t1 t2 D σ H := by
  refine h _ ?_
  cases b with
  | true => exact iteT (h1 rfl)
  | false => exact iteF (h2 rfl)
theorem s_seq (h : t1 { D with nx := t2 D } σ H) : tSeq t1 t2 D σ H := h
theorem s_ret (h : Val te σ H v) (q : D.rt v H) : tRet te D σ H := h _ q
theorem s_set (h : Val te σ H v) (q : D.nx (σ.set i (some v)) H) : tAsg te (gName i) D σ H := h _ q
theorem s_next (q : D.nx σ H) : tNext D σ H := q
theorem g2 {Q : L2.St → Hp → Prop} {a : Addr} {i j : Nat} (h : H a = some (.tup [x, y])) (k : Q ((σ.set i (some x)).set j (some y)) H) : gTup K 2 (gCons (gName i) (gCons (gName j) gNil)) (.ref a) σ H Q := ⟨a, _, rfl, SqT.of h, rfl, _, _, rfl, _, _, rfl, rfl, k⟩
theorem g3 {Q : L2.St → Hp → Prop} {a : Addr} {i j l : Nat} (h : H a = some (.tup [x, y, z])) (k : Q (((σ.set i (some x)).set j (some y)).set l (some z)) H) : gTup K 3 (gCons (gName i) (gCons (gName j) (gCons (gName l) gNil))) (.ref a) σ H Q :=
  ⟨a, _, rfl, SqT.of h, rfl, _, _, rfl, _, _, rfl, _, _, rfl, rfl, k⟩
theorem g4 {Q : L2.St → Hp → Prop} {w : V} {a : Addr} {i j l m : Nat} (h : H a = some (.tup [x, y, z, w])) (k : Q ((((σ.set i (some x)).set j (some y)).set l (some z)).set m (some w)) H) :
    gTup K 4 (gCons (gName i) (gCons (gName j) (gCons (gName l) (gCons (gName m) gNil)))) (.ref a) σ H Q :=
  ⟨a, _, rfl, SqT.of h, rfl, _, _, rfl, _, _, rfl, _, _, rfl, _, _, rfl, rfl, k⟩
/-- a loop that asks each item: it leaves the def, or goes on where f holds -/
theorem s_all {α : Type} {R : Hp → V → α → Prop} {f : α → Bool} {xs : List α} (hv : Val te σ H x) (hp : LAt R H x xs) (I : L2.St → Hp → Prop) (hI : ∀ σ' H', I σ' H' → Same H H') (h0 : I σ H)
    (hs : ∀ v y σ' H' (N : L2.St → Hp → Prop), y ∈ xs → R H v y → I σ' H' → (∀ σ3 H3, I σ3 H3 → f y = true → N σ3 H3) → g v σ' H' fun σ2 H2 => tb' { D with nx := N, ct := N, bk := D.nx } σ2 H2)
    (hd : ∀ σ' H', I σ' H' → xs.all f = true → D.nx σ' H') : tFor (iList K te) g tb' D σ H := by
  obtain ⟨a, vs, rfl, h, p⟩ := hp
  refine hv _ ⟨a, rfl, ⟨vs, SqL.of h⟩, for_list (K := K) (a := a) (xs := vs) (fun i σ' H' => I σ' H' ∧ (xs.take i).all f = true) ⟨h0, rfl⟩ (fun i σ' H' _ q => SqL.of (hI _ _ q.1 _ _ h)) ?_ ?_⟩
  · rintro i v σ' H' hi ⟨q, qa⟩
    obtain ⟨y, hy, r⟩ := pget p hi
    refine hs v y σ' H' _ (List.mem_of_getElem? hy) r q fun σ3 H3 q1 q2 => ⟨q1, ?_⟩
    rw [List.take_add_one, hy, List.all_append, qa]
    simp [q2]
  · rintro σ' H' ⟨q, qa⟩
    rw [plen p, List.take_length] at qa
    exact hd _ _ q qa
/-- .. over a tuple of texts -/
theorem s_allT {f : Str → Bool} {xs : List Str} {a : Addr} (hv : Val te σ H (.ref a)) (hp : H a = some (.tup (xs.map V.str))) (I : L2.St → Hp → Prop) (hI : ∀ σ' H', I σ' H' → Same H H') (h0 : I σ H)
    (hs : ∀ y σ' H' (N : L2.St → Hp → Prop), y ∈ xs → I σ' H' → (∀ σ3 H3, I σ3 H3 → f y = true → N σ3 H3) → g (.str y) σ' H' fun σ2 H2 => tb' { D with nx := N, ct := N, bk := D.nx } σ2 H2)
    (hd : ∀ σ' H', I σ' H' → xs.all f = true → D.nx σ' H') : tFor (iTup K te) g tb' D σ H := by
  refine hv _ ⟨a, rfl, ⟨_, SqT.of hp⟩, for_tup (K := K) (a := a) (xs := xs.map V.str) (fun i σ' H' => I σ' H' ∧ (xs.take i).all f = true) ⟨h0, rfl⟩ (fun i σ' H' _ q => SqT.of (hI _ _ q.1 _ _ hp)) ?_ ?_⟩
  · rintro i v σ' H' hi ⟨q, qa⟩
    rw [List.getElem?_map] at hi
    cases hy : xs[i]? with
    | none =>
      rw [hy] at hi
      cases hi
    | some y =>
      rw [hy] at hi
      cases hi
      refine hs y σ' H' _ (List.mem_of_getElem? hy) q fun σ3 H3 q1 q2 => ⟨q1, ?_⟩
      rw [List.take_add_one, hy, List.all_append, qa]
      simp [q2]
  · rintro σ' H' ⟨q, qa⟩
    rw [List.length_map, List.take_length] at qa
    exact hd _ _ q qa
/-- .. over a text, sign by sign -/
theorem s_allS {f : Nat → Bool} {s : Str} (hv : Val te σ H (.str s)) (I : L2.St → Hp → Prop) (h0 : I σ H)
    (hs : ∀ c σ' H' (N : L2.St → Hp → Prop), c ∈ s.cps.toList → I σ' H' → (∀ σ3 H3, I σ3 H3 → f c = true → N σ3 H3) → g (.str ⟨#[c]⟩) σ' H' fun σ2 H2 => tb' { D with nx := N, ct := N, bk := D.nx } σ2 H2)
    (hd : ∀ σ' H', I σ' H' → s.cps.toList.all f = true → D.nx σ' H') : tFor (iStr te) g tb' D σ H := by
  refine hv _ ⟨s, rfl, fun i m σ' H' => m = s.cps.size - i ∧ i ≤ s.cps.size ∧ I σ' H' ∧ (s.cps.toList.take i).all f = true, ⟨_, rfl, Nat.zero_le _, h0, rfl⟩, ?_⟩
  rintro i m σ' H' ⟨rfl, hi, q, qa⟩
  by_cases hlt : i < s.cps.size
  · refine .inr ⟨hlt, fun σ3 H3 => I σ3 H3 ∧ (s.cps.toList.take (i + 1)).all f = true, fun σ3 H3 q => ⟨_, by omega, rfl, hlt, q.1, q.2⟩, ?_⟩
    rintro v H2 ⟨rfl, c, hc, rfl⟩
    have hc' : s.cps.toList[i]? = some c := by
      rw [Array.getElem?_toList]
      exact hc
    refine hs c σ' _ _ (List.mem_of_getElem? hc') q fun σ3 H3 q1 q2 => ⟨q1, ?_⟩
    rw [List.take_add_one, hc', List.all_append, qa]
    simp [q2]
  · have e : i = s.cps.toList.length := by
      rw [Array.length_toList]
      omega
    refine .inl ⟨by
      show s.cps.size ≤ i
      omega, ?_⟩
    rw [e, List.take_length] at qa
    exact hd _ _ q qa
/-! .. with what stands behind them -/
variable {u' : TS}
theorem s_ifs (h : Ans c σ H b) (h1 : b = true → t1 { D with nx := u' D } σ H) (h2 : b = false → u' D σ H) : tSeq (tIfS c t1 tNext) u' D σ H := s_seq (s_if h h1 h2)
theorem s_sets (h : Val te σ H v) (q : u' D (σ.set i (some v)) H) : tSeq (tAsg te (gName i)) u' D σ H := h _ q
theorem s_alls {α : Type} {R : Hp → V → α → Prop} {f : α → Bool} {xs : List α} (hv : Val te σ H x) (hp : LAt R H x xs) (I : L2.St → Hp → Prop) (hI : ∀ σ' H', I σ' H' → Same H H') (h0 : I σ H)
    (hs : ∀ v y σ' H' (N : L2.St → Hp → Prop), y ∈ xs → R H v y → I σ' H' → (∀ σ3 H3, I σ3 H3 → f y = true → N σ3 H3) → g v σ' H' fun σ2 H2 => tb' { nx := N, rt := D.rt, ct := N, bk := u' D } σ2 H2)
    (hd : ∀ σ' H', I σ' H' → xs.all f = true → u' D σ' H') : tSeq (tFor (iList K te) g tb') u' D σ H := s_seq (s_all hv hp I hI h0 hs hd)
theorem s_allsT {f : Str → Bool} {xs : List Str} {a : Addr} (hv : Val te σ H (.ref a)) (hp : H a = some (.tup (xs.map V.str))) (I : L2.St → Hp → Prop) (hI : ∀ σ' H', I σ' H' → Same H H') (h0 : I σ H)
    (hs : ∀ y σ' H' (N : L2.St → Hp → Prop), y ∈ xs → I σ' H' → (∀ σ3 H3, I σ3 H3 → f y = true → N σ3 H3) → g (.str y) σ' H' fun σ2 H2 => tb' { nx := N, rt := D.rt, ct := N, bk := u' D } σ2 H2)
    (hd : ∀ σ' H', I σ' H' → xs.all f = true → u' D σ' H') : tSeq (tFor (iTup K te) g tb') u' D σ H := s_seq (s_allT hv hp I hI h0 hs hd)
theorem s_allsS {f : Nat → Bool} {s : Str} (hv : Val te σ H (.str s)) (I : L2.St → Hp → Prop) (h0 : I σ H)
    (hs : ∀ c σ' H' (N : L2.St → Hp → Prop), c ∈ s.cps.toList → I σ' H' → (∀ σ3 H3, I σ3 H3 → f c = true → N σ3 H3) → g (.str ⟨#[c]⟩) σ' H' fun σ2 H2 => tb' { nx := N, rt := D.rt, ct := N, bk := u' D } σ2 H2)
    (hd : ∀ σ' H', I σ' H' → s.cps.toList.all f = true → u' D σ' H') : tSeq (tFor (iStr te) g tb') u' D σ H := s_seq (s_allS hv I h0 hs hd)
theorem and_false_of {a b : Bool} (h : a = false) : (a && b) = false := by rw [h]; rfl
theorem and_false_of2 {a b : Bool} (h : b = false) : (a && b) = false := by rw [h]; cases a <;> rfl
theorem all_false_of {α : Type} {f : α → Bool} {xs : List α} {y : α} (hy : y ∈ xs) (h : f y = false) : xs.all f = false := List.all_eq_false.mpr ⟨y, hy, by simp [h]⟩
/-! ### 5. new objects -/
theorem n_list {p : Addr} {ys : List V} {Q : VK} (h : Val te σ H (.ref p)) (hl : H p = some (.lst ys)) (q : ∀ l, H l = none → Q (.ref l) (upd H l (.lst ys))) : tCB (rListOf K) (tCons te tNil) σ H Q := h _ ⟨p, ys, rfl, .inl (SqL.of hl), q⟩
theorem n_listT {p : Addr} {ys : List V} {Q : VK} (h : Val te σ H (.ref p)) (hl : H p = some (.tup ys)) (q : ∀ l, H l = none → Q (.ref l) (upd H l (.lst ys))) : tCB (rListOf K) (tCons te tNil) σ H Q := h _ ⟨p, ys, rfl, .inr (SqT.of hl), q⟩
theorem lc_turn {σ2 : L2.St} {W : VK} {R : Hp → Prop} {vs : List Nat} (hw : wipe σ2 vs = wipe σ vs) (h : te σ2 H W) : wipe σ2 vs = wipe σ vs ∧ tYes σ2 H fun b H3 => if b = true then te σ2 H3 W else R H3 := ⟨hw, by
  show (if true = true then te σ2 H W else R H)
  rw [if_pos rfl]
  exact h⟩
def hide (D : Addr) (H : Hp) : Hp := fun b => if b = D then none else H b
theorem hide_same {D : Addr} : Same (hide D H) H := fun b o e => by
  unfold hide at e
  split at e
  · cases e
  · exact e
theorem hide_mono {D : Addr} {H' : Hp} (s : Same H H') : Same (hide D H) (hide D H') := fun b o e => by
  unfold hide at e ⊢
  split at e
  · cases e
  · rename_i h
    rw [if_neg h]
    exact s _ _ e
theorem hide_upd {D : Addr} {o : HO} : hide D (upd H D o) = hide D H := by
  funext b
  unfold hide
  split
  · rfl
  · rename_i h
    exact upd_ne h
theorem hide_get {D b : Addr} {o : HO} (h : b ≠ D) (e : H b = some o) : hide D H b = some o := by
  unfold hide
  rw [if_neg h]
  exact e
/-- what H knows, D unknown to it, stands where D hides -/
theorem hide_of {D : Addr} {H' : Hp} (s : Same H H') (n : H D = none) : Same H (hide D H') := fun b o e => hide_get (ne_of_none e n) (s _ _ e)
theorem small_line {n : Nat} (h : n ≤ 100000) : n ≤ sizeLine := Nat.le_trans h (by decide)
theorem small_lt {n : Nat} (h : n < 100000) : n < sizeLine := Nat.lt_of_lt_of_le h (by decide)
end
end K17
local macro_rules | `(tactic| walk_at "v") => `(tactic| first
  | with_reducible exact L2.val_c
  | ((with_reducible refine' L2.val_var ?h); (case h => exact rfl))
  | ((with_reducible refine' K17.v_I0 ?a ?b); (case a => walk_at "v"); (case b => walk_at "v"))
  | ((with_reducible refine' K17.v_I ?a ?b ?c); (case a => walk_at "v"); (case b => walk_at "v"); (case c => first
      | exact (by decide : (0 : Int) < _) | exact ⟨(by decide : (0 : Int) < _), (by decide : _ < (1073741824 : Int))⟩ | exact Or.inr ⟨(by decide : -(2 ^ 64) < _), (by decide : _ < _)⟩ | (show (0 : Int) < _; omega) | assumption | exact ⟨(by omega : (0 : Int) < _), (by omega : _ < (1073741824 : Int))⟩ | exact Or.inr ⟨(by omega : -(2 ^ 64) < _), (by omega : _ < _)⟩ | exact Or.inl ⟨(by omega : -(2 ^ 64) < _), (by omega : _ < _)⟩))
  | ((with_reducible refine' K17.v_eqS ?a ?b); (case a => walk_at "v"); (case b => walk_at "v"))
  | ((with_reducible refine' K17.v_eqI ?a ?b); (case a => walk_at "v"); (case b => walk_at "v"))
  | ((with_reducible refine' K17.v_neI ?a ?b); (case a => walk_at "v"); (case b => walk_at "v"))
  | ((with_reducible refine' K17.v_isN ?a); (case a => walk_at "v"))
  | ((with_reducible refine' K17.v_notN ?a); (case a => walk_at "v"))
  | ((with_reducible refine' K17.v_notB ?a ?b); (case a => walk_at "v"); (case b => walk_at "v"))
  | ((with_reducible refine' K17.v_notInS ?a ?b); (case a => walk_at "v"); (case b => walk_at "v"))
  | ((with_reducible refine' K17.v_inS ?a ?b); (case a => walk_at "v"); (case b => walk_at "v"))
  | ((with_reducible refine' K17.v_lenA ?a ?h); (case a => walk_at "v"); (case h => assumption))
  | ((with_reducible refine' K17.v_lenL ?a ?h); (case a => walk_at "v"); (case h => assumption))
  | ((with_reducible refine' K17.v_lenT ?a ?h); (case a => walk_at "v"); (case h => assumption))
  | ((with_reducible refine' K17.v_lenSq ?a ?h); (case a => walk_at "v"); (case h => assumption))
  | ((with_reducible refine' K17.v_lenS ?a ?h); (case a => walk_at "v"); (case h => first | assumption | omega))
  | ((with_reducible refine' K17.v_ixT ?a ?b ?h ?x); (case a => walk_at "v"); (case b => walk_at "v"); (case h => assumption); (case x => rfl))
  | ((with_reducible refine' K17.v_ixL ?a ?b ?h ?x); (case a => walk_at "v"); (case b => walk_at "v"); (case h => assumption); (case x => first | assumption | rfl))
  | ((with_reducible refine' K17.v_ixSq ?a ?b ?h ?x); (case a => walk_at "v"); (case b => walk_at "v"); (case h => assumption); (case x => first | assumption | rfl))
  | ((with_reducible refine' K17.v_chain ?a ?b ?c); (case a => walk_at "v"); (case b => walk_at "v"); (case c => walk_at "v"))
  | ((with_reducible refine' K17.v_and ?a ?b); (case a => walk_at "v"); (case b => walk_at "v"))
  | ((with_reducible refine' K17.v_notV ?a); (case a => walk_at "v"))
  | ((with_reducible refine' K17.v_neg ?a); (case a => walk_at "v"))
  | ((with_reducible refine' K17.v_isi ?a ?b ?k ?t ?e); (case a => walk_at "v"); (case b => walk_at "v"); (case k => exact L2.ClsV.ty _); (case t => first | exact L2.TyX.base (L2.TyOf.str _) | exact L2.TyX.base (L2.TyOf.lst (by assumption)) | exact L2.TyX.base (L2.TyOf.tup (by assumption))); (case e => exact L2.kit_ty (by decide +kernel)))
  | assumption)
local macro_rules | `(tactic| walk_at "a") => `(tactic| first
  | ((with_reducible refine' K17.a_or ?a ?b); (case a => walk_at "a"); (case b => walk_at "a"))
  | ((with_reducible refine' K17.a_and ?a ?b); (case a => walk_at "a"); (case b => walk_at "a"))
  | ((with_reducible refine' K17.a_not ?a); (case a => walk_at "a"))
  | ((with_reducible refine' K17.a_test ?a); (case a => walk_at "v"))
  | ((with_reducible refine' K17.a_B ?a); (case a => walk_at "v"))
  | assumption)
local macro_rules | `(tactic| walk_at "va") => `(tactic| first
  | with_reducible exact K17.va_nil
  | ((with_reducible refine' K17.va_cons ?a ?b); (case a => walk_at "v"); (case b => walk_at "va")))
namespace K17
open PySem PySem.Spec PyProof.Rows L2
section
variable {P : Program} {w : World} {K : PySem.W.Frag} {mg : Str → Option Value} {base : Heap} {cl : Fin 10 → Addr}
/-! ### is_name -/
abbrev s_is_name : Stmt := topS 13
abbrev n_is_name : List Str := ["thing", "sign"]
abbrev p_is_name : List Str := ["thing"]
theorem sc_is_name : FnScope ["thing", "sign"] ["thing"] (defScope s_is_name) := ⟨rfl, rfl, rfl, by decide +kernel, rfl, by decide +kernel, by decide +kernel⟩
def sp_is_name : Sp := fun vs H Q _ => ∃ x : Str, vs = [.str x] ∧ x.length ≤ 100 ∧ Q (.bl (nameOk x)) H
theorem ok_is_name (T : Txt K mg cl) (d : Df K mg "is_name" s_is_name) : Cal P w K mg base CX0 1 "is_name" ["thing"] sp_is_name := by
  obtain ⟨f, fd, F, g⟩ := d
  refine ⟨f, fd, g, F.kp, F.binds (fun _ _ _ _ _ _ us hl => match us, hl with | [_], _ => rfl), F.ok sc_is_name (fun vs H Q E h => ?_) (fun cdv A outer s H vs Q E hr h => ?_)⟩
  · obtain ⟨x, rfl, _⟩ := h
    rfl
  obtain ⟨x, rfl, hx, q⟩ := h
  refine ⟨_, (pss_cons (ps_if (PW.pt (pw_or (pt_not (pt_val (pe_callB call_isi (by rfl) T.z_isinstance boot_isi (pa_cons (pv 0) (pa_cons (pe_bltn (v := .ty "str") (by rfl) T.z_str (by decide +kernel) rfl) pa_nil))))) (pw_or (pt_cmpR op_lt (pe_callB call_lenS (by rfl) T.z_len PySem.boot_len (pa_cons (pv 0) pa_nil)) pe_int (nomark _)) (pw_or1 (pt_cmpR op_gt (pe_callB call_lenS (by rfl) T.z_len PySem.boot_len (pa_cons (pv 0) pa_nil)) pe_int (nomark _)))))) (pss_one (ps_ret pe_bl)) pss_nil)
    (pss_cons (ps_for PassesOwn.never rfl (pi_str (pv 0)) (pg_name (i := 1) sc_is_name.nd rfl (Or.inl rfl))
      (pss_one (ps_if (pt_cmpR op_notInS (pv 1) (C8.pe_gc (by rfl) T.g_LETTERS) (by rfl)) (pss_one (ps_ret pe_bl)) pss_nil)))
    (pss_one (ps_ret pe_bl)))), ?_⟩
  refine s_ifs (b := !true || (decide ((x.length : Int) < 1) || decide (8 < (x.length : Int)))) (by walk_at "a") (fun e => s_ret val_c ?_) (fun e => ?_)
  · have : nameOk x = false := by
      unfold nameOk
      simp only [Bool.not_true, Bool.false_or, Bool.or_eq_true, decide_eq_true_eq] at e
      rcases e with e | e
      · have : decide (1 ≤ x.length) = false := decide_eq_false (by omega)
        rw [this]; rfl
      · have : decide (x.length ≤ 8) = false := decide_eq_false (by omega)
        rw [this]; simp
    rw [this] at q
    exact q
  · simp only [Bool.not_true, Bool.false_or, Bool.or_eq_false_iff, decide_eq_false_iff_not] at e
    have e1 : nameOk x = x.cps.toList.all fun c => decide (c ∈ letters.cps.toList) := by
      unfold nameOk
      rw [decide_eq_true (show 1 ≤ x.length by omega), decide_eq_true (show x.length ≤ 8 by omega)]
      rfl
    refine s_allsS (f := fun c => decide (c ∈ letters.cps.toList)) (by walk_at "v") (fun σ' H' => (∃ v, σ' = [some (.str x), v]) ∧ H' = H) ⟨⟨_, rfl⟩, rfl⟩ ?_ ?_
    · rintro c σ' H' N hc ⟨⟨v, rfl⟩, rfl⟩ hN
      refine s_if (b := !decide (c ∈ letters.cps.toList)) (by walk_at "a") (fun e => s_ret val_c ?_) (fun e => s_next (hN _ _ ⟨⟨_, rfl⟩, rfl⟩ (by simpa using e)))
      rw [e1, all_false_of hc (by simpa using e)] at q
      exact q
    · rintro σ' H' ⟨⟨v, rfl⟩, rfl⟩ ha
      refine s_ret val_c ?_
      rw [e1, ha] at q
      exact q
end
end K17
namespace K17
open PySem PySem.Spec PyProof.Rows L2
section
variable {P : Program} {w : World} {K : PySem.W.Frag} {mg : Str → Option Value} {base : Heap} {cl : Fin 10 → Addr}
/-! ### small_enough -/
abbrev s_small_enough : Stmt := topS 21
abbrev n_small_enough : List Str := ["scopes", "things", "questions", "steps", "tellings", "scope", "state", "path"]
abbrev p_small_enough : List Str := ["scopes", "things", "questions"]
theorem sc_small_enough : FnScope ["scopes", "things", "questions", "steps", "tellings", "scope", "state", "path"] ["scopes", "things", "questions"] (defScope s_small_enough) := ⟨rfl, rfl, rfl, by decide +kernel, rfl, by decide +kernel, by decide +kernel⟩
def sp_small_enough : Sp := fun vs H Q _ => ∃ (x y z : V) (N : Net), vs = [x, y, z] ∧ LAt VScp H x N.sc ∧ LAt VThg H y N.th ∧ LAt VQst H z N.qu ∧ Q (.bl (small N)) H
theorem smallHd_of (N : Net) : (decide ((40 : Int) < (N.sc.length : Int)) || (decide ((80 : Int) < (N.th.length : Int)) || decide ((60 : Int) < (N.qu.length : Int)))) = !smallHd N := by
  unfold smallHd
  rw [Bool.eq_iff_iff]
  simp only [Bool.or_eq_true, decide_eq_true_eq, Bool.not_eq_true', Bool.and_eq_false_iff, decide_eq_false_iff_not]
  omega
theorem smallSc_of (s : Scp) : (decide ((8 : Int) < (s.1.length : Int)) || decide ((12 : Int) < (s.2.length : Int))) = !smallSc s := by
  unfold smallSc
  rw [Bool.eq_iff_iff]
  simp only [Bool.or_eq_true, decide_eq_true_eq, Bool.not_eq_true', Bool.and_eq_false_iff, decide_eq_false_iff_not]
  omega
theorem smallQu_of (q : Qst) : decide ((6 : Int) < ((q.2.2.map V.str).length : Int)) = !smallQu q := by
  unfold smallQu
  rw [Bool.eq_iff_iff, List.length_map]
  simp only [decide_eq_true_eq, Bool.not_eq_true', decide_eq_false_iff_not]
  omega
theorem ok_small_enough (T : Txt K mg cl) (d : Df K mg "small_enough" s_small_enough) : Cal P w K mg base CX0 1 "small_enough" ["scopes", "things", "questions"] sp_small_enough := by
  obtain ⟨f, fd, F, g⟩ := d
  refine ⟨f, fd, g, F.kp, F.binds (fun _ _ _ _ _ _ us hl => match us, hl with | [_, _, _], _ => rfl), F.ok sc_small_enough (fun vs H Q E h => ?_) (fun cdv A outer s H vs Q E hr h => ?_)⟩
  · obtain ⟨x, y, z, N, rfl, _⟩ := h
    rfl
  obtain ⟨x, y, z, N, rfl, hx, hy, hz, q⟩ := h
  refine ⟨_, (pss_cons (ps_if (PW.pt (pw_or (pt_cmpR op_gt (pe_callB call_lenQ (by rfl) T.z_len PySem.boot_len (pa_cons (pv 0) pa_nil)) (C8.pe_gc (by rfl) T.g_MOST_SCOPES) (nomark _)) (pw_or (pt_cmpR op_gt (pe_callB call_lenQ (by rfl) T.z_len PySem.boot_len (pa_cons (pv 1) pa_nil)) (C8.pe_gc (by rfl) T.g_MOST_THINGS) (nomark _)) (pw_or1 (pt_cmpR op_gt (pe_callB call_lenQ (by rfl) T.z_len PySem.boot_len (pa_cons (pv 2) pa_nil)) (C8.pe_gc (by rfl) T.g_MOST_QUESTIONS) (nomark _)))))) (pss_one (ps_ret pe_bl)) pss_nil)
    (pss_cons (ps_for PassesOwn.never rfl (pi_list (pv 0)) (pg_tup rfl (pgs_cons (pg_name (i := 3) sc_small_enough.nd rfl (Or.inl rfl)) (pgs_cons (pg_name (i := 4) sc_small_enough.nd rfl (Or.inl rfl)) pgs_nil)))
      (pss_one (ps_if (PW.pt (pw_or (pt_cmpR op_gt (pe_callB call_lenQ (by rfl) T.z_len PySem.boot_len (pa_cons (pv 3) pa_nil)) (C8.pe_gc (by rfl) T.g_MOST_STEPS) (nomark _)) (pw_or1 (pt_cmpR op_gt (pe_callB call_lenQ (by rfl) T.z_len PySem.boot_len (pa_cons (pv 4) pa_nil)) (C8.pe_gc (by rfl) T.g_MOST_TELLINGS) (nomark _))))) (pss_one (ps_ret pe_bl)) pss_nil)))
    (pss_cons (ps_for PassesOwn.never rfl (pi_list (pv 2)) (pg_tup rfl (pgs_cons (pg_name (i := 5) sc_small_enough.nd rfl (Or.inl rfl)) (pgs_cons (pg_name (i := 6) sc_small_enough.nd rfl (Or.inl rfl)) (pgs_cons (pg_name (i := 7) sc_small_enough.nd rfl (Or.inl rfl)) pgs_nil))))
      (pss_one (ps_if (pt_cmpR op_gt (pe_callB call_lenQ (by rfl) T.z_len PySem.boot_len (pa_cons (pv 7) pa_nil)) (C8.pe_gc (by rfl) T.g_MOST_NAMES) (nomark _)) (pss_one (ps_ret pe_bl)) pss_nil)))
    (pss_one (ps_ret pe_bl))))), ?_⟩
  refine s_ifs (b := decide ((40 : Int) < (N.sc.length : Int)) || (decide ((80 : Int) < (N.th.length : Int)) || decide ((60 : Int) < (N.qu.length : Int)))) (by walk_at "a") (fun e => s_ret val_c ?_) (fun e => ?_)
  · rw [smallHd_of, Bool.not_eq_true'] at e
    have e1 : small N = false := and_false_of (and_false_of e)
    rw [e1] at q
    exact q
  rw [smallHd_of, Bool.not_eq_false'] at e
  have eh : smallHd N = true := e
  refine s_alls (f := smallSc) (by walk_at "v") hx (fun σ' H' => (∃ v3 v4, σ' = [some x, some y, some z, v3, v4, none, none, none]) ∧ H' = H) (fun _ _ i => i.2 ▸ Same.refl _) ⟨⟨_, _, rfl⟩, rfl⟩ ?_ ?_
  · rintro v sc σ' H' N' hm r ⟨⟨v3, v4, rfl⟩, rfl⟩ hN
    obtain ⟨a, p1, p2, rfl, ha, hp1, hp2⟩ := r
    refine g2 ha (s_if (b := decide ((8 : Int) < (sc.1.length : Int)) || decide ((12 : Int) < (sc.2.length : Int))) (by walk_at "a") (fun e => s_ret val_c ?_) (fun e => s_next (hN _ _ ⟨⟨_, _, rfl⟩, rfl⟩ ?_)))
    · rw [smallSc_of, Bool.not_eq_true'] at e
      have e1 : small N = false := and_false_of (and_false_of2 (all_false_of hm e))
      rw [e1] at q
      exact q
    · rw [smallSc_of, Bool.not_eq_false'] at e
      exact e
  rintro σ' H' ⟨⟨v3, v4, rfl⟩, rfl⟩ hsc
  refine s_alls (f := smallQu) (by walk_at "v") hz (fun σ' H2 => (∃ v5 v6 v7, σ' = [some x, some y, some z, v3, v4, v5, v6, v7]) ∧ H2 = H') (fun _ _ i => i.2 ▸ Same.refl _) ⟨⟨_, _, _, rfl⟩, rfl⟩ ?_ ?_
  · rintro v qu σ' H' N' hm r ⟨⟨v5, v6, v7, rfl⟩, rfl⟩ hN
    obtain ⟨a, b, rfl, ha, hb⟩ := r
    refine g3 ha (s_if (b := decide ((6 : Int) < ((qu.2.2.map V.str).length : Int))) (by walk_at "a") (fun e => s_ret val_c ?_) (fun e => s_next (hN _ _ ⟨⟨_, _, _, rfl⟩, rfl⟩ ?_)))
    · rw [smallQu_of, Bool.not_eq_true'] at e
      have e1 : small N = false := and_false_of2 (all_false_of hm e)
      rw [e1] at q
      exact q
    · rw [smallQu_of, Bool.not_eq_false'] at e
      exact e
  rintro σ' H' ⟨⟨v5, v6, v7, rfl⟩, rfl⟩ hqu
  refine s_ret val_c ?_
  have e1 : small N = true := by
    unfold small
    rw [eh, hsc, hqu]
    rfl
  rw [e1] at q
  exact q
/-! ### all_named -/
abbrev s_all_named : Stmt := topS 22
abbrev n_all_named : List Str := ["scopes", "questions", "steps", "tellings", "step", "telling", "scope", "state", "path", "name"]
abbrev p_all_named : List Str := ["scopes", "questions"]
theorem sc_all_named : FnScope ["scopes", "questions", "steps", "tellings", "step", "telling", "scope", "state", "path", "name"] ["scopes", "questions"] (defScope s_all_named) := ⟨rfl, rfl, rfl, by decide +kernel, rfl, by decide +kernel, by decide +kernel⟩
def sp_all_named : Sp := fun vs H Q _ => ∃ (x z : V) (N : Net), vs = [x, z] ∧ LAt VScp H x N.sc ∧ LAt VQst H z N.qu ∧ NOk N ∧ Q (.bl (named N)) H
theorem v_is_name {σ : L2.St} {H : Hp} {te : TE} {x : Str} (h : Val te σ H (.str x)) (hx : TOk x) : Val (tCall sp_is_name [] E0 (tCons te tNil)) σ H (.bl (nameOk x)) := v_call (va_cons h va_nil) fun _ _ q => ⟨x, rfl, hx.1, q⟩
theorem ok_all_named (T : Txt K mg cl) (d : Df K mg "all_named" s_all_named) (c_is_name : Cal P w K mg base CX0 1 "is_name" p_is_name sp_is_name) : Cal P w K mg base CX0 2 "all_named" ["scopes", "questions"] sp_all_named := by
  obtain ⟨f, fd, F, g⟩ := d
  refine ⟨f, fd, g, F.kp, F.binds (fun _ _ _ _ _ _ us hl => match us, hl with | [_, _], _ => rfl), F.ok sc_all_named (fun vs H Q E h => ?_) (fun cdv A outer s H vs Q E hr h => ?_)⟩
  · obtain ⟨x, z, N, rfl, _⟩ := h
    rfl
  obtain ⟨x, z, N, rfl, hx, hz, ok, q⟩ := h
  refine ⟨_, (pss_cons (ps_for PassesOwn.never rfl (pi_list (pv 0)) (pg_tup rfl (pgs_cons (pg_name (i := 2) sc_all_named.nd rfl (Or.inl rfl)) (pgs_cons (pg_name (i := 3) sc_all_named.nd rfl (Or.inl rfl)) pgs_nil)))
      (pss_cons (ps_for PassesOwn.never rfl (pi_list (pv 2)) (pg_name (i := 4) sc_all_named.nd rfl (Or.inl rfl))
        (pss_one (ps_if (pt_not (pt_val (pe_cal c_is_name hr (by decide) (by rfl) (pa_cons (pe_ix ix_tup (pv 4) pe_int (fun _ _ => rfl)) pa_nil)))) (pss_one (ps_ret pe_bl)) pss_nil)))
      (pss_one (ps_for PassesOwn.never rfl (pi_list (pv 3)) (pg_name (i := 5) sc_all_named.nd rfl (Or.inl rfl))
        (pss_one (ps_if (PW.pt (pw_or (pt_not (pt_val (pe_cal c_is_name hr (by decide) (by rfl) (pa_cons (pe_ix ix_tup (pv 5) pe_int (fun _ _ => rfl)) pa_nil)))) (pw_or1 (pt_not (pt_val (pe_cal c_is_name hr (by decide) (by rfl) (pa_cons (pe_ix ix_tup (pv 5) pe_int (fun _ _ => rfl)) pa_nil))))))) (pss_one (ps_ret pe_bl)) pss_nil))))))
    (pss_cons (ps_for PassesOwn.never rfl (pi_list (pv 1)) (pg_tup rfl (pgs_cons (pg_name (i := 6) sc_all_named.nd rfl (Or.inl rfl)) (pgs_cons (pg_name (i := 7) sc_all_named.nd rfl (Or.inl rfl)) (pgs_cons (pg_name (i := 8) sc_all_named.nd rfl (Or.inl rfl)) pgs_nil))))
      (pss_cons (ps_if (pt_cmpR op_eq (pe_callB call_lenQ (by rfl) T.z_len PySem.boot_len (pa_cons (pv 8) pa_nil)) pe_int (nomark _)) (pss_one (ps_ret pe_bl)) pss_nil)
      (pss_one (ps_for PassesOwn.never rfl (pi_tup (pv 8)) (pg_name (i := 9) sc_all_named.nd rfl (Or.inl rfl))
        (pss_one (ps_if (pt_not (pt_val (pe_cal c_is_name hr (by decide) (by rfl) (pa_cons (pv 9) pa_nil)))) (pss_one (ps_ret pe_bl)) pss_nil))))))
    (pss_one (ps_ret pe_bl)))), ?_⟩
  refine s_alls (f := namedSc) (by walk_at "v") hx (fun σ' H' => (∃ v2 v3 v4 v5, σ' = [some x, some z, v2, v3, v4, v5, none, none, none, none]) ∧ H' = H) (fun _ _ i => i.2 ▸ Same.refl _) ⟨⟨_, _, _, _, rfl⟩, rfl⟩ ?_ ?_
  · rintro v sc σ' H' N' hm r ⟨⟨v2, v3, v4, v5, rfl⟩, rfl⟩ hN
    obtain ⟨a, p1, p2, rfl, ha, hp1, hp2⟩ := r
    have so := ok.sc _ hm
    refine g2 ha (s_alls (f := namedSt) (by walk_at "v") hp1 (fun σ' H2 => (∃ v4 v5, σ' = [some x, some z, some p1, some p2, v4, v5, none, none, none, none]) ∧ H2 = H') (fun _ _ i => i.2 ▸ Same.refl _) ⟨⟨_, _, rfl⟩, rfl⟩ ?_ ?_)
    · rintro v st σ' H' N' hm' r ⟨⟨v4, v5, rfl⟩, rfl⟩ hN
      obtain ⟨a, rfl, ha⟩ := r
      refine s_if (b := !nameOk st.1) (a_not (a_B (v_is_name (by walk_at "v") (so.st _ hm').l))) (fun e => s_ret val_c ?_) (fun e => s_next (hN _ _ ⟨⟨_, _, rfl⟩, rfl⟩ ?_))
      · rw [Bool.not_eq_true'] at e
        have e1 : named N = false := and_false_of (all_false_of hm (and_false_of (all_false_of hm' e)))
        rw [e1] at q
        exact q
      · rw [Bool.not_eq_false'] at e
        exact e
    rintro σ' H' ⟨⟨v4, v5, rfl⟩, rfl⟩ hst
    refine s_all (f := namedTe) (by walk_at "v") hp2 (fun σ' H2 => (∃ v5, σ' = [some x, some z, some p1, some p2, v4, v5, none, none, none, none]) ∧ H2 = H') (fun _ _ i => i.2 ▸ Same.refl _) ⟨⟨_, rfl⟩, rfl⟩ ?_ ?_
    · rintro v st σ' H' N' hm' r ⟨⟨v5, rfl⟩, rfl⟩ hN
      obtain ⟨a, rfl, ha⟩ := r
      refine s_if (b := !nameOk st.1 || !nameOk st.2.1) (a_or (a_not (a_B (v_is_name (by walk_at "v") (so.te _ hm').l))) (a_not (a_B (v_is_name (by walk_at "v") (so.te _ hm').n)))) (fun e => s_ret val_c ?_) (fun e => s_next (hN _ _ ⟨⟨_, rfl⟩, rfl⟩ ?_))
      · rw [← Bool.not_and, Bool.not_eq_true'] at e
        have e1 : named N = false := and_false_of (all_false_of hm (and_false_of2 (all_false_of hm' e)))
        rw [e1] at q
        exact q
      · rw [← Bool.not_and, Bool.not_eq_false'] at e
        exact e
    rintro σ' H' ⟨⟨v5, rfl⟩, rfl⟩ hte
    refine hN _ _ ⟨⟨_, _, _, _, rfl⟩, rfl⟩ ?_
    unfold namedSc
    rw [hst, hte]
    rfl
  rintro σ' H' ⟨⟨v2, v3, v4, v5, rfl⟩, rfl⟩ hsc
  refine s_alls (f := namedQu) (by walk_at "v") hz (fun σ' H2 => (∃ v6 v7 v8 v9, σ' = [some x, some z, v2, v3, v4, v5, v6, v7, v8, v9]) ∧ H2 = H') (fun _ _ i => i.2 ▸ Same.refl _) ⟨⟨_, _, _, _, rfl⟩, rfl⟩ ?_ ?_
  · rintro v qu σ' H' N' hm r ⟨⟨v6, v7, v8, v9, rfl⟩, rfl⟩ hN
    obtain ⟨a, b, rfl, ha, hb⟩ := r
    have qo := ok.qu _ hm
    refine g3 ha (s_ifs (b := decide (((qu.2.2.map V.str).length : Int) = 0)) (by walk_at "a") (fun e => s_ret val_c ?_) (fun e => ?_))
    · rw [decide_eq_true_eq, List.length_map] at e
      have e2 : qu.2.2.isEmpty = true := by
        cases h : qu.2.2 with
        | nil => rfl
        | cons _ _ =>
          rw [h, List.length_cons] at e
          omega
      have e1 : named N = false := and_false_of2 (all_false_of hm (and_false_of (by rw [e2]; rfl)))
      rw [e1] at q
      exact q
    rw [decide_eq_false_iff_not, List.length_map] at e
    have e2 : qu.2.2.isEmpty = false := by
      cases h : qu.2.2 with
      | nil =>
        rw [h] at e
        exact absurd rfl e
      | cons _ _ => rfl
    refine s_allT (f := nameOk) (by walk_at "v") hb (fun σ' H2 => (∃ v9, σ' = [some x, some z, v2, v3, v4, v5, some (.int qu.1), some (.int qu.2.1), some (.ref b), v9]) ∧ H2 = H') (fun _ _ i => i.2 ▸ Same.refl _) ⟨⟨_, rfl⟩, rfl⟩ ?_ ?_
    · rintro y σ' H' N' hm' ⟨⟨v9, rfl⟩, rfl⟩ hN
      refine s_if (b := !nameOk y) (a_not (a_B (v_is_name (by walk_at "v") (qo.p _ hm')))) (fun e => s_ret val_c ?_) (fun e => s_next (hN _ _ ⟨⟨_, rfl⟩, rfl⟩ ?_))
      · rw [Bool.not_eq_true'] at e
        have e1 : named N = false := and_false_of2 (all_false_of hm (and_false_of2 (all_false_of hm' e)))
        rw [e1] at q
        exact q
      · rw [Bool.not_eq_false'] at e
        exact e
    rintro σ' H' ⟨⟨v9, rfl⟩, rfl⟩ hpa
    refine hN _ _ ⟨⟨_, _, _, _, rfl⟩, rfl⟩ ?_
    unfold namedQu
    rw [e2, hpa]
    rfl
  rintro σ' H' ⟨⟨v6, v7, v8, v9, rfl⟩, rfl⟩ hqu
  refine s_ret val_c ?_
  have e1 : named N = true := by
    unfold named
    rw [hsc, hqu]
    rfl
  rw [e1] at q
  exact q
end
end K17
namespace K17
open PySem PySem.Spec PyProof.Rows L2
section
variable {P : Program} {w : World} {K : PySem.W.Frag} {mg : Str → Option Value} {base : Heap} {cl : Fin 10 → Addr}
/-! ### step_there -/
abbrev s_step_there : Stmt := topS 23
abbrev n_step_there : List Str := ["step", "scopes", "questions"]
abbrev p_step_there : List Str := ["step", "scopes", "questions"]
theorem sc_step_there : FnScope ["step", "scopes", "questions"] ["step", "scopes", "questions"] (defScope s_step_there) := ⟨rfl, rfl, rfl, by decide +kernel, rfl, by decide +kernel, by decide +kernel⟩
def sp_step_there : Sp := fun vs H Q _ => ∃ (v x z : V) (s : Step) (N : Net), vs = [v, x, z] ∧ VStep H v s ∧ LAt VScp H x N.sc ∧ LAt VQst H z N.qu ∧ Q (.bl (thereSt N s)) H
theorem ok_step_there (T : Txt K mg cl) (d : Df K mg "step_there" s_step_there) : Cal P w K mg base CX0 1 "step_there" ["step", "scopes", "questions"] sp_step_there := by
  obtain ⟨f, fd, F, g⟩ := d
  refine ⟨f, fd, g, F.kp, F.binds (fun _ _ _ _ _ _ us hl => match us, hl with | [_, _, _], _ => rfl), F.ok sc_step_there (fun vs H Q E h => ?_) (fun cdv A outer s H vs Q E hr h => ?_)⟩
  · obtain ⟨v, x, z, s, N, rfl, _⟩ := h
    rfl
  obtain ⟨v, x, z, st, N, rfl, ⟨a, rfl, ha⟩, hx, hz, q⟩ := h
  refine ⟨_, (pss_cons (ps_if (pt_cmpR op_eq (pe_ix ix_tup (pv 0) pe_int (fun _ _ => rfl)) pe_str (nomark _)) (pss_one (ps_ret (pe_chain op_le op_lt pe_int (pe_ix ix_tup (pv 0) pe_int (fun _ _ => rfl)) (pe_callB call_lenQ (by rfl) T.z_len PySem.boot_len (pa_cons (pv 1) pa_nil))))) pss_nil)
    (pss_one (ps_ret (pe_and (pe_cmpR op_eq (pe_ix ix_tup (pv 0) pe_int (fun _ _ => rfl)) pe_str (nomark _)) (pe_one (pe_chain op_le op_lt pe_int (pe_ix ix_tup (pv 0) pe_int (fun _ _ => rfl)) (pe_callB call_lenQ (by rfl) T.z_len PySem.boot_len (pa_cons (pv 2) pa_nil)))))))), ?_⟩
  refine s_ifs (b := decide (st.2.1 = "to")) (by walk_at "a") (fun e => s_ret (v := .bl (decide ((0 : Int) ≤ st.2.2) && decide (st.2.2 < (N.sc.length : Int)))) (by walk_at "v") ?_)
    (fun e => s_ret (v := .bl (decide (st.2.1 = "by") && (decide ((0 : Int) ≤ st.2.2) && decide (st.2.2 < (N.qu.length : Int))))) (by walk_at "v") ?_)
  · have e1 : thereSt N st = within st.2.2 N.sc.length := if_pos (of_decide_eq_true e)
    rw [e1] at q
    exact q
  · have e1 : thereSt N st = (decide (st.2.1 = "by") && within st.2.2 N.qu.length) := if_neg (of_decide_eq_false e)
    rw [e1] at q
    exact q
/-! ### telling_there -/
abbrev s_telling_there : Stmt := topS 24
abbrev n_telling_there : List Str := ["telling", "things", "questions"]
abbrev p_telling_there : List Str := ["telling", "things", "questions"]
theorem sc_telling_there : FnScope ["telling", "things", "questions"] ["telling", "things", "questions"] (defScope s_telling_there) := ⟨rfl, rfl, rfl, by decide +kernel, rfl, by decide +kernel, by decide +kernel⟩
def sp_telling_there : Sp := fun vs H Q _ => ∃ (v y z : V) (s : Tell) (N : Net), vs = [v, y, z] ∧ VTell H v s ∧ LAt VThg H y N.th ∧ LAt VQst H z N.qu ∧ Q (.bl (thereTe N s)) H
theorem ok_telling_there (T : Txt K mg cl) (d : Df K mg "telling_there" s_telling_there) : Cal P w K mg base CX0 1 "telling_there" ["telling", "things", "questions"] sp_telling_there := by
  obtain ⟨f, fd, F, g⟩ := d
  refine ⟨f, fd, g, F.kp, F.binds (fun _ _ _ _ _ _ us hl => match us, hl with | [_, _, _], _ => rfl), F.ok sc_telling_there (fun vs H Q E h => ?_) (fun cdv A outer s H vs Q E hr h => ?_)⟩
  · obtain ⟨v, x, z, s, N, rfl, _⟩ := h
    rfl
  obtain ⟨v, x, z, st, N, rfl, ⟨a, rfl, ha⟩, hx, hz, q⟩ := h
  refine ⟨_, (pss_cons (ps_if (pt_cmpR op_eq (pe_ix ix_tup (pv 0) pe_int (fun _ _ => rfl)) pe_str (nomark _)) (pss_one (ps_ret (pe_chain op_le op_lt pe_int (pe_ix ix_tup (pv 0) pe_int (fun _ _ => rfl)) (pe_callB call_lenQ (by rfl) T.z_len PySem.boot_len (pa_cons (pv 1) pa_nil))))) pss_nil)
    (pss_one (ps_ret (pe_and (pe_cmpR op_eq (pe_ix ix_tup (pv 0) pe_int (fun _ _ => rfl)) pe_str (nomark _)) (pe_one (pe_chain op_le op_lt pe_int (pe_ix ix_tup (pv 0) pe_int (fun _ _ => rfl)) (pe_callB call_lenQ (by rfl) T.z_len PySem.boot_len (pa_cons (pv 2) pa_nil)))))))), ?_⟩
  refine s_ifs (b := decide (st.2.2.1 = "thing")) (by walk_at "a") (fun e => s_ret (v := .bl (decide ((0 : Int) ≤ st.2.2.2) && decide (st.2.2.2 < (N.th.length : Int)))) (by walk_at "v") ?_)
    (fun e => s_ret (v := .bl (decide (st.2.2.1 = "by") && (decide ((0 : Int) ≤ st.2.2.2) && decide (st.2.2.2 < (N.qu.length : Int))))) (by walk_at "v") ?_)
  · have e1 : thereTe N st = within st.2.2.2 N.th.length := if_pos (of_decide_eq_true e)
    rw [e1] at q
    exact q
  · have e1 : thereTe N st = (decide (st.2.2.1 = "by") && within st.2.2.2 N.qu.length) := if_neg (of_decide_eq_false e)
    rw [e1] at q
    exact q
/-! ### thing_there -/
abbrev s_thing_there : Stmt := topS 25
abbrev n_thing_there : List Str := ["thing", "scopes", "questions"]
abbrev p_thing_there : List Str := ["thing", "scopes", "questions"]
theorem sc_thing_there : FnScope ["thing", "scopes", "questions"] ["thing", "scopes", "questions"] (defScope s_thing_there) := ⟨rfl, rfl, rfl, by decide +kernel, rfl, by decide +kernel, by decide +kernel⟩
def sp_thing_there : Sp := fun vs H Q _ => ∃ (v x z : V) (s : Thg) (N : Net), vs = [v, x, z] ∧ VThg H v s ∧ LAt VScp H x N.sc ∧ LAt VQst H z N.qu ∧ Q (.bl (thereTh N s)) H
theorem ok_thing_there (T : Txt K mg cl) (d : Df K mg "thing_there" s_thing_there) : Cal P w K mg base CX0 1 "thing_there" ["thing", "scopes", "questions"] sp_thing_there := by
  obtain ⟨f, fd, F, g⟩ := d
  refine ⟨f, fd, g, F.kp, F.binds (fun _ _ _ _ _ _ us hl => match us, hl with | [_, _, _], _ => rfl), F.ok sc_thing_there (fun vs H Q E h => ?_) (fun cdv A outer s H vs Q E hr h => ?_)⟩
  · obtain ⟨v, x, z, s, N, rfl, _⟩ := h
    rfl
  obtain ⟨v, x, z, st, N, rfl, ⟨a, rfl, ha⟩, hx, hz, q⟩ := h
  refine ⟨_, (pss_cons (ps_if (pt_cmpR op_eq (pe_ix ix_tup (pv 0) pe_int (fun _ _ => rfl)) pe_str (nomark _)) (pss_one (ps_ret (pe_cmpR op_eq (pe_ix ix_tup (pv 0) pe_int (fun _ _ => rfl)) pe_int (nomark _)))) pss_nil)
    (pss_cons (ps_if (pt_cmpR op_eq (pe_ix ix_tup (pv 0) pe_int (fun _ _ => rfl)) pe_str (nomark _)) (pss_one (ps_ret (pe_chain op_le op_lt pe_int (pe_ix ix_tup (pv 0) pe_int (fun _ _ => rfl)) (pe_callB call_lenQ (by rfl) T.z_len PySem.boot_len (pa_cons (pv 1) pa_nil))))) pss_nil)
    (pss_one (ps_ret (pe_and (pe_cmpR op_eq (pe_ix ix_tup (pv 0) pe_int (fun _ _ => rfl)) pe_str (nomark _)) (pe_one (pe_chain op_le op_lt pe_int (pe_ix ix_tup (pv 0) pe_int (fun _ _ => rfl)) (pe_callB call_lenQ (by rfl) T.z_len PySem.boot_len (pa_cons (pv 2) pa_nil))))))))), ?_⟩
  refine s_ifs (b := decide (st.1 = "plain")) (by walk_at "a") (fun e => s_ret (v := .bl (decide (st.2 = 0))) (by walk_at "v") ?_) (fun e0 => ?_)
  · have e1 : thereTh N st = decide (st.2 = 0) := if_pos (of_decide_eq_true e)
    rw [e1] at q
    exact q
  refine s_ifs (b := decide (st.1 = "part")) (by walk_at "a") (fun e => s_ret (v := .bl (decide ((0 : Int) ≤ st.2) && decide (st.2 < (N.sc.length : Int)))) (by walk_at "v") ?_)
    (fun e => s_ret (v := .bl (decide (st.1 = "sort") && (decide ((0 : Int) ≤ st.2) && decide (st.2 < (N.qu.length : Int))))) (by walk_at "v") ?_)
  · have e1 : thereTh N st = within st.2 N.sc.length := (if_neg (of_decide_eq_false e0)).trans (if_pos (of_decide_eq_true e))
    rw [e1] at q
    exact q
  · have e1 : thereTh N st = (decide (st.1 = "sort") && within st.2 N.qu.length) := (if_neg (of_decide_eq_false e0)).trans (if_neg (of_decide_eq_false e))
    rw [e1] at q
    exact q
/-! ### all_there -/
abbrev s_all_there : Stmt := topS 26
abbrev n_all_there : List Str := ["scopes", "things", "questions", "steps", "tellings", "step", "telling", "thing", "scope", "state", "path"]
abbrev p_all_there : List Str := ["scopes", "things", "questions"]
theorem sc_all_there : FnScope ["scopes", "things", "questions", "steps", "tellings", "step", "telling", "thing", "scope", "state", "path"] ["scopes", "things", "questions"] (defScope s_all_there) := ⟨rfl, rfl, rfl, by decide +kernel, rfl, by decide +kernel, by decide +kernel⟩
def sp_all_there : Sp := fun vs H Q _ => ∃ (x y z : V) (N : Net), vs = [x, y, z] ∧ LAt VScp H x N.sc ∧ LAt VThg H y N.th ∧ LAt VQst H z N.qu ∧ Q (.bl (there N)) H
theorem ok_all_there (T : Txt K mg cl) (d : Df K mg "all_there" s_all_there) (c_step_there : Cal P w K mg base CX0 1 "step_there" p_step_there sp_step_there) (c_telling_there : Cal P w K mg base CX0 1 "telling_there" p_telling_there sp_telling_there)
    (c_thing_there : Cal P w K mg base CX0 1 "thing_there" p_thing_there sp_thing_there) : Cal P w K mg base CX0 2 "all_there" ["scopes", "things", "questions"] sp_all_there := by
  obtain ⟨f, fd, F, g⟩ := d
  refine ⟨f, fd, g, F.kp, F.binds (fun _ _ _ _ _ _ us hl => match us, hl with | [_, _, _], _ => rfl), F.ok sc_all_there (fun vs H Q E h => ?_) (fun cdv A outer s H vs Q E hr h => ?_)⟩
  · obtain ⟨x, y, z, N, rfl, _⟩ := h
    rfl
  obtain ⟨x, y, z, N, rfl, hx, hy, hz, q⟩ := h
  refine ⟨_, (pss_cons (ps_for PassesOwn.never rfl (pi_list (pv 0)) (pg_tup rfl (pgs_cons (pg_name (i := 3) sc_all_there.nd rfl (Or.inl rfl)) (pgs_cons (pg_name (i := 4) sc_all_there.nd rfl (Or.inl rfl)) pgs_nil)))
      (pss_cons (ps_for PassesOwn.never rfl (pi_list (pv 3)) (pg_name (i := 5) sc_all_there.nd rfl (Or.inl rfl))
        (pss_one (ps_if (pt_not (pt_val (pe_cal c_step_there hr (by decide) (by rfl) (pa_cons (pv 5) (pa_cons (pv 0) (pa_cons (pv 2) pa_nil)))))) (pss_one (ps_ret pe_bl)) pss_nil)))
      (pss_one (ps_for PassesOwn.never rfl (pi_list (pv 4)) (pg_name (i := 6) sc_all_there.nd rfl (Or.inl rfl))
        (pss_one (ps_if (pt_not (pt_val (pe_cal c_telling_there hr (by decide) (by rfl) (pa_cons (pv 6) (pa_cons (pv 1) (pa_cons (pv 2) pa_nil)))))) (pss_one (ps_ret pe_bl)) pss_nil))))))
    (pss_cons (ps_for PassesOwn.never rfl (pi_list (pv 1)) (pg_name (i := 7) sc_all_there.nd rfl (Or.inl rfl))
      (pss_one (ps_if (pt_not (pt_val (pe_cal c_thing_there hr (by decide) (by rfl) (pa_cons (pv 7) (pa_cons (pv 0) (pa_cons (pv 2) pa_nil)))))) (pss_one (ps_ret pe_bl)) pss_nil)))
    (pss_cons (ps_for PassesOwn.never rfl (pi_list (pv 2)) (pg_tup rfl (pgs_cons (pg_name (i := 8) sc_all_there.nd rfl (Or.inl rfl)) (pgs_cons (pg_name (i := 9) sc_all_there.nd rfl (Or.inl rfl)) (pgs_cons (pg_name (i := 10) sc_all_there.nd rfl (Or.inl rfl)) pgs_nil))))
      (pss_one (ps_if (PW.pt (pw_or (pt_cmpR op_lt (pv 8) pe_int (nomark _)) (pw_or (pt_cmpR op_ge (pv 8) (pe_callB call_lenQ (by rfl) T.z_len PySem.boot_len (pa_cons (pv 0) pa_nil)) (nomark _)) (pw_or1 (pt_cmpR op_lt (pv 9) pe_int (nomark _)))))) (pss_one (ps_ret pe_bl)) pss_nil)))
    (pss_one (ps_ret pe_bl))))), ?_⟩
  refine s_alls (f := thereSc N) (by walk_at "v") hx (fun σ' H' => (∃ v3 v4 v5 v6, σ' = [some x, some y, some z, v3, v4, v5, v6, none, none, none, none]) ∧ H' = H) (fun _ _ i => i.2 ▸ Same.refl _) ⟨⟨_, _, _, _, rfl⟩, rfl⟩ ?_ ?_
  · rintro v sc σ' H' N' hm r ⟨⟨v3, v4, v5, v6, rfl⟩, rfl⟩ hN
    obtain ⟨a, p1, p2, rfl, ha, hp1, hp2⟩ := r
    refine g2 ha (s_alls (f := thereSt N) (by walk_at "v") hp1 (fun σ' H2 => (∃ v5 v6, σ' = [some x, some y, some z, some p1, some p2, v5, v6, none, none, none, none]) ∧ H2 = H') (fun _ _ i => i.2 ▸ Same.refl _) ⟨⟨_, _, rfl⟩, rfl⟩ ?_ ?_)
    · rintro v st σ' H' N' hm' r ⟨⟨v5, v6, rfl⟩, rfl⟩ hN
      refine s_if (b := !thereSt N st) (a_not (a_B (v_call (va_cons (by walk_at "v") (va_cons (by walk_at "v") (va_cons (by walk_at "v") va_nil))) fun _ _ q => ⟨v, x, z, st, N, rfl, r, hx, hz, q⟩))) (fun e => s_ret val_c ?_) (fun e => s_next (hN _ _ ⟨⟨_, _, rfl⟩, rfl⟩ ?_))
      · rw [Bool.not_eq_true'] at e
        have e1 : there N = false := and_false_of (and_false_of (all_false_of hm (and_false_of (all_false_of hm' e))))
        rw [e1] at q
        exact q
      · rw [Bool.not_eq_false'] at e
        exact e
    rintro σ' H' ⟨⟨v5, v6, rfl⟩, rfl⟩ hst
    refine s_all (f := thereTe N) (by walk_at "v") hp2 (fun σ' H2 => (∃ v6, σ' = [some x, some y, some z, some p1, some p2, v5, v6, none, none, none, none]) ∧ H2 = H') (fun _ _ i => i.2 ▸ Same.refl _) ⟨⟨_, rfl⟩, rfl⟩ ?_ ?_
    · rintro v st σ' H' N' hm' r ⟨⟨v6, rfl⟩, rfl⟩ hN
      refine s_if (b := !thereTe N st) (a_not (a_B (v_call (va_cons (by walk_at "v") (va_cons (by walk_at "v") (va_cons (by walk_at "v") va_nil))) fun _ _ q => ⟨v, y, z, st, N, rfl, r, hy, hz, q⟩))) (fun e => s_ret val_c ?_) (fun e => s_next (hN _ _ ⟨⟨_, rfl⟩, rfl⟩ ?_))
      · rw [Bool.not_eq_true'] at e
        have e1 : there N = false := and_false_of (and_false_of (all_false_of hm (and_false_of2 (all_false_of hm' e))))
        rw [e1] at q
        exact q
      · rw [Bool.not_eq_false'] at e
        exact e
    rintro σ' H' ⟨⟨v6, rfl⟩, rfl⟩ hte
    refine hN _ _ ⟨⟨_, _, _, _, rfl⟩, rfl⟩ ?_
    unfold thereSc
    rw [hst, hte]
    rfl
  rintro σ' H' ⟨⟨v3, v4, v5, v6, rfl⟩, rfl⟩ hsc
  refine s_alls (f := thereTh N) (by walk_at "v") hy (fun σ' H2 => (∃ v7, σ' = [some x, some y, some z, v3, v4, v5, v6, v7, none, none, none]) ∧ H2 = H') (fun _ _ i => i.2 ▸ Same.refl _) ⟨⟨_, rfl⟩, rfl⟩ ?_ ?_
  · rintro v st σ' H' N' hm' r ⟨⟨v7, rfl⟩, rfl⟩ hN
    refine s_if (b := !thereTh N st) (a_not (a_B (v_call (va_cons (by walk_at "v") (va_cons (by walk_at "v") (va_cons (by walk_at "v") va_nil))) fun _ _ q => ⟨v, x, z, st, N, rfl, r, hx, hz, q⟩))) (fun e => s_ret val_c ?_) (fun e => s_next (hN _ _ ⟨⟨_, rfl⟩, rfl⟩ ?_))
    · rw [Bool.not_eq_true'] at e
      have e1 : there N = false := and_false_of (and_false_of2 (all_false_of hm' e))
      rw [e1] at q
      exact q
    · rw [Bool.not_eq_false'] at e
      exact e
  rintro σ' H' ⟨⟨v7, rfl⟩, rfl⟩ hth
  refine s_alls (f := thereQu N) (by walk_at "v") hz (fun σ' H2 => (∃ v8 v9 v10, σ' = [some x, some y, some z, v3, v4, v5, v6, v7, v8, v9, v10]) ∧ H2 = H') (fun _ _ i => i.2 ▸ Same.refl _) ⟨⟨_, _, _, rfl⟩, rfl⟩ ?_ ?_
  · rintro v qu σ' H' N' hm r ⟨⟨v8, v9, v10, rfl⟩, rfl⟩ hN
    obtain ⟨a, b, rfl, ha, hb⟩ := r
    refine g3 ha (s_if (b := decide (qu.1 < 0) || (decide ((N.sc.length : Int) ≤ qu.1) || decide (qu.2.1 < 0))) (by walk_at "a") (fun e => s_ret val_c ?_) (fun e => s_next (hN _ _ ⟨⟨_, _, _, rfl⟩, rfl⟩ ?_)))
    · have e0 : thereQu N qu = false := by
        show (!(decide (qu.1 < 0) || decide ((N.sc.length : Int) ≤ qu.1) || decide (qu.2.1 < 0))) = false
        rw [Bool.or_assoc, e]
        rfl
      have e1 : there N = false := and_false_of2 (all_false_of hm e0)
      rw [e1] at q
      exact q
    · show (!(decide (qu.1 < 0) || decide ((N.sc.length : Int) ≤ qu.1) || decide (qu.2.1 < 0))) = true
      rw [Bool.or_assoc, e]
      rfl
  rintro σ' H' ⟨⟨v8, v9, v10, rfl⟩, rfl⟩ hqu
  refine s_ret val_c ?_
  have e1 : there N = true := by
    unfold there
    rw [hsc, hth, hqu]
    rfl
  rw [e1] at q
  exact q
end
end K17
namespace K17
open PySem PySem.Spec PyProof.Rows L2
section
variable {P : Program} {w : World} {K : PySem.W.Frag} {mg : Str → Option Value} {base : Heap} {cl : Fin 10 → Addr}
/-! ### net_of -/
abbrev s_net_of : Stmt := topS 27
abbrev n_net_of : List Str := ["scopes", "things", "questions", "steps", "tellings"]
abbrev p_net_of : List Str := ["scopes", "things", "questions"]
theorem sc_net_of : FnScope ["scopes", "things", "questions", "steps", "tellings"] ["scopes", "things", "questions"] (defScope s_net_of) := ⟨rfl, rfl, rfl, by decide +kernel, rfl, by decide +kernel, by decide +kernel⟩
def sp_net_of (cl : Fin 10 → Addr) : Sp := fun vs H Q E => ∃ (x y z : V) (N : Net), vs = [x, y, z] ∧ LAt VScp H x N.sc ∧ LAt VThg H y N.th ∧ LAt VQst H z N.qu ∧ NOk N ∧
  (small N = false → E (.ref (cl 1)) none H) ∧ (small N = true → named N = false → E (.ref (cl 2)) none H) ∧ (small N = true → named N = true → there N = false → E (.ref (cl 3)) none H) ∧
  (small N = true → named N = true → there N = true → ∀ v H', Same H H' → VNet H' v N → Q v H')
theorem ok_net_of (T : Txt K mg cl) (d : Df K mg "net_of" s_net_of) (c_small_enough : Cal P w K mg base CX0 1 "small_enough" p_small_enough sp_small_enough) (c_all_named : Cal P w K mg base CX0 2 "all_named" p_all_named sp_all_named)
    (c_all_there : Cal P w K mg base CX0 2 "all_there" p_all_there sp_all_there) : Cal P w K mg base (L2.CX P w) 3 "net_of" ["scopes", "things", "questions"] (sp_net_of cl) := by
  obtain ⟨f, fd, F, g⟩ := d
  refine ⟨f, fd, g, F.kp, F.binds (fun _ _ _ _ _ _ us hl => match us, hl with | [_, _, _], _ => rfl), F.okX sc_net_of (fun vs H Q E h => ?_) (fun cdv A outer s H vs Q E hr h => ?_)⟩
  · obtain ⟨x, y, z, N, rfl, _⟩ := h
    rfl
  obtain ⟨x, y, z, N, rfl, hx, hy, hz, ok, q1, q2, q3, q⟩ := h
  refine ⟨_, (pss_cons (ps_if (pt_not (pt_val (pe_cal c_small_enough hr (by decide) (by rfl) (pa_cons (pv 0) (pa_cons (pv 1) (pa_cons (pv 2) pa_nil)))))) (pss_one (ps_raise rfl (takes_of rfl rfl rfl rfl) (pmk_own PySem.F.excBase_ValueError T.e_TooGreat.x T.g_TooGreat T.e_TooGreat.k T.e_TooGreat.r (by rfl)))) pss_nil)
    (pss_cons (ps_if (pt_not (pt_val (pe_cal c_all_named hr (by decide) (by rfl) (pa_cons (pv 0) (pa_cons (pv 2) pa_nil))))) (pss_one (ps_raise rfl (takes_of rfl rfl rfl rfl) (pmk_own PySem.F.excBase_ValueError T.e_NoName.x T.g_NoName T.e_NoName.k T.e_NoName.r (by rfl)))) pss_nil)
    (pss_cons (ps_if (pt_not (pt_val (pe_cal c_all_there hr (by decide) (by rfl) (pa_cons (pv 0) (pa_cons (pv 1) (pa_cons (pv 2) pa_nil)))))) (pss_one (ps_raise rfl (takes_of rfl rfl rfl rfl) (pmk_own PySem.F.excBase_ValueError T.e_NoPlace.x T.g_NoPlace T.e_NoPlace.k T.e_NoPlace.r (by rfl)))) pss_nil)
    (pss_one (ps_ret (pe_tup (pa_cons (pe_lc (own := [("steps", 3), ("tellings", 4)]) (tt := tYes) (g := gTup K 2 (gCons (gName 3) (gCons (gName 4) gNil)))  rfl sc_net_of.nd (pi_list (pv 0)) (blkOk_by (N := ["scopes", "things", "questions", "steps", "tellings"]) (sc := defScope s_net_of) (by decide +kernel)) (fun _ _ _ _ _ => (pg_tup rfl (pgs_cons (pg_name (i := 3) sc_net_of.nd rfl (Or.inl rfl)) (pgs_cons (pg_name (i := 4) sc_net_of.nd rfl (Or.inl rfl)) pgs_nil)))) (fun _ _ _ _ _ => pts_nil) (fun _ _ _ _ _ => (pe_tup (pa_cons (pe_callTy (T := "list") (r := rListOf K) call_listOf (by rfl) T.z_list boot_listT (pa_cons (pv 3) pa_nil)) (pa_cons (pe_callTy (T := "list") (r := rListOf K) call_listOf (by rfl) T.z_list boot_listT (pa_cons (pv 4) pa_nil)) pa_nil))))) (pa_cons (pe_callTy (T := "list") call_listOf (by rfl) T.z_list boot_listT (pa_cons (pv 1) pa_nil)) (pa_cons (pe_callTy (T := "list") call_listOf (by rfl) T.z_list boot_listT (pa_cons (pv 2) pa_nil)) pa_nil))))))))), ?_⟩
  refine s_ifs (b := !small N) (a_not (a_B (v_call (va_cons (by walk_at "v") (va_cons (by walk_at "v") (va_cons (by walk_at "v") va_nil))) fun _ _ q => ⟨x, y, z, N, rfl, hx, hy, hz, q⟩))) (fun e => ?_) (fun e => ?_)
  · exact q1 (by simpa using e)
  have e1 : small N = true := by simpa using e
  refine s_ifs (b := !named N) (a_not (a_B (v_call (va_cons (by walk_at "v") (va_cons (by walk_at "v") va_nil)) fun _ _ q => ⟨x, z, N, rfl, hx, hz, ok, q⟩))) (fun e => ?_) (fun e => ?_)
  · exact q2 e1 (by simpa using e)
  have e2 : named N = true := by simpa using e
  refine s_ifs (b := !there N) (a_not (a_B (v_call (va_cons (by walk_at "v") (va_cons (by walk_at "v") (va_cons (by walk_at "v") va_nil))) fun _ _ q => ⟨x, y, z, N, rfl, hx, hy, hz, q⟩))) (fun e => ?_) (fun e => ?_)
  · exact q3 e1 e2 (by simpa using e)
  have e3 : there N = true := by simpa using e
  -- the copy
  obtain ⟨a, vs, rfl, ha, hp⟩ := id hx
  obtain ⟨b, ws, rfl, hb, hpb⟩ := id hy
  obtain ⟨c, us, rfl, hc, hpc⟩ := id hz
  refine ⟨_, rfl, a, rfl, ⟨vs, SqL.of ha⟩, fun D hD => lc_list (K := K) (a := a) (xs := vs) (fun i H2 => Same H H2 ∧ ∃ acc, H2 D = some (.lst acc) ∧ Paired (VScp (hide D H2)) acc (N.sc.take i)) ⟨same_new hD, [], upd_same, .nil⟩ (fun i H2 _ h => SqL.of (h.1 _ _ ha)) ?_ ?_⟩
  · rintro i v H2 hi ⟨sm, acc, hacc, pacc⟩
    obtain ⟨sc, hsc, r⟩ := pget hp hi
    obtain ⟨a', p1, p2, rfl, ha', hp1, hp2⟩ := r
    have hle : acc.length ≤ 100 := by
      rw [plen pacc, List.length_take]
      have := ok.n1
      omega
    obtain ⟨b1, l1, rfl, hb1, pp1⟩ := id hp1
    obtain ⟨b2, l2, rfl, hb2, pp2⟩ := id hp2
    refine g2 (sm _ _ ha') (lc_turn rfl ?_)
    refine n_list (by walk_at "v") (sm _ _ hb1) fun m1 hm1 => ?_
    have s1 : Same H2 (upd H2 m1 (.lst l1)) := same_new hm1
    refine n_list (by walk_at "v") (s1 _ _ (sm _ _ hb2)) fun m2 hm2 => ?_
    have s2 := same_new2 (o := .lst l2) s1 hm2
    have m1m2 : m1 ≠ m2 := ne_of_none upd_same hm2
    refine ⟨by show 2 ≤ sizeLine; decide, fun p hp' => ?_⟩
    have s3 := same_new2 (o := .tup [.ref m1, .ref m2]) s2 hp'
    refine ⟨acc, s3 _ _ hacc, small_lt (by omega), same_mut (sm.trans s3) hD, acc ++ [.ref p], upd_same, ?_⟩
    rw [hide_upd, List.take_add_one, hsc]
    have neD : ∀ {q : Addr} {H' : Hp}, Same H2 H' → H' q = none → q ≠ D := fun s h e => by
      rw [e, s _ _ hacc] at h
      cases h
    have q1 : p ≠ m1 := fun e => by
      rw [e, upd_ne m1m2, upd_same] at hp'
      cases hp'
    have q2 : p ≠ m2 := fun e => by
      rw [e, upd_same] at hp'
      cases hp'
    refine Paired.snoc (pmap (fun _ _ => VScp.mono (hide_mono s3)) pacc) ⟨p, .ref m1, .ref m2, rfl, hide_get (neD s2 hp') upd_same, ⟨m1, l1, rfl, hide_get (neD (Same.refl _) hm1) ?_, pmap (fun _ _ => VStep.mono (hide_of (sm.trans s3) hD)) pp1⟩, ⟨m2, l2, rfl, hide_get (neD s1 hm2) ?_, pmap (fun _ _ => VTell.mono (hide_of (sm.trans s3) hD)) pp2⟩⟩
    · rw [upd_ne q1.symm, upd_ne m1m2, upd_same]
    · rw [upd_ne q2.symm, upd_same]
  · rintro H2 ⟨sm, acc, hacc, pacc⟩
    rw [plen hp, List.take_length] at pacc
    refine n_list (by walk_at "v") (sm _ _ hb) fun m1 hm1 => ?_
    have s1 : Same H2 (upd H2 m1 (.lst ws)) := same_new hm1
    refine n_list (by walk_at "v") (s1 _ _ (sm _ _ hc)) fun m2 hm2 => ?_
    have s2 := same_new2 (o := .lst us) s1 hm2
    refine ⟨by show 3 ≤ sizeLine; decide, fun p hp' => ?_⟩
    have s3 := same_new2 (o := .tup [.ref D, .ref m1, .ref m2]) s2 hp'
    have s23 : Same (upd H2 m1 (.lst ws)) (upd (upd (upd H2 m1 (.lst ws)) m2 (.lst us)) p (.tup [.ref D, .ref m1, .ref m2])) := same_new2 (same_new hm2) hp'
    have s33 : Same (upd (upd H2 m1 (.lst ws)) m2 (.lst us)) (upd (upd (upd H2 m1 (.lst ws)) m2 (.lst us)) p (.tup [.ref D, .ref m1, .ref m2])) := same_new hp'
    refine q e1 e2 e3 _ _ (sm.trans s3) ⟨p, .ref D, .ref m1, .ref m2, rfl, upd_same, ⟨D, acc, rfl, s3 _ _ hacc, pmap (fun _ _ => VScp.mono (hide_same.trans s3)) pacc⟩, ⟨m1, ws, rfl, s23 _ _ upd_same, pmap (fun _ _ => VThg.mono (sm.trans s3)) hpb⟩, ⟨m2, us, rfl, s33 _ _ upd_same, pmap (fun _ _ => VQst.mono (sm.trans s3)) hpc⟩⟩
end
end K17
namespace K17
open PySem PySem.Spec PyProof.Rows L2
/-! ### the data for == -/
def Shp (n : Nat) (d : PyData) : Prop := d.canLay0 = true ∧ d.depth ≤ n
theorem shp_int {n : Nat} {i : Int} : Shp n (.int i) := ⟨rfl, Nat.zero_le _⟩
theorem shp_bl {n : Nat} {b : Bool} : Shp n (.bool b) := ⟨rfl, Nat.zero_le _⟩
theorem shp_str {n : Nat} {x : Str} (h : TOk x) : Shp n (.str x) := ⟨by
  show PyData.strOk x = true
  unfold PyData.strOk
  rw [← Array.all_toList]
  exact List.all_eq_true.mpr fun c hc => decide_eq_true (h.2 c hc), Nat.zero_le _⟩
theorem shp_all {n : Nat} : ∀ {ds : List PyData}, (∀ d ∈ ds, Shp n d) → PyData.canLayAll0 ds = true ∧ PyData.depthAll ds ≤ n
  | [], _ => ⟨rfl, Nat.zero_le _⟩
  | d :: ds, h => by
    have h1 := h d List.mem_cons_self
    have h2 := shp_all (ds := ds) fun x hx => h x (List.mem_cons_of_mem _ hx)
    refine ⟨?_, ?_⟩
    · show (d.canLay0 && PyData.canLayAll0 ds) = true
      rw [h1.1, h2.1]
      rfl
    · show max d.depth (PyData.depthAll ds) ≤ n
      exact Nat.max_le.mpr ⟨h1.2, h2.2⟩
theorem shp_list {n : Nat} {ds : List PyData} (h : ∀ d ∈ ds, Shp n d) : Shp (n + 1) (.list ds) := ⟨(shp_all h).1, Nat.succ_le_succ (shp_all h).2⟩
theorem shp_tup {n : Nat} {ds : List PyData} (h : ∀ d ∈ ds, Shp n d) : Shp (n + 1) (.tuple ds) := ⟨(shp_all h).1, Nat.succ_le_succ (shp_all h).2⟩
theorem shp_map {α : Type} {n : Nat} {f : α → PyData} {xs : List α} (h : ∀ x ∈ xs, Shp n (f x)) : ∀ d ∈ xs.map f, Shp n d := fun d hd => by
  obtain ⟨x, hx, rfl⟩ := List.mem_map.mp hd
  exact h x hx
theorem Shp.shaped {n : Nat} {d : PyData} (h : Shp n d) (hn : n ≤ 64) : SeqAt.shaped d = true := by
  unfold SeqAt.shaped
  rw [h.1, decide_eq_true (Nat.le_trans h.2 hn)]
  rfl
def pySt (s : Step) : PyData := .tuple [.str s.1, .str s.2.1, .int s.2.2]
def pyTe (t : Tell) : PyData := .tuple [.str t.1, .str t.2.1, .str t.2.2.1, .int t.2.2.2]
def pyTh (t : Thg) : PyData := .tuple [.str t.1, .int t.2]
def pyQu (q : Qst) : PyData := .tuple [.int q.1, .int q.2.1, .tuple (q.2.2.map PyData.str)]
def pySc (s : Scp) : PyData := .tuple [.list (s.1.map pySt), .list (s.2.map pyTe)]
def pyNet (N : Net) : PyData := .tuple [.list (N.sc.map pySc), .list (N.th.map pyTh), .list (N.qu.map pyQu)]
theorem in2 {P : PyData → Prop} {a b : PyData} (h1 : P a) (h2 : P b) : ∀ d ∈ [a, b], P d := fun d hd => by
  simp only [List.mem_cons, List.not_mem_nil, or_false] at hd
  rcases hd with rfl | rfl <;> assumption
theorem in3 {P : PyData → Prop} {a b c : PyData} (h1 : P a) (h2 : P b) (h3 : P c) : ∀ d ∈ [a, b, c], P d := fun d hd => by
  simp only [List.mem_cons, List.not_mem_nil, or_false] at hd
  rcases hd with rfl | rfl | rfl <;> assumption
theorem in4 {P : PyData → Prop} {a b c e : PyData} (h1 : P a) (h2 : P b) (h3 : P c) (h4 : P e) : ∀ d ∈ [a, b, c, e], P d := fun d hd => by
  simp only [List.mem_cons, List.not_mem_nil, or_false] at hd
  rcases hd with rfl | rfl | rfl | rfl <;> assumption
theorem shp_St {s : Step} (h : StOk s) : Shp 1 (pySt s) := shp_tup (in3 (shp_str h.l) (shp_str h.k) shp_int)
theorem shp_Te {s : Tell} (h : TeOk s) : Shp 1 (pyTe s) := shp_tup (in4 (shp_str h.l) (shp_str h.n) (shp_str h.k) shp_int)
theorem shp_Th {s : Thg} (h : ThOk s) : Shp 1 (pyTh s) := shp_tup (in2 (shp_str h) shp_int)
theorem shp_Qu {s : Qst} (h : QuOk s) : Shp 2 (pyQu s) := shp_tup (in3 shp_int shp_int (shp_tup (shp_map fun x hx => shp_str (h.p x hx))))
theorem shp_Sc {s : Scp} (h : ScOk s) : Shp 3 (pySc s) := shp_tup (in2 (shp_list (shp_map fun x hx => shp_St (h.st x hx))) (shp_list (shp_map fun x hx => shp_Te (h.te x hx))))
theorem Shp.mono {m n : Nat} {d : PyData} (h : Shp m d) (hm : m ≤ n) : Shp n d := ⟨h.1, Nat.le_trans h.2 hm⟩
theorem shp_Scs {xs : List Scp} (h : ∀ x ∈ xs, ScOk x) : Shp 4 (.list (xs.map pySc)) := shp_list (shp_map fun x hx => shp_Sc (h x hx))
theorem shp_Net {N : Net} (h : NOk N) : Shp 5 (pyNet N) := shp_tup (in3 (shp_Scs h.sc) (shp_list (shp_map fun x hx => (shp_Th (h.th x hx)).mono (by decide))) (shp_list (shp_map fun x hx => (shp_Qu (h.qu x hx)).mono (by decide))))
section
variable {K : PySem.W.Frag} {H : Hp}
theorem dp_all {α : Type} {R : Hp → V → α → Prop} {f : α → PyData} (h : ∀ v x, R H v x → Dp K H v (f x)) : ∀ {vs : List V} {xs : List α}, Paired (R H) vs xs → DpAll K H vs (xs.map f)
  | _, _, .nil => .nil
  | _, _, .cons r t => .cons (h _ _ r) (dp_all h t)
theorem dp_LAt {α : Type} {R : Hp → V → α → Prop} {f : α → PyData} (h : ∀ v x, R H v x → Dp K H v (f x)) {v : V} {xs : List α} (hl : LAt R H v xs) : Dp K H v (.list (xs.map f)) := by
  obtain ⟨a, vs, rfl, ha, p⟩ := hl
  exact .lst (SqL.of ha) (dp_all h p)
theorem dp_strs : ∀ xs : List Str, DpAll K H (xs.map V.str) (xs.map PyData.str)
  | [] => .nil
  | x :: xs => .cons (.str x) (dp_strs xs)
theorem dp_bls : ∀ xs : List Bool, DpAll K H (xs.map V.bl) (xs.map PyData.bool)
  | [] => .nil
  | x :: xs => .cons (.bl x) (dp_bls xs)
theorem dp_St {v : V} {s : Step} (h : VStep H v s) : Dp K H v (pySt s) := by
  obtain ⟨a, rfl, h⟩ := h
  exact .tup (SqT.of h) (.cons (.str _) (.cons (.str _) (.cons (.int _) .nil)))
theorem dp_Te {v : V} {s : Tell} (h : VTell H v s) : Dp K H v (pyTe s) := by
  obtain ⟨a, rfl, h⟩ := h
  exact .tup (SqT.of h) (.cons (.str _) (.cons (.str _) (.cons (.str _) (.cons (.int _) .nil))))
theorem dp_Th {v : V} {s : Thg} (h : VThg H v s) : Dp K H v (pyTh s) := by
  obtain ⟨a, rfl, h⟩ := h
  exact .tup (SqT.of h) (.cons (.str _) (.cons (.int _) .nil))
theorem dp_Qu {v : V} {s : Qst} (h : VQst H v s) : Dp K H v (pyQu s) := by
  obtain ⟨a, b, rfl, h, hb⟩ := h
  exact .tup (SqT.of h) (.cons (.int _) (.cons (.int _) (.cons (.tup (SqT.of hb) (dp_strs _)) .nil)))
theorem dp_Sc {v : V} {s : Scp} (h : VScp H v s) : Dp K H v (pySc s) := by
  obtain ⟨a, x, y, rfl, h, h1, h2⟩ := h
  exact .tup (SqT.of h) (.cons (dp_LAt (fun _ _ => dp_St) h1) (.cons (dp_LAt (fun _ _ => dp_Te) h2) .nil))
theorem dp_Net {v : V} {N : Net} (h : VNet H v N) : Dp K H v (pyNet N) := by
  obtain ⟨a, x, y, z, rfl, h, h1, h2, h3⟩ := h
  exact .tup (SqT.of h) (.cons (dp_LAt (fun _ _ => dp_Sc) h1) (.cons (dp_LAt (fun _ _ => dp_Th) h2) (.cons (dp_LAt (fun _ _ => dp_Qu) h3) .nil)))
theorem v_eqNet {σ : L2.St} {ta tb : TE} {x y : V} {N : Net} (ha : Val ta σ H x) (hb : Val tb σ H y) (hx : VNet H x N) (hy : VNet H y N) (ok : NOk N) : Val (tOp (rEqD K) ta tb) σ H (.bl true) := fun Q q => by
  have e := SeqAt.eqv_refl (pyNet N) (shp_Net ok).1
  refine ha _ (hb _ ⟨_, _, dp_Net hx, dp_Net hy, (shp_Net ok).shaped (by decide), (shp_Net ok).shaped (by decide), ?_⟩)
  rw [e]
  exact q
theorem eqv_nil_list : ∀ xs : List PyData, PyData.eqv (.list xs) (.list []) = xs.isEmpty
  | [] => rfl
  | _ :: _ => rfl
theorem eqv_nil_tup : ∀ xs : List PyData, PyData.eqv (.tuple xs) (.tuple []) = xs.isEmpty
  | [] => rfl
  | _ :: _ => rfl
end
end K17
namespace K17
open PySem PySem.Spec PyProof.Rows L2
section
variable {σ : L2.St} {H : Hp} {i : Nat} {v x y z : V} {ta tb tc te te' : TE} {b : Bool} {K : PySem.W.Frag} {D : Ends} {g : TG} {tb' u' : TS} {Q : VK} {vs' : List Nat}
/-- a walk over a list that has come: as s_all -/
theorem l_all {α : Type} {R : Hp → V → α → Prop} {f : α → Bool} {xs : List α} (hp : LAt R H x xs) (I : L2.St → Hp → Prop) (hI : ∀ σ' H', I σ' H' → Same H H') (h0 : I σ H)
    (hs : ∀ v y σ' H' (N : L2.St → Hp → Prop), y ∈ xs → R H v y → I σ' H' → (∀ σ3 H3, I σ3 H3 → f y = true → N σ3 H3) → g v σ' H' fun σ2 H2 => tb' { D with nx := N, ct := N, bk := D.nx } σ2 H2)
    (hd : ∀ σ' H', I σ' H' → xs.all f = true → D.nx σ' H') : tFor (iList K (tC x)) g tb' D σ H := s_all val_c hp I hI h0 hs hd
/-- a walk over a list that is made on the way -/
theorem s_forH {W : V → Hp → Prop} (hv : ValH te σ H W) (k : ∀ x H1, W x H1 → tFor (iList K (tC x)) g tb' D σ H1) : tFor (iList K te) g tb' D σ H := hv _ fun x H1 p => k x H1 p
theorem s_forHs {W : V → Hp → Prop} (hv : ValH te σ H W) (k : ∀ x H1, W x H1 → tSeq (tFor (iList K (tC x)) g tb') u' D σ H1) : tSeq (tFor (iList K te) g tb') u' D σ H := hv _ fun x H1 p => k x H1 p
theorem n_cat {p r : Addr} {xs zs : List V} (ha : Val ta σ H (.ref p)) (hb : Val tb σ H (.ref r)) (hp : H p = some (.lst xs)) (hr : H r = some (.lst zs)) (hl : xs.length + zs.length ≤ 100000) (q : ∀ l, H l = none → Q (.ref l) (upd H l (.lst (xs ++ zs)))) : tOp rCat ta tb σ H Q :=
  ha _ (hb _ ⟨p, r, xs, zs, rfl, rfl, hp, hr, small_line hl, q⟩)
/-- a comprehension over a list, its invariant by the new list's address -/
theorem n_lcL {α : Type} {R : Hp → V → α → Prop} {xs : List α} (hv : Val te σ H x) (hp : LAt R H x xs) (Pv : Addr → Nat → Hp → Prop) (h0 : ∀ D, H D = none → Pv D 0 (upd H D (.lst []))) (hl : ∀ D i H', H D = none → Pv D i H' → Same H H')
    (hs : ∀ D i v y H', H D = none → xs[i]? = some y → R H v y → Pv D i H' → g v (wipe σ vs') H' fun σ2 H2 => wipe σ2 vs' = wipe σ vs' ∧ tYes σ2 H2 fun b H3 =>
      if b = true then te' σ2 H3 fun y H4 => ∃ acc, H4 D = some (.lst acc) ∧ acc.length < sizeLine ∧ Pv D (i + 1) (upd H4 D (.lst (acc ++ [y]))) else Pv D (i + 1) H3)
    (hd : ∀ D H', H D = none → Pv D xs.length H' → Q (.ref D) H') : tLc (iList K te) g tYes te' vs' σ H Q := by
  obtain ⟨a, vs, rfl, ha, p⟩ := hp
  refine hv _ ⟨a, rfl, ⟨vs, SqL.of ha⟩, fun D hD => lc_list (K := K) (a := a) (xs := vs) (Pv D) (h0 D hD) (fun i H' _ h => SqL.of (hl D i H' hD h _ _ ha)) (fun i v H' hi h => ?_) (fun H' h => hd D H' hD (by rw [plen p] at h; exact h))⟩
  obtain ⟨y, hy, r⟩ := pget p hi
  exact hs D i v y H' hD hy r h
/-- .. whose elements are plain values -/
theorem n_lcM {α : Type} {R : Hp → V → α → Prop} {f : α → V} {xs : List α} (hv : Val te σ H x) (hp : LAt R H x xs) (hlen : xs.length ≤ 10000)
    (hs : ∀ v y H' (Z : L2.St → Hp → Prop), y ∈ xs → R H v y → Same H H' → (∀ σ2, wipe σ2 vs' = wipe σ vs' → Val te' σ2 H' (f y) → Z σ2 H') → g v (wipe σ vs') H' Z)
    (hd : ∀ D, H D = none → Q (.ref D) (upd H D (.lst (xs.map f)))) : tLc (iList K te) g tYes te' vs' σ H Q := by
  refine n_lcL hv hp (fun D i H' => H' = upd H D (.lst ((xs.take i).map f))) (fun D hD => rfl) (fun D i H' hD h => h ▸ same_new hD) (fun D i v y H' hD hy r h => ?_) (fun D H' hD h => ?_)
  · subst h
    refine hs v y _ _ (List.mem_of_getElem? hy) r (same_new hD) fun σ2 e k => lc_turn e (k _ ?_)
    refine ⟨_, upd_same, small_lt ?_, ?_⟩
    · rw [List.length_map, List.length_take]
      omega
    · rw [upd_upd, List.take_add_one, hy, List.map_append]
      rfl
  · subst h
    rw [List.take_length]
    exact hd D hD
/-- a comprehension over a text's signs -/
theorem n_lcS {f : Nat → V} {s : Str} (hv : Val te σ H (.str s)) (hlen : s.length ≤ 10000)
    (hs : ∀ c H' (Z : L2.St → Hp → Prop), c ∈ s.cps.toList → Same H H' → (∀ σ2, wipe σ2 vs' = wipe σ vs' → Val te' σ2 H' (f c) → Z σ2 H') → g (.str ⟨#[c]⟩) (wipe σ vs') H' Z)
    (hd : ∀ D, H D = none → Q (.ref D) (upd H D (.lst (s.cps.toList.map f)))) : tLc (iStr te) g tYes te' vs' σ H Q := by
  refine hv _ ⟨s, rfl, fun D hD => ⟨fun i m H' => m = s.cps.size - i ∧ i ≤ s.cps.size ∧ H' = upd H D (.lst ((s.cps.toList.take i).map f)), ⟨_, rfl, Nat.zero_le _, rfl⟩, ?_⟩⟩
  rintro i m H' ⟨rfl, hi, rfl⟩
  by_cases hlt : i < s.cps.size
  · refine .inr ⟨hlt, fun H3 => H3 = upd H D (.lst ((s.cps.toList.take (i + 1)).map f)), fun H3 q => ⟨_, by omega, rfl, hlt, q⟩, ?_⟩
    rintro v H2 ⟨rfl, c, hc, rfl⟩
    have hc' : s.cps.toList[i]? = some c := by
      rw [Array.getElem?_toList]
      exact hc
    refine hs c _ _ (List.mem_of_getElem? hc') (same_new hD) fun σ2 e k => lc_turn e (k _ ?_)
    refine ⟨_, upd_same, small_lt ?_, ?_⟩
    · rw [List.length_map, List.length_take, Array.length_toList]
      show min i s.length < 100000
      omega
    · rw [upd_upd, List.take_add_one, hc', List.map_append]
      rfl
  · have e : i = s.cps.toList.length := by
      rw [Array.length_toList]
      omega
    refine .inl ⟨by
      show s.cps.size ≤ i
      omega, ?_⟩
    rw [e, List.take_length]
    exact hd D hD
/-- a comprehension over a range -/
theorem n_lcR {ta : TA} {n : Nat} {f : Nat → V} (hv : ValA ta σ H [.int n]) (hlen : n ≤ 10000)
    (hs : ∀ k H' (Z : L2.St → Hp → Prop), k < n → Same H H' → (∀ σ2, wipe σ2 vs' = wipe σ vs' → Val te' σ2 H' (f k) → Z σ2 H') → g (.int k) (wipe σ vs') H' Z)
    (hd : ∀ D, H D = none → Q (.ref D) (upd H D (.lst ((List.range n).map f)))) : tLc (iRng1 ta) g tYes te' vs' σ H Q := by
  refine hv _ ⟨(n : Int), rfl, by omega, by omega, fun D hD => lc_range (lo := 0) (n := ((n : Int)).toNat) (fun i H' => H' = upd H D (.lst ((List.range i).map f))) rfl (fun i H' hi h => ?_) (fun H' h => ?_)⟩
  · subst h
    rw [Int.zero_add]
    refine hs i _ _ (by omega) (same_new hD) fun σ2 e k => lc_turn e (k _ ?_)
    refine ⟨_, upd_same, small_lt ?_, ?_⟩
    · rw [List.length_map, List.length_range]
      omega
    · rw [upd_upd, List.range_succ, List.map_append]
      rfl
  · subst h
    rw [show ((n : Int)).toNat = n from Int.toNat_natCast n]
    exact hd D hD
/-- for v in a tuple of any values, each of which goes on -/
theorem s_eachT {xs : List V} {a : Addr} (hv : Val te σ H (.ref a)) (hp : H a = some (.tup xs)) (I : L2.St → Hp → Prop) (hI : ∀ σ' H', I σ' H' → Same H H') (h0 : I σ H)
    (hs : ∀ v σ' H' (N : L2.St → Hp → Prop), v ∈ xs → I σ' H' → (∀ σ3 H3, I σ3 H3 → N σ3 H3) → g v σ' H' fun σ2 H2 => tb' { nx := N, rt := D.rt, ct := N, bk := u' D } σ2 H2)
    (hd : ∀ σ' H', I σ' H' → u' D σ' H') : tSeq (tFor (iTup K te) g tb') u' D σ H := by
  refine s_seq (hv _ ⟨a, rfl, ⟨_, SqT.of hp⟩, for_tup (K := K) (a := a) (xs := xs) (fun i σ' H' => I σ' H') h0 (fun i σ' H' _ q => SqT.of (hI _ _ q _ _ hp)) (fun i v σ' H' hi q => hs v σ' H' _ (List.mem_of_getElem? hi) q fun σ3 H3 q1 => q1) (fun σ' H' q => hd _ _ q)⟩)
/-- a loop by an invariant with the turn -/
theorem s_forP {α : Type} {R : Hp → V → α → Prop} {xs : List α} (hv : Val te σ H x) (hp : LAt R H x xs) (Pv : Nat → L2.St → Hp → Prop) (hl : ∀ i σ' H', Pv i σ' H' → Same H H') (h0 : Pv 0 σ H)
    (hs : ∀ i v y σ' H', xs[i]? = some y → R H v y → Pv i σ' H' → g v σ' H' fun σ2 H2 => tb' { nx := Pv (i + 1), rt := D.rt, ct := Pv (i + 1), bk := u' D } σ2 H2)
    (hd : ∀ σ' H', Pv xs.length σ' H' → u' D σ' H') : tSeq (tFor (iList K te) g tb') u' D σ H := by
  obtain ⟨a, vs, rfl, h, p⟩ := hp
  refine s_seq (hv _ ⟨a, rfl, ⟨vs, SqL.of h⟩, for_list (K := K) (a := a) (xs := vs) Pv h0 (fun i σ' H' _ q => SqL.of (hl i _ _ q _ _ h)) (fun i v σ' H' hi q => ?_) (fun σ' H' q => hd _ _ (by rw [plen p] at q; exact q))⟩)
  obtain ⟨y, hy, r⟩ := pget p hi
  exact hs i v y σ' H' hy r q
theorem n_cat1 {p : Addr} (ha : Val ta σ H (.ref p)) (k : tb σ H (fun y H2 => rCat (.ref p) y H2 Q)) : tOp rCat ta tb σ H Q := ha _ k
/-- words = words + [f(x) for x in xs] -/
theorem s_catLc {α : Type} {R : Hp → V → α → Prop} {f : α → Str} {xs : List α} {ws : List Str} {p : Addr} (hp : H p = some (.lst (ws.map V.str))) (hσ : σ[i]? = some (some (.ref p))) (hv : Val te σ H x) (hx : LAt R H x xs) (hlen : ws.length + xs.length ≤ 100000) (hlen2 : xs.length ≤ 10000)
    (hs : ∀ v y H' (Z : L2.St → Hp → Prop), y ∈ xs → R H v y → Same H H' → (∀ σ2, wipe σ2 vs' = wipe σ vs' → Val te' σ2 H' (.str (f y)) → Z σ2 H') → g v (wipe σ vs') H' Z)
    (k : ∀ l H', H l = none → Same H H' → H' l = some (.lst ((ws ++ xs.map f).map V.str)) → D.nx (σ.set i (some (.ref l))) H') : tAsg (tOp rCat (tVar i) (tLc (iList K te) g tYes te' vs')) (gName i) D σ H := by
  refine n_cat1 (val_var hσ) (n_lcM (f := fun y => V.str (f y)) hv hx hlen2 hs fun D' hD => ?_)
  have s1 := same_new (o := .lst (xs.map fun y => V.str (f y))) hD
  refine ⟨p, D', _, _, rfl, rfl, s1 _ _ hp, upd_same, small_line (by rw [List.length_map, List.length_map]; exact hlen), fun l hl => ?_⟩
  have e : ws.map V.str ++ xs.map (fun y => V.str (f y)) = (ws ++ xs.map f).map V.str := by
    rw [List.map_append, List.map_map]
    rfl
  refine k l _ (s1.free hl) (same_new2 s1 hl) (upd_same.trans (by rw [e]))
theorem s_catLcs {α : Type} {R : Hp → V → α → Prop} {f : α → Str} {xs : List α} {ws : List Str} {p : Addr} (hp : H p = some (.lst (ws.map V.str))) (hσ : σ[i]? = some (some (.ref p))) (hv : Val te σ H x) (hx : LAt R H x xs) (hlen : ws.length + xs.length ≤ 100000) (hlen2 : xs.length ≤ 10000)
    (hs : ∀ v y H' (Z : L2.St → Hp → Prop), y ∈ xs → R H v y → Same H H' → (∀ σ2, wipe σ2 vs' = wipe σ vs' → Val te' σ2 H' (.str (f y)) → Z σ2 H') → g v (wipe σ vs') H' Z)
    (k : ∀ l H', H l = none → Same H H' → H' l = some (.lst ((ws ++ xs.map f).map V.str)) → u' D (σ.set i (some (.ref l))) H') : tSeq (tAsg (tOp rCat (tVar i) (tLc (iList K te) g tYes te' vs')) (gName i)) u' D σ H :=
  s_seq (s_catLc hp hσ hv hx hlen hlen2 hs k)
/-- xs.append(v) -/
theorem s_append {l : Addr} {xs : List V} (hl : H l = some (.lst xs)) (ha : Val ta σ H (.ref l)) (h : Val te σ H v) (hz : xs.length < 100000) (k : D.nx σ (upd H l (.lst (xs ++ [v])))) : tDrop (tBM K "list" rAppend ta (tCons te tNil)) D σ H :=
  ha _ ⟨Or.inl ⟨rfl, xs, SqL.of hl⟩, h _ ⟨l, xs, v, rfl, rfl, hl, small_lt hz, k⟩⟩
/-- xs.append(e), e's value made on the way -/
theorem s_appendH {l : Addr} {xs : List V} {W : V → Hp → Prop} (hl : H l = some (.lst xs)) (ha : Val ta σ H (.ref l)) (h : ValH te σ H W) (hz : xs.length < 100000) (k : ∀ v H1, W v H1 → H1 l = some (.lst xs) ∧ D.nx σ (upd H1 l (.lst (xs ++ [v])))) :
    tDrop (tBM K "list" rAppend ta (tCons te tNil)) D σ H :=
  ha _ ⟨Or.inl ⟨rfl, xs, SqL.of hl⟩, h _ fun v H1 w => ⟨l, xs, v, rfl, rfl, (k v H1 w).1, small_lt hz, (k v H1 w).2⟩⟩
variable {t u c : TT} {t1 t2 : TS} {W : Hp → Prop}
theorem s_ifH (h : AnsH c σ H b W) (h1 : b = true → ∀ H', W H' → t1 D σ H') (h2 : b = false → ∀ H', W H' → t2 D σ H') : tIfS c t1 t2 D σ H := by
  refine h _ fun H' w => ?_
  cases b with
  | true => exact iteT (h1 rfl H' w)
  | false => exact iteF (h2 rfl H' w)
theorem s_ifsH (h : AnsH c σ H b W) (h1 : b = true → ∀ H', W H' → t1 { D with nx := u' D } σ H') (h2 : b = false → ∀ H', W H' → u' D σ H') : tSeq (tIfS c t1 tNext) u' D σ H := s_seq (s_ifH h h1 h2)
theorem ah_B (h : ValH te σ H (fun v H' => v = .bl b ∧ W H')) : AnsH (tB te) σ H b W := fun Q q => h _ fun v H' ⟨e, w⟩ => ⟨b, e, q H' w⟩
theorem ah_test (h : ValH te σ H (fun v H' => v = .bl b ∧ W H')) : AnsH (tTest te) σ H b W := fun Q q => h _ fun v H' ⟨e, w⟩ => ⟨b, e, q H' w⟩
theorem ah_not (h : AnsH c σ H b W) : AnsH (tNot c) σ H (!b) W := fun Q q => h _ fun H' w => q H' w
theorem vh_call {sp : Sp} {vs : List V} {E : XK} {ta : TA} {W : V → Hp → Prop} (h : ValA ta σ H vs) (hs : ∀ (Q : VK) (E : XK), (∀ v H', W v H' → Q v H') → sp vs H Q E) : ValH (tCall sp [] E ta) σ H W := fun Q q => h _ (by
  rw [List.append_nil]
  exact hs Q E q)
/-- rows of a text and a number, written -/
theorem n_rows2 {k1 k2 : Str} {a b : Int} (hA : Val ta σ H (.int a)) (hB : ∀ H', Same H H' → Val tb σ H' (.int b)) (q : ∀ p H', Same H H' → LAt VThg H' (.ref p) [(k1, a), (k2, b)] → Q (.ref p) H') :
    tLst (tCons (tTup (tCons (tC (.str k1)) (tCons ta tNil))) (tCons (tTup (tCons (tC (.str k2)) (tCons tb tNil))) tNil)) σ H Q := by
  refine hA _ ?_
  refine ⟨by show 2 ≤ sizeLine; decide, fun p1 hp1 => ?_⟩
  have s1 := same_new (o := .tup [.str k1, .int a]) hp1
  refine hB _ s1 _ ?_
  refine ⟨by show 2 ≤ sizeLine; decide, fun p2 hp2 => ?_⟩
  have s2 := same_new (o := .tup [.str k2, .int b]) hp2
  refine ⟨by show 2 ≤ sizeLine; decide, fun p3 hp3 => ?_⟩
  have s3 := same_new (o := .lst [.ref p1, .ref p2]) hp3
  exact q p3 _ ((s1.trans s2).trans s3) ⟨p3, _, rfl, upd_same, .cons ⟨p1, rfl, s3 _ _ (s2 _ _ upd_same)⟩ (.cons ⟨p2, rfl, s3 _ _ upd_same⟩ .nil)⟩
theorem n_rows3 {k1 k2 k3 : Str} {a b e : Int} (hA : Val ta σ H (.int a)) (hB : ∀ H', Same H H' → Val tb σ H' (.int b)) (hC : ∀ H', Same H H' → Val tc σ H' (.int e)) (q : ∀ p H', Same H H' → LAt VThg H' (.ref p) [(k1, a), (k2, b), (k3, e)] → Q (.ref p) H') :
    tLst (tCons (tTup (tCons (tC (.str k1)) (tCons ta tNil))) (tCons (tTup (tCons (tC (.str k2)) (tCons tb tNil))) (tCons (tTup (tCons (tC (.str k3)) (tCons tc tNil))) tNil))) σ H Q := by
  refine hA _ ?_
  refine ⟨by show 2 ≤ sizeLine; decide, fun p1 hp1 => ?_⟩
  have s1 := same_new (o := .tup [.str k1, .int a]) hp1
  refine hB _ s1 _ ?_
  refine ⟨by show 2 ≤ sizeLine; decide, fun p2 hp2 => ?_⟩
  have s2 := same_new (o := .tup [.str k2, .int b]) hp2
  refine hC _ (s1.trans s2) _ ?_
  refine ⟨by show 2 ≤ sizeLine; decide, fun p4 hp4 => ?_⟩
  have s4 := same_new (o := .tup [.str k3, .int e]) hp4
  refine ⟨by show 3 ≤ sizeLine; decide, fun p3 hp3 => ?_⟩
  have s3 := same_new (o := .lst [.ref p1, .ref p2, .ref p4]) hp3
  exact q p3 _ (((s1.trans s2).trans s4).trans s3) ⟨p3, _, rfl, upd_same, .cons ⟨p1, rfl, s3 _ _ (s4 _ _ (s2 _ _ upd_same))⟩ (.cons ⟨p2, rfl, s3 _ _ (s4 _ _ upd_same)⟩ (.cons ⟨p4, rfl, s3 _ _ upd_same⟩ .nil))⟩
theorem p_ret (h : te σ H D.rt) : tRet te D σ H := h
theorem p_cb {r : List V → Hp → VK → Prop} (h : te σ H fun x H1 => r [x] H1 Q) : tCB r (tCons te tNil) σ H Q := h
theorem s_setH {W : V → Hp → Prop} (h : ValH te σ H W) (k : ∀ v H1, W v H1 → D.nx (σ.set i (some v)) H1) : tAsg te (gName i) D σ H := h _ k
theorem s_setsH {W : V → Hp → Prop} (h : ValH te σ H W) (k : ∀ v H1, W v H1 → u' D (σ.set i (some v)) H1) : tSeq (tAsg te (gName i)) u' D σ H := h _ k
theorem s_retH {W : V → Hp → Prop} (h : ValH te σ H W) (k : ∀ v H1, W v H1 → D.rt v H1) : tRet te D σ H := h _ k
theorem s_dropH {W : V → Hp → Prop} (h : ValH te σ H W) (k : ∀ v H1, W v H1 → D.nx σ H1) : tDrop te D σ H := h _ k
theorem vh_nil : ValH (tLst tNil) σ H (fun v H' => ∃ p, v = .ref p ∧ H p = none ∧ H' = upd H p (.lst [])) := fun Q q => ⟨Nat.zero_le _, fun p hp => q _ _ ⟨p, rfl, hp, rfl⟩⟩
theorem vh_mono {W W' : V → Hp → Prop} (h : ValH te σ H W) (m : ∀ v H', W v H' → W' v H') : ValH te σ H W' := fun Q q => h Q fun v H' w => q v H' (m v H' w)
/-- words = words + list(a tuple of texts) -/
theorem s_catTs {ws xs : List Str} {p r : Addr} (hp : H p = some (.lst (ws.map V.str))) (hσ : σ[i]? = some (some (.ref p))) (hv : Val te σ H (.ref r)) (hr : H r = some (.tup (xs.map V.str))) (hlen : ws.length + xs.length ≤ 100000)
    (k : ∀ l H', H l = none → Same H H' → H' l = some (.lst ((ws ++ xs).map V.str)) → u' D (σ.set i (some (.ref l))) H') : tSeq (tAsg (tOp rCat (tVar i) (tCB (rListOf K) (tCons te tNil))) (gName i)) u' D σ H := by
  refine s_seq (n_cat1 (val_var hσ) (n_listT hv hr fun q hq => ?_))
  have s1 := same_new (o := .lst (xs.map V.str)) hq
  refine ⟨p, q, _, _, rfl, rfl, s1 _ _ hp, upd_same, small_line (by rw [List.length_map, List.length_map]; exact hlen), fun l hl => ?_⟩
  refine k l _ (s1.free hl) (same_new2 s1 hl) (upd_same.trans (by rw [List.map_append]))
/-- path == () -/
theorem ah_nilT {xs : List Str} {r : Addr} (hK : ∀ x ∈ xs, TOk x) (hv : Val te σ H (.ref r)) (hr : H r = some (.tup (xs.map V.str))) (sh : SeqAt.shaped (.tuple (xs.map PyData.str)) = true) (dp : ∀ H', Same H H' → Dp K H' (.ref r) (.tuple (xs.map PyData.str)))
    (eq : PyData.eqv (.tuple (xs.map PyData.str)) (.tuple []) = xs.isEmpty) (s0 : SeqAt.shaped (.tuple []) = true) : AnsH (tTest (tOp (rEqD K) te (tTup tNil))) σ H xs.isEmpty (fun H' => Same H H') := fun Q q => hv _ ⟨Nat.zero_le _, fun p hp => ⟨.tuple (xs.map PyData.str), .tuple [], dp _ (same_new hp), .tup (SqT.of upd_same) .nil, sh, s0, xs.isEmpty, by rw [eq], q _ (same_new hp)⟩⟩
theorem vh_call2 {sp : Sp} {E : XK} {W1 W : V → Hp → Prop} (h1 : ValH ta σ H W1) (h2 : ∀ x H', W1 x H' → Val tb σ H' y) (hs : ∀ x H' (Q : VK) (E : XK), W1 x H' → (∀ v H', W v H' → Q v H') → sp [x, y] H' Q E) : ValH (tCall sp [] E (tCons ta (tCons tb tNil))) σ H W := fun Q q =>
  h1 _ fun x H' w => h2 x H' w _ (hs x H' Q E w q)
theorem vh_and (h1 : ValH ta σ H (fun v H' => v = .bl true ∧ Same H H')) (h2 : ∀ H', Same H H' → Val tb σ H' (.bl true)) : ValH (tAndV ta tb) σ H (fun v H' => v = .bl true ∧ Same H H') := fun Q q =>
  h1 _ fun v H' ⟨e, sm⟩ => ⟨true, e, iteT (h2 H' sm _ (q _ _ ⟨rfl, sm⟩))⟩
theorem any_map_bl {α : Type} {f : α → Bool} : ∀ xs : List α, (xs.map f).any id = xs.any f
  | [] => rfl
  | x :: xs => by rw [List.map_cons, List.any_cons, List.any_cons, any_map_bl xs]; rfl
theorem all_map_bl {α : Type} {f : α → Bool} : ∀ xs : List α, (xs.map f).all id = xs.all f
  | [] => rfl
  | x :: xs => by rw [List.map_cons, List.all_cons, List.all_cons, all_map_bl xs]; rfl
theorem v_any {p : Addr} {bs : List Bool} (ha : Val ta σ H (.ref p)) (hp : H p = some (.lst (bs.map V.bl))) : Val (tCB (rAny K) (tCons ta tNil)) σ H (.bl (bs.any id)) := fun Q q => ha _ ⟨p, bs, rfl, SqL.of hp, q⟩
end
end K17
namespace K17
open PySem PySem.Spec PyProof.Rows L2
def due (N : Net) : Nat := if small N then (if named N then (if there N then 3 else 2) else 1) else 0
def kindsOf (n : Nat) : List Bool := [true, decide (n = 0), decide (n = 1), decide (n = 2), false, false, false, false, false, false]
section
variable {P : Program} {w : World} {K : PySem.W.Frag} {mg : Str → Option Value} {base : Heap} {cl : Fin 10 → Addr}
/-! ### _law_kinds_of -/
abbrev s_law_kinds_of : Stmt := topS 31
abbrev n_law_kinds_of : List Str := ["_law_scopes", "_law_things", "_law_questions", "_law_kinds", "e"]
abbrev p_law_kinds_of : List Str := ["_law_scopes", "_law_things", "_law_questions"]
theorem sc_law_kinds_of : FnScope ["_law_scopes", "_law_things", "_law_questions", "_law_kinds", "e"] ["_law_scopes", "_law_things", "_law_questions"] (defScope s_law_kinds_of) := ⟨rfl, rfl, rfl, by decide +kernel, rfl, by decide +kernel, by decide +kernel⟩
def sp_law_kinds_of : Sp := fun vs H Q _ => ∃ (x y z : V) (N : Net), vs = [x, y, z] ∧ LAt VScp H x N.sc ∧ LAt VThg H y N.th ∧ LAt VQst H z N.qu ∧ NOk N ∧ due N < 3 ∧
  ∀ p H', Same H H' → H' p = some (.lst ((kindsOf (due N)).map V.bl)) → Q (.ref p) H'
abbrev tI (K : PySem.W.Frag) (cls : Value) (d : Option Addr) (a : Addr) (c : V) : TE := tCB (rIsE2 K cls d a) (tCons (tVar 4) (tCons (tC c) tNil))
abbrev tsK (K : PySem.W.Frag) (cl : Fin 10 → Addr) (a : Addr) (cls : Value) (d : Option Addr) : TS :=
  tSeq (tAsg (tLst (tCons (tI K cls d a (.ty "ValueError")) (tCons (tI K cls d a (.ref (cl 1))) (tCons (tI K cls d a (.ref (cl 2))) (tCons (tI K cls d a (.ref (cl 3))) tNil))))) (gName 3))
  (tSeq (tAsg (tOp rCat (tVar 3) (tLst (tCons (tI K cls d a (.ref (cl 4))) (tCons (tI K cls d a (.ref (cl 5))) (tCons (tI K cls d a (.ref (cl 6))) (tCons (tI K cls d a (.ref (cl 7))) tNil)))))) (gName 3))
  (tAsg (tOp rCat (tVar 3) (tLst (tCons (tI K cls d a (.ref (cl 8))) (tCons (tI K cls d a (.ref (cl 9))) tNil)))) (gName 3)))
abbrev tbK (cl : Fin 10 → Addr) (W : WX) : TS := tDrop (tCallS (sp_net_of cl) (WE W) (tCons (tVar 0) (tCons (tVar 1) (tCons (tVar 2) tNil))))
theorem v_isE {σ : L2.St} {H : Hp} {D a : Addr} {c : V} {cv : Value} {b : Bool} (hs : σ[4]? = some (some (.ref a))) (C : ExcC K D) (hc : ∀ u, RelV c u → u = cv) (e : PySem.W.kitOne K (.ref D) cv = some b) : Val (tI K (.ref D) none a c) σ H (.bl b) :=
  fun Q q => ⟨_, hs, D, rfl, rfl, C, c, cv, b, rfl, hc, e, q⟩
theorem v_isER {σ : L2.St} {H : Hp} {D a B : Addr} {b : Bool} (hs : σ[4]? = some (some (.ref a))) (C : ExcC K D) (e : PySem.W.kitOne K (.ref D) (.ref B) = some b) : Val (tI K (.ref D) none a (.ref B)) σ H (.bl b) := v_isE hs C (fun u r => r) e
theorem v_isET {σ : L2.St} {H : Hp} {D a : Addr} {n : String} {b : Bool} (hs : σ[4]? = some (some (.ref a))) (C : ExcC K D) (e : PySem.W.kitOne K (.ref D) (.type n) = some b) : Val (tI K (.ref D) none a (.ty n)) σ H (.bl b) := v_isE hs C (fun u r => r) e
theorem ExT_of (T : Txt K mg cl) (i : Fin 10) (h1 : 1 ≤ i.val) (h3 : i.val ≤ 3) : ExT K (cl i) := by
  have : i = 1 ∨ i = 2 ∨ i = 3 := by omega
  rcases this with rfl | rfl | rfl
  · exact T.e_TooGreat
  · exact T.e_NoName
  · exact T.e_NoPlace
theorem ok_law_kinds_of (T : Txt K mg cl) (d : Df K mg "_law_kinds_of" s_law_kinds_of) (c_net_of : Cal P w K mg base (L2.CX P w) 3 "net_of" p_net_of (sp_net_of cl)) : Cal P w K mg base CX0 4 "_law_kinds_of" ["_law_scopes", "_law_things", "_law_questions"] sp_law_kinds_of := by
  obtain ⟨f, fd, F, g⟩ := d
  refine ⟨f, fd, g, F.kp, F.binds (fun _ _ _ _ _ _ us hl => match us, hl with | [_, _, _], _ => rfl), F.ok sc_law_kinds_of (fun vs H Q E h => ?_) (fun cdv A outer s H vs Q E hr h => ?_)⟩
  · obtain ⟨x, y, z, N, rfl, _⟩ := h
    rfl
  obtain ⟨x, y, z, N, rfl, hx, hy, hz, ok, hd, q⟩ := h
  refine ⟨_, (pss_cons (ps_set (i := 3) sc_law_kinds_of.nd rfl (Or.inl rfl) pe_non)
    (pss_cons (ps_try_as (i := 4) (tb := tbK cl) (ts := tsK K cl) (Wout := fun _ _ _ _ => False) rfl rfl sc_law_kinds_of.nd rfl rfl ⟨by rfl, by decide, .inl T.g_PathError⟩ takes0
    (fun W pn xe tk _ => (pss_one (ps_expr (pe_calS c_net_of hr (by decide) (by rfl) (fun σ => passAt tk σ) (pa_cons (pv 0) (pa_cons (pv 1) (pa_cons (pv 2) pa_nil)))))))
    (fun a oe cls d pn hz hf => (pss_cons (ps_set (i := 3) sc_law_kinds_of.nd rfl (Or.inl rfl) (pe_lst (pa_cons (pe_callB (call_isE2 hz hf) (by rfl) T.z_isinstance boot_isi (pa_cons (pv 4) (pa_cons (pe_bltn (v := .ty "ValueError") (by rfl) T.z_ValueError (by decide +kernel) rfl) pa_nil))) (pa_cons (pe_callB (call_isE2 hz hf) (by rfl) T.z_isinstance boot_isi (pa_cons (pv 4) (pa_cons (pe_glob (by rfl) T.g_TooGreat rfl) pa_nil))) (pa_cons (pe_callB (call_isE2 hz hf) (by rfl) T.z_isinstance boot_isi (pa_cons (pv 4) (pa_cons (pe_glob (by rfl) T.g_NoName rfl) pa_nil))) (pa_cons (pe_callB (call_isE2 hz hf) (by rfl) T.z_isinstance boot_isi (pa_cons (pv 4) (pa_cons (pe_glob (by rfl) T.g_NoPlace rfl) pa_nil))) pa_nil))))))
      (pss_cons (ps_set (i := 3) sc_law_kinds_of.nd rfl (Or.inl rfl) (pe_op op_cat (pv 3) (pe_lst (pa_cons (pe_callB (call_isE2 hz hf) (by rfl) T.z_isinstance boot_isi (pa_cons (pv 4) (pa_cons (pe_glob (by rfl) T.g_Twice rfl) pa_nil))) (pa_cons (pe_callB (call_isE2 hz hf) (by rfl) T.z_isinstance boot_isi (pa_cons (pv 4) (pa_cons (pe_glob (by rfl) T.g_Tangled rfl) pa_nil))) (pa_cons (pe_callB (call_isE2 hz hf) (by rfl) T.z_isinstance boot_isi (pa_cons (pv 4) (pa_cons (pe_glob (by rfl) T.g_NoText rfl) pa_nil))) (pa_cons (pe_callB (call_isE2 hz hf) (by rfl) T.z_isinstance boot_isi (pa_cons (pv 4) (pa_cons (pe_glob (by rfl) T.g_NoRow rfl) pa_nil))) pa_nil)))))))
      (pss_one (ps_set (i := 3) sc_law_kinds_of.nd rfl (Or.inl rfl) (pe_op op_cat (pv 3) (pe_lst (pa_cons (pe_callB (call_isE2 hz hf) (by rfl) T.z_isinstance boot_isi (pa_cons (pv 4) (pa_cons (pe_glob (by rfl) T.g_Ring rfl) pa_nil))) (pa_cons (pe_callB (call_isE2 hz hf) (by rfl) T.z_isinstance boot_isi (pa_cons (pv 4) (pa_cons (pe_glob (by rfl) T.g_Caught rfl) pa_nil))) pa_nil))))))))))
    (pss_one (ps_ret (pv 3))))), ?_⟩
  refine s_sets val_c ?_
  -- the suite
  have suite : ∀ (i : Fin 10), 1 ≤ i.val → i.val ≤ 3 → due N + 1 = i.val → ∀ a : Addr, tsK K cl a (.ref (cl i)) none { nx := fun σ' H' => (tRet (tVar 3)) { nx := fun _ H' => Q .non H', rt := Q } (σ'.set 4 none) H', rt := Q, bk := fun _ _ => False, ct := fun _ _ => False } [some x, some y, some z, some .non, some (.ref a)] H := by
    intro i h1 h3 hdi a
    have C := (ExT_of T i h1 h3).c
    refine s_seq ?_
    refine v_isET rfl C (T.subV i h1 h3) _ ?_
    refine v_isER rfl C (T.sub i h1 h3 1) _ ?_
    refine v_isER rfl C (T.sub i h1 h3 2) _ ?_
    refine v_isER rfl C (T.sub i h1 h3 3) _ ?_
    refine ⟨by show 4 ≤ sizeLine; decide, fun p1 hp1 => ?_⟩
    refine s_seq ?_
    refine ⟨_, rfl, ?_⟩
    refine v_isER rfl C (T.sub i h1 h3 4) _ ?_
    refine v_isER rfl C (T.sub i h1 h3 5) _ ?_
    refine v_isER rfl C (T.sub i h1 h3 6) _ ?_
    refine v_isER rfl C (T.sub i h1 h3 7) _ ?_
    refine ⟨by show 4 ≤ sizeLine; decide, fun p2 hp2 => ?_⟩
    have e1 := same_new (o := .lst [.bl (decide ((4 : Fin 10).val = 0) || decide (i = 4)), .bl (decide ((5 : Fin 10).val = 0) || decide (i = 5)), .bl (decide ((6 : Fin 10).val = 0) || decide (i = 6)), .bl (decide ((7 : Fin 10).val = 0) || decide (i = 7))]) hp2 p1 _ upd_same
    refine ⟨p1, p2, _, _, rfl, rfl, e1, upd_same, by show 8 ≤ sizeLine; decide, fun p3 hp3 => ?_⟩
    refine ⟨_, rfl, ?_⟩
    refine v_isER rfl C (T.sub i h1 h3 8) _ ?_
    refine v_isER rfl C (T.sub i h1 h3 9) _ ?_
    refine ⟨by show 2 ≤ sizeLine; decide, fun p4 hp4 => ?_⟩
    have e3 := same_new (o := .lst [.bl (decide ((8 : Fin 10).val = 0) || decide (i = 8)), .bl (decide ((9 : Fin 10).val = 0) || decide (i = 9))]) hp4 p3 _ upd_same
    refine ⟨p3, p4, _, _, rfl, rfl, e3, upd_same, by show 10 ≤ sizeLine; decide, fun p5 hp5 => ?_⟩
    refine ⟨_, rfl, q p5 _ (same_new2 (same_new2 (same_new2 (same_new2 (same_new hp1) hp2) hp3) hp4) hp5) (upd_same.trans ?_)⟩
    have : i = 1 ∨ i = 2 ∨ i = 3 := by omega
    rcases this with rfl | rfl | rfl
    · have e : due N = 0 := by have : (1 : Fin 10).val = 1 := rfl; omega
      rw [e]; rfl
    · have e : due N = 1 := by have : (2 : Fin 10).val = 2 := rfl; omega
      rw [e]; rfl
    · have e : due N = 2 := by have : (3 : Fin 10).val = 3 := rfl; omega
      rw [e]; rfl
  refine ⟨x, rfl, y, rfl, z, rfl, x, y, z, N, rfl, hx, hy, hz, ok, fun e1 => ?_, fun e1 e2 => ?_, fun e1 e2 e3 => ?_, fun e1 e2 e3 => ?_⟩
  · exact ⟨true, T.exm 1 (by decide) (by decide), fun _ a _ => suite 1 (by decide) (by decide) (by unfold due; rw [e1]; rfl) a, fun q => nomatch q⟩
  · exact ⟨true, T.exm 2 (by decide) (by decide), fun _ a _ => suite 2 (by decide) (by decide) (by unfold due; rw [e1, e2]; rfl) a, fun q => nomatch q⟩
  · exact ⟨true, T.exm 3 (by decide) (by decide), fun _ a _ => suite 3 (by decide) (by decide) (by unfold due; rw [e1, e2, e3]; rfl) a, fun q => nomatch q⟩
  · exfalso
    unfold due at hd
    rw [e1, e2, e3] at hd
    exact absurd hd (by decide)
end
end K17
namespace K17
open PySem PySem.Spec PyProof.Rows L2
section
variable {P : Program} {w : World} {K : PySem.W.Frag} {mg : Str → Option Value} {base : Heap} {cl : Fin 10 → Addr}
/-! ### _law_refused_as -/
abbrev s_law_refused_as : Stmt := topS 32
abbrev n_law_refused_as : List Str := ["_law_kinds", "_law_due_here", "_law_k"]
abbrev p_law_refused_as : List Str := ["_law_kinds", "_law_due_here"]
theorem sc_law_refused_as : FnScope ["_law_kinds", "_law_due_here", "_law_k"] ["_law_kinds", "_law_due_here"] (defScope s_law_refused_as) := ⟨rfl, rfl, rfl, by decide +kernel, rfl, by decide +kernel, by decide +kernel⟩
def sp_law_refused_as : Sp := fun vs H Q _ => ∃ (p : Addr) (n : Nat), vs = [.ref p, .int n] ∧ H p = some (.lst ((kindsOf n).map V.bl)) ∧ n < 3 ∧ ∀ H', Same H H' → Q (.bl true) H'
def isK (n : Nat) (k : Nat) : Bool := decide ((k : Int) = (n : Int))
theorem tail_kinds (n : Nat) (hn : n < 3) : (List.range 9).map (fun k => V.bl (isK n k)) = cutV ((kindsOf n).map V.bl) (some 1) none := by
  have : n = 0 ∨ n = 1 ∨ n = 2 := by omega
  rcases this with rfl | rfl | rfl <;> decide
theorem ok_law_refused_as (T : Txt K mg cl) (d : Df K mg "_law_refused_as" s_law_refused_as) : Cal P w K mg base CX0 1 "_law_refused_as" ["_law_kinds", "_law_due_here"] sp_law_refused_as := by
  obtain ⟨f, fd, F, g⟩ := d
  refine ⟨f, fd, g, F.kp, F.binds (fun _ _ _ _ _ _ us hl => match us, hl with | [_, _], _ => rfl), F.ok sc_law_refused_as (fun vs H Q E h => ?_) (fun cdv A outer s H vs Q E hr h => ?_)⟩
  · obtain ⟨p, n, rfl, _⟩ := h
    rfl
  obtain ⟨p, n, rfl, hp, hn, q⟩ := h
  refine ⟨_, (pss_cons (ps_if (PW.pt (pw_or (pt_cmpR op_isN1 (pv 0) pe_non (nomark _)) (pw_or1 (pt_cmpR op_notBl (pe_ix ix_list (pv 0) pe_int (fun _ _ => rfl)) pe_bl (nomark _))))) (pss_one (ps_ret pe_bl)) pss_nil)
    (pss_one (ps_ret (pe_cmpR (op_eqD hr.units) (pe_slice sl_list (pv 0) (po_some pe_int) po_none) (pe_lc (own := [("_law_k", 2)]) (tt := tYes) (g := gName 2)  rfl sc_law_refused_as.nd (pi_range1 (by rfl) T.z_range (pa_cons pe_int pa_nil)) (blkOk_by (N := ["_law_kinds", "_law_due_here", "_law_k"]) (sc := defScope s_law_refused_as) (by decide +kernel)) (fun _ _ _ _ _ => pg_name (i := 2) sc_law_refused_as.nd rfl (Or.inl rfl)) (fun _ _ _ _ _ => pts_nil) (fun _ _ _ _ _ => (pe_cmpR op_eq (pv 2) (pv 1) (nomark _)))) (nomark _))))), ?_⟩
  refine s_ifs (b := decide (V.ref p = .non) || !decide (true = true)) (by walk_at "a") (fun e => ?_) (fun e => ?_)
  · exact absurd e (by simp)
  refine ⟨_, rfl, _, rfl, p, _, rfl, SqL.of hp, fun p1 hp1 => ?_⟩
  have s1 : Same H (upd H p1 (.lst (cutV ((kindsOf n).map V.bl) (some 1) none))) := same_new hp1
  refine n_lcR (n := 9) (f := fun k => V.bl (isK n k)) (va_cons val_c va_nil) (by decide) (fun k H' Z hk sm kk => kk _ rfl (v_eqI (by walk_at "v") (by walk_at "v"))) (fun D hD => ?_)
  have s2 := same_new (o := .lst ((List.range 9).map fun k => V.bl (isK n k))) hD
  have e1 : cutV ((kindsOf n).map V.bl) (some 1) none = ((List.range 9).map (isK n)).map V.bl := by
    rw [← tail_kinds n hn, List.map_map]
    rfl
  have e2 : ((List.range 9).map fun k => V.bl (isK n k)) = ((List.range 9).map (isK n)).map V.bl := by
    rw [List.map_map]
    rfl
  have hs : Shp 1 (.list (((List.range 9).map (isK n)).map PyData.bool)) := shp_list (shp_map fun x _ => shp_bl)
  refine ⟨.list (((List.range 9).map (isK n)).map PyData.bool), .list (((List.range 9).map (isK n)).map PyData.bool), .lst (SqL.of (s2 _ _ (by rw [upd_same, e1]))) (dp_bls _), .lst (SqL.of (by rw [upd_same, e2])) (dp_bls _), hs.shaped (by decide), hs.shaped (by decide), ?_⟩
  rw [SeqAt.eqv_refl _ hs.1]
  exact q _ (s1.trans s2)
/-! ### _law_is_net -/
abbrev s_law_is_net : Stmt := topS 33
abbrev n_law_is_net : List Str := ["_law_net", "_law_parts", "_law_some", "_law_scope", "_law_row"]
abbrev p_law_is_net : List Str := ["_law_net", "_law_parts"]
theorem sc_law_is_net : FnScope ["_law_net", "_law_parts", "_law_some", "_law_scope", "_law_row"] ["_law_net", "_law_parts"] (defScope s_law_is_net) := ⟨rfl, rfl, rfl, by decide +kernel, rfl, by decide +kernel, by decide +kernel⟩
def sp_law_is_net : Sp := fun vs H Q _ => ∃ (u v : V) (N : Net), vs = [u, v] ∧ VNet H u N ∧ VNet H v N ∧ NOk N ∧ ∀ H', Same H H' → Q (.bl true) H'
theorem ok_law_is_net (T : Txt K mg cl) (d : Df K mg "_law_is_net" s_law_is_net) : Cal P w K mg base CX0 1 "_law_is_net" ["_law_net", "_law_parts"] sp_law_is_net := by
  obtain ⟨f, fd, F, g⟩ := d
  refine ⟨f, fd, g, F.kp, F.binds (fun _ _ _ _ _ _ us hl => match us, hl with | [_, _], _ => rfl), F.ok sc_law_is_net (fun vs H Q E h => ?_) (fun cdv A outer s H vs Q E hr h => ?_)⟩
  · obtain ⟨u, v, N, rfl, _⟩ := h
    rfl
  obtain ⟨u, v, N, rfl, hu, hv, ok, q⟩ := h
  refine ⟨_, (pss_cons (ps_if (PW.pt (pw_or (pt_not (pt_val (pe_callB call_isi (by rfl) T.z_isinstance boot_isi (pa_cons (pv 0) (pa_cons (pe_bltn (v := .ty "tuple") (by rfl) T.z_tuple (by decide +kernel) rfl) pa_nil))))) (pw_or1 (pt_cmpR op_ne (pe_callB call_lenQ (by rfl) T.z_len PySem.boot_len (pa_cons (pv 0) pa_nil)) pe_int (nomark _))))) (pss_one (ps_ret pe_bl)) pss_nil)
    (pss_cons (ps_for PassesOwn.never rfl (pi_tup (pv 0)) (pg_name (i := 2) sc_law_is_net.nd rfl (Or.inl rfl))
      (pss_one (ps_if (pt_not (pt_val (pe_callB call_isi (by rfl) T.z_isinstance boot_isi (pa_cons (pv 2) (pa_cons (pe_bltn (v := .ty "list") (by rfl) T.z_list (by decide +kernel) rfl) pa_nil))))) (pss_one (ps_ret pe_bl)) pss_nil)))
    (pss_cons (ps_for PassesOwn.never rfl (pi_list (pe_ix ix_tup (pv 0) pe_int (fun _ _ => rfl))) (pg_name (i := 3) sc_law_is_net.nd rfl (Or.inl rfl))
      (pss_cons (ps_if (PW.pt (pw_or (pt_not (pt_val (pe_callB call_isi (by rfl) T.z_isinstance boot_isi (pa_cons (pv 3) (pa_cons (pe_bltn (v := .ty "tuple") (by rfl) T.z_tuple (by decide +kernel) rfl) pa_nil))))) (pw_or1 (pt_cmpR op_ne (pe_callB call_lenQ (by rfl) T.z_len PySem.boot_len (pa_cons (pv 3) pa_nil)) pe_int (nomark _))))) (pss_one (ps_ret pe_bl)) pss_nil)
      (pss_one (ps_if (PW.pt (pw_or (pt_not (pt_val (pe_callB call_isi (by rfl) T.z_isinstance boot_isi (pa_cons (pe_ix ix_tup (pv 3) pe_int (fun _ _ => rfl)) (pa_cons (pe_bltn (v := .ty "list") (by rfl) T.z_list (by decide +kernel) rfl) pa_nil))))) (pw_or1 (pt_not (pt_val (pe_callB call_isi (by rfl) T.z_isinstance boot_isi (pa_cons (pe_ix ix_tup (pv 3) pe_int (fun _ _ => rfl)) (pa_cons (pe_bltn (v := .ty "list") (by rfl) T.z_list (by decide +kernel) rfl) pa_nil)))))))) (pss_one (ps_ret pe_bl)) pss_nil))))
    (pss_cons (ps_for PassesOwn.never rfl (pi_list (pe_op op_cat (pe_ix ix_tup (pv 0) pe_int (fun _ _ => rfl)) (pe_ix ix_tup (pv 0) pe_int (fun _ _ => rfl)))) (pg_name (i := 4) sc_law_is_net.nd rfl (Or.inl rfl))
      (pss_one (ps_if (pt_not (pt_val (pe_callB call_isi (by rfl) T.z_isinstance boot_isi (pa_cons (pv 4) (pa_cons (pe_bltn (v := .ty "tuple") (by rfl) T.z_tuple (by decide +kernel) rfl) pa_nil))))) (pss_one (ps_ret pe_bl)) pss_nil)))
    (pss_one (ps_ret (pe_cmpR (op_eqD hr.units) (pv 0) (pv 1) (nomark _)))))))), ?_⟩
  obtain ⟨a, x, y, z, rfl, ha, hx, hy, hz⟩ := id hu
  obtain ⟨b1, l1, rfl, hb1, pp1⟩ := id hx
  obtain ⟨b2, l2, rfl, hb2, pp2⟩ := id hy
  obtain ⟨b3, l3, rfl, hb3, pp3⟩ := id hz
  have t3 : ([V.ref b1, V.ref b2, V.ref b3].length : Int) = 3 := rfl
  refine s_ifs (b := !true || !decide (([V.ref b1, V.ref b2, V.ref b3].length : Int) = 3)) (by walk_at "a") (fun e => (Bool.false_ne_true e).elim) (fun _ => ?_)
  refine s_eachT (by walk_at "v") ha (fun σ' H' => (∃ v2, σ' = [some (.ref a), some v, v2, none, none]) ∧ H' = H) (fun _ _ i => i.2 ▸ Same.refl _) ⟨⟨_, rfl⟩, rfl⟩ ?_ ?_
  · rintro t σ' H' N' ht ⟨⟨v2, rfl⟩, rfl⟩ hN
    have : ∃ b l, t = .ref b ∧ H' b = some (.lst l) := by
      simp only [List.mem_cons, List.not_mem_nil, or_false] at ht
      rcases ht with rfl | rfl | rfl
      · exact ⟨_, _, rfl, hb1⟩
      · exact ⟨_, _, rfl, hb2⟩
      · exact ⟨_, _, rfl, hb3⟩
    obtain ⟨b, l, rfl, hb⟩ := this
    exact s_if (b := !true) (by walk_at "a") (fun e => (Bool.false_ne_true e).elim) (fun _ => s_next (hN _ _ ⟨⟨_, rfl⟩, rfl⟩))
  rintro σ' H' ⟨⟨v2, rfl⟩, rfl⟩
  refine s_alls (f := fun _ => true) (by walk_at "v") hx (fun σ' H2 => (∃ v3, σ' = [some (.ref a), some v, v2, v3, none]) ∧ H2 = H') (fun _ _ i => i.2 ▸ Same.refl _) ⟨⟨_, rfl⟩, rfl⟩ ?_ ?_
  · rintro t sc σ' H' N' ht r ⟨⟨v3, rfl⟩, rfl⟩ hN
    obtain ⟨c, p1, p2, rfl, hc, ⟨d1, m1, rfl, hd1, _⟩, ⟨d2, m2, rfl, hd2, _⟩⟩ := r
    refine s_ifs (b := !true || !decide (([V.ref d1, V.ref d2].length : Int) = 2)) (by walk_at "a") (fun e => (Bool.false_ne_true e).elim) (fun _ => ?_)
    exact s_if (b := !true || !true) (by walk_at "a") (fun e => (Bool.false_ne_true e).elim) (fun _ => s_next (hN _ _ ⟨⟨_, rfl⟩, rfl⟩ rfl))
  rintro σ' H' ⟨⟨v3, rfl⟩, rfl⟩ _
  have hlen : l2.length + l3.length ≤ 100000 := by
    rw [plen pp2, plen pp3]
    have := ok.n2
    have := ok.n3
    omega
  refine s_forHs (W := fun x H1 => ∃ l, x = .ref l ∧ H' l = none ∧ H1 = upd H' l (.lst (l2 ++ l3))) (fun Z k => n_cat (by walk_at "v") (by walk_at "v") hb2 hb3 hlen fun l hl => k _ _ ⟨l, rfl, hl, rfl⟩) ?_
  rintro _ _ ⟨l, rfl, hl, rfl⟩
  have sl := same_new (o := .lst (l2 ++ l3)) hl
  have hL : LAt (fun H v (_ : Unit) => ∃ a xs, v = V.ref a ∧ H a = some (.tup xs)) (upd H' l (.lst (l2 ++ l3))) (.ref l) ((l2 ++ l3).map fun _ => ()) := by
    refine ⟨l, _, rfl, upd_same, ?_⟩
    have all : ∀ ws : List V, (∀ v ∈ ws, ∃ a xs, v = V.ref a ∧ (upd H' l (.lst (l2 ++ l3))) a = some (.tup xs)) → Paired (fun v (_ : Unit) => ∃ a xs, v = V.ref a ∧ (upd H' l (.lst (l2 ++ l3))) a = some (.tup xs)) ws (ws.map fun _ => ()) := by
      intro ws
      induction ws with
      | nil => intro _; exact .nil
      | cons v ws ih => intro h; exact .cons (h v List.mem_cons_self) (ih fun x hx => h x (List.mem_cons_of_mem _ hx))
    refine all _ fun t ht => ?_
    rcases List.mem_append.mp ht with ht | ht
    · obtain ⟨i, hi⟩ := List.mem_iff_getElem?.mp ht
      obtain ⟨y, _, a, rfl, h⟩ := pget pp2 hi
      exact ⟨a, _, rfl, sl _ _ h⟩
    · obtain ⟨i, hi⟩ := List.mem_iff_getElem?.mp ht
      obtain ⟨y, _, a, b, rfl, h, _⟩ := pget pp3 hi
      exact ⟨a, _, rfl, sl _ _ h⟩
  refine s_alls (f := fun _ => true) val_c hL (fun σ' H2 => (∃ v4, σ' = [some (.ref a), some v, v2, v3, v4]) ∧ H2 = upd H' l (.lst (l2 ++ l3))) (fun _ _ i => i.2 ▸ Same.refl _) ⟨⟨_, rfl⟩, rfl⟩ ?_ ?_
  · rintro t sc σ' H2 N' ht r ⟨⟨v4, rfl⟩, rfl⟩ hN
    obtain ⟨c, xs, rfl, hc⟩ := r
    exact s_if (b := !true) (by walk_at "a") (fun e => (Bool.false_ne_true e).elim) (fun _ => s_next (hN _ _ ⟨⟨_, rfl⟩, rfl⟩ rfl))
  rintro σ' H2 ⟨⟨v4, rfl⟩, rfl⟩ _
  exact s_ret (v_eqNet (by walk_at "v") (by walk_at "v") (hu.mono sl) (hv.mono sl) ok) (q _ sl)
/-! ### _law_copy -/
abbrev s_law_copy : Stmt := topS 34
abbrev n_law_copy : List Str := ["_law_parts", "_law_scopes", "_law_steps", "_law_tellings"]
abbrev p_law_copy : List Str := ["_law_parts"]
theorem sc_law_copy : FnScope ["_law_parts", "_law_scopes", "_law_steps", "_law_tellings"] ["_law_parts"] (defScope s_law_copy) := ⟨rfl, rfl, rfl, by decide +kernel, rfl, by decide +kernel, by decide +kernel⟩
def sp_law_copy : Sp := fun vs H Q _ => ∃ (v : V) (N : Net), vs = [v] ∧ VNet H v N ∧ NOk N ∧ ∀ v' H', Same H H' → VNet H' v' N → Q v' H'
theorem ok_law_copy (T : Txt K mg cl) (d : Df K mg "_law_copy" s_law_copy) : Cal P w K mg base CX0 1 "_law_copy" ["_law_parts"] sp_law_copy := by
  obtain ⟨f, fd, F, g⟩ := d
  refine ⟨f, fd, g, F.kp, F.binds (fun _ _ _ _ _ _ us hl => match us, hl with | [_], _ => rfl), F.ok sc_law_copy (fun vs H Q E h => ?_) (fun cdv A outer s H vs Q E hr h => ?_)⟩
  · obtain ⟨v, N, rfl, _⟩ := h
    rfl
  obtain ⟨v, N, rfl, hv, ok, q⟩ := h
  refine ⟨_, (pss_cons (ps_setLc (i := 1) (own := [("_law_steps", 2), ("_law_tellings", 3)]) (tt := tYes) (g := gTup K 2 (gCons (gName 2) (gCons (gName 3) gNil))) rfl sc_law_copy.nd rfl rfl (sw_true rfl rfl rfl (by decide +kernel)) (pi_list (pe_ix ix_tup (pv 0) pe_int (fun _ _ => rfl))) (blkOk_by (N := ["_law_parts", "_law_scopes", "_law_steps", "_law_tellings"]) (sc := defScope s_law_copy) (by decide +kernel)) (fun _ _ _ _ _ => (pg_tup rfl (pgs_cons (pg_name (i := 2) sc_law_copy.nd rfl (Or.inl rfl)) (pgs_cons (pg_name (i := 3) sc_law_copy.nd rfl (Or.inl rfl)) pgs_nil)))) (fun _ _ _ _ _ => pts_nil) (fun _ _ _ _ _ => (pe_tup (pa_cons (pe_callTy (T := "list") (r := rListOf K) call_listOf (by rfl) T.z_list boot_listT (pa_cons (pv 2) pa_nil)) (pa_cons (pe_callTy (T := "list") (r := rListOf K) call_listOf (by rfl) T.z_list boot_listT (pa_cons (pv 3) pa_nil)) pa_nil)))))
    (pss_one (ps_ret (pe_tup (pa_cons (pv 1) (pa_cons (pe_callTy (T := "list") call_listOf (by rfl) T.z_list boot_listT (pa_cons (pe_ix ix_tup (pv 0) pe_int (fun _ _ => rfl)) pa_nil)) (pa_cons (pe_callTy (T := "list") call_listOf (by rfl) T.z_list boot_listT (pa_cons (pe_ix ix_tup (pv 0) pe_int (fun _ _ => rfl)) pa_nil)) pa_nil))))))), ?_⟩
  obtain ⟨pa, x, y, z, rfl, hpa, hx, hy, hz⟩ := id hv
  obtain ⟨b, ws, rfl, hb, hpb⟩ := id hy
  obtain ⟨c, us, rfl, hc, hpc⟩ := id hz
  refine s_seq (n_lcL (by walk_at "v") hx (fun D i H2 => Same H H2 ∧ ∃ acc, H2 D = some (.lst acc) ∧ Paired (VScp (hide D H2)) acc (N.sc.take i)) (fun D hD => ⟨same_new hD, [], upd_same, .nil⟩) (fun D i H2 hD h => h.1) ?_ ?_)
  · rintro D i v sc H2 hD hsc r ⟨sm, acc, hacc, pacc⟩
    obtain ⟨a', p1, p2, rfl, ha', hp1, hp2⟩ := r
    have hle : acc.length ≤ 100 := by
      rw [plen pacc, List.length_take]
      have := ok.n1
      omega
    obtain ⟨b1, l1, rfl, hb1, pp1⟩ := id hp1
    obtain ⟨b2, l2, rfl, hb2, pp2⟩ := id hp2
    refine g2 (sm _ _ ha') (lc_turn rfl ?_)
    refine n_list (by walk_at "v") (sm _ _ hb1) fun m1 hm1 => ?_
    have s1 : Same H2 (upd H2 m1 (.lst l1)) := same_new hm1
    refine n_list (by walk_at "v") (s1 _ _ (sm _ _ hb2)) fun m2 hm2 => ?_
    have s2 := same_new2 (o := .lst l2) s1 hm2
    have m1m2 : m1 ≠ m2 := ne_of_none upd_same hm2
    refine ⟨by show 2 ≤ sizeLine; decide, fun p hp' => ?_⟩
    have s3 := same_new2 (o := .tup [.ref m1, .ref m2]) s2 hp'
    refine ⟨acc, s3 _ _ hacc, small_lt (by omega), same_mut (sm.trans s3) hD, acc ++ [.ref p], upd_same, ?_⟩
    rw [hide_upd, List.take_add_one, hsc]
    have neD : ∀ {q : Addr} {H' : Hp}, Same H2 H' → H' q = none → q ≠ D := fun s h e => by
      rw [e, s _ _ hacc] at h
      cases h
    have q1 : p ≠ m1 := fun e => by
      rw [e, upd_ne m1m2, upd_same] at hp'
      cases hp'
    have q2 : p ≠ m2 := fun e => by
      rw [e, upd_same] at hp'
      cases hp'
    refine Paired.snoc (pmap (fun _ _ => VScp.mono (hide_mono s3)) pacc) ⟨p, .ref m1, .ref m2, rfl, hide_get (neD s2 hp') upd_same, ⟨m1, l1, rfl, hide_get (neD (Same.refl _) hm1) ?_, pmap (fun _ _ => VStep.mono (hide_of (sm.trans s3) hD)) pp1⟩, ⟨m2, l2, rfl, hide_get (neD s1 hm2) ?_, pmap (fun _ _ => VTell.mono (hide_of (sm.trans s3) hD)) pp2⟩⟩
    · rw [upd_ne q1.symm, upd_ne m1m2, upd_same]
    · rw [upd_ne q2.symm, upd_same]
  · rintro D H2 hD ⟨sm, acc, hacc, pacc⟩
    rw [List.take_length] at pacc
    have hpa2 := sm _ _ hpa
    refine ⟨_, rfl, ?_⟩
    refine n_list (by walk_at "v") (sm _ _ hb) fun m1 hm1 => ?_
    have s1 : Same H2 (upd H2 m1 (.lst ws)) := same_new hm1
    have hpa3 := s1 _ _ hpa2
    refine n_list (by walk_at "v") (s1 _ _ (sm _ _ hc)) fun m2 hm2 => ?_
    have s2 := same_new2 (o := .lst us) s1 hm2
    refine ⟨by show 3 ≤ sizeLine; decide, fun p hp' => ?_⟩
    have s3 := same_new2 (o := .tup [.ref D, .ref m1, .ref m2]) s2 hp'
    have s23 : Same (upd H2 m1 (.lst ws)) (upd (upd (upd H2 m1 (.lst ws)) m2 (.lst us)) p (.tup [.ref D, .ref m1, .ref m2])) := same_new2 (same_new hm2) hp'
    have s33 : Same (upd (upd H2 m1 (.lst ws)) m2 (.lst us)) (upd (upd (upd H2 m1 (.lst ws)) m2 (.lst us)) p (.tup [.ref D, .ref m1, .ref m2])) := same_new hp'
    refine q _ _ (sm.trans s3) ⟨p, .ref D, .ref m1, .ref m2, rfl, upd_same, ⟨D, acc, rfl, s3 _ _ hacc, pmap (fun _ _ => VScp.mono (hide_same.trans s3)) pacc⟩, ⟨m1, ws, rfl, s23 _ _ upd_same, pmap (fun _ _ => VThg.mono (sm.trans s3)) hpb⟩, ⟨m2, us, rfl, s33 _ _ upd_same, pmap (fun _ _ => VQst.mono (sm.trans s3)) hpc⟩⟩
end
end K17
namespace K17
open PySem PySem.Spec PyProof.Rows L2
section
variable {P : Program} {w : World} {K : PySem.W.Frag} {mg : Str → Option Value} {base : Heap} {cl : Fin 10 → Addr}
/-! ### _law_great -/
abbrev s_law_great : Stmt := topS 43
abbrev n_law_great : List Str := ["_law_parts", "_law_steps", "_law_tellings", "_law_scope", "_law_state", "_law_path"]
abbrev p_law_great : List Str := ["_law_parts"]
theorem sc_law_great : FnScope ["_law_parts", "_law_steps", "_law_tellings", "_law_scope", "_law_state", "_law_path"] ["_law_parts"] (defScope s_law_great) := ⟨rfl, rfl, rfl, by decide +kernel, rfl, by decide +kernel, by decide +kernel⟩
def sp_law_great : Sp := fun vs H Q _ => ∃ (v : V) (N : Net), vs = [v] ∧ VNet H v N ∧ NOk N ∧ ∀ H', Same H H' → Q (.bl (!small N)) H'
theorem ok_law_great (T : Txt K mg cl) (d : Df K mg "_law_great" s_law_great) : Cal P w K mg base CX0 1 "_law_great" ["_law_parts"] sp_law_great := by
  obtain ⟨f, fd, F, g⟩ := d
  refine ⟨f, fd, g, F.kp, F.binds (fun _ _ _ _ _ _ us hl => match us, hl with | [_], _ => rfl), F.ok sc_law_great (fun vs H Q E h => ?_) (fun cdv A outer s H vs Q E hr h => ?_)⟩
  · obtain ⟨v, N, rfl, _⟩ := h
    rfl
  obtain ⟨v, N, rfl, hv, ok, q⟩ := h
  refine ⟨_, (pss_cons (ps_if (PW.pt (pw_or (pt_cmpR op_gt (pe_callB call_lenQ (by rfl) T.z_len PySem.boot_len (pa_cons (pe_ix ix_tup (pv 0) pe_int (fun _ _ => rfl)) pa_nil)) pe_int (nomark _)) (pw_or (pt_cmpR op_gt (pe_callB call_lenQ (by rfl) T.z_len PySem.boot_len (pa_cons (pe_ix ix_tup (pv 0) pe_int (fun _ _ => rfl)) pa_nil)) pe_int (nomark _)) (pw_or1 (pt_cmpR op_gt (pe_callB call_lenQ (by rfl) T.z_len PySem.boot_len (pa_cons (pe_ix ix_tup (pv 0) pe_int (fun _ _ => rfl)) pa_nil)) pe_int (nomark _)))))) (pss_one (ps_ret pe_bl)) pss_nil)
    (pss_cons (ps_for PassesOwn.never rfl (pi_list (pe_ix ix_tup (pv 0) pe_int (fun _ _ => rfl))) (pg_tup rfl (pgs_cons (pg_name (i := 1) sc_law_great.nd rfl (Or.inl rfl)) (pgs_cons (pg_name (i := 2) sc_law_great.nd rfl (Or.inl rfl)) pgs_nil)))
      (pss_one (ps_if (PW.pt (pw_or (pt_cmpR op_gt (pe_callB call_lenQ (by rfl) T.z_len PySem.boot_len (pa_cons (pv 1) pa_nil)) pe_int (nomark _)) (pw_or1 (pt_cmpR op_gt (pe_callB call_lenQ (by rfl) T.z_len PySem.boot_len (pa_cons (pv 2) pa_nil)) pe_int (nomark _))))) (pss_one (ps_ret pe_bl)) pss_nil)))
    (pss_one (ps_ret (pe_callB (cr_any rfl) (by rfl) T.z_any boot_anyB (pa_cons (pe_lc (own := [("_law_scope", 3), ("_law_state", 4), ("_law_path", 5)]) (tt := tYes) (g := gTup K 3 (gCons (gName 3) (gCons (gName 4) (gCons (gName 5) gNil))))  rfl sc_law_great.nd (pi_list (pe_ix ix_tup (pv 0) pe_int (fun _ _ => rfl))) (blkOk_by (N := ["_law_parts", "_law_steps", "_law_tellings", "_law_scope", "_law_state", "_law_path"]) (sc := defScope s_law_great) (by decide +kernel)) (fun _ _ _ _ _ => (pg_tup rfl (pgs_cons (pg_name (i := 3) sc_law_great.nd rfl (Or.inl rfl)) (pgs_cons (pg_name (i := 4) sc_law_great.nd rfl (Or.inl rfl)) (pgs_cons (pg_name (i := 5) sc_law_great.nd rfl (Or.inl rfl)) pgs_nil))))) (fun _ _ _ _ _ => pts_nil) (fun _ _ _ _ _ => (pe_cmpR op_gt (pe_callB (r := rLenQ K) call_lenQ (by rfl) T.z_len PySem.boot_len (pa_cons (pv 5) pa_nil)) pe_int (nomark _)))) pa_nil)))))), ?_⟩
  obtain ⟨a, x, y, z, rfl, ha, hx, hy, hz⟩ := id hv
  refine s_ifs (b := decide ((40 : Int) < (N.sc.length : Int)) || (decide ((80 : Int) < (N.th.length : Int)) || decide ((60 : Int) < (N.qu.length : Int)))) (by walk_at "a") (fun e => s_ret val_c ?_) (fun e => ?_)
  · rw [smallHd_of, Bool.not_eq_true'] at e
    have e1 : small N = false := and_false_of (and_false_of e)
    have q := q H (Same.refl _)
    rw [e1] at q
    exact q
  rw [smallHd_of, Bool.not_eq_false'] at e
  refine s_alls (f := smallSc) (by walk_at "v") hx (fun σ' H' => (∃ v3 v4, σ' = [some (.ref a), v3, v4, none, none, none]) ∧ H' = H) (fun _ _ i => i.2 ▸ Same.refl _) ⟨⟨_, _, rfl⟩, rfl⟩ ?_ ?_
  · rintro v sc σ' H' N' hm r ⟨⟨v3, v4, rfl⟩, rfl⟩ hN
    obtain ⟨a', p1, p2, rfl, ha', hp1, hp2⟩ := r
    refine g2 ha' (s_if (b := decide ((8 : Int) < (sc.1.length : Int)) || decide ((12 : Int) < (sc.2.length : Int))) (by walk_at "a") (fun e => s_ret val_c ?_) (fun e => s_next (hN _ _ ⟨⟨_, _, rfl⟩, rfl⟩ ?_)))
    · rw [smallSc_of, Bool.not_eq_true'] at e
      have e1 : small N = false := and_false_of (and_false_of2 (all_false_of hm e))
      have q := q H' (Same.refl _)
      rw [e1] at q
      exact q
    · rw [smallSc_of, Bool.not_eq_false'] at e
      exact e
  rintro σ' H' ⟨⟨v3, v4, rfl⟩, rfl⟩ hsc
  refine p_ret (p_cb (n_lcM (f := fun qu : Qst => V.bl (!smallQu qu)) (by walk_at "v") hz (by have := ok.n3; omega) (fun v qu H2 Z hm r sm k => ?_) (fun D hD => ⟨D, N.qu.map fun qu => !smallQu qu, rfl, SqL.of (upd_same.trans (by rw [List.map_map]; rfl)), ?_⟩)))
  · obtain ⟨a', b, rfl, ha', hb⟩ := r
    have hb' := sm _ _ hb
    refine g3 (sm _ _ ha') (k _ rfl ?_)
    rw [← smallQu_of]
    walk_at "v"
  · have e1 : (N.qu.map fun qu => !smallQu qu).any id = !small N := by
      rw [any_map_bl]
      unfold small
      rw [e, hsc, Bool.true_and, Bool.true_and, List.all_eq_not_any_not, Bool.not_not]
    rw [e1]
    exact q _ (same_new hD)
/-! ### _law_is_word -/
abbrev s_law_is_word : Stmt := topS 44
abbrev n_law_is_word : List Str := ["_law_word_here", "_law_sign"]
abbrev p_law_is_word : List Str := ["_law_word_here"]
theorem sc_law_is_word : FnScope ["_law_word_here", "_law_sign"] ["_law_word_here"] (defScope s_law_is_word) := ⟨rfl, rfl, rfl, by decide +kernel, rfl, by decide +kernel, by decide +kernel⟩
def sp_law_is_word : Sp := fun vs H Q _ => ∃ x : Str, vs = [.str x] ∧ x.length ≤ 100 ∧ ∀ H', Same H H' → Q (.bl (nameOk x)) H'
theorem ok_law_is_word (T : Txt K mg cl) (d : Df K mg "_law_is_word" s_law_is_word) : Cal P w K mg base CX0 1 "_law_is_word" ["_law_word_here"] sp_law_is_word := by
  obtain ⟨f, fd, F, g⟩ := d
  refine ⟨f, fd, g, F.kp, F.binds (fun _ _ _ _ _ _ us hl => match us, hl with | [_], _ => rfl), F.ok sc_law_is_word (fun vs H Q E h => ?_) (fun cdv A outer s H vs Q E hr h => ?_)⟩
  · obtain ⟨x, rfl, _⟩ := h
    rfl
  obtain ⟨x, rfl, hx, q⟩ := h
  refine ⟨_, (pss_cons (ps_if (PW.pt (pw_or (pt_cmpR op_lt (pe_callB call_lenS (by rfl) T.z_len PySem.boot_len (pa_cons (pv 0) pa_nil)) pe_int (nomark _)) (pw_or1 (pt_cmpR op_gt (pe_callB call_lenS (by rfl) T.z_len PySem.boot_len (pa_cons (pv 0) pa_nil)) pe_int (nomark _))))) (pss_one (ps_ret pe_bl)) pss_nil)
    (pss_one (ps_ret (pe_callB (cr_all rfl) (by rfl) T.z_all boot_allB (pa_cons (pe_lc (own := [("_law_sign", 1)]) (tt := tYes) (g := gName 1)  rfl sc_law_is_word.nd (pi_str (pv 0)) (blkOk_by (N := ["_law_word_here", "_law_sign"]) (sc := defScope s_law_is_word) (by decide +kernel)) (fun _ _ _ _ _ => pg_name (i := 1) sc_law_is_word.nd rfl (Or.inl rfl)) (fun _ _ _ _ _ => pts_nil) (fun _ _ _ _ _ => (pe_cmpR op_inS (pv 1) pe_str (by rfl)))) pa_nil))))), ?_⟩
  refine s_ifs (b := decide ((x.length : Int) < 1) || decide (8 < (x.length : Int))) (by walk_at "a") (fun e => s_ret val_c ?_) (fun e => ?_)
  · have : nameOk x = false := by
      unfold nameOk
      simp only [Bool.or_eq_true, decide_eq_true_eq] at e
      rcases e with e | e
      · have : decide (1 ≤ x.length) = false := decide_eq_false (by omega)
        rw [this]; rfl
      · have : decide (x.length ≤ 8) = false := decide_eq_false (by omega)
        rw [this]; simp
    have q := q H (Same.refl _)
    rw [this] at q
    exact q
  simp only [Bool.or_eq_false_iff, decide_eq_false_iff_not] at e
  have e1 : nameOk x = x.cps.toList.all fun c => decide (c ∈ letters.cps.toList) := by
    unfold nameOk
    rw [decide_eq_true (show 1 ≤ x.length by omega), decide_eq_true (show x.length ≤ 8 by omega)]
    rfl
  refine p_ret (p_cb (n_lcS (f := fun c => V.bl (decide (c ∈ letters.cps.toList))) (by walk_at "v") (by omega) (fun c H2 Z hm sm k => k _ rfl (by walk_at "v")) (fun D hD => ⟨D, x.cps.toList.map fun c => decide (c ∈ letters.cps.toList), rfl, SqL.of (upd_same.trans (by rw [List.map_map]; rfl)), ?_⟩)))
  rw [all_map_bl, ← e1]
  exact q _ (same_new hD)
/-! ### _law_words_of -/
abbrev s_law_words_of : Stmt := topS 45
abbrev n_law_words_of : List Str := ["_law_parts", "_law_words_here", "_law_steps", "_law_tellings", "_law_scope", "_law_state", "_law_path", "_law_step_here", "_law_telling_here"]
abbrev p_law_words_of : List Str := ["_law_parts"]
theorem sc_law_words_of : FnScope ["_law_parts", "_law_words_here", "_law_steps", "_law_tellings", "_law_scope", "_law_state", "_law_path", "_law_step_here", "_law_telling_here"] ["_law_parts"] (defScope s_law_words_of) := ⟨rfl, rfl, rfl, by decide +kernel, rfl, by decide +kernel, by decide +kernel⟩
def sp_law_words_of : Sp := fun vs H Q _ => ∃ (v : V) (N : Net), vs = [v] ∧ VNet H v N ∧ NOk N ∧ ∀ p H' (ws : List Str), Same H H' → H' p = some (.lst (ws.map V.str)) → (∀ x ∈ ws, TOk x) → ws.all nameOk = named N → Q (.ref p) H'
theorem nil_not_name : nameOk "" = false := by decide +kernel
theorem nil_TOk : TOk "" := ⟨by decide +kernel, fun c hc => absurd hc (by
  have : ("" : Str).cps.toList = [] := by decide +kernel
  rw [this]
  exact List.not_mem_nil)⟩
theorem all_map' {α β : Type} {f : β → Bool} {h : α → β} : ∀ xs : List α, (xs.map h).all f = xs.all fun x => f (h x)
  | [] => rfl
  | x :: xs => by rw [List.map_cons, List.all_cons, List.all_cons, all_map' xs]
theorem all_and' {α : Type} {f h : α → Bool} : ∀ xs : List α, (xs.all f && xs.all h) = xs.all fun x => f x && h x
  | [] => rfl
  | x :: xs => by
    rw [List.all_cons, List.all_cons, List.all_cons, ← all_and' xs]
    cases f x <;> cases h x <;> simp
theorem ok_law_words_of (T : Txt K mg cl) (d : Df K mg "_law_words_of" s_law_words_of) : Cal P w K mg base CX0 1 "_law_words_of" ["_law_parts"] sp_law_words_of := by
  obtain ⟨f, fd, F, g⟩ := d
  refine ⟨f, fd, g, F.kp, F.binds (fun _ _ _ _ _ _ us hl => match us, hl with | [_], _ => rfl), F.ok sc_law_words_of (fun vs H Q E h => ?_) (fun cdv A outer s H vs Q E hr h => ?_)⟩
  · obtain ⟨v, N, rfl, _⟩ := h
    rfl
  obtain ⟨v, N, rfl, hv, ok, q⟩ := h
  refine ⟨_, (pss_cons (ps_set (i := 1) sc_law_words_of.nd rfl (Or.inl rfl) (pe_lst pa_nil))
    (pss_cons (ps_for PassesOwn.never rfl (pi_list (pe_ix ix_tup (pv 0) pe_int (fun _ _ => rfl))) (pg_tup rfl (pgs_cons (pg_name (i := 2) sc_law_words_of.nd rfl (Or.inl rfl)) (pgs_cons (pg_name (i := 3) sc_law_words_of.nd rfl (Or.inl rfl)) pgs_nil)))
      (pss_cons (ps_set (i := 1) sc_law_words_of.nd rfl (Or.inl rfl) (pe_op op_cat (pv 1) (pe_lc (own := [("_law_step_here", 7)]) (tt := tYes) (g := gName 7)  rfl sc_law_words_of.nd (pi_list (pv 2)) (blkOk_by (N := ["_law_parts", "_law_words_here", "_law_steps", "_law_tellings", "_law_scope", "_law_state", "_law_path", "_law_step_here", "_law_telling_here"]) (sc := defScope s_law_words_of) (by decide +kernel)) (fun _ _ _ _ _ => pg_name (i := 7) sc_law_words_of.nd rfl (Or.inl rfl)) (fun _ _ _ _ _ => pts_nil) (fun _ _ _ _ _ => (pe_ix (r := rIxT K) ix_tup (pv 7) pe_int (fun _ _ => rfl))))))
      (pss_cons (ps_set (i := 1) sc_law_words_of.nd rfl (Or.inl rfl) (pe_op op_cat (pv 1) (pe_lc (own := [("_law_telling_here", 8)]) (tt := tYes) (g := gName 8)  rfl sc_law_words_of.nd (pi_list (pv 3)) (blkOk_by (N := ["_law_parts", "_law_words_here", "_law_steps", "_law_tellings", "_law_scope", "_law_state", "_law_path", "_law_step_here", "_law_telling_here"]) (sc := defScope s_law_words_of) (by decide +kernel)) (fun _ _ _ _ _ => pg_name (i := 8) sc_law_words_of.nd rfl (Or.inl rfl)) (fun _ _ _ _ _ => pts_nil) (fun _ _ _ _ _ => (pe_ix (r := rIxT K) ix_tup (pv 8) pe_int (fun _ _ => rfl))))))
      (pss_one (ps_set (i := 1) sc_law_words_of.nd rfl (Or.inl rfl) (pe_op op_cat (pv 1) (pe_lc (own := [("_law_telling_here", 8)]) (tt := tYes) (g := gName 8)  rfl sc_law_words_of.nd (pi_list (pv 3)) (blkOk_by (N := ["_law_parts", "_law_words_here", "_law_steps", "_law_tellings", "_law_scope", "_law_state", "_law_path", "_law_step_here", "_law_telling_here"]) (sc := defScope s_law_words_of) (by decide +kernel)) (fun _ _ _ _ _ => pg_name (i := 8) sc_law_words_of.nd rfl (Or.inl rfl)) (fun _ _ _ _ _ => pts_nil) (fun _ _ _ _ _ => (pe_ix (r := rIxT K) ix_tup (pv 8) pe_int (fun _ _ => rfl))))))))))
    (pss_cons (ps_for PassesOwn.never rfl (pi_list (pe_ix ix_tup (pv 0) pe_int (fun _ _ => rfl))) (pg_tup rfl (pgs_cons (pg_name (i := 4) sc_law_words_of.nd rfl (Or.inl rfl)) (pgs_cons (pg_name (i := 5) sc_law_words_of.nd rfl (Or.inl rfl)) (pgs_cons (pg_name (i := 6) sc_law_words_of.nd rfl (Or.inl rfl)) pgs_nil))))
      (pss_cons (ps_set (i := 1) sc_law_words_of.nd rfl (Or.inl rfl) (pe_op op_cat (pv 1) (pe_callTy (T := "list") call_listOf (by rfl) T.z_list boot_listT (pa_cons (pv 6) pa_nil))))
      (pss_one (ps_if (pt_cmpR (op_eqD hr.units) (pv 6) (pe_tup pa_nil) (nomark _)) (pss_one (ps_expr (pe_bm PySem.F.plainAttrs_list PySem.F.slot_list_append PySem.F.type_list_append mt_append (pv 1) (pa_cons pe_str pa_nil)))) pss_nil))))
    (pss_one (ps_ret (pv 1)))))), ?_⟩
  obtain ⟨a, x, y, z, rfl, ha, hx, hy, hz⟩ := id hv
  refine s_setsH vh_nil ?_
  rintro _ _ ⟨p0, rfl, hp0, rfl⟩
  have s0 := same_new (o := .lst []) hp0
  have ha0 := s0 _ _ ha
  refine s_forP (by walk_at "v") (hx.mono (fun _ _ => VScp.mono s0) s0) (fun i σ' H' => (∃ v2 v3 p ws, σ' = [some (.ref a), some (.ref p), v2, v3, none, none, none, none, none] ∧ H p = none ∧ H' p = some (.lst (ws.map V.str)) ∧ (∀ x ∈ ws, TOk x) ∧ ws.length ≤ 300 * i ∧ ws.all nameOk = (N.sc.take i).all namedSc) ∧ Same (upd H p0 (.lst [])) H')
    (fun i σ' H' h => h.2) ⟨⟨_, _, p0, [], rfl, hp0, upd_same, fun x hx => absurd hx List.not_mem_nil, Nat.zero_le _, rfl⟩, Same.refl _⟩ ?_ ?_
  · rintro i v sc σ' H' hi r ⟨⟨v2, v3, p, ws, rfl, hp, hpl, hws, hwl, hwa⟩, sm⟩
    obtain ⟨a', p1, p2, rfl, ha', hp1, hp2⟩ := r
    have so := ok.sc _ (List.mem_of_getElem? hi)
    have hil : i < 100 := by
      have := (List.getElem?_eq_some_iff.mp hi).1
      have := ok.n1
      omega
    have n1 := so.n1
    have n2 := so.n2
    have hp1' := hp1.mono (fun _ _ => VStep.mono sm) sm
    refine g2 (sm _ _ ha') (s_catLcs (f := fun st : Step => st.1) hpl rfl (by walk_at "v") hp1' (by omega) (by omega) (fun v st H2 Z hm r sm2 k => ?_) (fun l1 H1 hl1 sm1 hw1 => ?_))
    · obtain ⟨b, rfl, hb⟩ := r
      have hb' := sm2 _ _ hb
      exact k _ rfl (by walk_at "v")
    have hp2' := hp2.mono (fun _ _ => VTell.mono (sm.trans sm1)) (sm.trans sm1)
    refine s_catLcs (f := fun t : Tell => t.1) hw1 rfl (by walk_at "v") hp2' (by rw [List.length_append, List.length_map]; omega) (by omega) (fun v st H2 Z hm r sm2 k => ?_) (fun l2 H2 hl2 sm2 hw2 => ?_)
    · obtain ⟨b, rfl, hb⟩ := r
      have hb' := sm2 _ _ hb
      exact k _ rfl (by walk_at "v")
    have hp3' := hp2'.mono (fun _ _ => VTell.mono sm2) sm2
    refine s_catLc (f := fun t : Tell => t.2.1) hw2 rfl (by walk_at "v") hp3' (by rw [List.length_append, List.length_append, List.length_map, List.length_map]; omega) (by omega) (fun v st H2 Z hm r sm2 k => ?_) (fun l3 H3 hl3 sm3 hw3 => ?_)
    · obtain ⟨b, rfl, hb⟩ := r
      have hb' := sm2 _ _ hb
      exact k _ rfl (by walk_at "v")
    have all := ((sm.trans sm1).trans sm2).trans sm3
    refine ⟨⟨_, _, l3, _, rfl, s0.free (((sm.trans sm1).trans sm2).free hl3), hw3, ?_, ?_, ?_⟩, all⟩
    · intro x hx
      rcases List.mem_append.mp hx with hx | hx
      · rcases List.mem_append.mp hx with hx | hx
        · rcases List.mem_append.mp hx with hx | hx
          · exact hws x hx
          · obtain ⟨st, hst, rfl⟩ := List.mem_map.mp hx
            exact (so.st _ hst).l
        · obtain ⟨t, ht, rfl⟩ := List.mem_map.mp hx
          exact (so.te _ ht).l
      · obtain ⟨t, ht, rfl⟩ := List.mem_map.mp hx
        exact (so.te _ ht).n
    · rw [List.length_append, List.length_append, List.length_append, List.length_map, List.length_map, List.length_map]
      omega
    · rw [List.take_add_one, hi, List.all_append, List.all_append, List.all_append, List.all_append, hwa, all_map', all_map', all_map']
      show _ = ((N.sc.take i).all namedSc && ([sc].all namedSc))
      have e1 : [sc].all namedSc = (sc.1.all namedSt && sc.2.all namedTe) := by
        rw [List.all_cons, List.all_nil, Bool.and_true]
        rfl
      have e2 : sc.2.all namedTe = (sc.2.all (fun t : Tell => nameOk t.1) && sc.2.all fun t : Tell => nameOk t.2.1) := (all_and' sc.2).symm
      rw [e1, e2]
      show (((N.sc.take i).all namedSc && sc.1.all namedSt) && _ && _) = _
      simp only [Bool.and_assoc]
  rintro σ' H1 ⟨⟨v2, v3, p, ws, rfl, hp, hpl, hws, hwl, hwa⟩, sm1⟩
  rw [List.take_length] at hwa
  have s01 := s0.trans sm1
  have ha1 := s01 _ _ ha
  have n1 := ok.n1
  refine s_forP (by walk_at "v") (hz.mono (fun _ _ => VQst.mono s01) s01) (fun i σ' H' => (∃ v4 v5 v6 p ws, σ' = [some (.ref a), some (.ref p), v2, v3, v4, v5, v6, none, none] ∧ H p = none ∧ H' p = some (.lst (ws.map V.str)) ∧ (∀ x ∈ ws, TOk x) ∧ ws.length ≤ 30000 + 101 * i ∧ ws.all nameOk = (N.sc.all namedSc && (N.qu.take i).all namedQu)) ∧ Same H1 H')
    (fun i σ' H' h => h.2) ⟨⟨_, _, _, p, ws, rfl, hp, hpl, hws, by omega, by rw [hwa]; simp⟩, Same.refl _⟩ ?_ ?_
  · rintro i v qu σ' H' hi r ⟨⟨v4, v5, v6, p, ws, rfl, hp, hpl, hws, hwl, hwa⟩, sm⟩
    obtain ⟨a', b, rfl, ha', hb⟩ := r
    have qo := ok.qu _ (List.mem_of_getElem? hi)
    have hil : i < 100 := by
      have := (List.getElem?_eq_some_iff.mp hi).1
      have := ok.n3
      omega
    have n := qo.n
    refine g3 (sm _ _ ha') (s_catTs hpl rfl (by walk_at "v") (sm _ _ hb) (by omega) (fun l H2 hl sm2 hw2 => ?_))
    have hb2 := sm2 _ _ (sm _ _ hb)
    have shp : Shp 1 (.tuple (qu.2.2.map PyData.str)) := shp_tup (shp_map fun x hx => shp_str (qo.p x hx))
    refine s_ifH (ah_nilT qo.p (by walk_at "v") hb2 (shp.shaped (by decide)) (fun H3 s3 => .tup (SqT.of (s3 _ _ hb2)) (dp_strs _)) (by rw [eqv_nil_tup, List.isEmpty_map]) (by decide)) (fun e H3 sm3 => ?_) (fun e H3 sm3 => s_next ?_)
    · have e0 : qu.2.2 = [] := List.isEmpty_iff.mp e
      have hw3 := sm3 _ _ hw2
      have hlH : H l = none := (s01.trans sm).free hl
      refine s_append hw3 (by walk_at "v") val_c (by rw [List.length_map, List.length_append]; omega) ?_
      refine ⟨⟨_, _, _, l, (ws ++ qu.2.2) ++ [("" : Str)], rfl, hlH, upd_same.trans (congrArg (fun t => some (HO.lst t)) (List.map_append (f := V.str) (l₁ := ws ++ qu.2.2) (l₂ := [("" : Str)])).symm), ?_, ?_, ?_⟩, same_mut ((sm.trans sm2).trans sm3) (sm.free hl)⟩
      · intro x hx
        rcases List.mem_append.mp hx with hx | hx
        · rcases List.mem_append.mp hx with hx | hx
          · exact hws x hx
          · exact qo.p x hx
        · rw [List.mem_singleton.mp hx]
          exact nil_TOk
      · rw [List.length_append, List.length_append, e0, List.length_nil, List.length_singleton]
        omega
      · rw [List.take_add_one, hi, List.all_append, List.all_append, hwa, e0]
        show ((_ && true) && (nameOk "" && true)) = (_ && List.all (_ ++ [qu]) namedQu)
        have eq1 : namedQu qu = false := and_false_of (by rw [e]; rfl)
        rw [nil_not_name, List.all_append, List.all_cons, eq1]
        simp
    · have hlH : H l = none := (s01.trans sm).free hl
      refine ⟨⟨_, _, _, l, ws ++ qu.2.2, rfl, hlH, sm3 _ _ hw2, ?_, ?_, ?_⟩, (sm.trans sm2).trans sm3⟩
      · intro x hx
        rcases List.mem_append.mp hx with hx | hx
        · exact hws x hx
        · exact qo.p x hx
      · rw [List.length_append]
        omega
      · rw [List.take_add_one, hi, List.all_append, hwa]
        show (_ && _) = (_ && List.all (_ ++ [qu]) namedQu)
        have eq1 : namedQu qu = qu.2.2.all nameOk := by
          unfold namedQu
          rw [e]
          rfl
        rw [List.all_append, List.all_cons, eq1, List.all_nil, Bool.and_true, Bool.and_assoc]
  rintro σ' H2 ⟨⟨v4, v5, v6, p, ws, rfl, hp, hpl, hws, hwl, hwa⟩, sm⟩
  rw [List.take_length] at hwa
  refine s_ret (by walk_at "v") (q p H2 ws (s01.trans sm) hpl hws ?_)
  rw [hwa]
  rfl
end
end K17
namespace K17
open PySem PySem.Spec PyProof.Rows L2
section
variable {P : Program} {w : World} {K : PySem.W.Frag} {mg : Str → Option Value} {base : Heap} {cl : Fin 10 → Addr}
/-! ### _law_there -/
abbrev s_law_there : Stmt := topS 46
abbrev n_law_there : List Str := ["_law_kind_here", "_law_number_here", "_law_rows", "_law_word_here", "_law_many"]
abbrev p_law_there : List Str := ["_law_kind_here", "_law_number_here", "_law_rows"]
theorem sc_law_there : FnScope ["_law_kind_here", "_law_number_here", "_law_rows", "_law_word_here", "_law_many"] ["_law_kind_here", "_law_number_here", "_law_rows"] (defScope s_law_there) := ⟨rfl, rfl, rfl, by decide +kernel, rfl, by decide +kernel, by decide +kernel⟩
def thereR (k : Str) (n : Int) : List Thg → Bool
  | [] => false
  | r :: rs => if k = r.1 then decide (0 ≤ n) && decide (n < r.2) else thereR k n rs
def sp_law_there : Sp := fun vs H Q _ => ∃ (k : Str) (n : Int) (v : V) (rows : List Thg), vs = [.str k, .int n, v] ∧ LAt VThg H v rows ∧ Q (.bl (thereR k n rows)) H
theorem ok_law_there (T : Txt K mg cl) (d : Df K mg "_law_there" s_law_there) : Cal P w K mg base CX0 1 "_law_there" ["_law_kind_here", "_law_number_here", "_law_rows"] sp_law_there := by
  obtain ⟨f, fd, F, g⟩ := d
  refine ⟨f, fd, g, F.kp, F.binds (fun _ _ _ _ _ _ us hl => match us, hl with | [_, _, _], _ => rfl), F.ok sc_law_there (fun vs H Q E h => ?_) (fun cdv A outer s H vs Q E hr h => ?_)⟩
  · obtain ⟨k, n, v, rows, rfl, _⟩ := h
    rfl
  obtain ⟨k, n, v, rows, rfl, hv, q⟩ := h
  refine ⟨_, (pss_cons (ps_for PassesOwn.never rfl (pi_list (pv 2)) (pg_tup rfl (pgs_cons (pg_name (i := 3) sc_law_there.nd rfl (Or.inl rfl)) (pgs_cons (pg_name (i := 4) sc_law_there.nd rfl (Or.inl rfl)) pgs_nil)))
      (pss_one (ps_if (pt_cmpR op_eq (pv 0) (pv 3) (nomark _)) (pss_one (ps_ret (pe_chain op_le op_lt pe_int (pv 1) (pv 4)))) pss_nil)))
    (pss_one (ps_ret pe_bl))), ?_⟩
  refine s_forP (by walk_at "v") hv (fun i σ' H' => (∃ v3 v4, σ' = [some (.str k), some (.int n), some v, v3, v4] ∧ thereR k n rows = thereR k n (rows.drop i)) ∧ H' = H) (fun i σ' H' h => h.2 ▸ Same.refl _) ⟨⟨_, _, rfl, rfl⟩, rfl⟩ ?_ ?_
  · rintro i v' r σ' H' hi ⟨a, rfl, ha⟩ ⟨⟨v3, v4, rfl, e⟩, rfl⟩
    have hd : rows.drop i = r :: rows.drop (i + 1) := by
      obtain ⟨h1, h2⟩ := List.getElem?_eq_some_iff.mp hi
      rw [← h2]
      exact List.drop_eq_getElem_cons h1
    refine g2 ha (s_if (b := decide (k = r.1)) (by walk_at "a") (fun e1 => s_ret (v := .bl (decide ((0 : Int) ≤ n) && decide (n < r.2))) (by walk_at "v") ?_) (fun e1 => s_next ⟨⟨_, _, rfl, ?_⟩, rfl⟩))
    · have e2 : thereR k n rows = (decide ((0 : Int) ≤ n) && decide (n < r.2)) := by
        rw [e, hd]
        exact if_pos (of_decide_eq_true e1)
      rw [e2] at q
      exact q
    · rw [e, hd]
      exact if_neg (of_decide_eq_false e1)
  rintro σ' H' ⟨⟨v3, v4, rfl, e⟩, rfl⟩
  refine s_ret val_c ?_
  rw [List.drop_length] at e
  rw [e] at q
  exact q
/-! ### _law_placed -/
abbrev s_law_placed : Stmt := topS 47
abbrev n_law_placed : List Str := ["_law_parts", "_law_many", "_law_steps", "_law_tellings", "_law_label", "_law_kind_here", "_law_number_here", "_law_name", "_law_scope", "_law_state", "_law_path"]
abbrev p_law_placed : List Str := ["_law_parts"]
theorem sc_law_placed : FnScope ["_law_parts", "_law_many", "_law_steps", "_law_tellings", "_law_label", "_law_kind_here", "_law_number_here", "_law_name", "_law_scope", "_law_state", "_law_path"] ["_law_parts"] (defScope s_law_placed) := ⟨rfl, rfl, rfl, by decide +kernel, rfl, by decide +kernel, by decide +kernel⟩
def sp_law_placed : Sp := fun vs H Q _ => ∃ (v : V) (N : Net), vs = [v] ∧ VNet H v N ∧ ∀ H', Same H H' → Q (.bl (there N)) H'
theorem thereSt_R (N : Net) (s : Step) : thereR s.2.1 s.2.2 [("to", (N.sc.length : Int)), ("by", (N.qu.length : Int))] = thereSt N s := by
  unfold thereSt thereR thereR thereR within
  by_cases h1 : s.2.1 = "to"
  · rw [if_pos h1, if_pos h1]
  · rw [if_neg h1, if_neg h1]
    by_cases h2 : s.2.1 = "by"
    · rw [if_pos h2, decide_eq_true h2, Bool.true_and]
    · rw [if_neg h2, decide_eq_false h2, Bool.false_and]
theorem thereTe_R (N : Net) (s : Tell) : thereR s.2.2.1 s.2.2.2 [("thing", (N.th.length : Int)), ("by", (N.qu.length : Int))] = thereTe N s := by
  unfold thereTe thereR thereR thereR within
  by_cases h1 : s.2.2.1 = "thing"
  · rw [if_pos h1, if_pos h1]
  · rw [if_neg h1, if_neg h1]
    by_cases h2 : s.2.2.1 = "by"
    · rw [if_pos h2, decide_eq_true h2, Bool.true_and]
    · rw [if_neg h2, decide_eq_false h2, Bool.false_and]
theorem thereTh_R (N : Net) (s : Thg) : thereR s.1 s.2 [("plain", 1), ("part", (N.sc.length : Int)), ("sort", (N.qu.length : Int))] = thereTh N s := by
  unfold thereTh thereR thereR thereR thereR within
  by_cases h1 : s.1 = "plain"
  · rw [if_pos h1, if_pos h1, Bool.eq_iff_iff]
    simp only [Bool.and_eq_true, decide_eq_true_eq]
    omega
  · rw [if_neg h1, if_neg h1]
    by_cases h3 : s.1 = "part"
    · rw [if_pos h3, if_pos h3]
    · rw [if_neg h3, if_neg h3]
      by_cases h2 : s.1 = "sort"
      · rw [if_pos h2, decide_eq_true h2, Bool.true_and]
      · rw [if_neg h2, decide_eq_false h2, Bool.false_and]
/-- the test of a placed thing: its rows are made on the way -/
theorem ah_there {σ : L2.St} {H : Hp} {tk tn tr : TE} {k : Str} {n : Int} {rows : List Thg} {b : Bool} (hk : Val tk σ H (.str k)) (hn : Val tn σ H (.int n)) (hr : ∀ Q : VK, (∀ p H', Same H H' → LAt VThg H' (.ref p) rows → Q (.ref p) H') → tr σ H Q) (e : thereR k n rows = b) :
    AnsH (tNot (tB (tCall sp_law_there [] E0 (tCons tk (tCons tn (tCons tr tNil)))))) σ H (!b) (fun H' => Same H H') := by
  subst e
  refine ah_not (ah_B fun Q q => hk _ (hn _ (hr _ fun p H' sm hl => ?_)))
  exact ⟨k, n, .ref p, rows, rfl, hl, q _ _ ⟨rfl, sm⟩⟩
theorem ok_law_placed (T : Txt K mg cl) (d : Df K mg "_law_placed" s_law_placed) (c_law_there : Cal P w K mg base CX0 1 "_law_there" p_law_there sp_law_there) : Cal P w K mg base CX0 2 "_law_placed" ["_law_parts"] sp_law_placed := by
  obtain ⟨f, fd, F, g⟩ := d
  refine ⟨f, fd, g, F.kp, F.binds (fun _ _ _ _ _ _ us hl => match us, hl with | [_], _ => rfl), F.ok sc_law_placed (fun vs H Q E h => ?_) (fun cdv A outer s H vs Q E hr h => ?_)⟩
  · obtain ⟨v, N, rfl, _⟩ := h
    rfl
  obtain ⟨v, N, rfl, hv, q⟩ := h
  refine ⟨_, (pss_cons (ps_set (i := 1) sc_law_placed.nd rfl (Or.inl rfl) (pe_lst (pa_cons (pe_callB call_lenQ (by rfl) T.z_len PySem.boot_len (pa_cons (pe_ix ix_tup (pv 0) pe_int (fun _ _ => rfl)) pa_nil)) (pa_cons (pe_callB call_lenQ (by rfl) T.z_len PySem.boot_len (pa_cons (pe_ix ix_tup (pv 0) pe_int (fun _ _ => rfl)) pa_nil)) (pa_cons (pe_callB call_lenQ (by rfl) T.z_len PySem.boot_len (pa_cons (pe_ix ix_tup (pv 0) pe_int (fun _ _ => rfl)) pa_nil)) pa_nil)))))
    (pss_cons (ps_for PassesOwn.never rfl (pi_list (pe_ix ix_tup (pv 0) pe_int (fun _ _ => rfl))) (pg_tup rfl (pgs_cons (pg_name (i := 2) sc_law_placed.nd rfl (Or.inl rfl)) (pgs_cons (pg_name (i := 3) sc_law_placed.nd rfl (Or.inl rfl)) pgs_nil)))
      (pss_cons (ps_for PassesOwn.never rfl (pi_list (pv 2)) (pg_tup rfl (pgs_cons (pg_name (i := 4) sc_law_placed.nd rfl (Or.inl rfl)) (pgs_cons (pg_name (i := 5) sc_law_placed.nd rfl (Or.inl rfl)) (pgs_cons (pg_name (i := 6) sc_law_placed.nd rfl (Or.inl rfl)) pgs_nil))))
        (pss_one (ps_if (pt_not (pt_val (pe_cal c_law_there hr (by decide) (by rfl) (pa_cons (pv 5) (pa_cons (pv 6) (pa_cons (pe_lst (pa_cons (pe_tup (pa_cons pe_str (pa_cons (pe_ix ix_list (pv 1) pe_int (fun _ _ => rfl)) pa_nil))) (pa_cons (pe_tup (pa_cons pe_str (pa_cons (pe_ix ix_list (pv 1) pe_int (fun _ _ => rfl)) pa_nil))) pa_nil))) pa_nil)))))) (pss_one (ps_ret pe_bl)) pss_nil)))
      (pss_one (ps_for PassesOwn.never rfl (pi_list (pv 3)) (pg_tup rfl (pgs_cons (pg_name (i := 4) sc_law_placed.nd rfl (Or.inl rfl)) (pgs_cons (pg_name (i := 7) sc_law_placed.nd rfl (Or.inl rfl)) (pgs_cons (pg_name (i := 5) sc_law_placed.nd rfl (Or.inl rfl)) (pgs_cons (pg_name (i := 6) sc_law_placed.nd rfl (Or.inl rfl)) pgs_nil)))))
        (pss_one (ps_if (pt_not (pt_val (pe_cal c_law_there hr (by decide) (by rfl) (pa_cons (pv 5) (pa_cons (pv 6) (pa_cons (pe_lst (pa_cons (pe_tup (pa_cons pe_str (pa_cons (pe_ix ix_list (pv 1) pe_int (fun _ _ => rfl)) pa_nil))) (pa_cons (pe_tup (pa_cons pe_str (pa_cons (pe_ix ix_list (pv 1) pe_int (fun _ _ => rfl)) pa_nil))) pa_nil))) pa_nil)))))) (pss_one (ps_ret pe_bl)) pss_nil))))))
    (pss_cons (ps_for PassesOwn.never rfl (pi_list (pe_ix ix_tup (pv 0) pe_int (fun _ _ => rfl))) (pg_tup rfl (pgs_cons (pg_name (i := 5) sc_law_placed.nd rfl (Or.inl rfl)) (pgs_cons (pg_name (i := 6) sc_law_placed.nd rfl (Or.inl rfl)) pgs_nil)))
      (pss_one (ps_if (pt_not (pt_val (pe_cal c_law_there hr (by decide) (by rfl) (pa_cons (pv 5) (pa_cons (pv 6) (pa_cons (pe_lst (pa_cons (pe_tup (pa_cons pe_str (pa_cons pe_int pa_nil))) (pa_cons (pe_tup (pa_cons pe_str (pa_cons (pe_ix ix_list (pv 1) pe_int (fun _ _ => rfl)) pa_nil))) (pa_cons (pe_tup (pa_cons pe_str (pa_cons (pe_ix ix_list (pv 1) pe_int (fun _ _ => rfl)) pa_nil))) pa_nil)))) pa_nil)))))) (pss_one (ps_ret pe_bl)) pss_nil)))
    (pss_cons (ps_for PassesOwn.never rfl (pi_list (pe_ix ix_tup (pv 0) pe_int (fun _ _ => rfl))) (pg_tup rfl (pgs_cons (pg_name (i := 8) sc_law_placed.nd rfl (Or.inl rfl)) (pgs_cons (pg_name (i := 9) sc_law_placed.nd rfl (Or.inl rfl)) (pgs_cons (pg_name (i := 10) sc_law_placed.nd rfl (Or.inl rfl)) pgs_nil))))
      (pss_one (ps_if (PW.pt (pw_or (pt_cmpR op_lt (pv 9) pe_int (nomark _)) (pw_or (pt_cmpR op_lt (pv 8) pe_int (nomark _)) (pw_or1 (pt_cmpR op_ge (pv 8) (pe_ix ix_list (pv 1) pe_int (fun _ _ => rfl)) (nomark _)))))) (pss_one (ps_ret pe_bl)) pss_nil)))
    (pss_one (ps_ret pe_bl)))))), ?_⟩
  obtain ⟨a, x, y, z, rfl, ha, hx, hy, hz⟩ := id hv
  refine s_setsH (W := fun v H' => ∃ m, v = .ref m ∧ H m = none ∧ H' = upd H m (.lst [.int N.sc.length, .int N.th.length, .int N.qu.length])) (fun Q k => ?_) ?_
  · refine (show Val _ _ _ (V.int N.sc.length) from v_lenA (v_ixT (val_var rfl) val_c ha rfl) hx) _ ?_
    refine (show Val _ _ _ (V.int N.th.length) from v_lenA (v_ixT (val_var rfl) val_c ha rfl) hy) _ ?_
    refine (show Val _ _ _ (V.int N.qu.length) from v_lenA (v_ixT (val_var rfl) val_c ha rfl) hz) _ ?_
    exact ⟨by show 3 ≤ sizeLine; decide, fun m hm => k _ _ ⟨m, rfl, hm, rfl⟩⟩
  rintro _ _ ⟨m, rfl, hm, rfl⟩
  have s0 := same_new (o := .lst [.int N.sc.length, .int N.th.length, .int N.qu.length]) hm
  have hm0 : (upd H m (.lst [.int N.sc.length, .int N.th.length, .int N.qu.length])) m = some (.lst [.int N.sc.length, .int N.th.length, .int N.qu.length]) := upd_same
  generalize upd H m (.lst [.int N.sc.length, .int N.th.length, .int N.qu.length]) = H1 at s0 hm0
  have ha1 := s0 _ _ ha
  have hx1 := hx.mono (fun _ _ => VScp.mono s0) s0
  refine s_alls (f := thereSc N) (by walk_at "v") hx1 (fun σ' H' => (∃ v2 v3 v4 v5 v6 v7, σ' = [some (.ref a), some (.ref m), v2, v3, v4, v5, v6, v7, none, none, none]) ∧ Same H1 H') (fun _ _ i => i.2) ⟨⟨_, _, _, _, _, _, rfl⟩, Same.refl _⟩ ?_ ?_
  · rintro v sc σ' H' N' hmm r ⟨⟨v2, v3, v4, v5, v6, v7, rfl⟩, sm⟩ hN
    obtain ⟨a', p1, p2, rfl, ha', hp1, hp2⟩ := r
    have hp1' := hp1.mono (fun _ _ => VStep.mono sm) sm
    have hp2' := hp2.mono (fun _ _ => VTell.mono sm) sm
    refine g2 (sm _ _ ha') (s_alls (f := thereSt N) (by walk_at "v") hp1' (fun σ' H2 => (∃ v4 v5 v6, σ' = [some (.ref a), some (.ref m), some p1, some p2, v4, v5, v6, v7, none, none, none]) ∧ Same H' H2) (fun _ _ i => i.2) ⟨⟨_, _, _, rfl⟩, Same.refl _⟩ ?_ ?_)
    · rintro v st σ' H2 N2 hm2 r ⟨⟨v4, v5, v6, rfl⟩, sm2⟩ hN2
      obtain ⟨b, rfl, hb⟩ := r
      refine g3 (sm2 _ _ hb) (s_ifH (ah_there (b := thereSt N st) (by walk_at "v") (by walk_at "v") (fun Q k => n_rows2 (v_ixL (val_var rfl) val_c (sm2 _ _ (sm _ _ hm0)) rfl) (fun H3 s3 => v_ixL (val_var rfl) val_c (s3 _ _ (sm2 _ _ (sm _ _ hm0))) rfl) k) (thereSt_R N st)) (fun e H3 s3 => s_ret val_c ?_) (fun e H3 s3 => s_next (hN2 _ _ ⟨⟨_, _, _, rfl⟩, sm2.trans s3⟩ (by simpa using e))))
      have e1 : there N = false := and_false_of (and_false_of (all_false_of hmm (and_false_of (all_false_of hm2 (by simpa using e)))))
      have q := q H3 (((s0.trans sm).trans sm2).trans s3)
      rw [e1] at q
      exact q
    rintro σ' H2 ⟨⟨v4, v5, v6, rfl⟩, sm2⟩ hst
    have hp2'' := hp2'.mono (fun _ _ => VTell.mono sm2) sm2
    refine s_all (f := thereTe N) (by walk_at "v") hp2'' (fun σ' H3 => (∃ v4 v5 v6 v7, σ' = [some (.ref a), some (.ref m), some p1, some p2, v4, v5, v6, v7, none, none, none]) ∧ Same H2 H3) (fun _ _ i => i.2) ⟨⟨_, _, _, _, rfl⟩, Same.refl _⟩ ?_ ?_
    · rintro v st σ' H3 N2 hm2 r ⟨⟨v4, v5, v6, v7, rfl⟩, sm3⟩ hN2
      obtain ⟨b, rfl, hb⟩ := r
      have hmm3 := sm3 _ _ (sm2 _ _ (sm _ _ hm0))
      refine g4 (sm3 _ _ hb) (s_ifH (ah_there (b := thereTe N st) (by walk_at "v") (by walk_at "v") (fun Q k => n_rows2 (v_ixL (val_var rfl) val_c hmm3 rfl) (fun H4 s4 => v_ixL (val_var rfl) val_c (s4 _ _ hmm3) rfl) k) (thereTe_R N st)) (fun e H4 s4 => s_ret val_c ?_) (fun e H4 s4 => s_next (hN2 _ _ ⟨⟨_, _, _, _, rfl⟩, sm3.trans s4⟩ (by simpa using e))))
      have e1 : there N = false := and_false_of (and_false_of (all_false_of hmm (and_false_of2 (all_false_of hm2 (by simpa using e)))))
      have q := q H4 ((((s0.trans sm).trans sm2).trans sm3).trans s4)
      rw [e1] at q
      exact q
    rintro σ' H3 ⟨⟨v4, v5, v6, v7, rfl⟩, sm3⟩ hte
    refine hN _ _ ⟨⟨_, _, _, _, _, _, rfl⟩, (sm.trans sm2).trans sm3⟩ ?_
    unfold thereSc
    rw [hst, hte]
    rfl
  rintro σ' H2 ⟨⟨v2, v3, v4, v5, v6, v7, rfl⟩, sm2⟩ hsc
  have s02 := s0.trans sm2
  have ha2 := s02 _ _ ha
  have hm2 := sm2 _ _ hm0
  refine s_alls (f := thereTh N) (by walk_at "v") (hy.mono (fun _ _ => VThg.mono s02) s02) (fun σ' H3 => (∃ v5 v6, σ' = [some (.ref a), some (.ref m), v2, v3, v4, v5, v6, v7, none, none, none]) ∧ Same H2 H3) (fun _ _ i => i.2) ⟨⟨_, _, rfl⟩, Same.refl _⟩ ?_ ?_
  · rintro v st σ' H3 N2 hmm r ⟨⟨v5, v6, rfl⟩, sm3⟩ hN2
    obtain ⟨b, rfl, hb⟩ := r
    have hmm3 := sm3 _ _ hm2
    refine g2 (sm3 _ _ hb) (s_ifH (ah_there (b := thereTh N st) (by walk_at "v") (by walk_at "v") (fun Q k => n_rows3 val_c (fun H4 s4 => v_ixL (val_var rfl) val_c (s4 _ _ hmm3) rfl) (fun H4 s4 => v_ixL (val_var rfl) val_c (s4 _ _ hmm3) rfl) k) (thereTh_R N st)) (fun e H4 s4 => s_ret val_c ?_) (fun e H4 s4 => s_next (hN2 _ _ ⟨⟨_, _, rfl⟩, sm3.trans s4⟩ (by simpa using e))))
    have e1 : there N = false := and_false_of (and_false_of2 (all_false_of hmm (by simpa using e)))
    have q := q H4 ((s02.trans sm3).trans s4)
    rw [e1] at q
    exact q
  rintro σ' H3 ⟨⟨v5, v6, rfl⟩, sm3⟩ hth
  have s03 := s02.trans sm3
  have ha3 := s03 _ _ ha
  have hm3 := sm3 _ _ hm2
  refine s_alls (f := thereQu N) (by walk_at "v") (hz.mono (fun _ _ => VQst.mono s03) s03) (fun σ' H4 => (∃ v8 v9 v10, σ' = [some (.ref a), some (.ref m), v2, v3, v4, v5, v6, v7, v8, v9, v10]) ∧ H4 = H3) (fun _ _ i => i.2 ▸ Same.refl _) ⟨⟨_, _, _, rfl⟩, rfl⟩ ?_ ?_
  · rintro v qu σ' H4 N2 hmm r ⟨⟨v8, v9, v10, rfl⟩, rfl⟩ hN
    obtain ⟨a', b, rfl, ha', hb⟩ := r
    refine g3 ha' (s_if (b := decide (qu.2.1 < 0) || (decide (qu.1 < 0) || decide ((N.sc.length : Int) ≤ qu.1))) (by walk_at "a") (fun e => s_ret val_c ?_) (fun e => s_next (hN _ _ ⟨⟨_, _, _, rfl⟩, rfl⟩ ?_)))
    · have e0 : thereQu N qu = false := by
        show (!(decide (qu.1 < 0) || decide ((N.sc.length : Int) ≤ qu.1) || decide (qu.2.1 < 0))) = false
        rw [Bool.or_comm, e]
        rfl
      have e1 : there N = false := and_false_of2 (all_false_of hmm e0)
      have q := q H4 s03
      rw [e1] at q
      exact q
    · show (!(decide (qu.1 < 0) || decide ((N.sc.length : Int) ≤ qu.1) || decide (qu.2.1 < 0))) = true
      rw [Bool.or_comm, e]
      rfl
  rintro σ' H4 ⟨⟨v8, v9, v10, rfl⟩, rfl⟩ hqu
  refine s_ret val_c ?_
  have e1 : there N = true := by
    unfold there
    rw [hsc, hth, hqu]
    rfl
  have q := q H4 s03
  rw [e1] at q
  exact q
/-! ### _law_due -/
abbrev s_law_due : Stmt := topS 48
abbrev n_law_due : List Str := ["_law_parts", "_law_word_here"]
abbrev p_law_due : List Str := ["_law_parts"]
theorem sc_law_due : FnScope ["_law_parts", "_law_word_here"] ["_law_parts"] (defScope s_law_due) := ⟨rfl, rfl, rfl, by decide +kernel, rfl, by decide +kernel, by decide +kernel⟩
def dueV (N : Net) : V := if due N = 3 then .non else .int (due N)
def sp_law_due : Sp := fun vs H Q _ => ∃ (v : V) (N : Net), vs = [v] ∧ VNet H v N ∧ NOk N ∧ ∀ H', Same H H' → Q (dueV N) H'
theorem due0 {N : Net} (h : small N = false) : dueV N = .int 0 := by
  unfold dueV due
  rw [h]
  rfl
theorem due1 {N : Net} (h : small N = true) (h1 : named N = false) : dueV N = .int 1 := by
  unfold dueV due
  rw [h, h1]
  rfl
theorem due2 {N : Net} (h : small N = true) (h1 : named N = true) (h2 : there N = false) : dueV N = .int 2 := by
  unfold dueV due
  rw [h, h1, h2]
  rfl
theorem due3 {N : Net} (h : small N = true) (h1 : named N = true) (h2 : there N = true) : dueV N = .non := by
  unfold dueV due
  rw [h, h1, h2]
  rfl
theorem ok_law_due (T : Txt K mg cl) (d : Df K mg "_law_due" s_law_due) (c_law_great : Cal P w K mg base CX0 1 "_law_great" p_law_great sp_law_great) (c_law_words_of : Cal P w K mg base CX0 1 "_law_words_of" p_law_words_of sp_law_words_of)
    (c_law_is_word : Cal P w K mg base CX0 1 "_law_is_word" p_law_is_word sp_law_is_word) (c_law_placed : Cal P w K mg base CX0 2 "_law_placed" p_law_placed sp_law_placed) : Cal P w K mg base CX0 3 "_law_due" ["_law_parts"] sp_law_due := by
  obtain ⟨f, fd, F, g⟩ := d
  refine ⟨f, fd, g, F.kp, F.binds (fun _ _ _ _ _ _ us hl => match us, hl with | [_], _ => rfl), F.ok sc_law_due (fun vs H Q E h => ?_) (fun cdv A outer s H vs Q E hr h => ?_)⟩
  · obtain ⟨v, N, rfl, _⟩ := h
    rfl
  obtain ⟨v, N, rfl, hv, ok, q⟩ := h
  refine ⟨_, (pss_cons (ps_if (pt_val (pe_cal c_law_great hr (by decide) (by rfl) (pa_cons (pv 0) pa_nil))) (pss_one (ps_ret pe_int)) pss_nil)
    (pss_cons (ps_for PassesOwn.never rfl (pi_list (pe_cal c_law_words_of hr (by decide) (by rfl) (pa_cons (pv 0) pa_nil))) (pg_name (i := 1) sc_law_due.nd rfl (Or.inl rfl))
      (pss_one (ps_if (pt_not (pt_val (pe_cal c_law_is_word hr (by decide) (by rfl) (pa_cons (pv 1) pa_nil)))) (pss_one (ps_ret pe_int)) pss_nil)))
    (pss_cons (ps_if (pt_not (pt_val (pe_cal c_law_placed hr (by decide) (by rfl) (pa_cons (pv 0) pa_nil)))) (pss_one (ps_ret pe_int)) pss_nil)
    (pss_one (ps_ret pe_non))))), ?_⟩
  refine s_ifsH (b := !small N) (W := fun H' => Same H H') (ah_B (vh_call (va_cons (by walk_at "v") va_nil) fun Q E k => ⟨v, N, rfl, hv, ok, fun H' sm => k _ _ ⟨rfl, sm⟩⟩)) (fun e H1 s1 => s_ret val_c ?_) (fun e H1 s1 => ?_)
  · have q := q H1 s1
    rw [due0 (by simpa using e)] at q
    exact q
  have e1 : small N = true := by simpa using e
  refine s_forHs (W := fun x H' => ∃ p ws, x = .ref p ∧ Same H1 H' ∧ H' p = some (.lst (ws.map V.str)) ∧ (∀ x ∈ ws, TOk x) ∧ ws.all nameOk = named N) (vh_call (va_cons (by walk_at "v") va_nil) fun Q E k => ⟨v, N, rfl, hv.mono s1, ok, fun p H' ws sm hp h1 h2 => k _ _ ⟨p, ws, rfl, sm, hp, h1, h2⟩⟩) ?_
  rintro _ H2 ⟨p, ws, rfl, s2, hp, hws, hna⟩
  have hL : LAt (fun _ v (x : Str) => v = V.str x) H2 (.ref p) ws := by
    refine ⟨p, _, rfl, hp, ?_⟩
    clear hp hws hna
    induction ws with
    | nil => exact .nil
    | cons x ws ih => exact .cons rfl ih
  refine s_alls (f := nameOk) val_c hL (fun σ' H' => (∃ v1, σ' = [some v, v1]) ∧ Same H2 H') (fun _ _ i => i.2) ⟨⟨_, rfl⟩, Same.refl _⟩ ?_ ?_
  · rintro _ x σ' H' N' hm rfl ⟨⟨v1, rfl⟩, s3⟩ hN
    refine s_ifH (b := !nameOk x) (W := fun H4 => Same H' H4) (ah_not (ah_B (vh_call (va_cons (by walk_at "v") va_nil) fun Q E k => ⟨x, rfl, (hws x hm).1, fun H' sm => k _ _ ⟨rfl, sm⟩⟩))) (fun e H4 s4 => s_ret val_c ?_) (fun e H4 s4 => s_next (hN _ _ ⟨⟨_, rfl⟩, s3.trans s4⟩ (by simpa using e)))
    have q := q H4 (((s1.trans s2).trans s3).trans s4)
    rw [due1 e1 (by rw [← hna]; exact all_false_of hm (by simpa using e))] at q
    exact q
  rintro σ' H3 ⟨⟨v1, rfl⟩, s3⟩ hall
  rw [hna] at hall
  have s13 := (s1.trans s2).trans s3
  refine s_ifsH (b := !there N) (W := fun H4 => Same H3 H4) (ah_not (ah_B (vh_call (va_cons (by walk_at "v") va_nil) fun Q E k => ⟨v, N, rfl, hv.mono s13, fun H' sm => k _ _ ⟨rfl, sm⟩⟩))) (fun e H4 s4 => s_ret val_c ?_) (fun e H4 s4 => s_ret val_c ?_)
  · have q := q H4 (s13.trans s4)
    rw [due2 e1 hall (by simpa using e)] at q
    exact q
  · have q := q H4 (s13.trans s4)
    rw [due3 e1 hall (by simpa using e)] at q
    exact q
/-! ### _law_judged -/
abbrev s_law_judged : Stmt := topS 49
abbrev n_law_judged : List Str := ["_law_parts", "_law_kept", "_law_due_here"]
abbrev p_law_judged : List Str := ["_law_parts"]
theorem sc_law_judged : FnScope ["_law_parts", "_law_kept", "_law_due_here"] ["_law_parts"] (defScope s_law_judged) := ⟨rfl, rfl, rfl, by decide +kernel, rfl, by decide +kernel, by decide +kernel⟩
def sp_law_judged : Sp := fun vs H Q _ => ∃ (v : V) (N : Net), vs = [v] ∧ VNet H v N ∧ NOk N ∧ ∀ H', Same H H' → Q (.bl true) H'
theorem ok_law_judged (T : Txt K mg cl) (d : Df K mg "_law_judged" s_law_judged) (c_law_copy : Cal P w K mg base CX0 1 "_law_copy" p_law_copy sp_law_copy) (c_law_due : Cal P w K mg base CX0 3 "_law_due" p_law_due sp_law_due)
    (c_law_refused_as : Cal P w K mg base CX0 1 "_law_refused_as" p_law_refused_as sp_law_refused_as) (c_law_kinds_of : Cal P w K mg base CX0 4 "_law_kinds_of" p_law_kinds_of sp_law_kinds_of) (c_law_is_net : Cal P w K mg base CX0 1 "_law_is_net" p_law_is_net sp_law_is_net)
    (c_net_of : Cal P w K mg base (L2.CX P w) 3 "net_of" p_net_of (sp_net_of cl)) : Cal P w K mg base CX0 5 "_law_judged" ["_law_parts"] sp_law_judged := by
  obtain ⟨f, fd, F, g⟩ := d
  refine ⟨f, fd, g, F.kp, F.binds (fun _ _ _ _ _ _ us hl => match us, hl with | [_], _ => rfl), F.ok sc_law_judged (fun vs H Q E h => ?_) (fun cdv A outer s H vs Q E hr h => ?_)⟩
  · obtain ⟨v, N, rfl, _⟩ := h
    rfl
  obtain ⟨v, N, rfl, hv, ok, q⟩ := h
  refine ⟨_, (pss_cons (ps_set (i := 1) sc_law_judged.nd rfl (Or.inl rfl) (pe_cal c_law_copy hr (by decide) (by rfl) (pa_cons (pv 0) pa_nil)))
    (pss_cons (ps_set (i := 2) sc_law_judged.nd rfl (Or.inl rfl) (pe_cal c_law_due hr (by decide) (by rfl) (pa_cons (pv 1) pa_nil)))
    (pss_cons (ps_if (pt_cmpR op_notN1 (pv 2) pe_non (nomark _)) (pss_one (ps_ret (pe_and (pe_cal c_law_refused_as hr (by decide) (by rfl) (pa_cons (pe_cal c_law_kinds_of hr (by decide) (by rfl) (pa_cons (pe_ix ix_tup (pv 0) pe_int (fun _ _ => rfl)) (pa_cons (pe_ix ix_tup (pv 0) pe_int (fun _ _ => rfl)) (pa_cons (pe_ix ix_tup (pv 0) pe_int (fun _ _ => rfl)) pa_nil)))) (pa_cons (pv 2) pa_nil))) (pe_one (pe_cmpR (op_eqD hr.units) (pv 0) (pv 1) (nomark _)))))) pss_nil)
    (pss_one (ps_ret (pe_and (pe_cal c_law_is_net hr (by decide) (by rfl) (pa_cons (pe_calX c_net_of hr (by decide) (by rfl) (pa_cons (pe_ix ix_tup (pv 0) pe_int (fun _ _ => rfl)) (pa_cons (pe_ix ix_tup (pv 0) pe_int (fun _ _ => rfl)) (pa_cons (pe_ix ix_tup (pv 0) pe_int (fun _ _ => rfl)) pa_nil)))) (pa_cons (pv 1) pa_nil))) (pe_one (pe_cmpR (op_eqD hr.units) (pv 0) (pv 1) (nomark _))))))))), ?_⟩
  refine s_setsH (W := fun x H' => Same H H' ∧ VNet H' x N) (vh_call (va_cons (by walk_at "v") va_nil) fun Q E k => ⟨v, N, rfl, hv, ok, fun v' H' sm h => k _ _ ⟨sm, h⟩⟩) ?_
  rintro kv H1 ⟨s1, hk⟩
  refine s_setsH (W := fun x H' => Same H1 H' ∧ x = dueV N) (vh_call (va_cons (by walk_at "v") va_nil) fun Q E k => ⟨kv, N, rfl, hk, ok, fun H' sm => k _ _ ⟨sm, rfl⟩⟩) ?_
  rintro _ H2 ⟨s2, rfl⟩
  have s12 := s1.trans s2
  have hv2 := hv.mono s12
  have hk2 := hk.mono s2
  obtain ⟨a, x, y, z, rfl, ha, hx, hy, hz⟩ := id hv2
  refine s_ifs (b := !decide (dueV N = .non)) (by walk_at "a") (fun e => ?_) (fun e => ?_)
  · have hd : due N < 3 ∧ dueV N = .int (due N) := by
      have h1 : dueV N ≠ .non := by simpa using e
      unfold dueV at h1 ⊢
      by_cases h : due N = 3
      · rw [if_pos h] at h1
        exact absurd rfl h1
      · rw [if_neg h]
        refine ⟨?_, rfl⟩
        have : due N ≤ 3 := by
          unfold due
          split
          · split
            · split <;> decide
            · decide
          · decide
        omega
    refine s_retH (vh_and (vh_call2 (y := dueV N) (W1 := fun x H' => ∃ p, x = .ref p ∧ Same H2 H' ∧ H' p = some (.lst ((kindsOf (due N)).map V.bl))) (vh_call (va_cons (by walk_at "v") (va_cons (by walk_at "v") (va_cons (by walk_at "v") va_nil))) fun Q E k => ⟨x, y, z, N, rfl, hx, hy, hz, ok, hd.1, fun p H' sm hp => k _ _ ⟨p, rfl, sm, hp⟩⟩)
      (fun _ _ _ => by walk_at "v") ?_) (fun H' sm => v_eqNet (by walk_at "v") (by walk_at "v") (hv2.mono sm) (hk2.mono sm) ok)) (fun v H3 h => ?_)
    · rintro _ H' Q E ⟨p, rfl, sm, hp⟩ k
      rw [hd.2]
      exact ⟨p, due N, rfl, hp, hd.1, fun H4 s4 => k _ _ ⟨rfl, sm.trans s4⟩⟩
    · obtain ⟨rfl, s3⟩ := h
      exact q H3 (s12.trans s3)
  · have hd : small N = true ∧ named N = true ∧ there N = true := by
      have h1 : dueV N = .non := by simpa using e
      cases e1 : small N with
      | false => rw [due0 e1] at h1; cases h1
      | true =>
        cases e2 : named N with
        | false => rw [due1 e1 e2] at h1; cases h1
        | true =>
          cases e3 : there N with
          | false => rw [due2 e1 e2 e3] at h1; cases h1
          | true => exact ⟨rfl, rfl, rfl⟩
    obtain ⟨d1, d2, d3⟩ := hd
    refine s_retH (vh_and (vh_call2 (y := kv) (W1 := fun x H' => Same H2 H' ∧ VNet H' x N) (vh_call (va_cons (by walk_at "v") (va_cons (by walk_at "v") (va_cons (by walk_at "v") va_nil))) fun Q E k => ⟨x, y, z, N, rfl, hx, hy, hz, ok, fun h => absurd (d1.symm.trans h) (by decide), fun _ h => absurd (d2.symm.trans h) (by decide), fun _ _ h => absurd (d3.symm.trans h) (by decide), fun _ _ _ v H' sm hv => k _ _ ⟨sm, hv⟩⟩)
      (fun _ _ _ => by walk_at "v") ?_) (fun H' sm => v_eqNet (by walk_at "v") (by walk_at "v") (hv2.mono sm) (hk2.mono sm) ok)) (fun v H3 h => ?_)
    · rintro u H' Q E ⟨sm, hu⟩ k
      exact ⟨u, kv, N, rfl, hu, hk2.mono sm, ok, fun H4 s4 => k _ _ ⟨rfl, sm.trans s4⟩⟩
    · obtain ⟨rfl, s3⟩ := h
      exact q H3 (s12.trans s3)
end
end K17
namespace K17
open PySem PySem.Spec PyProof.Rows L2
/-! ### texts -/
def WOk (x : Str) : Prop := x.length ≤ 8 ∧ ∀ c ∈ x.cps.toList, c < 0x110000
theorem app_len (a b : Str) : (a ++ b).length = a.length + b.length := PySem.Str.length_append a b
theorem app_cps {a b : Str} (ha : ∀ c ∈ a.cps.toList, c < 0x110000) (hb : ∀ c ∈ b.cps.toList, c < 0x110000) : ∀ c ∈ (a ++ b).cps.toList, c < 0x110000 := fun c hc => by
  have e : (a ++ b).cps.toList = a.cps.toList ++ b.cps.toList := TL.tl_append a b
  rw [e] at hc
  exact (List.mem_append.mp hc).elim (ha c) (hb c)
theorem cut_cps {a : Str} {lo hi : Option Int} (ha : ∀ c ∈ a.cps.toList, c < 0x110000) : ∀ c ∈ (cutS a lo hi).cps.toList, c < 0x110000 := fun c hc => by
  unfold cutS at hc
  exact ha c (List.mem_of_mem_drop (List.mem_of_mem_take (by simpa using hc)))
theorem written_cps {x : Str} (h : (x.cps.toList.all fun c => decide (c < 0x110000)) = true) : ∀ c ∈ x.cps.toList, c < 0x110000 := fun c hc => of_decide_eq_true (List.all_eq_true.mp h c hc)
theorem WOk.t {x : Str} (h : WOk x) : TOk x := ⟨Nat.le_trans h.1 (by decide), h.2⟩
theorem letters_len : letters.cps.toList.length = 26 := by decide +kernel
theorem letters_len' : letters.length = 26 := by decide +kernel
theorem letters_cps : ∀ c ∈ letters.cps.toList, c < 0x110000 := written_cps (by decide +kernel)
/-- an item at a remainder -/
theorem at_mod {α : Type} {xs : List α} (h : 0 < xs.length) (n : Int) : ∃ v ∈ xs, atI xs (n % (xs.length : Int)) = some v := by
  have h1 := Int.emod_nonneg n (show (xs.length : Int) ≠ 0 by omega)
  have h2 := Int.emod_lt_of_pos n (show (0 : Int) < (xs.length : Int) by omega)
  obtain ⟨j, hj⟩ : ∃ j : Nat, n % (xs.length : Int) = (j : Int) := ⟨(n % (xs.length : Int)).toNat, by omega⟩
  have hl : j < xs.length := by omega
  exact ⟨xs[j], List.getElem_mem hl, by rw [hj]; exact atI_nat (List.getElem?_eq_getElem hl)⟩
theorem at_in {α : Type} {xs : List α} {n : Int} (h0 : 0 ≤ n) (h1 : n < xs.length) : ∃ v ∈ xs, atI xs n = some v := by
  obtain ⟨j, hj⟩ : ∃ j : Nat, n = (j : Int) := ⟨n.toNat, by omega⟩
  have hl : j < xs.length := by omega
  exact ⟨xs[j], List.getElem_mem hl, by rw [hj]; exact atI_nat (List.getElem?_eq_getElem hl)⟩
section
variable {σ : L2.St} {H : Hp} {i : Nat} {v x y z : V} {ta tb tc td te te' : TE} {b : Bool} {K : PySem.W.Frag} {D : Ends} {g : TG} {tb' u' : TS} {Q : VK} {t u c : TT}
theorem op_addS {X : Cx} : OpR X (binaryOp .Add) rAddS := op_add_str
theorem v_addS {a b : Str} (ha : Val ta σ H (.str a)) (hb : Val tb σ H (.str b)) (hl : a.length + b.length ≤ 200) : Val (tOp rAddS ta tb) σ H (.str (a ++ b)) := fun Q q => ha _ (hb _ ⟨a, b, rfl, rfl, Nat.le_trans hl (by decide), q⟩)
theorem v_cutS {a : Str} {tl th : TO} {lo hi : Option Int} (ha : Val ta σ H (.str a)) (hl : ∀ Q : Option Int → Hp → Prop, Q lo H → tl σ H Q) (hh : ∀ Q : Option Int → Hp → Prop, Q hi H → th σ H Q) (h : a.length ≤ 200) : Val (tSl rSlS ta tl th) σ H (.str (cutS a lo hi)) :=
  fun Q q => ha _ (hl _ (hh _ ⟨a, rfl, Nat.le_trans h (by decide), q⟩))
theorem o_some {n : Int} (h : Val te σ H (.int n)) : ∀ Q : Option Int → Hp → Prop, Q (some n) H → tPart te σ H Q := fun Q q => h _ ⟨n, rfl, q⟩
theorem o_none : ∀ Q : Option Int → Hp → Prop, Q none H → tNoPart σ H Q := fun Q q => q
theorem v_intB {b : Bool} (h : Val te σ H (.bl b)) : Val (tCB rIntOf (tCons te tNil)) σ H (.int (if b then 1 else 0)) := fun Q q => h _ (.inr ⟨b, rfl, q⟩)
theorem mul_b2 {n : Int} {b : Bool} : CMul n (if b then 1 else 0) := by cases b <;> exact .inr ⟨by decide, by decide⟩
/-- an item of a list that is written there -/
theorem n_pick {ta : TA} {vs : List V} {ti : TE} {j : Int} (hs : ValA ta σ H vs) (hl : vs.length ≤ 100) (hi : ∀ H', Val ti σ H' (.int j)) (h0 : 0 ≤ j) (h1 : j < vs.length) (q : ∀ v ∈ vs, ∀ H', Same H H' → Q v H') : tOp (rIxL K) (tLst ta) ti σ H Q := by
  refine hs _ ⟨Nat.le_trans hl (by decide), fun p hp => hi _ _ ?_⟩
  obtain ⟨v, hv, e⟩ := at_in h0 h1
  exact ⟨p, vs, j, v, rfl, rfl, SqL.of upd_same, e, q v hv _ (same_new hp)⟩
theorem n_tup2 {W1 : V → Hp → Prop} {W2 : V → V → Hp → Prop} (h1 : ValH ta σ H W1) (h2 : ∀ x H1, W1 x H1 → ValH tb σ H1 (W2 x)) (q : ∀ x H1 y H2 p, W1 x H1 → W2 x y H2 → H2 p = none → Q (.ref p) (upd H2 p (.tup [x, y]))) : tTup (tCons ta (tCons tb tNil)) σ H Q :=
  h1 _ fun x H1 w1 => h2 x H1 w1 _ fun y H2 w2 => ⟨by show 2 ≤ sizeLine; decide, fun p hp => q x H1 y H2 p w1 w2 hp⟩
theorem n_tup3 {W1 : V → Hp → Prop} {W2 W3 : V → V → Hp → Prop} (h1 : ValH ta σ H W1) (h2 : ∀ x H1, W1 x H1 → ValH tb σ H1 (W2 x)) (h3 : ∀ x H1 y H2, W1 x H1 → W2 x y H2 → ValH tc σ H2 (W3 y)) (q : ∀ x H1 y H2 z H3 p, W1 x H1 → W2 x y H2 → W3 y z H3 → H3 p = none → Q (.ref p) (upd H3 p (.tup [x, y, z]))) :
    tTup (tCons ta (tCons tb (tCons tc tNil))) σ H Q :=
  h1 _ fun x H1 w1 => h2 x H1 w1 _ fun y H2 w2 => h3 x H1 y H2 w1 w2 _ fun z H3 w3 => ⟨by show 3 ≤ sizeLine; decide, fun p hp => q x H1 y H2 z H3 p w1 w2 w3 hp⟩
theorem n_tup4 {W1 : V → Hp → Prop} {W2 W3 W4 : V → V → Hp → Prop} (h1 : ValH ta σ H W1) (h2 : ∀ x H1, W1 x H1 → ValH tb σ H1 (W2 x)) (h3 : ∀ x H1 y H2, W1 x H1 → W2 x y H2 → ValH tc σ H2 (W3 y)) (h4 : ∀ x H1 y H2 z H3, W1 x H1 → W2 x y H2 → W3 y z H3 → ValH td σ H3 (W4 z))
    (q : ∀ x H1 y H2 z H3 w H4 p, W1 x H1 → W2 x y H2 → W3 y z H3 → W4 z w H4 → H4 p = none → Q (.ref p) (upd H4 p (.tup [x, y, z, w]))) : tTup (tCons ta (tCons tb (tCons tc (tCons td tNil)))) σ H Q :=
  h1 _ fun x H1 w1 => h2 x H1 w1 _ fun y H2 w2 => h3 x H1 y H2 w1 w2 _ fun z H3 w3 => h4 x H1 y H2 z H3 w1 w2 w3 _ fun w H4 w4 => ⟨by show 4 ≤ sizeLine; decide, fun p hp => q x H1 y H2 z H3 w H4 p w1 w2 w3 w4 hp⟩
theorem vh_is (h : Val te σ H v) : ValH te σ H (fun v' H' => v' = v ∧ H' = H) := h.h
/-- a join behind an if: Mid holds of either way -/
theorem s_cut {t u : TS} (Mid : L2.St → Hp → Prop) (h : t { D with nx := Mid } σ H) (k : ∀ σ' H', Mid σ' H' → u D σ' H') : C8.tCut t u D σ H := ⟨Mid, h, k⟩
theorem ah_and {a b : Bool} {W : Hp → Prop} (h1 : Ans t σ H a) (h2 : AnsH u σ H b W) (w : W H) : AnsH (tAnd t u) σ H (a && b) W := fun Q q => by
  refine h1 _ ?_
  cases a with
  | true => exact iteT (h2 _ q)
  | false => exact iteF (q _ w)
theorem s_aug {a b : Int} {f : Int → Int → Int} (hx : σ[i]? = some (some (.int a))) (h : Val te σ H (.int b)) (k : D.nx (σ.set i (some (.int (f a b)))) H) : tAug i te (ipI f) D σ H := ⟨.int a, hx, h _ ⟨a, b, rfl, rfl, k⟩⟩
/-- xs[i] = e -/
theorem s_setL {l : Addr} {xs : List V} {j : Int} {m : Nat} (h : Val te σ H v) (ho : Val ta σ H (.ref l)) (hi : Val tb σ H (.int j)) (hl : H l = some (.lst xs)) (hj : ixN xs.length j = some m) (k : D.nx σ (upd H l (.lst (xs.set m v)))) : tAsg te (gSub ta tb rSetL) D σ H :=
  h _ (ho _ (hi _ ⟨l, xs, j, m, rfl, rfl, hl, hj, k⟩))
/-- for k in range(n) -/
theorem s_range {ta : TA} {n : Nat} {j : Nat} (hv : ValA ta σ H [.int n]) (hn : n ≤ 10000) (Pv : Nat → L2.St → Hp → Prop) (h0 : Pv 0 σ H)
    (hs : ∀ i σ' H', i < n → Pv i σ' H' → tb' { nx := Pv (i + 1), rt := D.rt, ct := Pv (i + 1), bk := u' D } (σ'.set j (some (.int i))) H') (hd : ∀ σ' H', Pv n σ' H' → u' D σ' H') : tSeq (tFor (iRng1 ta) (gName j) tb') u' D σ H := by
  refine s_seq (hv _ ⟨(n : Int), rfl, by omega, by omega, ?_⟩)
  rw [Int.toNat_natCast]
  refine for_range (lo := 0) (n := n) Pv h0 (fun i σ' H' hi p => ?_) hd
  show tb' _ (σ'.set j (some (.int (0 + (i : Int))))) H'
  rw [Int.zero_add]
  exact hs i σ' H' hi p
end
end K17
namespace K17
open PySem PySem.Spec PyProof.Rows L2
section
variable {P : Program} {w : World} {K : PySem.W.Frag} {mg : Str → Option Value} {base : Heap} {cl : Fin 10 → Addr}
/-! ### _law_cell_at -/
abbrev s_law_cell_at : Stmt := topS 29
abbrev n_law_cell_at : List Str := ["_law_script", "_law_k"]
abbrev p_law_cell_at : List Str := ["_law_script", "_law_k"]
theorem sc_law_cell_at : FnScope ["_law_script", "_law_k"] ["_law_script", "_law_k"] (defScope s_law_cell_at) := ⟨rfl, rfl, rfl, by decide +kernel, rfl, by decide +kernel, by decide +kernel⟩
def sp_law_cell_at (K : PySem.W.Frag) : Sp := fun vs H Q _ => ∃ (a : Addr) (ns : List Int) (k : Int), vs = [.ref a, .int k] ∧ SqL K H a (ns.map V.int) ∧ 0 ≤ k ∧ ∀ z : Int, Q (.int z) H
theorem ok_law_cell_at (T : Txt K mg cl) (d : Df K mg "_law_cell_at" s_law_cell_at) : Cal P w K mg base CX0 1 "_law_cell_at" ["_law_script", "_law_k"] (sp_law_cell_at K) := by
  obtain ⟨f, fd, F, g⟩ := d
  refine ⟨f, fd, g, F.kp, F.binds (fun _ _ _ _ _ _ us hl => match us, hl with | [_, _], _ => rfl), F.ok sc_law_cell_at (fun vs H Q E h => ?_) (fun cdv A outer s H vs Q E hr h => ?_)⟩
  · obtain ⟨a, ns, k, rfl, _⟩ := h
    rfl
  obtain ⟨a, ns, k, rfl, hS, hk, q⟩ := h
  refine ⟨_, (pss_cons (ps_if (pt_cmpR op_lt (pv 1) (pe_callB call_lenQ (by rfl) T.z_len PySem.boot_len (pa_cons (pv 0) pa_nil)) (nomark _)) (pss_one (ps_ret (pe_ix ix_list (pv 0) (pv 1) (fun _ _ => rfl)))) pss_nil)
    (pss_one (ps_ret pe_int))), ?_⟩
  refine s_ifs (b := decide (k < ((ns.map V.int).length : Int))) (by walk_at "a") (fun e => ?_) (fun e => s_ret val_c (q 0))
  obtain ⟨v, hv, hx⟩ := at_in hk (of_decide_eq_true e)
  obtain ⟨z, _, rfl⟩ := List.mem_map.mp hv
  exact s_ret (v := .int z) (by walk_at "v") (q z)
/-! ### _law_number -/
abbrev s_law_number : Stmt := topS 35
abbrev n_law_number : List Str := ["_law_number_here", "_law_many", "_law_bad"]
abbrev p_law_number : List Str := ["_law_number_here", "_law_many", "_law_bad"]
theorem sc_law_number : FnScope ["_law_number_here", "_law_many", "_law_bad"] ["_law_number_here", "_law_many", "_law_bad"] (defScope s_law_number) := ⟨rfl, rfl, rfl, by decide +kernel, rfl, by decide +kernel, by decide +kernel⟩
def sp_law_number : Sp := fun vs H Q _ => ∃ (n m b : Int), vs = [.int n, .int m, .int b] ∧ 0 ≤ m ∧ ∀ z : Int, Q (.int z) H
theorem ok_law_number (T : Txt K mg cl) (d : Df K mg "_law_number" s_law_number) : Cal P w K mg base CX0 1 "_law_number" ["_law_number_here", "_law_many", "_law_bad"] sp_law_number := by
  obtain ⟨f, fd, F, g⟩ := d
  refine ⟨f, fd, g, F.kp, F.binds (fun _ _ _ _ _ _ us hl => match us, hl with | [_, _, _], _ => rfl), F.ok sc_law_number (fun vs H Q E h => ?_) (fun cdv A outer s H vs Q E hr h => ?_)⟩
  · obtain ⟨n, m, b, rfl, _⟩ := h
    rfl
  obtain ⟨n, m, b, rfl, hm, q⟩ := h
  refine ⟨_, (pss_cons (ps_if (pt_cmpR op_eq (pe_op op_mod (pv 2) pe_int) pe_int (nomark _)) (pss_one (ps_ret (pe_op op_add (pv 1) (pe_op op_fdiv (pv 0) pe_int)))) pss_nil)
    (pss_cons (ps_if (pt_cmpR op_eq (pe_op op_mod (pv 2) pe_int) pe_int (nomark _)) (pss_one (ps_ret (pe_op op_sub (pe_un un_neg pe_int) (pe_op op_fdiv (pv 0) pe_int)))) pss_nil)
    (pss_cons (ps_if (pt_cmpR op_eq (pv 1) pe_int (nomark _)) (pss_one (ps_ret pe_int)) pss_nil)
    (pss_one (ps_ret (pe_op op_mod (pv 0) (pv 1))))))), ?_⟩
  refine s_ifs (b := decide (b % 12 = 1)) (by walk_at "a") (fun e => s_ret (v := .int (m + n / 7)) (by walk_at "v") (q _)) (fun e => ?_)
  refine s_ifs (b := decide (b % 12 = 3)) (by walk_at "a") (fun e => s_ret (v := .int (-1 - n / 7)) (by walk_at "v") (q _)) (fun e => ?_)
  refine s_ifs (b := decide (m = 0)) (by walk_at "a") (fun e => s_ret val_c (q _)) (fun e => ?_)
  have h0 : m ≠ 0 := of_decide_eq_false e
  have hm' : 0 < m := by omega
  exact s_ret (v := .int (n % m)) (by walk_at "v") (q _)
/-! ### _law_kind -/
abbrev s_law_kind : Stmt := topS 37
abbrev n_law_kind : List Str := ["_law_number_here", "_law_one", "_law_other", "_law_bad"]
abbrev p_law_kind : List Str := ["_law_number_here", "_law_one", "_law_other", "_law_bad"]
theorem sc_law_kind : FnScope ["_law_number_here", "_law_one", "_law_other", "_law_bad"] ["_law_number_here", "_law_one", "_law_other", "_law_bad"] (defScope s_law_kind) := ⟨rfl, rfl, rfl, by decide +kernel, rfl, by decide +kernel, by decide +kernel⟩
def sp_law_kind : Sp := fun vs H Q _ => ∃ (n b : Int) (x y : Str), vs = [.int n, .str x, .str y, .int b] ∧ WOk x ∧ WOk y ∧ ∀ (z : Str) H', TOk z → Same H H' → Q (.str z) H'
theorem ok_law_kind (T : Txt K mg cl) (d : Df K mg "_law_kind" s_law_kind) : Cal P w K mg base CX0 1 "_law_kind" ["_law_number_here", "_law_one", "_law_other", "_law_bad"] sp_law_kind := by
  obtain ⟨f, fd, F, g⟩ := d
  refine ⟨f, fd, g, F.kp, F.binds (fun _ _ _ _ _ _ us hl => match us, hl with | [_, _, _, _], _ => rfl), F.ok sc_law_kind (fun vs H Q E h => ?_) (fun cdv A outer s H vs Q E hr h => ?_)⟩
  · obtain ⟨n, b, x, y, rfl, _⟩ := h
    rfl
  obtain ⟨n, b, x, y, rfl, hx, hy, q⟩ := h
  refine ⟨_, (pss_cons (ps_if (pt_cmpR op_eq (pe_op op_mod (pv 3) pe_int) pe_int (nomark _)) (pss_one (ps_ret (pe_ix ix_list (pe_lst (pa_cons pe_str (pa_cons (pe_op op_addS (pv 1) (pv 2)) (pa_cons pe_str (pa_cons pe_str pa_nil))))) (pe_op op_mod (pv 0) pe_int) (fun _ _ => rfl)))) pss_nil)
    (pss_one (ps_ret (pe_ix ix_list (pe_lst (pa_cons (pv 1) (pa_cons (pv 2) pa_nil))) (pe_op op_mod (pv 0) pe_int) (fun _ _ => rfl))))), ?_⟩
  have hx1 := hx.1
  have hy1 := hy.1
  refine s_ifs (b := decide (b % 12 = 7)) (by walk_at "a") (fun e => p_ret (n_pick (vs := [.str "", .str (x ++ y), .str "none", .str "To"]) (j := n % 4) (va_cons val_c (va_cons (v_addS (by walk_at "v") (by walk_at "v") (by omega)) (va_cons val_c (va_cons val_c va_nil)))) (by show 4 ≤ 100; decide) (fun H' => by walk_at "v") (Int.emod_nonneg _ (by decide)) (Int.emod_lt_of_pos _ (by decide)) ?_)) (fun e =>
    p_ret (n_pick (vs := [.str x, .str y]) (j := n % 2) (va_cons (by walk_at "v") (va_cons (by walk_at "v") va_nil)) (by show 2 ≤ 100; decide) (fun H' => by walk_at "v") (Int.emod_nonneg _ (by decide)) (Int.emod_lt_of_pos _ (by decide)) ?_))
  · intro v hv H' sm
    simp only [List.mem_cons, List.not_mem_nil, or_false] at hv
    rcases hv with rfl | rfl | rfl | rfl
    · exact q _ _ ⟨by decide +kernel, written_cps (by decide +kernel)⟩ sm
    · exact q _ _ ⟨by rw [app_len]; omega, app_cps hx.2 hy.2⟩ sm
    · exact q _ _ ⟨by decide +kernel, written_cps (by decide +kernel)⟩ sm
    · exact q _ _ ⟨by decide +kernel, written_cps (by decide +kernel)⟩ sm
  · intro v hv H' sm
    simp only [List.mem_cons, List.not_mem_nil, or_false] at hv
    rcases hv with rfl | rfl
    · exact q _ _ hx.t sm
    · exact q _ _ hy.t sm
/-! ### _law_word -/
abbrev s_law_word : Stmt := topS 36
abbrev n_law_word : List Str := ["_law_number_here", "_law_words_here", "_law_bad", "_law_word_here"]
abbrev p_law_word : List Str := ["_law_number_here", "_law_words_here", "_law_bad"]
theorem sc_law_word : FnScope ["_law_number_here", "_law_words_here", "_law_bad", "_law_word_here"] ["_law_number_here", "_law_words_here", "_law_bad"] (defScope s_law_word) := ⟨rfl, rfl, rfl, by decide +kernel, rfl, by decide +kernel, by decide +kernel⟩
structure Wds (H : Hp) (a : Addr) (ws : List Str) : Prop where
  h : H a = some (.lst (ws.map V.str))
  n : ws.length = 9
  ok : ∀ x ∈ ws, WOk x
theorem Wds.mono {H H' : Hp} {a : Addr} {ws : List Str} (s : Same H H') (h : Wds H a ws) : Wds H' a ws := ⟨s _ _ h.h, h.n, h.ok⟩
def sp_law_word : Sp := fun vs H Q _ => ∃ (n b : Int) (a : Addr) (ws : List Str), vs = [.int n, .ref a, .int b] ∧ Wds H a ws ∧ ∀ (z : Str) H', TOk z → Same H H' → Q (.str z) H'
theorem ok_law_word (T : Txt K mg cl) (d : Df K mg "_law_word" s_law_word) : Cal P w K mg base CX0 1 "_law_word" ["_law_number_here", "_law_words_here", "_law_bad"] sp_law_word := by
  obtain ⟨f, fd, F, g⟩ := d
  refine ⟨f, fd, g, F.kp, F.binds (fun _ _ _ _ _ _ us hl => match us, hl with | [_, _, _], _ => rfl), F.ok sc_law_word (fun vs H Q E h => ?_) (fun cdv A outer s H vs Q E hr h => ?_)⟩
  · obtain ⟨n, b, a, ws, rfl, _⟩ := h
    rfl
  obtain ⟨n, b, a, ws, rfl, ⟨ha, hn, hw⟩, q⟩ := h
  refine ⟨_, (pss_cons (ps_set (i := 3) sc_law_word.nd rfl (Or.inl rfl) (pe_ix ix_list (pv 1) (pe_op op_mod (pv 0) (pe_callB call_lenQ (by rfl) T.z_len PySem.boot_len (pa_cons (pv 1) pa_nil))) (fun _ _ => rfl)))
    (pss_cons (ps_if (pt_cmpR op_eq (pe_op op_mod (pv 2) pe_int) pe_int (nomark _)) (pss_one (ps_ret (pe_ix ix_list (pe_lst (pa_cons pe_str (pa_cons (pe_op op_addS (pe_op op_addS (pv 3) (pv 3)) pe_str) (pa_cons (pe_op op_addS (pe_slice sl_str (pv 3) (po_some pe_int) po_none) pe_str) (pa_cons (pe_op op_addS (pe_slice sl_str (pv 3) po_none (po_some pe_int)) pe_str) pa_nil))))) (pe_op op_mod (pe_op op_fdiv (pv 0) pe_int) pe_int) (fun _ _ => rfl)))) pss_nil)
    (pss_one (ps_ret (pv 3))))), ?_⟩
  have hpos : 0 < (ws.map V.str).length := by rw [List.length_map]; omega
  have hposI : (0 : Int) < ((ws.map V.str).length : Int) := by omega
  obtain ⟨v, hv, hx⟩ := at_mod hpos n
  obtain ⟨x, hxm, rfl⟩ := List.mem_map.mp hv
  have ok := hw x hxm
  have hx1 := ok.1
  refine s_sets (v := .str x) (by walk_at "v") ?_
  have l8 : ("abcdefgh" : Str).length = 8 := by decide +kernel
  have lQ : ("Q" : Str).length = 1 := by decide +kernel
  have la : (" a" : Str).length = 2 := by decide +kernel
  have lc1 := cutS_length x (some 1) none
  have lc3 := cutS_length x none (some 3)
  refine s_ifs (b := decide (b % 12 = 5)) (by walk_at "a") (fun e => p_ret (n_pick (vs := [.str "", .str (x ++ x ++ "abcdefgh"), .str (cutS x (some 1) none ++ "Q"), .str (cutS x none (some 3) ++ " a")]) (j := n / 9 % 4)
    (va_cons val_c (va_cons (v_addS (v_addS (by walk_at "v") (by walk_at "v") (by omega)) val_c (by rw [app_len]; omega)) (va_cons (v_addS (v_cutS (by walk_at "v") (o_some val_c) o_none (by omega)) val_c (by omega)) (va_cons (v_addS (v_cutS (by walk_at "v") o_none (o_some val_c) (by omega)) val_c (by omega)) va_nil)))) (by show 4 ≤ 100; decide) (fun H' => by walk_at "v") (Int.emod_nonneg _ (by decide)) (Int.emod_lt_of_pos _ (by decide)) ?_)) (fun e => s_ret (by walk_at "v") (q x _ ok.t (Same.refl _)))
  intro v hv H' sm
  simp only [List.mem_cons, List.not_mem_nil, or_false] at hv
  rcases hv with rfl | rfl | rfl | rfl
  · exact q _ _ ⟨by decide +kernel, written_cps (by decide +kernel)⟩ sm
  · exact q _ _ ⟨by rw [app_len, app_len]; omega, app_cps (app_cps ok.2 ok.2) (written_cps (by decide +kernel))⟩ sm
  · exact q _ _ ⟨by rw [app_len]; omega, app_cps (cut_cps ok.2) (written_cps (by decide +kernel))⟩ sm
  · exact q _ _ ⟨by rw [app_len]; omega, app_cps (cut_cps ok.2) (written_cps (by decide +kernel))⟩ sm
end
end K17
namespace K17
open PySem PySem.Spec PyProof.Rows L2
section
variable {P : Program} {w : World} {K : PySem.W.Frag} {mg : Str → Option Value} {base : Heap} {cl : Fin 10 → Addr}
/-! ### _law_words -/
abbrev s_law_words : Stmt := topS 30
abbrev n_law_words : List Str := ["_law_cell", "_law_many", "_law_letters", "_law_size", "_law_at", "_law_words_here", "_law_k", "_law_word_here", "_law_j", "_law_number_here"]
abbrev p_law_words : List Str := ["_law_cell", "_law_many"]
theorem sc_law_words : FnScope ["_law_cell", "_law_many", "_law_letters", "_law_size", "_law_at", "_law_words_here", "_law_k", "_law_word_here", "_law_j", "_law_number_here"] ["_law_cell", "_law_many"] (defScope s_law_words) := ⟨rfl, rfl, rfl, by decide +kernel, rfl, by decide +kernel, by decide +kernel⟩
def sp_law_words : Sp := fun vs H Q _ => ∃ c : Int, vs = [.int c, .int ((9 : Nat) : Int)] ∧ ∀ p H' ws, Same H H' → Wds H' p ws → Q (.ref p) H'
theorem letter_at (n : Int) : ∃ a, atI letters.cps.toList (n % 26) = some a ∧ a < 0x110000 := by
  obtain ⟨a, ha, e⟩ := at_mod (xs := letters.cps.toList) (by rw [letters_len]; decide) n
  rw [letters_len] at e
  exact ⟨a, e, letters_cps a ha⟩
theorem one_cps {a : Nat} (h : a < 0x110000) : ∀ c ∈ (⟨#[a]⟩ : Str).cps.toList, c < 0x110000 := fun c hc => by
  have : c = a := by simpa using hc
  rw [this]
  exact h
theorem one_len {a : Nat} : (⟨#[a]⟩ : Str).length = 1 := rfl
theorem ok_law_words (T : Txt K mg cl) (d : Df K mg "_law_words" s_law_words) : Cal P w K mg base CX0 1 "_law_words" ["_law_cell", "_law_many"] sp_law_words := by
  obtain ⟨f, fd, F, g⟩ := d
  refine ⟨f, fd, g, F.kp, F.binds (fun _ _ _ _ _ _ us hl => match us, hl with | [_, _], _ => rfl), F.ok sc_law_words (fun vs H Q E h => ?_) (fun cdv A outer s H vs Q E hr h => ?_)⟩
  · obtain ⟨c, rfl, _⟩ := h
    rfl
  obtain ⟨c, rfl, q⟩ := h
  refine ⟨_, (pss_cons (ps_set (i := 2) sc_law_words.nd rfl (Or.inl rfl) pe_str)
    (pss_cons (ps_set (i := 3) sc_law_words.nd rfl (Or.inl rfl) (pe_op op_add pe_int (pe_op op_mod (pv 0) pe_int)))
    (pss_cons (ps_set (i := 4) sc_law_words.nd rfl (Or.inl rfl) (pe_op op_mod (pe_op op_fdiv (pv 0) pe_int) (pv 3)))
    (pss_cons (ps_set (i := 5) sc_law_words.nd rfl (Or.inl rfl) (pe_lst pa_nil))
    (pss_cons (ps_for PassesOwn.never rfl (pi_range1 (by rfl) T.z_range (pa_cons (pv 1) pa_nil)) (pg_name (i := 6) sc_law_words.nd rfl (Or.inl rfl))
      (pss_cons (ps_set (i := 7) sc_law_words.nd rfl (Or.inl rfl) pe_str)
      (pss_cons (ps_for PassesOwn.never rfl (pi_range1 (by rfl) T.z_range (pa_cons (pv 3) pa_nil)) (pg_name (i := 8) sc_law_words.nd rfl (Or.inl rfl))
        (pss_cons (ps_set (i := 9) sc_law_words.nd rfl (Or.inl rfl) (pe_op op_add (pe_op op_fdiv (pe_op op_fdiv (pv 0) pe_int) (pe_op op_add (pv 8) pe_int)) (pe_op op_mul (pv 8) (pv 8))))
        (C8.pss_cut (ps_if (pt_cmpR op_eq (pv 8) (pv 4) (nomark _)) (pss_one (ps_aug (i := 9) sc_law_words.nd rfl (Or.inl rfl) (pv 6) ip_add)) pss_nil)
        (pss_one (ps_set (i := 7) sc_law_words.nd rfl (Or.inl rfl) (pe_op op_addS (pv 7) (pe_ix ix_str (pv 2) (pe_op op_mod (pv 9) pe_int) (fun _ _ => rfl))))))))
      (pss_one (ps_expr (pe_bm PySem.F.plainAttrs_list PySem.F.slot_list_append PySem.F.type_list_append mt_append (pv 5) (pa_cons (pv 7) pa_nil)))))))
    (C8.pss_cut (ps_if (pt_cmpR op_eq (pe_op op_mod (pe_op op_fdiv (pv 0) pe_int) pe_int) pe_int (nomark _)) (pss_one (ps_asg (pe_op op_addS (pe_ix ix_list (pv 5) pe_int (fun _ _ => rfl)) (pe_ix ix_str (pv 2) (pe_op op_mod (pe_op op_fdiv (pv 0) pe_int) pe_int) (fun _ _ => rfl))) (pg_sub (pv 5) pe_int set_list))) pss_nil)
    (pss_one (ps_ret (pv 5))))))))), ?_⟩
  have lL : letters.length ≤ 100 := by rw [letters_len']; decide
  refine s_sets (v := .str letters) val_c ?_
  refine s_sets (v := .int (1 + c % 7)) (by walk_at "v") ?_
  obtain ⟨m, hm⟩ : ∃ m : Nat, 1 + c % 7 = (m : Int) := ⟨(1 + c % 7).toNat, by omega⟩
  have hm7 : m ≤ 7 := by omega
  have hm1 : 1 ≤ m := by omega
  rw [hm]
  refine s_sets (v := .int (c / 7 % (m : Int))) (by walk_at "v") ?_
  generalize c / 7 % (m : Int) = at'
  refine s_setsH vh_nil ?_
  rintro _ _ ⟨p, rfl, hp, rfl⟩
  refine s_range (n := 9) (va_cons (val_var rfl) va_nil) (by decide) (fun k σ' H' => ∃ v6 v7 v8 v9 ws, σ' = [some (.int c), some (.int ((9 : Nat) : Int)), some (.str letters), some (.int m), some (.int at'), some (.ref p), v6, v7, v8, v9] ∧ Same H H' ∧ H' p = some (.lst (ws.map V.str)) ∧ ws.length = k ∧ ∀ x ∈ ws, x.length ≤ 7 ∧ ∀ c ∈ x.cps.toList, c < 0x110000)
    ⟨_, _, _, _, [], rfl, same_new hp, upd_same, rfl, fun x hx => absurd hx List.not_mem_nil⟩ ?_ ?_
  · rintro k σ' H' hk ⟨v6, v7, v8, v9, ws, rfl, sm, hl, hn, hw⟩
    refine s_sets (v := .str "") val_c ?_
    refine s_range (n := m) (va_cons (val_var rfl) va_nil) (by omega) (fun j σ' H2 => ∃ v8 v9 x, σ' = [some (.int c), some (.int ((9 : Nat) : Int)), some (.str letters), some (.int m), some (.int at'), some (.ref p), some (.int k), some (.str x), v8, v9] ∧ H2 = H' ∧ x.length = j ∧ ∀ c ∈ x.cps.toList, c < 0x110000)
      ⟨_, _, "", rfl, rfl, by decide +kernel, written_cps (by decide +kernel)⟩ ?_ ?_
    · rintro j σ' H2 hj ⟨v8, v9, x, rfl, rfl, hx, hc⟩
      refine s_sets (v := .int (c / 49 / ((j : Int) + 1) + (j : Int) * (j : Int))) (by walk_at "v") ?_
      refine s_cut (fun σ' H3 => (∃ n : Int, σ' = [some (.int c), some (.int ((9 : Nat) : Int)), some (.str letters), some (.int m), some (.int at'), some (.ref p), some (.int k), some (.str x), some (.int j), some (.int n)]) ∧ H3 = H2) (s_if (b := decide ((j : Int) = at')) (by walk_at "a") (fun _ => s_aug rfl (by walk_at "v") ⟨⟨_, rfl⟩, rfl⟩) (fun _ => s_next ⟨⟨_, rfl⟩, rfl⟩)) ?_
      rintro σ' H3 ⟨⟨n, rfl⟩, rfl⟩
      obtain ⟨a, ha, hal⟩ := letter_at n
      refine s_set (v := .str (x ++ ⟨#[a]⟩)) (v_addS (by walk_at "v") (v_ixS (by walk_at "v") (by walk_at "v") lL ha) (by rw [hx, one_len]; omega)) ⟨_, _, _, rfl, rfl, by rw [app_len, hx, one_len], app_cps hc (one_cps hal)⟩
    · rintro σ' H2 ⟨v8, v9, x, rfl, rfl, hx, hc⟩
      refine s_append hl (by walk_at "v") (by walk_at "v") (by rw [List.length_map]; omega) ⟨_, _, _, _, ws ++ [x], rfl, same_mut sm hp, upd_same.trans (by rw [List.map_append]; rfl), by rw [List.length_append, hn]; rfl, fun y hy => ?_⟩
      rcases List.mem_append.mp hy with hy | hy
      · exact hw y hy
      · rw [List.mem_singleton.mp hy]
        exact ⟨by omega, hc⟩
  rintro σ' H' ⟨v6, v7, v8, v9, ws, rfl, sm, hl, hn, hw⟩
  have hpos : ((0 : Int) < (ws.map V.str).length) := by rw [List.length_map, hn]; decide
  obtain ⟨v0, hv0, h0⟩ := at_in (xs := ws.map V.str) (n := 0) (by decide) hpos
  obtain ⟨x0, hx0, rfl⟩ := List.mem_map.mp hv0
  obtain ⟨hx7, hxc⟩ := hw x0 hx0
  obtain ⟨a, ha, hal⟩ := letter_at (c / 147)
  refine s_cut (fun σ' H3 => ∃ v6 v7 v8 v9 ws, σ' = [some (.int c), some (.int ((9 : Nat) : Int)), some (.str letters), some (.int m), some (.int at'), some (.ref p), v6, v7, v8, v9] ∧ Same H H3 ∧ Wds H3 p ws) (s_if (b := decide (c / 49 % 3 = 1)) (by walk_at "a")
    (fun _ => s_setL (v := .str (x0 ++ ⟨#[a]⟩)) (m := 1) (v_addS (by walk_at "v") (v_ixS (by walk_at "v") (by walk_at "v") lL ha) (by rw [one_len]; omega)) (by walk_at "v") val_c hl (by rw [List.length_map, hn]; rfl) ⟨_, _, _, _, ws.set 1 (x0 ++ ⟨#[a]⟩), rfl, same_mut sm hp, upd_same.trans (by rw [List.map_set]), by rw [List.length_set, hn], fun y hy => ?_⟩)
    (fun _ => s_next ⟨_, _, _, _, ws, rfl, sm, hl, hn, fun y hy => ⟨Nat.le_trans (hw y hy).1 (by decide), (hw y hy).2⟩⟩)) ?_
  · rcases List.mem_or_eq_of_mem_set hy with hy | rfl
    · exact ⟨Nat.le_trans (hw y hy).1 (by decide), (hw y hy).2⟩
    · exact ⟨by rw [app_len, one_len]; omega, app_cps hxc (one_cps hal)⟩
  rintro σ' H3 ⟨v6, v7, v8, v9, ws, rfl, sm3, hW⟩
  exact s_ret (by walk_at "v") (q p H3 ws sm3 hW)
end
end K17
namespace K17
open PySem PySem.Spec PyProof.Rows L2
section
variable {P : Program} {w : World} {K : PySem.W.Frag} {mg : Str → Option Value} {base : Heap} {cl : Fin 10 → Addr}
structure Pts (H : Hp) (p s t q : Addr) (ls lt lq : List V) : Prop where
  p : H p = some (.tup [.ref s, .ref t, .ref q])
  s : H s = some (.lst ls)
  t : H t = some (.lst lt)
  q : H q = some (.lst lq)
theorem Pts.mono {H H' : Hp} {p s t q : Addr} {ls lt lq : List V} (e : Same H H') (h : Pts H p s t q ls lt lq) : Pts H' p s t q ls lt lq := ⟨e _ _ h.p, e _ _ h.s, e _ _ h.t, e _ _ h.q⟩
theorem vh_num {σ : L2.St} {H : Hp} {ta tb tc : TE} {n m b : Int} (h1 : Val ta σ H (.int n)) (h2 : Val tb σ H (.int m)) (hm : 0 ≤ m) (h3 : Val tc σ H (.int b)) : ValH (tCall sp_law_number [] E0 (tCons ta (tCons tb (tCons tc tNil)))) σ H (fun v H' => (∃ z, v = .int z) ∧ H' = H) :=
  vh_call (va_cons h1 (va_cons h2 (va_cons h3 va_nil))) fun Q E k => ⟨n, m, b, rfl, hm, fun z => k _ _ ⟨⟨z, rfl⟩, rfl⟩⟩
theorem vh_kind {σ : L2.St} {H : Hp} {ta tb tc td : TE} {n b : Int} {x y : Str} (h1 : Val ta σ H (.int n)) (h2 : Val tb σ H (.str x)) (h3 : Val tc σ H (.str y)) (h4 : Val td σ H (.int b)) (hx : WOk x) (hy : WOk y) :
    ValH (tCall sp_law_kind [] E0 (tCons ta (tCons tb (tCons tc (tCons td tNil))))) σ H (fun v H' => ∃ z, v = .str z ∧ TOk z ∧ Same H H') :=
  vh_call (va_cons h1 (va_cons h2 (va_cons h3 (va_cons h4 va_nil)))) fun Q E k => ⟨n, b, x, y, rfl, hx, hy, fun z H' ok sm => k _ _ ⟨z, rfl, ok, sm⟩⟩
theorem vh_word {σ : L2.St} {H : Hp} {ta tb tc : TE} {n b : Int} {a : Addr} {ws : List Str} (h1 : Val ta σ H (.int n)) (h2 : Val tb σ H (.ref a)) (h3 : Val tc σ H (.int b)) (hw : Wds H a ws) :
    ValH (tCall sp_law_word [] E0 (tCons ta (tCons tb (tCons tc tNil)))) σ H (fun v H' => ∃ z, v = .str z ∧ TOk z ∧ Same H H') :=
  vh_call (va_cons h1 (va_cons h2 (va_cons h3 va_nil))) fun Q E k => ⟨n, b, a, ws, rfl, hw, fun z H' ok sm => k _ _ ⟨z, rfl, ok, sm⟩⟩
theorem wok_of {x : Str} (h : (decide (x.length ≤ 8) && x.cps.toList.all fun c => decide (c < 0x110000)) = true) : WOk x := by
  rw [Bool.and_eq_true] at h
  exact ⟨of_decide_eq_true h.1, written_cps h.2⟩
theorem w_plain : WOk "plain" := wok_of (by decide +kernel)
theorem w_part : WOk "part" := wok_of (by decide +kernel)
theorem w_sort : WOk "sort" := wok_of (by decide +kernel)
theorem w_to : WOk "to" := wok_of (by decide +kernel)
theorem w_by : WOk "by" := wok_of (by decide +kernel)
theorem w_thing : WOk "thing" := wok_of (by decide +kernel)
/-! ### _law_thing -/
abbrev s_law_thing : Stmt := topS 39
abbrev n_law_thing : List Str := ["_law_number_here", "_law_parts", "_law_bad"]
abbrev p_law_thing : List Str := ["_law_number_here", "_law_parts", "_law_bad"]
theorem sc_law_thing : FnScope ["_law_number_here", "_law_parts", "_law_bad"] ["_law_number_here", "_law_parts", "_law_bad"] (defScope s_law_thing) := ⟨rfl, rfl, rfl, by decide +kernel, rfl, by decide +kernel, by decide +kernel⟩
def sp_law_thing : Sp := fun vs H Q _ => ∃ (n b : Int) (p s t q : Addr) (ls lt lq : List V), vs = [.int n, .ref p, .int b] ∧ Pts H p s t q ls lt lq ∧ ∀ v H' y, Same H H' → VThg H' v y → ThOk y → Q v H'
theorem ok_law_thing (T : Txt K mg cl) (d : Df K mg "_law_thing" s_law_thing) (c_law_number : Cal P w K mg base CX0 1 "_law_number" p_law_number sp_law_number) (c_law_kind : Cal P w K mg base CX0 1 "_law_kind" p_law_kind sp_law_kind) : Cal P w K mg base CX0 2 "_law_thing" ["_law_number_here", "_law_parts", "_law_bad"] sp_law_thing := by
  obtain ⟨f, fd, F, g⟩ := d
  refine ⟨f, fd, g, F.kp, F.binds (fun _ _ _ _ _ _ us hl => match us, hl with | [_, _, _], _ => rfl), F.ok sc_law_thing (fun vs H Q E h => ?_) (fun cdv A outer s H vs Q E hr h => ?_)⟩
  · obtain ⟨n, b, p, s, t, q, ls, lt, lq, rfl, _⟩ := h
    rfl
  obtain ⟨n, b, p, s, t, q, ls, lt, lq, rfl, ⟨hp, hs, ht, hq⟩, qq⟩ := h
  refine ⟨_, (pss_cons (ps_if (pt_cmpR op_eq (pe_op op_mod (pv 0) pe_int) pe_int (nomark _)) (pss_one (ps_ret (pe_tup (pa_cons (pe_cal c_law_kind hr (by decide) (by rfl) (pa_cons pe_int (pa_cons pe_str (pa_cons pe_str (pa_cons (pv 2) pa_nil))))) (pa_cons (pe_op op_mul (pe_op op_mod (pv 0) pe_int) (pe_callTy call_intOf (by rfl) T.z_int boot_intT (pa_cons (pe_cmpR op_eq (pe_op op_mod (pv 2) pe_int) pe_int (nomark _)) pa_nil))) pa_nil))))) pss_nil)
    (pss_cons (ps_if (pt_cmpR op_eq (pe_op op_mod (pv 0) pe_int) pe_int (nomark _)) (pss_one (ps_ret (pe_tup (pa_cons pe_str (pa_cons (pe_cal c_law_number hr (by decide) (by rfl) (pa_cons (pe_op op_fdiv (pv 0) pe_int) (pa_cons (pe_callB call_lenQ (by rfl) T.z_len PySem.boot_len (pa_cons (pe_ix ix_tup (pv 1) pe_int (fun _ _ => rfl)) pa_nil)) (pa_cons (pv 2) pa_nil)))) pa_nil))))) pss_nil)
    (pss_one (ps_ret (pe_tup (pa_cons (pe_cal c_law_kind hr (by decide) (by rfl) (pa_cons pe_int (pa_cons pe_str (pa_cons pe_str (pa_cons (pv 2) pa_nil))))) (pa_cons (pe_cal c_law_number hr (by decide) (by rfl) (pa_cons (pe_op op_fdiv (pv 0) pe_int) (pa_cons (pe_callB call_lenQ (by rfl) T.z_len PySem.boot_len (pa_cons (pe_ix ix_tup (pv 1) pe_int (fun _ _ => rfl)) pa_nil)) (pa_cons (pv 2) pa_nil)))) pa_nil))))))), ?_⟩
  refine s_ifs (b := decide (n % 3 = 0)) (by walk_at "a") (fun _ => p_ret (n_tup2 (W2 := fun _ v H' => (∃ z, v = .int z) ∧ Same H H') (vh_kind val_c val_c val_c (by walk_at "v") w_plain w_plain)
    (fun x H1 w1 => vh_mono (vh_is (v := .int (n % 2 * (if decide (b % 12 = 1) = true then 1 else 0))) (v_I (by walk_at "v") (v_intB (by walk_at "v")) mul_b2)) fun v H' ⟨e1, e2⟩ => ⟨⟨_, e1⟩, by obtain ⟨_, _, _, sm⟩ := w1; rw [e2]; exact sm⟩) ?_)) (fun _ => ?_)
  · rintro x H1 y H2 r ⟨z, rfl, ok, _⟩ ⟨⟨k, rfl⟩, sm⟩ hr
    exact qq _ _ (z, k) (same_new2 sm hr) ⟨r, rfl, upd_same⟩ ok
  refine s_ifs (b := decide (n % 3 = 1)) (by walk_at "a") (fun _ => p_ret (n_tup2 (W2 := fun _ v H' => (∃ z, v = .int z) ∧ H' = H) (vh_is val_c) (fun x H1 w1 => by rw [w1.2]; exact vh_num (by walk_at "v") (by walk_at "v") (by omega) (by walk_at "v")) ?_)) (fun _ => ?_)
  · rintro x H1 y H2 r ⟨rfl, rfl⟩ ⟨⟨k, rfl⟩, rfl⟩ hr
    exact qq _ _ ("part", k) (same_new hr) ⟨r, rfl, upd_same⟩ w_part.t
  refine p_ret (n_tup2 (W2 := fun _ v H' => (∃ z, v = .int z) ∧ Same H H') (vh_kind val_c val_c val_c (by walk_at "v") w_part w_sort) ?_ ?_)
  · rintro x H1 ⟨z, rfl, ok, sm⟩
    have hp1 := sm _ _ hp
    have hq1 := sm _ _ hq
    exact vh_mono (vh_num (by walk_at "v") (by walk_at "v") (by omega) (by walk_at "v")) fun v H' ⟨e1, e2⟩ => ⟨e1, by rw [e2]; exact sm⟩
  · rintro x H1 y H2 r ⟨z, rfl, ok, _⟩ ⟨⟨k, rfl⟩, sm⟩ hr
    exact qq _ _ (z, k) (same_new2 sm hr) ⟨r, rfl, upd_same⟩ ok
/-! ### _law_step -/
abbrev s_law_step : Stmt := topS 40
abbrev n_law_step : List Str := ["_law_number_here", "_law_words_here", "_law_parts", "_law_bad", "_law_label", "_law_kind_here", "_law_many"]
abbrev p_law_step : List Str := ["_law_number_here", "_law_words_here", "_law_parts", "_law_bad"]
theorem sc_law_step : FnScope ["_law_number_here", "_law_words_here", "_law_parts", "_law_bad", "_law_label", "_law_kind_here", "_law_many"] ["_law_number_here", "_law_words_here", "_law_parts", "_law_bad"] (defScope s_law_step) := ⟨rfl, rfl, rfl, by decide +kernel, rfl, by decide +kernel, by decide +kernel⟩
def sp_law_step : Sp := fun vs H Q _ => ∃ (n b : Int) (a : Addr) (ws : List Str) (p s t q : Addr) (ls lt lq : List V), vs = [.int n, .ref a, .ref p, .int b] ∧ Wds H a ws ∧ Pts H p s t q ls lt lq ∧ ∀ v H' y, Same H H' → VStep H' v y → StOk y → Q v H'
theorem ok_law_step (T : Txt K mg cl) (d : Df K mg "_law_step" s_law_step) (c_law_number : Cal P w K mg base CX0 1 "_law_number" p_law_number sp_law_number) (c_law_kind : Cal P w K mg base CX0 1 "_law_kind" p_law_kind sp_law_kind) (c_law_word : Cal P w K mg base CX0 1 "_law_word" p_law_word sp_law_word) : Cal P w K mg base CX0 2 "_law_step" ["_law_number_here", "_law_words_here", "_law_parts", "_law_bad"] sp_law_step := by
  obtain ⟨f, fd, F, g⟩ := d
  refine ⟨f, fd, g, F.kp, F.binds (fun _ _ _ _ _ _ us hl => match us, hl with | [_, _, _, _], _ => rfl), F.ok sc_law_step (fun vs H Q E h => ?_) (fun cdv A outer s H vs Q E hr h => ?_)⟩
  · obtain ⟨n, b, a, ws, p, s, t, q, ls, lt, lq, rfl, _⟩ := h
    rfl
  obtain ⟨n, b, a, ws, p, s, t, q, ls, lt, lq, rfl, hW, hP, qq⟩ := h
  refine ⟨_, (pss_cons (ps_set (i := 4) sc_law_step.nd rfl (Or.inl rfl) (pe_cal c_law_word hr (by decide) (by rfl) (pa_cons (pv 0) (pa_cons (pv 1) (pa_cons (pv 3) pa_nil)))))
    (pss_cons (ps_set (i := 5) sc_law_step.nd rfl (Or.inl rfl) (pe_cal c_law_kind hr (by decide) (by rfl) (pa_cons (pe_op op_fdiv (pv 0) pe_int) (pa_cons pe_str (pa_cons pe_str (pa_cons (pv 3) pa_nil))))))
    (pss_cons (ps_set (i := 6) sc_law_step.nd rfl (Or.inl rfl) (pe_callB call_lenQ (by rfl) T.z_len PySem.boot_len (pa_cons (pe_ix ix_tup (pv 2) pe_int (fun _ _ => rfl)) pa_nil)))
    (C8.pss_cut (ps_if (pt_cmpR op_eq (pv 5) pe_str (nomark _)) (pss_one (ps_set (i := 6) sc_law_step.nd rfl (Or.inl rfl) (pe_callB call_lenQ (by rfl) T.z_len PySem.boot_len (pa_cons (pe_ix ix_tup (pv 2) pe_int (fun _ _ => rfl)) pa_nil)))) pss_nil)
    (pss_one (ps_ret (pe_tup (pa_cons (pv 4) (pa_cons (pv 5) (pa_cons (pe_cal c_law_number hr (by decide) (by rfl) (pa_cons (pe_op op_fdiv (pv 0) pe_int) (pa_cons (pv 6) (pa_cons (pv 3) pa_nil)))) pa_nil)))))))))), ?_⟩
  refine s_setsH (vh_word (by walk_at "v") (by walk_at "v") (by walk_at "v") hW) ?_
  rintro _ H1 ⟨lb, rfl, okl, s1⟩
  refine s_setsH (vh_kind (by walk_at "v") val_c val_c (by walk_at "v") w_to w_by) ?_
  rintro _ H2 ⟨kd, rfl, okk, s2⟩
  obtain ⟨hp, hs, ht, hq⟩ := hP.mono (s1.trans s2)
  refine s_sets (v := .int ls.length) (by walk_at "v") ?_
  refine s_cut (fun σ' H3 => (∃ m : Nat, σ' = [some (.int n), some (.ref a), some (.ref p), some (.int b), some (.str lb), some (.str kd), some (.int m)]) ∧ H3 = H2) (s_if (b := decide (kd = "by")) (by walk_at "a") (fun _ => s_set (v := .int lq.length) (by walk_at "v") ⟨⟨_, rfl⟩, rfl⟩) (fun _ => s_next ⟨⟨_, rfl⟩, rfl⟩)) ?_
  rintro σ' H3 ⟨⟨m, rfl⟩, rfl⟩
  refine p_ret (n_tup3 (W1 := fun v H' => v = .str lb ∧ H' = H3) (W2 := fun _ v H' => v = .str kd ∧ H' = H3) (W3 := fun _ v H' => (∃ z, v = .int z) ∧ H' = H3) (vh_is (by walk_at "v")) (fun x H1 w1 => by rw [w1.2]; exact vh_is (by walk_at "v")) (fun x H1 y H2 w1 w2 => by rw [w2.2]; exact vh_num (by walk_at "v") (by walk_at "v") (by omega) (by walk_at "v")) ?_)
  rintro x H1 y H2 z H4 r ⟨rfl, _⟩ ⟨rfl, _⟩ ⟨⟨k, rfl⟩, rfl⟩ hr
  exact qq _ _ (lb, kd, k) (same_new2 (s1.trans s2) hr) ⟨r, rfl, upd_same⟩ ⟨okl, okk⟩
/-! ### _law_telling -/
abbrev s_law_telling : Stmt := topS 41
abbrev n_law_telling : List Str := ["_law_number_here", "_law_words_here", "_law_parts", "_law_bad", "_law_label", "_law_name", "_law_kind_here", "_law_many"]
abbrev p_law_telling : List Str := ["_law_number_here", "_law_words_here", "_law_parts", "_law_bad"]
theorem sc_law_telling : FnScope ["_law_number_here", "_law_words_here", "_law_parts", "_law_bad", "_law_label", "_law_name", "_law_kind_here", "_law_many"] ["_law_number_here", "_law_words_here", "_law_parts", "_law_bad"] (defScope s_law_telling) := ⟨rfl, rfl, rfl, by decide +kernel, rfl, by decide +kernel, by decide +kernel⟩
def sp_law_telling : Sp := fun vs H Q _ => ∃ (n b : Int) (a : Addr) (ws : List Str) (p s t q : Addr) (ls lt lq : List V), vs = [.int n, .ref a, .ref p, .int b] ∧ Wds H a ws ∧ Pts H p s t q ls lt lq ∧ ∀ v H' y, Same H H' → VTell H' v y → TeOk y → Q v H'
theorem ok_law_telling (T : Txt K mg cl) (d : Df K mg "_law_telling" s_law_telling) (c_law_number : Cal P w K mg base CX0 1 "_law_number" p_law_number sp_law_number) (c_law_kind : Cal P w K mg base CX0 1 "_law_kind" p_law_kind sp_law_kind) (c_law_word : Cal P w K mg base CX0 1 "_law_word" p_law_word sp_law_word) : Cal P w K mg base CX0 2 "_law_telling" ["_law_number_here", "_law_words_here", "_law_parts", "_law_bad"] sp_law_telling := by
  obtain ⟨f, fd, F, g⟩ := d
  refine ⟨f, fd, g, F.kp, F.binds (fun _ _ _ _ _ _ us hl => match us, hl with | [_, _, _, _], _ => rfl), F.ok sc_law_telling (fun vs H Q E h => ?_) (fun cdv A outer s H vs Q E hr h => ?_)⟩
  · obtain ⟨n, b, a, ws, p, s, t, q, ls, lt, lq, rfl, _⟩ := h
    rfl
  obtain ⟨n, b, a, ws, p, s, t, q, ls, lt, lq, rfl, hW, hP, qq⟩ := h
  refine ⟨_, (pss_cons (ps_set (i := 4) sc_law_telling.nd rfl (Or.inl rfl) (pe_cal c_law_word hr (by decide) (by rfl) (pa_cons (pv 0) (pa_cons (pv 1) (pa_cons (pe_op op_mul (pv 3) (pe_op op_mod (pe_op op_fdiv (pv 0) pe_int) pe_int)) pa_nil)))))
    (pss_cons (ps_set (i := 5) sc_law_telling.nd rfl (Or.inl rfl) (pe_cal c_law_word hr (by decide) (by rfl) (pa_cons (pe_op op_fdiv (pv 0) pe_int) (pa_cons (pv 1) (pa_cons (pe_op op_mul (pv 3) (pe_op op_sub pe_int (pe_op op_mod (pe_op op_fdiv (pv 0) pe_int) pe_int))) pa_nil)))))
    (pss_cons (ps_set (i := 6) sc_law_telling.nd rfl (Or.inl rfl) (pe_cal c_law_kind hr (by decide) (by rfl) (pa_cons (pe_op op_fdiv (pv 0) pe_int) (pa_cons pe_str (pa_cons pe_str (pa_cons (pv 3) pa_nil))))))
    (pss_cons (ps_set (i := 7) sc_law_telling.nd rfl (Or.inl rfl) (pe_callB call_lenQ (by rfl) T.z_len PySem.boot_len (pa_cons (pe_ix ix_tup (pv 2) pe_int (fun _ _ => rfl)) pa_nil)))
    (C8.pss_cut (ps_if (pt_cmpR op_eq (pv 6) pe_str (nomark _)) (pss_one (ps_set (i := 7) sc_law_telling.nd rfl (Or.inl rfl) (pe_callB call_lenQ (by rfl) T.z_len PySem.boot_len (pa_cons (pe_ix ix_tup (pv 2) pe_int (fun _ _ => rfl)) pa_nil)))) pss_nil)
    (pss_one (ps_ret (pe_tup (pa_cons (pv 4) (pa_cons (pv 5) (pa_cons (pv 6) (pa_cons (pe_cal c_law_number hr (by decide) (by rfl) (pa_cons (pe_op op_fdiv (pv 0) pe_int) (pa_cons (pv 7) (pa_cons (pv 3) pa_nil)))) pa_nil)))))))))))), ?_⟩
  refine s_setsH (vh_word (by walk_at "v") (by walk_at "v") (by walk_at "v") hW) ?_
  rintro _ H1 ⟨lb, rfl, okl, s1⟩
  refine s_setsH (vh_word (by walk_at "v") (by walk_at "v") (by walk_at "v") (hW.mono s1)) ?_
  rintro _ H1' ⟨nm, rfl, okn, s1'⟩
  refine s_setsH (vh_kind (by walk_at "v") val_c val_c (by walk_at "v") w_thing w_by) ?_
  rintro _ H2 ⟨kd, rfl, okk, s2⟩
  have s12 := (s1.trans s1').trans s2
  obtain ⟨hp, hs, ht, hq⟩ := hP.mono s12
  refine s_sets (v := .int lt.length) (by walk_at "v") ?_
  refine s_cut (fun σ' H3 => (∃ m : Nat, σ' = [some (.int n), some (.ref a), some (.ref p), some (.int b), some (.str lb), some (.str nm), some (.str kd), some (.int m)]) ∧ H3 = H2) (s_if (b := decide (kd = "by")) (by walk_at "a") (fun _ => s_set (v := .int lq.length) (by walk_at "v") ⟨⟨_, rfl⟩, rfl⟩) (fun _ => s_next ⟨⟨_, rfl⟩, rfl⟩)) ?_
  rintro σ' H3 ⟨⟨m, rfl⟩, rfl⟩
  refine p_ret (n_tup4 (W1 := fun v H' => v = .str lb ∧ H' = H3) (W2 := fun _ v H' => v = .str nm ∧ H' = H3) (W3 := fun _ v H' => v = .str kd ∧ H' = H3) (W4 := fun _ v H' => (∃ z, v = .int z) ∧ H' = H3) (vh_is (by walk_at "v")) (fun x H1 w1 => by rw [w1.2]; exact vh_is (by walk_at "v")) (fun x H1 y H2 w1 w2 => by rw [w2.2]; exact vh_is (by walk_at "v"))
    (fun x H1 y H2 z H4 w1 w2 w3 => by rw [w3.2]; exact vh_num (by walk_at "v") (by walk_at "v") (by omega) (by walk_at "v")) ?_)
  rintro x H1 y H2 z H4 v H5 r ⟨rfl, _⟩ ⟨rfl, _⟩ ⟨rfl, _⟩ ⟨⟨k, rfl⟩, rfl⟩ hr
  exact qq _ _ (lb, nm, kd, k) (same_new2 s12 hr) ⟨r, rfl, upd_same⟩ ⟨okl, okn, okk⟩
/-! ### _law_question -/
abbrev s_law_question : Stmt := topS 38
abbrev n_law_question : List Str := ["_law_number_here", "_law_words_here", "_law_parts", "_law_bad", "_law_path", "_law_many", "_law_k", "_law_state"]
abbrev p_law_question : List Str := ["_law_number_here", "_law_words_here", "_law_parts", "_law_bad"]
theorem sc_law_question : FnScope ["_law_number_here", "_law_words_here", "_law_parts", "_law_bad", "_law_path", "_law_many", "_law_k", "_law_state"] ["_law_number_here", "_law_words_here", "_law_parts", "_law_bad"] (defScope s_law_question) := ⟨rfl, rfl, rfl, by decide +kernel, rfl, by decide +kernel, by decide +kernel⟩
def sp_law_question : Sp := fun vs H Q _ => ∃ (n b : Int) (a : Addr) (ws : List Str) (p s t q : Addr) (ls lt lq : List V), vs = [.int n, .ref a, .ref p, .int b] ∧ Wds H a ws ∧ Pts H p s t q ls lt lq ∧ ∀ v H' y, Same H H' → VQst H' v y → QuOk y → Q v H'
theorem ok_law_question (T : Txt K mg cl) (d : Df K mg "_law_question" s_law_question) (c_law_number : Cal P w K mg base CX0 1 "_law_number" p_law_number sp_law_number) (c_law_word : Cal P w K mg base CX0 1 "_law_word" p_law_word sp_law_word) : Cal P w K mg base CX0 2 "_law_question" ["_law_number_here", "_law_words_here", "_law_parts", "_law_bad"] sp_law_question := by
  obtain ⟨f, fd, F, g⟩ := d
  refine ⟨f, fd, g, F.kp, F.binds (fun _ _ _ _ _ _ us hl => match us, hl with | [_, _, _, _], _ => rfl), F.ok sc_law_question (fun vs H Q E h => ?_) (fun cdv A outer s H vs Q E hr h => ?_)⟩
  · obtain ⟨n, b, a, ws, p, s, t, q, ls, lt, lq, rfl, _⟩ := h
    rfl
  obtain ⟨n, b, a, ws, p, s, t, q, ls, lt, lq, rfl, hW, hP, qq⟩ := h
  refine ⟨_, (pss_cons (ps_set (i := 4) sc_law_question.nd rfl (Or.inl rfl) (pe_lst pa_nil))
    (pss_cons (ps_set (i := 5) sc_law_question.nd rfl (Or.inl rfl) (pe_op op_add pe_int (pe_op op_mod (pe_op op_fdiv (pv 0) pe_int) pe_int)))
    (C8.pss_cut (ps_if (pt_cmpR op_eq (pe_op op_mod (pv 3) pe_int) pe_int (nomark _)) (pss_one (ps_set (i := 5) sc_law_question.nd rfl (Or.inl rfl) (pe_ix ix_list (pe_lst (pa_cons pe_int (pa_cons pe_int pa_nil))) (pe_op op_mod (pv 0) pe_int) (fun _ _ => rfl)))) pss_nil)
    (pss_cons (ps_for PassesOwn.never rfl (pi_range1 (by rfl) T.z_range (pa_cons (pv 5) pa_nil)) (pg_name (i := 6) sc_law_question.nd rfl (Or.inl rfl))
      (pss_one (ps_expr (pe_bm PySem.F.plainAttrs_list PySem.F.slot_list_append PySem.F.type_list_append mt_append (pv 4) (pa_cons (pe_cal c_law_word hr (by decide) (by rfl) (pa_cons (pe_op op_fdiv (pe_op op_fdiv (pv 0) pe_int) (pe_op op_add (pv 6) pe_int)) (pa_cons (pv 1) (pa_cons (pe_op op_mul (pv 3) (pe_callTy call_intOf (by rfl) T.z_int boot_intT (pa_cons (pe_cmpR op_eq (pv 6) (pe_op op_mod (pv 0) (pv 5)) (nomark _)) pa_nil))) pa_nil)))) pa_nil)))))
    (pss_cons (ps_set (i := 7) sc_law_question.nd rfl (Or.inl rfl) (pe_op op_mod (pe_op op_fdiv (pv 0) pe_int) pe_int))
    (C8.pss_cut (ps_if (pt_cmpR op_eq (pe_op op_mod (pv 3) pe_int) pe_int (nomark _)) (pss_one (ps_set (i := 7) sc_law_question.nd rfl (Or.inl rfl) (pe_op op_sub (pe_un un_neg pe_int) (pv 7)))) pss_nil)
    (pss_one (ps_ret (pe_tup (pa_cons (pe_cal c_law_number hr (by decide) (by rfl) (pa_cons (pe_op op_fdiv (pv 0) pe_int) (pa_cons (pe_callB call_lenQ (by rfl) T.z_len PySem.boot_len (pa_cons (pe_ix ix_tup (pv 2) pe_int (fun _ _ => rfl)) pa_nil)) (pa_cons (pv 3) pa_nil)))) (pa_cons (pv 7) (pa_cons (pe_callTy call_tupOf (by rfl) T.z_tuple boot_tupT (pa_cons (pv 4) pa_nil)) pa_nil)))))))))))), ?_⟩
  refine s_setsH vh_nil ?_
  rintro _ _ ⟨pl, rfl, hpl, rfl⟩
  have s0 := same_new (o := .lst []) hpl
  have hl0 : (upd H pl (.lst [])) pl = some (.lst []) := upd_same
  generalize upd H pl (.lst []) = H1 at s0 hl0
  refine s_sets (v := .int (1 + n / 5 % 6)) (by walk_at "v") ?_
  refine s_cut (fun σ' H3 => (∃ m : Nat, m ≤ 7 ∧ σ' = [some (.int n), some (.ref a), some (.ref p), some (.int b), some (.ref pl), some (.int m), none, none]) ∧ Same H1 H3) (s_if (b := decide (b % 12 = 9)) (by walk_at "a")
    (fun _ => s_setH (W := fun v H' => (∃ m : Nat, m ≤ 7 ∧ v = .int m) ∧ Same H1 H') (fun Q k => n_pick (vs := [.int 0, .int 7]) (j := n % 2) (va_cons val_c (va_cons val_c va_nil)) (by show 2 ≤ 100; decide) (fun H' => by walk_at "v") (Int.emod_nonneg _ (by decide)) (Int.emod_lt_of_pos _ (by decide)) fun v hv H' sm => k _ _ ⟨?_, sm⟩) fun v H' ⟨⟨m, hm, e⟩, sm⟩ => ⟨⟨m, hm, by rw [e]; rfl⟩, sm⟩)
    (fun _ => s_next ⟨⟨(1 + n / 5 % 6).toNat, by omega, ?_⟩, Same.refl _⟩)) ?_
  · simp only [List.mem_cons, List.not_mem_nil, or_false] at hv
    rcases hv with rfl | rfl
    · exact ⟨0, by decide, rfl⟩
    · exact ⟨7, by decide, rfl⟩
  · rw [show (((1 + n / 5 % 6).toNat : Nat) : Int) = 1 + n / 5 % 6 by omega]
    rfl
  rintro σ' H3 ⟨⟨m, hm, rfl⟩, s3⟩
  refine s_range (n := m) (va_cons (val_var rfl) va_nil) (by omega) (fun k σ' H' => ∃ v6 ys, σ' = [some (.int n), some (.ref a), some (.ref p), some (.int b), some (.ref pl), some (.int m), v6, none] ∧ Same H H' ∧ H' pl = some (.lst (ys.map V.str)) ∧ ys.length = k ∧ ∀ y ∈ ys, TOk y)
    ⟨_, [], rfl, s0.trans s3, s3 _ _ hl0, rfl, fun y hy => absurd hy List.not_mem_nil⟩ ?_ ?_
  · rintro k σ' H' hk ⟨v6, ys, rfl, sm, hl, hn, hy⟩
    have hmp : 0 < (m : Int) := by omega
    refine s_appendH hl (by walk_at "v") (vh_word (by walk_at "v") (by walk_at "v") (v_I (by walk_at "v") (v_intB (by walk_at "v")) mul_b2) (hW.mono sm)) (by rw [List.length_map]; omega) ?_
    rintro _ H4 ⟨z, rfl, ok, s4⟩
    refine ⟨s4 _ _ hl, _, ys ++ [z], rfl, same_mut (sm.trans s4) hpl, upd_same.trans (by rw [List.map_append]; rfl), by rw [List.length_append, hn]; rfl, fun y h => ?_⟩
    rcases List.mem_append.mp h with h | h
    · exact hy y h
    · rw [List.mem_singleton.mp h]
      exact ok
  rintro σ' H4 ⟨v6, ys, rfl, s4, hl, hn, hy⟩
  refine s_sets (v := .int (n / 7 % 9)) (by walk_at "v") ?_
  refine s_cut (fun σ' H5 => (∃ z : Int, σ' = [some (.int n), some (.ref a), some (.ref p), some (.int b), some (.ref pl), some (.int m), v6, some (.int z)]) ∧ H5 = H4) (s_if (b := decide (b % 12 = 11)) (by walk_at "a") (fun _ => s_set (v := .int (-1 - n / 7 % 9)) (by walk_at "v") ⟨⟨_, rfl⟩, rfl⟩) (fun _ => s_next ⟨⟨_, rfl⟩, rfl⟩)) ?_
  rintro σ' H5 ⟨⟨st, rfl⟩, rfl⟩
  obtain ⟨hp, hs, ht, hq⟩ := hP.mono s4
  refine p_ret (n_tup3 (W1 := fun v H' => (∃ z, v = .int z) ∧ H' = H5) (W2 := fun _ v H' => v = .int st ∧ H' = H5) (W3 := fun _ v H' => ∃ l, v = .ref l ∧ H5 l = none ∧ H' = upd H5 l (.tup (ys.map V.str))) (vh_num (by walk_at "v") (by walk_at "v") (by omega) (by walk_at "v")) (fun x H1 w1 => by rw [w1.2]; exact vh_is (by walk_at "v"))
    (fun x H1 y H2 w1 w2 => by rw [w2.2]; exact fun Q k => ⟨_, rfl, pl, ys.map V.str, rfl, .inl ⟨SqL.of hl, fun l hl => k _ _ ⟨l, rfl, hl, rfl⟩⟩⟩) ?_)
  rintro x H1 y H2 z H4' r ⟨⟨k, rfl⟩, _⟩ ⟨rfl, _⟩ ⟨l, rfl, hl', rfl⟩ hr
  have sl := same_new (o := .tup (ys.map V.str)) hl'
  refine qq _ _ (k, st, ys) (same_new2 (s4.trans sl) hr) ⟨r, l, rfl, upd_same, same_new hr _ _ upd_same⟩ ⟨by rw [hn]; omega, hy⟩
end
end K17
namespace K17
open PySem PySem.Spec PyProof.Rows L2
/-! ### the net while it is laid: its lists stand apart -/
def own : List (Addr × Addr × Addr) → List Addr
  | [] => []
  | x :: L => x.2.1 :: x.2.2 :: own L
theorem own_app : ∀ (L : List (Addr × Addr × Addr)) (x : Addr × Addr × Addr), own (L ++ [x]) = own L ++ [x.2.1, x.2.2]
  | [], _ => rfl
  | y :: L, x => by
    show y.2.1 :: y.2.2 :: own (L ++ [x]) = _
    rw [own_app L x]
    rfl
theorem mem_own : ∀ {L : List (Addr × Addr × Addr)} {x : Addr × Addr × Addr}, x ∈ L → x.2.1 ∈ own L ∧ x.2.2 ∈ own L
  | y :: L, x, h => by
    rcases List.mem_cons.mp h with rfl | h
    · exact ⟨List.mem_cons_self, List.mem_cons_of_mem _ List.mem_cons_self⟩
    · have := mem_own h
      exact ⟨List.mem_cons_of_mem _ (List.mem_cons_of_mem _ this.1), List.mem_cons_of_mem _ (List.mem_cons_of_mem _ this.2)⟩
theorem own_ne : ∀ {L : List (Addr × Addr × Addr)}, (own L).Nodup → ∀ x ∈ L, ∀ y ∈ L, (x.2.1 = y.2.1 → x = y) ∧ (x.2.2 = y.2.2 → x = y) ∧ x.2.1 ≠ y.2.2
  | z :: L, hn, x, hx, y, hy => by
    obtain ⟨n1, hn2⟩ := List.nodup_cons.mp (show (z.2.1 :: z.2.2 :: own L).Nodup from hn)
    obtain ⟨n2, hn3⟩ := List.nodup_cons.mp hn2
    have n12 : z.2.1 ≠ z.2.2 := fun e => n1 (by rw [e]; exact List.mem_cons_self)
    have n1' : z.2.1 ∉ own L := fun h => n1 (List.mem_cons_of_mem _ h)
    rcases List.mem_cons.mp hx with rfl | hx' <;> rcases List.mem_cons.mp hy with rfl | hy'
    · exact ⟨fun _ => rfl, fun _ => rfl, n12⟩
    · have m := mem_own hy'
      exact ⟨fun e => absurd m.1 (by rw [← e]; exact n1'), fun e => absurd m.2 (by rw [← e]; exact n2), fun e => n1' (by rw [e]; exact m.2)⟩
    · have m := mem_own hx'
      exact ⟨fun e => absurd m.1 (by rw [e]; exact n1'), fun e => absurd m.2 (by rw [e]; exact n2), fun e => n2 (by rw [← e]; exact m.1)⟩
    · exact own_ne hn3 x hx' y hy'
/-- items of a kind, each as it may be -/
def EOk {α : Type} (R : Hp → V → α → Prop) (P : α → Prop) (H : Hp) (vs : List V) : Prop := ∀ v ∈ vs, ∃ y, R H v y ∧ P y
def LOk {α : Type} (R : Hp → V → α → Prop) (P : α → Prop) (H : Hp) (b : Addr) (n : Nat) : Prop := ∃ vs, H b = some (.lst vs) ∧ vs.length ≤ n ∧ EOk R P H vs
def SameT (H H' : Hp) : Prop := ∀ b xs, H b = some (.tup xs) → H' b = some (.tup xs)
/-- what leans on tuples alone -/
def TupOnly {α : Type} (R : Hp → V → α → Prop) : Prop := ∀ H H' v y, SameT H H' → R H v y → R H' v y
theorem to_St : TupOnly VStep := fun H H' v y e ⟨a, h, q⟩ => ⟨a, h, e _ _ q⟩
theorem to_Te : TupOnly VTell := fun H H' v y e ⟨a, h, q⟩ => ⟨a, h, e _ _ q⟩
theorem to_Th : TupOnly VThg := fun H H' v y e ⟨a, h, q⟩ => ⟨a, h, e _ _ q⟩
theorem to_Qu : TupOnly VQst := fun H H' v y e ⟨a, b, h, q, q2⟩ => ⟨a, b, h, e _ _ q, e _ _ q2⟩
theorem same_tup {H H' : Hp} (s : Same H H') : SameT H H' := fun b xs h => s _ _ h
theorem sameT_upd {H : Hp} {b : Addr} {o : HO} {xs : List V} (h : H b = some (.lst xs)) : SameT H (upd H b o) := fun c ys e => by
  rw [upd_ne (fun z => by rw [z, h] at e; cases e)]
  exact e
section
variable {α : Type} {R : Hp → V → α → Prop} {Pd : α → Prop} {H H' : Hp} {b c : Addr} {n m : Nat}
theorem EOk.mono (t : TupOnly R) (s : SameT H H') {vs : List V} (h : EOk R Pd H vs) : EOk R Pd H' vs := fun v hv => by
  obtain ⟨y, r, p⟩ := h v hv
  exact ⟨y, t _ _ _ _ s r, p⟩
theorem LOk.mono (t : TupOnly R) (s : Same H H') (h : LOk R Pd H b n) : LOk R Pd H' b n := by
  obtain ⟨vs, h, l, e⟩ := h
  exact ⟨vs, s _ _ h, l, e.mono t (same_tup s)⟩
theorem LOk.le (hm : n ≤ m) (h : LOk R Pd H b n) : LOk R Pd H b m := by
  obtain ⟨vs, h, l, e⟩ := h
  exact ⟨vs, h, Nat.le_trans l hm, e⟩
theorem LOk.other (t : TupOnly R) {xs ys : List V} (hc : H c = some (.lst xs)) (ne : b ≠ c) (h : LOk R Pd H b n) : LOk R Pd (upd H c (.lst ys)) b (n + 1) := by
  obtain ⟨vs, h, l, e⟩ := h
  exact ⟨vs, by rw [upd_ne ne]; exact h, Nat.le_succ_of_le l, e.mono t (sameT_upd hc)⟩
theorem LOk.app (t : TupOnly R) {xs : List V} {v : V} {y : α} (hc : H b = some (.lst xs)) (r : R H v y) (p : Pd y) (h : LOk R Pd H b n) : LOk R Pd (upd H b (.lst (xs ++ [v]))) b (n + 1) := by
  obtain ⟨vs, h, l, e⟩ := h
  have ex : vs = xs := by
    rw [h] at hc
    cases hc
    rfl
  subst ex
  refine ⟨_, upd_same, by rw [List.length_append]; exact Nat.succ_le_succ l, fun u hu => ?_⟩
  rcases List.mem_append.mp hu with hu | hu
  · obtain ⟨y, r, p⟩ := e u hu
    exact ⟨y, t _ _ _ _ (sameT_upd hc) r, p⟩
  · rw [List.mem_singleton.mp hu]
    exact ⟨y, t _ _ _ _ (sameT_upd hc) r, p⟩
theorem eok_all : ∀ {vs : List V}, EOk R Pd H vs → ∃ ys, Paired (R H) vs ys ∧ ∀ y ∈ ys, Pd y
  | [], _ => ⟨[], .nil, fun y h => absurd h List.not_mem_nil⟩
  | v :: vs, h => by
    obtain ⟨y, r, p⟩ := h v List.mem_cons_self
    obtain ⟨ys, rs, ps⟩ := eok_all (vs := vs) fun u hu => h u (List.mem_cons_of_mem _ hu)
    exact ⟨y :: ys, .cons r rs, fun z hz => (List.mem_cons.mp hz).elim (fun e => e ▸ p) (ps z)⟩
theorem LOk.get (h : LOk R Pd H b n) : ∃ ys, LAt R H (.ref b) ys ∧ ys.length ≤ n ∧ ∀ y ∈ ys, Pd y := by
  obtain ⟨vs, h, l, e⟩ := h
  obtain ⟨ys, p, q⟩ := eok_all e
  exact ⟨ys, ⟨b, vs, rfl, h, p⟩, by rw [← plen p]; exact l, q⟩
end
structure Lay (H0 H : Hp) (p s t q : Addr) (L : List (Addr × Addr × Addr)) (n : Nat) : Prop where
  sm : Same H0 H
  hp : H p = some (.tup [.ref s, .ref t, .ref q])
  hs : H s = some (.lst (L.map fun x => V.ref x.1))
  ht : LOk VThg ThOk H t n
  hq : LOk VQst QuOk H q n
  hL : ∀ x ∈ L, H x.1 = some (.tup [.ref x.2.1, .ref x.2.2]) ∧ LOk VStep StOk H x.2.1 n ∧ LOk VTell TeOk H x.2.2 n
  len : L.length ≤ n
  nd : (s :: t :: q :: own L).Nodup
  n0 : ∀ b ∈ s :: t :: q :: own L, H0 b = none
section
variable {H0 H H' : Hp} {p s t q : Addr} {L : List (Addr × Addr × Addr)} {n : Nat}
theorem Lay.mono (h : Lay H0 H p s t q L n) (e : Same H H') : Lay H0 H' p s t q L n :=
  ⟨h.sm.trans e, e _ _ h.hp, e _ _ h.hs, h.ht.mono to_Th e, h.hq.mono to_Qu e, fun x hx => ⟨e _ _ (h.hL x hx).1, (h.hL x hx).2.1.mono to_St e, (h.hL x hx).2.2.mono to_Te e⟩, h.len, h.nd, h.n0⟩
theorem Lay.le (h : Lay H0 H p s t q L n) {m : Nat} (hm : n ≤ m) : Lay H0 H p s t q L m :=
  ⟨h.sm, h.hp, h.hs, h.ht.le hm, h.hq.le hm, fun x hx => ⟨(h.hL x hx).1, (h.hL x hx).2.1.le hm, (h.hL x hx).2.2.le hm⟩, Nat.le_trans h.len hm, h.nd, h.n0⟩
/-- the base grows by what is none of the net's lists -/
theorem Lay.base (h : Lay H0 H p s t q L n) {l : Addr} {o : HO} (hl : H l = some o) (ne : ∀ b ∈ s :: t :: q :: own L, b ≠ l) : Lay (upd H0 l o) H p s t q L n :=
  ⟨fun b u e => by
    by_cases hb : b = l
    · subst hb
      rw [upd_same] at e
      cases e
      exact hl
    · rw [upd_ne hb] at e
      exact h.sm b u e, h.hp, h.hs, h.ht, h.hq, h.hL, h.len, h.nd, fun b hb => by rw [upd_ne (ne b hb)]; exact h.n0 b hb⟩
theorem Lay.apart (h : Lay H0 H p s t q L n) : s ≠ t ∧ s ≠ q ∧ t ≠ q ∧ (∀ x ∈ L, s ≠ x.2.1 ∧ s ≠ x.2.2 ∧ t ≠ x.2.1 ∧ t ≠ x.2.2 ∧ q ≠ x.2.1 ∧ q ≠ x.2.2) ∧ (own L).Nodup := by
  obtain ⟨n1, h1⟩ := List.nodup_cons.mp h.nd
  obtain ⟨n2, h2⟩ := List.nodup_cons.mp h1
  obtain ⟨n3, h3⟩ := List.nodup_cons.mp h2
  refine ⟨fun e => n1 (by rw [e]; exact List.mem_cons_self), fun e => n1 (by rw [e]; exact List.mem_cons_of_mem _ List.mem_cons_self), fun e => n2 (by rw [e]; exact List.mem_cons_self), fun x hx => ?_, h3⟩
  have m := mem_own hx
  exact ⟨fun e => n1 (List.mem_cons_of_mem _ (List.mem_cons_of_mem _ (by rw [e]; exact m.1))), fun e => n1 (List.mem_cons_of_mem _ (List.mem_cons_of_mem _ (by rw [e]; exact m.2))),
    fun e => n2 (List.mem_cons_of_mem _ (by rw [e]; exact m.1)), fun e => n2 (List.mem_cons_of_mem _ (by rw [e]; exact m.2)), fun e => n3 (by rw [e]; exact m.1), fun e => n3 (by rw [e]; exact m.2)⟩
theorem tup_upd {a b : Addr} {xs ys : List V} {o : HO} (ha : H a = some (.tup xs)) (hb : H b = some (.lst ys)) : (upd H b o) a = some (.tup xs) := sameT_upd hb _ _ ha
theorem Lay.appT (h : Lay H0 H p s t q L n) {xs : List V} {v : V} {y : Thg} (hx : H t = some (.lst xs)) (r : VThg H v y) (ok : ThOk y) : Lay H0 (upd H t (.lst (xs ++ [v]))) p s t q L (n + 1) := by
  obtain ⟨a1, a2, a3, a4, _⟩ := h.apart
  refine ⟨same_mut h.sm (h.n0 t (List.mem_cons_of_mem _ List.mem_cons_self)), tup_upd h.hp hx, by rw [upd_ne a1]; exact h.hs, h.ht.app to_Th hx r ok, h.hq.other to_Qu hx a3.symm, fun x hm => ?_, Nat.le_succ_of_le h.len, h.nd, h.n0⟩
  obtain ⟨b1, b2, b3, b4, b5, b6⟩ := a4 x hm
  exact ⟨tup_upd (h.hL x hm).1 hx, (h.hL x hm).2.1.other to_St hx b3.symm, (h.hL x hm).2.2.other to_Te hx b4.symm⟩
theorem Lay.appQ (h : Lay H0 H p s t q L n) {xs : List V} {v : V} {y : Qst} (hx : H q = some (.lst xs)) (r : VQst H v y) (ok : QuOk y) : Lay H0 (upd H q (.lst (xs ++ [v]))) p s t q L (n + 1) := by
  obtain ⟨a1, a2, a3, a4, _⟩ := h.apart
  refine ⟨same_mut h.sm (h.n0 q (List.mem_cons_of_mem _ (List.mem_cons_of_mem _ List.mem_cons_self))), tup_upd h.hp hx, by rw [upd_ne a2]; exact h.hs, h.ht.other to_Th hx a3, h.hq.app to_Qu hx r ok, fun x hm => ?_, Nat.le_succ_of_le h.len, h.nd, h.n0⟩
  obtain ⟨b1, b2, b3, b4, b5, b6⟩ := a4 x hm
  exact ⟨tup_upd (h.hL x hm).1 hx, (h.hL x hm).2.1.other to_St hx b5.symm, (h.hL x hm).2.2.other to_Te hx b6.symm⟩
theorem Lay.appSt (h : Lay H0 H p s t q L n) {z : Addr × Addr × Addr} (hz : z ∈ L) {xs : List V} {v : V} {y : Step} (hx : H z.2.1 = some (.lst xs)) (r : VStep H v y) (ok : StOk y) : Lay H0 (upd H z.2.1 (.lst (xs ++ [v]))) p s t q L (n + 1) := by
  obtain ⟨a1, a2, a3, a4, a5⟩ := h.apart
  obtain ⟨c1, c2, c3, c4, c5, c6⟩ := a4 z hz
  refine ⟨same_mut h.sm (h.n0 _ (List.mem_cons_of_mem _ (List.mem_cons_of_mem _ (List.mem_cons_of_mem _ (mem_own hz).1)))), tup_upd h.hp hx, by rw [upd_ne c1]; exact h.hs, h.ht.other to_Th hx c3, h.hq.other to_Qu hx c5, fun x hm => ?_, Nat.le_succ_of_le h.len, h.nd, h.n0⟩
  obtain ⟨e1, _, _⟩ := own_ne a5 x hm z hz
  obtain ⟨_, _, e3⟩ := own_ne a5 z hz x hm
  refine ⟨tup_upd (h.hL x hm).1 hx, ?_, (h.hL x hm).2.2.other to_Te hx e3.symm⟩
  by_cases e : x = z
  · subst e
    exact (h.hL x hm).2.1.app to_St hx r ok
  · exact (h.hL x hm).2.1.other to_St hx fun q => e (e1 q)
theorem Lay.appTe (h : Lay H0 H p s t q L n) {z : Addr × Addr × Addr} (hz : z ∈ L) {xs : List V} {v : V} {y : Tell} (hx : H z.2.2 = some (.lst xs)) (r : VTell H v y) (ok : TeOk y) : Lay H0 (upd H z.2.2 (.lst (xs ++ [v]))) p s t q L (n + 1) := by
  obtain ⟨a1, a2, a3, a4, a5⟩ := h.apart
  obtain ⟨c1, c2, c3, c4, c5, c6⟩ := a4 z hz
  refine ⟨same_mut h.sm (h.n0 _ (List.mem_cons_of_mem _ (List.mem_cons_of_mem _ (List.mem_cons_of_mem _ (mem_own hz).2)))), tup_upd h.hp hx, by rw [upd_ne c2]; exact h.hs, h.ht.other to_Th hx c4, h.hq.other to_Qu hx c6, fun x hm => ?_, Nat.le_succ_of_le h.len, h.nd, h.n0⟩
  obtain ⟨_, e2, e3⟩ := own_ne a5 x hm z hz
  refine ⟨tup_upd (h.hL x hm).1 hx, (h.hL x hm).2.1.other to_St hx e3, ?_⟩
  by_cases e : x = z
  · subst e
    exact (h.hL x hm).2.2.app to_Te hx r ok
  · exact (h.hL x hm).2.2.other to_Te hx fun q => e (e2 q)
theorem Lay.appSc (h : Lay H0 H p s t q L n) {a b c : Addr} (ha : H a = some (.tup [.ref b, .ref c])) (hb : H b = some (.lst [])) (hc : H c = some (.lst [])) (hbc : b ≠ c) (nb : ∀ u ∈ s :: t :: q :: own L, u ≠ b) (nc : ∀ u ∈ s :: t :: q :: own L, u ≠ c) (b0 : H0 b = none) (c0 : H0 c = none) :
    Lay H0 (upd H s (.lst ((L.map fun x => V.ref x.1) ++ [.ref a]))) p s t q (L ++ [(a, b, c)]) (n + 1) := by
  obtain ⟨a1, a2, a3, a4, a5⟩ := h.apart
  have sb := nb s List.mem_cons_self
  have sc := nc s List.mem_cons_self
  refine ⟨same_mut h.sm (h.n0 s List.mem_cons_self), tup_upd h.hp h.hs, upd_same.trans (by rw [List.map_append]; rfl), h.ht.other to_Th h.hs a1.symm, h.hq.other to_Qu h.hs a2.symm, fun x hm => ?_, by rw [List.length_append]; exact Nat.succ_le_succ h.len, ?_, fun u hu => ?_⟩
  · rcases List.mem_append.mp hm with hm | hm
    · obtain ⟨b1, b2, b3, b4, b5, b6⟩ := a4 x hm
      exact ⟨tup_upd (h.hL x hm).1 h.hs, (h.hL x hm).2.1.other to_St h.hs b1.symm, (h.hL x hm).2.2.other to_Te h.hs b2.symm⟩
    · rw [List.mem_singleton.mp hm]
      exact ⟨tup_upd ha h.hs, ⟨[], by rw [upd_ne sb.symm]; exact hb, Nat.zero_le _, fun v hv => absurd hv List.not_mem_nil⟩, ⟨[], by rw [upd_ne sc.symm]; exact hc, Nat.zero_le _, fun v hv => absurd hv List.not_mem_nil⟩⟩
  · rw [own_app]
    show ((s :: t :: q :: own L) ++ [b, c]).Nodup
    refine List.nodup_append.mpr ⟨h.nd, ?_, fun u hu w hw => ?_⟩
    · exact List.nodup_cons.mpr ⟨fun z => hbc (List.mem_singleton.mp z), List.nodup_cons.mpr ⟨List.not_mem_nil, List.nodup_nil⟩⟩
    · simp only [List.mem_cons, List.not_mem_nil, or_false] at hw
      rcases hw with rfl | rfl
      · exact nb u hu
      · exact nc u hu
  · rw [own_app] at hu
    have hu' : u ∈ (s :: t :: q :: own L) ++ [b, c] := hu
    rcases List.mem_append.mp hu' with hu | hu
    · exact h.n0 u hu
    · simp only [List.mem_cons, List.not_mem_nil, or_false] at hu
      rcases hu with rfl | rfl
      · exact b0
      · exact c0
/-- what H doesn't know is none of the net's lists -/
theorem Lay.known (h : Lay H0 H p s t q L n) : ∀ b ∈ s :: t :: q :: own L, ∃ o, H b = some o := fun b hb => by
  rcases List.mem_cons.mp hb with rfl | hb
  · exact ⟨_, h.hs⟩
  rcases List.mem_cons.mp hb with rfl | hb
  · obtain ⟨vs, e, _⟩ := h.ht
    exact ⟨_, e⟩
  rcases List.mem_cons.mp hb with rfl | hb
  · obtain ⟨vs, e, _⟩ := h.hq
    exact ⟨_, e⟩
  have : ∀ (M : List (Addr × Addr × Addr)), (∀ x ∈ M, x ∈ L) → b ∈ own M → ∃ o, H b = some o := by
    intro M
    induction M with
    | nil => intro _ z; exact absurd z List.not_mem_nil
    | cons x M ih =>
      intro hM z
      obtain ⟨_, ⟨vs, e1, _⟩, ⟨ws, e2, _⟩⟩ := h.hL x (hM x List.mem_cons_self)
      rcases List.mem_cons.mp z with rfl | z
      · exact ⟨_, e1⟩
      rcases List.mem_cons.mp z with rfl | z
      · exact ⟨_, e2⟩
      · exact ih (fun y hy => hM y (List.mem_cons_of_mem _ hy)) z
  exact this L (fun _ h => h) hb
theorem Lay.fresh (h : Lay H0 H p s t q L n) {l : Addr} (hl : H l = none) : ∀ b ∈ s :: t :: q :: own L, b ≠ l := fun b hb e => by
  obtain ⟨o, q⟩ := h.known b hb
  rw [e, hl] at q
  cases q
theorem Lay.net (h : Lay H0 H p s t q L n) (hn : n ≤ 100) : ∃ N, VNet H (.ref p) N ∧ NOk N ∧ N.sc.length = L.length ∧ LAt VScp H (.ref s) N.sc := by
  obtain ⟨ths, ht, lt, pt⟩ := h.ht.get
  obtain ⟨qus, hq, lq, pq⟩ := h.hq.get
  have es : EOk VScp ScOk H (L.map fun x => V.ref x.1) := fun v hv => by
    obtain ⟨x, hx, rfl⟩ := List.mem_map.mp hv
    obtain ⟨h1, h2, h3⟩ := h.hL x hx
    obtain ⟨sts, hst, lst, pst⟩ := h2.get
    obtain ⟨tes, hte, lte, pte⟩ := h3.get
    exact ⟨(sts, tes), ⟨x.1, _, _, rfl, h1, hst, hte⟩, ⟨Nat.le_trans lst hn, Nat.le_trans lte hn, pst, pte⟩⟩
  obtain ⟨scs, ps, qs⟩ := eok_all es
  have hl : scs.length = L.length := by rw [← plen ps, List.length_map]
  have hS : LAt VScp H (.ref s) scs := ⟨s, _, rfl, h.hs, ps⟩
  exact ⟨⟨scs, ths, qus⟩, ⟨p, _, _, _, rfl, h.hp, hS, ht, hq⟩, ⟨by show scs.length ≤ 100; have := h.len; omega, Nat.le_trans lt hn, Nat.le_trans lq hn, qs, pt, pq⟩, hl, hS⟩
theorem Lay.pts (h : Lay H0 H p s t q L n) : ∃ lt lq, Pts H p s t q (L.map fun x => V.ref x.1) lt lq ∧ lt.length ≤ n ∧ lq.length ≤ n := by
  obtain ⟨lt, ht, l1, _⟩ := h.ht
  obtain ⟨lq, hq, l2, _⟩ := h.hq
  exact ⟨lt, lq, ⟨h.hp, h.hs, ht, hq⟩, l1, l2⟩
end
section
variable {σ : L2.St} {H : Hp} {i : Nat} {v x y z : V} {ta tb tc td te te' : TE} {b : Bool} {K : PySem.W.Frag} {D : Ends} {g : TG} {tb' u' : TS} {Q : VK}
theorem s_set2s {a : Addr} {i j : Nat} (h : Val te σ H (.ref a)) (ha : H a = some (.tup [x, y])) (k : u' D ((σ.set i (some x)).set j (some y)) H) : tSeq (tAsg te (gTup K 2 (gCons (gName i) (gCons (gName j) gNil)))) u' D σ H := h _ (g2 ha k)
/-- xs != [], xs a list of scopes -/
theorem ah_neNil {s : Addr} {N : List Scp} (hv : Val te σ H (.ref s)) (hS : LAt VScp H (.ref s) N) (ok : ∀ x ∈ N, ScOk x) : AnsH (tTest (tOp (rNeD K) te (tLst tNil))) σ H (!N.isEmpty) (fun H' => Same H H') := fun Q q => hv _ ⟨Nat.zero_le _, fun p hp => by
  have sl := same_new (o := .lst []) hp
  refine ⟨.list (N.map pySc), .list [], dp_LAt (fun _ _ => dp_Sc) (hS.mono (fun _ _ => VScp.mono sl) sl), .lst (SqL.of upd_same) .nil, (shp_Scs ok).shaped (by decide), by decide, !N.isEmpty, ?_, q _ sl⟩
  rw [eqv_nil_list, List.isEmpty_map]⟩
/-- ([], []) -/
theorem vh_pair : ValH (tTup (tCons (tLst tNil) (tCons (tLst tNil) tNil))) σ H (fun v H' => ∃ r b c, v = .ref r ∧ H b = none ∧ H c = none ∧ b ≠ c ∧ Same H H' ∧ H' r = some (.tup [.ref b, .ref c]) ∧ H' b = some (.lst []) ∧ H' c = some (.lst [])) := fun Q k =>
  ⟨Nat.zero_le _, fun b hb => ⟨Nat.zero_le _, fun c hc => ⟨by show 2 ≤ sizeLine; decide, fun r hr => by
    have s1 := same_new (o := .lst []) hb
    have s2 := same_new (o := .lst []) hc
    have s3 := same_new (o := .tup [.ref b, .ref c]) hr
    exact k _ _ ⟨r, b, c, rfl, hb, s1.free hc, ne_of_none upd_same hc, (s1.trans s2).trans s3, upd_same, s3 _ _ (s2 _ _ upd_same), s3 _ _ upd_same⟩⟩⟩⟩
/-- a loop over a list that stands in every state -/
theorem s_forL {vs : List V} {a : Addr} (hv : Val te σ H (.ref a)) (hS : H a = some (.lst vs)) (Pv : Nat → L2.St → Hp → Prop) (hl : ∀ i σ' H', Pv i σ' H' → H' a = some (.lst vs)) (h0 : Pv 0 σ H)
    (hs : ∀ i v σ' H', vs[i]? = some v → Pv i σ' H' → g v σ' H' fun σ2 H2 => tb' { nx := Pv (i + 1), rt := D.rt, ct := Pv (i + 1), bk := u' D } σ2 H2)
    (hd : ∀ σ' H', Pv vs.length σ' H' → u' D σ' H') : tSeq (tFor (iList K te) g tb') u' D σ H :=
  s_seq (hv _ ⟨a, rfl, ⟨vs, SqL.of hS⟩, for_list (K := K) (a := a) (xs := vs) Pv h0 (fun i σ' H' _ q => SqL.of (hl i _ _ q)) (fun i v σ' H' hi q => hs i v σ' H' hi q) hd⟩)
/-- for k in range(n), n known by its bound -/
theorem s_rangeH {ta : TA} {B j : Nat} (hv : ∀ Z : List V → Hp → Prop, (∀ n : Nat, n ≤ B → Z [.int n] H) → ta σ H Z) (hB : B ≤ 10000) (Pv : Nat → L2.St → Hp → Prop) (h0 : Pv 0 σ H)
    (hs : ∀ i σ' H', i < B → Pv i σ' H' → tb' { nx := Pv (i + 1), rt := D.rt, ct := Pv (i + 1), bk := u' D } (σ'.set j (some (.int i))) H') (hd : ∀ n σ' H', n ≤ B → Pv n σ' H' → u' D σ' H') : tSeq (tFor (iRng1 ta) (gName j) tb') u' D σ H := by
  refine s_seq (hv _ fun n hn => ⟨(n : Int), rfl, by omega, by omega, ?_⟩)
  rw [Int.toNat_natCast]
  refine for_range (lo := 0) (n := n) Pv h0 (fun i σ' H' hi p => ?_) (fun σ' H' p => hd n σ' H' hn p)
  show tb' _ (σ'.set j (some (.int (0 + (i : Int))))) H'
  rw [Int.zero_add]
  exact hs i σ' H' (by omega) p
end
end K17
namespace K17
open PySem PySem.Spec PyProof.Rows L2
section
variable {P : Program} {w : World} {K : PySem.W.Frag} {mg : Str → Option Value} {base : Heap} {cl : Fin 10 → Addr}
/-! ### _law_lay -/
abbrev s_law_lay : Stmt := topS 42
abbrev n_law_lay : List Str := ["_law_parts", "_law_words_here", "_law_cell", "_law_number_here", "_law_bad", "_law_way", "_law_steps", "_law_tellings"]
abbrev p_law_lay : List Str := ["_law_parts", "_law_words_here", "_law_cell"]
theorem sc_law_lay : FnScope ["_law_parts", "_law_words_here", "_law_cell", "_law_number_here", "_law_bad", "_law_way", "_law_steps", "_law_tellings"] ["_law_parts", "_law_words_here", "_law_cell"] (defScope s_law_lay) := ⟨rfl, rfl, rfl, by decide +kernel, rfl, by decide +kernel, by decide +kernel⟩
def sp_law_lay : Sp := fun vs H Q _ => ∃ (H0 : Hp) (p s t q a : Addr) (L : List (Addr × Addr × Addr)) (n : Nat) (ws : List Str) (c : Int), vs = [.ref p, .ref a, .int c] ∧ Lay H0 H p s t q L n ∧ n < 100 ∧ Wds H0 a ws ∧ ∀ H' L', Lay H0 H' p s t q L' (n + 1) → Q .non H'
theorem ok_law_lay (T : Txt K mg cl) (d : Df K mg "_law_lay" s_law_lay) (c_law_thing : Cal P w K mg base CX0 2 "_law_thing" p_law_thing sp_law_thing) (c_law_question : Cal P w K mg base CX0 2 "_law_question" p_law_question sp_law_question)
    (c_law_step : Cal P w K mg base CX0 2 "_law_step" p_law_step sp_law_step) (c_law_telling : Cal P w K mg base CX0 2 "_law_telling" p_law_telling sp_law_telling) : Cal P w K mg base CX0 3 "_law_lay" ["_law_parts", "_law_words_here", "_law_cell"] sp_law_lay := by
  obtain ⟨f, fd, F, g⟩ := d
  refine ⟨f, fd, g, F.kp, F.binds (fun _ _ _ _ _ _ us hl => match us, hl with | [_, _, _], _ => rfl), F.ok sc_law_lay (fun vs H Q E h => ?_) (fun cdv A outer s H vs Q E hr h => ?_)⟩
  · obtain ⟨H0, p, s, t, q, a, L, n, ws, c, rfl, _⟩ := h
    rfl
  obtain ⟨H0, p, s, t, q, a, L, n, ws, c, rfl, hL, hn, hW, k⟩ := h
  refine ⟨_, (pss_cons (ps_set (i := 3) sc_law_lay.nd rfl (Or.inl rfl) (pe_op op_mod (pe_op op_mul (pe_op op_fdiv (pv 2) pe_int) pe_int) pe_int))
    (pss_cons (ps_set (i := 4) sc_law_lay.nd rfl (Or.inl rfl) pe_int)
    (C8.pss_cut (ps_if (PW.pt (pw_and (pt_cmpR op_eq (pe_op op_mod (pe_op op_fdiv (pv 2) pe_int) pe_int) pe_int (nomark _)) (pw_and1 (pt_cmpR op_eq (pe_op op_mod (pe_op op_fdiv (pv 2) pe_int) pe_int) pe_int (nomark _))))) (pss_one (ps_set (i := 4) sc_law_lay.nd rfl (Or.inl rfl) (pe_op op_mod (pe_op op_fdiv (pv 2) pe_int) pe_int))) pss_nil)
    (pss_cons (ps_set (i := 5) sc_law_lay.nd rfl (Or.inl rfl) (pe_op op_mod (pv 2) pe_int))
    (pss_one (ps_if (pt_cmpR op_eq (pv 5) pe_int (nomark _)) (pss_one (ps_expr (pe_bm PySem.F.plainAttrs_list PySem.F.slot_list_append PySem.F.type_list_append mt_append (pe_ix ix_tup (pv 0) pe_int (fun _ _ => rfl)) (pa_cons (pe_cal c_law_thing hr (by decide) (by rfl) (pa_cons (pv 3) (pa_cons (pv 0) (pa_cons (pv 4) pa_nil)))) pa_nil)))) (pss_one (ps_if (PW.pt (pw_and (pt_cmpR op_eq (pv 5) pe_int (nomark _)) (pw_and1 (pt_cmpR (op_neD hr.units) (pe_ix ix_tup (pv 0) pe_int (fun _ _ => rfl)) (pe_lst pa_nil) (nomark _))))) (pss_one (ps_expr (pe_bm PySem.F.plainAttrs_list PySem.F.slot_list_append PySem.F.type_list_append mt_append (pe_ix ix_tup (pv 0) pe_int (fun _ _ => rfl)) (pa_cons (pe_cal c_law_question hr (by decide) (by rfl) (pa_cons (pv 3) (pa_cons (pv 1) (pa_cons (pv 0) (pa_cons (pv 4) pa_nil))))) pa_nil)))) (pss_one (ps_if (pt_cmpR op_eq (pv 5) pe_int (nomark _)) (pss_one (ps_expr (pe_bm PySem.F.plainAttrs_list PySem.F.slot_list_append PySem.F.type_list_append mt_append (pe_ix ix_tup (pv 0) pe_int (fun _ _ => rfl)) (pa_cons (pe_tup (pa_cons (pe_lst pa_nil) (pa_cons (pe_lst pa_nil) pa_nil))) pa_nil)))) (pss_one (ps_if (pt_cmpR (op_neD hr.units) (pe_ix ix_tup (pv 0) pe_int (fun _ _ => rfl)) (pe_lst pa_nil) (nomark _)) (pss_cons (ps_asg (pe_ix ix_list (pe_ix ix_tup (pv 0) pe_int (fun _ _ => rfl)) (pe_op op_mod (pv 3) (pe_callB call_lenQ (by rfl) T.z_len PySem.boot_len (pa_cons (pe_ix ix_tup (pv 0) pe_int (fun _ _ => rfl)) pa_nil))) (fun _ _ => rfl)) (pg_tup rfl (pgs_cons (pg_name (i := 6) sc_law_lay.nd rfl (Or.inl rfl)) (pgs_cons (pg_name (i := 7) sc_law_lay.nd rfl (Or.inl rfl)) pgs_nil))))
            (pss_one (ps_if (pt_cmpR op_lt (pv 5) pe_int (nomark _)) (pss_one (ps_expr (pe_bm PySem.F.plainAttrs_list PySem.F.slot_list_append PySem.F.type_list_append mt_append (pv 6) (pa_cons (pe_cal c_law_step hr (by decide) (by rfl) (pa_cons (pe_op op_fdiv (pv 3) (pe_callB call_lenQ (by rfl) T.z_len PySem.boot_len (pa_cons (pe_ix ix_tup (pv 0) pe_int (fun _ _ => rfl)) pa_nil))) (pa_cons (pv 1) (pa_cons (pv 0) (pa_cons (pv 4) pa_nil))))) pa_nil)))) (pss_one (ps_expr (pe_bm PySem.F.plainAttrs_list PySem.F.slot_list_append PySem.F.type_list_append mt_append (pv 7) (pa_cons (pe_cal c_law_telling hr (by decide) (by rfl) (pa_cons (pe_op op_fdiv (pv 3) (pe_callB call_lenQ (by rfl) T.z_len PySem.boot_len (pa_cons (pe_ix ix_tup (pv 0) pe_int (fun _ _ => rfl)) pa_nil))) (pa_cons (pv 1) (pa_cons (pv 0) (pa_cons (pv 4) pa_nil))))) pa_nil))))))) pss_nil)))))))))))), ?_⟩
  refine s_sets (v := .int (c / 16 * 48271 % 2147483647)) (by walk_at "v") ?_
  generalize c / 16 * 48271 % 2147483647 = num
  refine s_sets val_c ?_
  refine s_cut (fun σ' H1 => (∃ b : Int, σ' = [some (.ref p), some (.ref a), some (.int c), some (.int num), some (.int b), none, none, none]) ∧ H1 = H) (s_if (b := decide (c / 8 % 2 = 1) && decide (c / 16 % 4 = 1)) (by walk_at "a") (fun _ => s_set (v := .int (c / 64 % 12)) (by walk_at "v") ⟨⟨_, rfl⟩, rfl⟩) (fun _ => s_next ⟨⟨_, rfl⟩, rfl⟩)) ?_
  rintro σ' H1 ⟨⟨b, rfl⟩, rfl⟩
  refine s_sets (v := .int (c % 8)) (by walk_at "v") ?_
  have hp := hL.hp
  have hs := hL.hs
  obtain ⟨lt, lq, hP, l1, l2⟩ := hL.pts
  have hW' := hW.mono hL.sm
  refine s_if (b := decide (c % 8 = 0)) (by walk_at "a") (fun _ => ?_) (fun _ => ?_)
  · -- a thing
    refine s_appendH hP.t (by walk_at "v") (vh_call (W := fun v H' => ∃ y, Same H1 H' ∧ VThg H' v y ∧ ThOk y) (va_cons (by walk_at "v") (va_cons (by walk_at "v") (va_cons (by walk_at "v") va_nil))) fun Q E k => ⟨num, b, p, s, t, q, _, lt, lq, rfl, hP, fun v H' y sm r ok => k _ _ ⟨y, sm, r, ok⟩⟩) (by omega) ?_
    rintro v H2 ⟨y, sm, r, ok⟩
    exact ⟨sm _ _ hP.t, k _ _ ((hL.mono sm).appT (sm _ _ hP.t) r ok)⟩
  obtain ⟨N, _, hNo, hNl, hS⟩ := hL.net (by omega)
  have hne : N.sc.isEmpty = L.isEmpty := by
    cases h1 : N.sc <;> cases h2 : L <;> rw [h1, h2] at hNl <;> first | rfl | (simp at hNl)
  refine s_ifH (b := decide (c % 8 = 1) && !N.sc.isEmpty) (W := fun H' => Same H1 H') (ah_and (by walk_at "a") (ah_neNil (by walk_at "v") hS hNo.sc) (Same.refl _)) (fun _ H2 s2 => ?_) (fun _ H2 s2 => ?_)
  · -- a question
    have hP2 := hP.mono s2
    have hp2 := hP2.p
    refine s_appendH hP2.q (by walk_at "v") (vh_call (W := fun v H' => ∃ y, Same H2 H' ∧ VQst H' v y ∧ QuOk y) (va_cons (by walk_at "v") (va_cons (by walk_at "v") (va_cons (by walk_at "v") (va_cons (by walk_at "v") va_nil)))) fun Q E k => ⟨num, b, a, ws, p, s, t, q, _, lt, lq, rfl, hW'.mono s2, hP2, fun v H' y sm r ok => k _ _ ⟨y, sm, r, ok⟩⟩) (by omega) ?_
    rintro v H3 ⟨y, sm, r, ok⟩
    exact ⟨sm _ _ hP2.q, k _ _ (((hL.mono s2).mono sm).appQ (sm _ _ hP2.q) r ok)⟩
  have hL2 := hL.mono s2
  have hP2 := hP.mono s2
  have hp2 := hP2.p
  have hs2 := hP2.s
  refine s_if (b := decide (c % 8 = 2)) (by walk_at "a") (fun _ => ?_) (fun _ => ?_)
  · -- a scope
    refine s_appendH hP2.s (by walk_at "v") vh_pair (by rw [List.length_map]; have := hL.len; omega) ?_
    rintro _ H3 ⟨r, b1, c1, rfl, hb, hc, hbc, sm, h1, h2, h3⟩
    exact ⟨sm _ _ hP2.s, k _ _ ((hL2.mono sm).appSc h1 h2 h3 hbc (hL2.fresh hb) (hL2.fresh hc) (hL2.sm.free hb) (hL2.sm.free hc))⟩
  have hS2 := hS.mono (fun _ _ => VScp.mono s2) s2
  refine s_ifH (b := !N.sc.isEmpty) (W := fun H' => Same H2 H') (ah_neNil (by walk_at "v") hS2 hNo.sc) (fun e H3 s3 => ?_) (fun _ H3 s3 => s_next (k _ _ ((hL2.mono s3).le (Nat.le_succ _))))
  -- a step or a telling of a scope
  rw [hne, Bool.not_eq_true'] at e
  have hpos : 0 < L.length := by
    cases L with
    | nil => exact absurd e (by decide)
    | cons _ _ => exact Nat.succ_pos _
  have hL3 := hL2.mono s3
  have hP3 := hP2.mono s3
  have hp3 := hP3.p
  have hs3 := hP3.s
  have hml : (L.map fun x => V.ref x.1).length = L.length := List.length_map _
  have hposI : (0 : Int) < ((L.map fun x => V.ref x.1).length : Int) := by omega
  have hsmI : ((L.map fun x => V.ref x.1).length : Int) < 1073741824 := by
    have := hL.len
    omega
  obtain ⟨v, hv, hx⟩ := at_mod (xs := L.map fun x => V.ref x.1) (by omega) num
  obtain ⟨x, hxm, rfl⟩ := List.mem_map.mp hv
  obtain ⟨x1, x2, x3⟩ := hL3.hL x hxm
  obtain ⟨w1, hw1, ln1, _⟩ := x2
  obtain ⟨w2, hw2, ln2, _⟩ := x3
  refine s_set2s (by walk_at "v") x1 ?_
  refine s_if (b := decide (c % 8 < 6)) (by walk_at "a") (fun _ => ?_) (fun _ => ?_)
  · refine s_appendH hw1 (by walk_at "v") (vh_call (W := fun v H' => ∃ y, Same H3 H' ∧ VStep H' v y ∧ StOk y) (va_cons (x := .int (num / ((L.map fun x => V.ref x.1).length : Int))) (by walk_at "v") (va_cons (by walk_at "v") (va_cons (by walk_at "v") (va_cons (by walk_at "v") va_nil)))) fun Q E k => ⟨_, b, a, ws, p, s, t, q, _, lt, lq, rfl, (hW'.mono s2).mono s3, hP3, fun v H' y sm r ok => k _ _ ⟨y, sm, r, ok⟩⟩) (by omega) ?_
    rintro v H4 ⟨y, sm, r, ok⟩
    exact ⟨sm _ _ hw1, k _ _ ((hL3.mono sm).appSt hxm (sm _ _ hw1) r ok)⟩
  · refine s_appendH hw2 (by walk_at "v") (vh_call (W := fun v H' => ∃ y, Same H3 H' ∧ VTell H' v y ∧ TeOk y) (va_cons (x := .int (num / ((L.map fun x => V.ref x.1).length : Int))) (by walk_at "v") (va_cons (by walk_at "v") (va_cons (by walk_at "v") (va_cons (by walk_at "v") va_nil)))) fun Q E k => ⟨_, b, a, ws, p, s, t, q, _, lt, lq, rfl, (hW'.mono s2).mono s3, hP3, fun v H' y sm r ok => k _ _ ⟨y, sm, r, ok⟩⟩) (by omega) ?_
    rintro v H4 ⟨y, sm, r, ok⟩
    exact ⟨sm _ _ hw2, k _ _ ((hL3.mono sm).appTe hxm (sm _ _ hw2) r ok)⟩
end
end K17
namespace K17
open PySem PySem.Spec PyProof.Rows L2
section
variable {σ : L2.St} {H : Hp} {i : Nat} {v x y z : V} {ta tb tc td te te' : TE} {b : Bool} {K : PySem.W.Frag} {D : Ends} {g : TG} {tb' u' : TS} {Q : VK} {vs' : List Nat}
theorem own_known {H : Hp} : ∀ {L : List (Addr × Addr × Addr)}, (∀ x ∈ L, (∃ o, H x.2.1 = some o) ∧ ∃ o, H x.2.2 = some o) → ∀ b ∈ own L, ∃ o, H b = some o
  | [], _, b, hb => absurd hb List.not_mem_nil
  | x :: L, h, b, hb => by
    obtain ⟨h1, h2⟩ := h x List.mem_cons_self
    rcases List.mem_cons.mp hb with rfl | hb
    · exact h1
    rcases List.mem_cons.mp hb with rfl | hb
    · exact h2
    · exact own_known (fun y hy => h y (List.mem_cons_of_mem _ hy)) b hb
theorem vh_cellmod {k m : Int} {a : Addr} {ns : List Int} (hσ : σ[0]? = some (some (.ref a))) (hS : SqL K H a (ns.map V.int)) (hk : 0 ≤ k) (hte : Val te σ H (.int m)) (hm : 0 < m) :
    ValH (tOp (rI (fun _ j => 0 < j) fun i j => .int (i % j)) (tCall (sp_law_cell_at K) [] E0 (tCons (tVar 0) (tCons (tC (.int k)) tNil))) te) σ H (fun v H' => (∃ z, v = .int (z % m)) ∧ H' = H) := fun Q q =>
  ⟨.ref a, hσ, a, ns, k, rfl, hS, hk, fun z => hte _ ⟨z, m, rfl, rfl, hm, q _ _ ⟨⟨z, rfl⟩, rfl⟩⟩⟩
/-- range(cell % 5) -/
theorem rng5 {k : Int} {a : Addr} {ns : List Int} (hσ : σ[0]? = some (some (.ref a))) (hS : SqL K H a (ns.map V.int)) (hk : 0 ≤ k) :
    ∀ Z : List V → Hp → Prop, (∀ n : Nat, n ≤ 4 → Z [.int n] H) → tCons (tOp (rI (fun _ j => 0 < j) fun i j => .int (i % j)) (tCall (sp_law_cell_at K) [] E0 (tCons (tVar 0) (tCons (tC (.int k)) tNil))) (tC (.int 5))) tNil σ H Z := fun Z hZ =>
  vh_cellmod hσ hS hk val_c (by decide) _ fun v H' h => by
    obtain ⟨⟨z, rfl⟩, rfl⟩ := h
    have := hZ (z % 5).toNat (by omega)
    rw [show (((z % 5).toNat : Nat) : Int) = z % 5 by omega] at this
    exact this
theorem n_lcRH {ta : TA} {B : Nat} (hv : ∀ Z : List V → Hp → Prop, (∀ n : Nat, n ≤ B → Z [.int n] H) → ta σ H Z) (hB : B ≤ 10000) (Pv : Addr → Nat → Hp → Prop) (h0 : ∀ D, H D = none → Pv D 0 (upd H D (.lst [])))
    (hs : ∀ D i H', H D = none → i < B → Pv D i H' → g (.int i) (wipe σ vs') H' fun σ2 H2 => wipe σ2 vs' = wipe σ vs' ∧ tYes σ2 H2 fun b H3 => if b = true then te' σ2 H3 fun y H4 => ∃ acc, H4 D = some (.lst acc) ∧ acc.length < sizeLine ∧ Pv D (i + 1) (upd H4 D (.lst (acc ++ [y]))) else Pv D (i + 1) H3)
    (hd : ∀ D n H', H D = none → n ≤ B → Pv D n H' → Q (.ref D) H') : tLc (iRng1 ta) g tYes te' vs' σ H Q := by
  refine hv _ fun n hn => ⟨(n : Int), rfl, by omega, by omega, fun D hD => ?_⟩
  rw [Int.toNat_natCast]
  refine lc_range (lo := 0) (n := n) (Pv D) (h0 D hD) (fun i H' hi h => ?_) (fun H' h => hd D n H' hD hn h)
  rw [Int.zero_add]
  exact hs D i H' hD (by omega) h
theorem s_rangeH0 {ta : TA} {B j : Nat} (hv : ∀ Z : List V → Hp → Prop, (∀ n : Nat, n ≤ B → Z [.int n] H) → ta σ H Z) (hB : B ≤ 10000) (Pv : Nat → L2.St → Hp → Prop) (h0 : Pv 0 σ H)
    (hs : ∀ i σ' H', i < B → Pv i σ' H' → tb' { nx := Pv (i + 1), rt := D.rt, ct := Pv (i + 1), bk := D.nx } (σ'.set j (some (.int i))) H') (hd : ∀ n σ' H', n ≤ B → Pv n σ' H' → D.nx σ' H') : tFor (iRng1 ta) (gName j) tb' D σ H := by
  refine hv _ fun n hn => ⟨(n : Int), rfl, by omega, by omega, ?_⟩
  rw [Int.toNat_natCast]
  refine for_range (lo := 0) (n := n) Pv h0 (fun i σ' H' hi p => ?_) (fun σ' H' p => hd n σ' H' hn p)
  show tb' _ (σ'.set j (some (.int (0 + (i : Int))))) H'
  rw [Int.zero_add]
  exact hs i σ' H' (by omega) p
theorem vh_call1 {sp : Sp} {E : XK} {W1 W : V → Hp → Prop} (h1 : ValH ta σ H W1) (hs : ∀ x H' (Q : VK) (E : XK), W1 x H' → (∀ v H', W v H' → Q v H') → sp [x] H' Q E) : ValH (tCall sp [] E (tCons ta tNil)) σ H W := fun Q q => h1 _ fun x H' w => hs x H' Q E w q
theorem p_tupC {tl : TE} {tr : TA} (h : tl σ H fun x H1 => tr σ H1 fun xs H2 => (x :: xs).length ≤ sizeLine ∧ ∀ p, H2 p = none → Q (.ref p) (upd H2 p (.tup (x :: xs)))) : tTup (tCons tl tr) σ H Q := h
theorem v_max {j k : Int} (ha : Val ta σ H (.int j)) (hb : Val tb σ H (.int k)) : Val (tCB rMaxOf (tCons ta (tCons tb tNil))) σ H (.int (if k > j then k else j)) := fun Q q => ha _ (hb _ ⟨j, k, rfl, q⟩)
/-- a new tuple of plain values -/
theorem vh_tup {ta : TA} {vs : List V} (h : ValA ta σ H vs) (hl : vs.length ≤ 100) : ValH (tTup ta) σ H (fun v H' => ∃ r, v = .ref r ∧ Same H H' ∧ H' r = some (.tup vs)) := fun Q q => h _ ⟨Nat.le_trans hl (by decide), fun p hp => q _ _ ⟨p, rfl, same_new hp, upd_same⟩⟩
end
section
variable {P : Program} {w : World} {K : PySem.W.Frag} {mg : Str → Option Value} {base : Heap} {cl : Fin 10 → Addr}
/-! ### _law_laid -/
abbrev s_law_laid : Stmt := topS 50
abbrev n_law_laid : List Str := ["_law_script", "_law_last", "_law_words_here", "_law_parts", "_law_k", "_law_cell"]
abbrev p_law_laid : List Str := ["_law_script", "_law_last"]
theorem sc_law_laid : FnScope ["_law_script", "_law_last", "_law_words_here", "_law_parts", "_law_k", "_law_cell"] ["_law_script", "_law_last"] (defScope s_law_laid) := ⟨rfl, rfl, rfl, by decide +kernel, rfl, by decide +kernel, by decide +kernel⟩
def sp_law_laid (K : PySem.W.Frag) : Sp := fun vs H Q _ => ∃ (a : Addr) (ns : List Int) (k : Int), vs = [.ref a, .int k] ∧ SqL K H a (ns.map V.int) ∧ ns.length ≤ 63 ∧ ∀ v H' N, Same H H' → VNet H' v N → NOk N → Q v H'
/-- the scopes as they are first laid -/
structure Sc0 (H H' : Hp) (D : Addr) (L : List (Addr × Addr × Addr)) : Prop where
  d : H' D = some (.lst (L.map fun x => V.ref x.1))
  nd : (D :: own L).Nodup
  n0 : ∀ b ∈ own L, H b = none
  at_ : ∀ x ∈ L, H' x.1 = some (.tup [.ref x.2.1, .ref x.2.2]) ∧ H' x.2.1 = some (.lst []) ∧ H' x.2.2 = some (.lst [])
theorem Sc0.known {H H' : Hp} {D : Addr} {L : List (Addr × Addr × Addr)} (h : Sc0 H H' D L) : ∀ b ∈ D :: own L, ∃ o, H' b = some o := fun b hb => by
  rcases List.mem_cons.mp hb with rfl | hb
  · exact ⟨_, h.d⟩
  · exact own_known (fun x hx => ⟨⟨_, (h.at_ x hx).2.1⟩, ⟨_, (h.at_ x hx).2.2⟩⟩) b hb
theorem Sc0.fresh {H H' : Hp} {D l : Addr} {L : List (Addr × Addr × Addr)} (h : Sc0 H H' D L) (hl : H' l = none) : l ∉ D :: own L := fun hb => by
  obtain ⟨o, q⟩ := h.known l hb
  rw [hl] at q
  cases q
theorem Sc0.add {H H' H2 : Hp} {D r b c : Addr} {L : List (Addr × Addr × Addr)} (h : Sc0 H H' D L) (sm0 : Same H H') (hb : H' b = none) (hc : H' c = none) (hbc : b ≠ c) (sm : Same H' H2) (h1 : H2 r = some (.tup [.ref b, .ref c])) (h2 : H2 b = some (.lst [])) (h3 : H2 c = some (.lst [])) :
    Sc0 H (upd H2 D (.lst ((L.map fun x => V.ref x.1) ++ [.ref r]))) D (L ++ [(r, b, c)]) := by
  have fb := h.fresh hb
  have fc := h.fresh hc
  have hd2 := sm _ _ h.d
  have nD : ∀ {x : Addr}, x ∈ own L → x ≠ D := fun hx e => (List.nodup_cons.mp h.nd).1 (by rw [← e]; exact hx)
  have bD : b ≠ D := fun e => fb (by rw [e]; exact List.mem_cons_self)
  have cD : c ≠ D := fun e => fc (by rw [e]; exact List.mem_cons_self)
  refine ⟨upd_same.trans (by rw [List.map_append]; rfl), ?_, fun u hu => ?_, fun x hx => ?_⟩
  · rw [own_app]
    show ((D :: own L) ++ [b, c]).Nodup
    refine List.nodup_append.mpr ⟨h.nd, List.nodup_cons.mpr ⟨fun z => hbc (List.mem_singleton.mp z), List.nodup_cons.mpr ⟨List.not_mem_nil, List.nodup_nil⟩⟩, fun u hu w hw => ?_⟩
    simp only [List.mem_cons, List.not_mem_nil, or_false] at hw
    rcases hw with rfl | rfl
    · exact fun e => fb (by rw [← e]; exact hu)
    · exact fun e => fc (by rw [← e]; exact hu)
  · rw [own_app] at hu
    rcases List.mem_append.mp hu with hu | hu
    · exact h.n0 u hu
    · simp only [List.mem_cons, List.not_mem_nil, or_false] at hu
      rcases hu with rfl | rfl
      · exact sm0.free hb
      · exact sm0.free hc
  · rcases List.mem_append.mp hx with hx | hx
    · obtain ⟨e1, e2, e3⟩ := h.at_ x hx
      have m := mem_own hx
      exact ⟨tup_upd (sm _ _ e1) hd2, by rw [upd_ne (nD m.1)]; exact sm _ _ e2, by rw [upd_ne (nD m.2)]; exact sm _ _ e3⟩
    · rw [List.mem_singleton.mp hx]
      exact ⟨tup_upd h1 hd2, by rw [upd_ne bD]; exact h2, by rw [upd_ne cD]; exact h3⟩
theorem ok_law_laid (T : Txt K mg cl) (d : Df K mg "_law_laid" s_law_laid) (c_law_words : Cal P w K mg base CX0 1 "_law_words" p_law_words sp_law_words) (c_law_cell_at : Cal P w K mg base CX0 1 "_law_cell_at" p_law_cell_at (sp_law_cell_at K))
    (c_law_lay : Cal P w K mg base CX0 3 "_law_lay" p_law_lay sp_law_lay) : Cal P w K mg base CX0 4 "_law_laid" ["_law_script", "_law_last"] (sp_law_laid K) := by
  obtain ⟨f, fd, F, g⟩ := d
  refine ⟨f, fd, g, F.kp, F.binds (fun _ _ _ _ _ _ us hl => match us, hl with | [_, _], _ => rfl), F.ok sc_law_laid (fun vs H Q E h => ?_) (fun cdv A outer s H vs Q E hr h => ?_)⟩
  · obtain ⟨a, ns, k, rfl, _⟩ := h
    rfl
  obtain ⟨a, ns, k, rfl, hA, hns, q⟩ := h
  refine ⟨_, (pss_cons (ps_set (i := 2) sc_law_laid.nd rfl (Or.inl rfl) (pe_cal c_law_words hr (by decide) (by rfl) (pa_cons (pe_op op_mod (pe_cal c_law_cell_at hr (by decide) (by rfl) (pa_cons (pv 0) (pa_cons pe_int pa_nil))) (pe_op op_pow pe_int pe_int)) (pa_cons pe_int pa_nil))))
    (pss_cons (ps_set (i := 3) sc_law_laid.nd rfl (Or.inl rfl) (pe_tup (pa_cons (pe_lc (own := [("_law_k", 4)]) (tt := tYes) (g := gName 4)  rfl sc_law_laid.nd (pi_range1 (by rfl) T.z_range (pa_cons (pe_op op_mod (pe_cal c_law_cell_at hr (by decide) (by rfl) (pa_cons (pv 0) (pa_cons pe_int pa_nil))) pe_int) pa_nil)) (blkOk_by (N := ["_law_script", "_law_last", "_law_words_here", "_law_parts", "_law_k", "_law_cell"]) (sc := defScope s_law_laid) (by decide +kernel)) (fun _ _ _ _ _ => pg_name (i := 4) sc_law_laid.nd rfl (Or.inl rfl)) (fun _ _ _ _ _ => pts_nil) (fun _ _ _ _ _ => (pe_tup (pa_cons (pe_lst pa_nil) (pa_cons (pe_lst pa_nil) pa_nil))))) (pa_cons (pe_lst pa_nil) (pa_cons (pe_lst pa_nil) pa_nil)))))
    (pss_cons (ps_for PassesOwn.never rfl (pi_range1 (by rfl) T.z_range (pa_cons (pe_op op_mod (pe_cal c_law_cell_at hr (by decide) (by rfl) (pa_cons (pv 0) (pa_cons pe_int pa_nil))) pe_int) pa_nil)) (pg_name (i := 4) sc_law_laid.nd rfl (Or.inl rfl))
      (pss_one (ps_expr (pe_bm PySem.F.plainAttrs_list PySem.F.slot_list_append PySem.F.type_list_append mt_append (pe_ix ix_tup (pv 3) pe_int (fun _ _ => rfl)) (pa_cons (pe_tup (pa_cons pe_str (pa_cons pe_int pa_nil))) pa_nil)))))
    (C8.pss_cut (ps_if (pt_cmpR (op_neD hr.units) (pe_ix ix_tup (pv 3) pe_int (fun _ _ => rfl)) (pe_lst pa_nil) (nomark _)) (pss_one (ps_for PassesOwn.never rfl (pi_range1 (by rfl) T.z_range (pa_cons (pe_op op_mod (pe_cal c_law_cell_at hr (by decide) (by rfl) (pa_cons (pv 0) (pa_cons pe_int pa_nil))) pe_int) pa_nil)) (pg_name (i := 4) sc_law_laid.nd rfl (Or.inl rfl))
        (pss_one (ps_expr (pe_bm PySem.F.plainAttrs_list PySem.F.slot_list_append PySem.F.type_list_append mt_append (pe_ix ix_tup (pv 3) pe_int (fun _ _ => rfl)) (pa_cons (pe_tup (pa_cons pe_int (pa_cons (pv 4) (pa_cons (pe_tup (pa_cons (pe_ix ix_list (pv 2) (pv 4) (fun _ _ => rfl)) (pa_cons (pe_ix ix_list (pv 2) (pe_op op_mul pe_int (pv 4)) (fun _ _ => rfl)) pa_nil))) pa_nil)))) pa_nil)))))) pss_nil)
    (pss_cons (ps_for PassesOwn.never rfl (pi_list (pe_slice sl_list (pv 0) (po_some pe_int) (po_some (pv 1)))) (pg_name (i := 5) sc_law_laid.nd rfl (Or.inl rfl))
      (pss_one (ps_expr (pe_cal c_law_lay hr (by decide) (by rfl) (pa_cons (pv 3) (pa_cons (pv 2) (pa_cons (pv 5) pa_nil)))))))
    (pss_one (ps_ret (pv 3)))))))), ?_⟩
  -- the words
  refine s_setsH (vh_call2 (y := .int 9) (W := fun v H' => ∃ p ws, v = .ref p ∧ Same H H' ∧ Wds H' p ws) (vh_cellmod (m := 10 ^ (9 : Int).toNat) rfl hA (by decide) (v_I val_c val_c ⟨by decide, by decide, by decide⟩) (by decide)) (fun _ _ _ => val_c) ?_) ?_
  · rintro _ _ Q E ⟨⟨z, rfl⟩, rfl⟩ k
    exact ⟨_, rfl, fun p H' ws sm hw => k _ _ ⟨p, ws, rfl, sm, hw⟩⟩
  rintro _ H1 ⟨wp, ws, rfl, s1, hW⟩
  have hA1 := s1.seq hA
  -- the scopes, no things, no questions
  refine s_setsH (W := fun v H' => ∃ p s t q L, v = .ref p ∧ Lay H1 H' p s t q L 4) (fun Z kk => ?_) ?_
  · refine p_tupC (n_lcRH (B := 4) (rng5 rfl hA1 (by decide)) (by decide) (fun D i H' => Same H1 H' ∧ ∃ L, L.length = i ∧ Sc0 H1 H' D L) (fun D hD => ⟨same_new hD, [], rfl, upd_same, List.nodup_cons.mpr ⟨List.not_mem_nil, List.nodup_nil⟩, fun b hb => absurd hb List.not_mem_nil, fun x hx => absurd hx List.not_mem_nil⟩) (fun D i H' hD hi h => ?_) (fun D n H' hD hn h => ?_))
    · obtain ⟨sm, L, hl, hs⟩ := h
      refine lc_turn rfl ?_
      refine vh_pair _ ?_
      rintro _ H2 ⟨r, b, c, rfl, hb, hc, hbc, sm2, h1, h2, h3⟩
      exact ⟨_, sm2 _ _ hs.d, small_lt (by rw [List.length_map]; omega), same_mut (sm.trans sm2) hD, L ++ [(r, b, c)], by rw [List.length_append, hl]; rfl, hs.add sm hb hc hbc sm2 h1 h2 h3⟩
    · obtain ⟨sm, L, hl, hs⟩ := h
      refine ⟨Nat.zero_le _, fun t ht => ⟨Nat.zero_le _, fun u hu => ⟨by show 3 ≤ sizeLine; decide, fun p hp => ?_⟩⟩⟩
      have e1 := same_new (o := .lst []) ht
      have e2 := same_new (o := .lst []) hu
      have e3 := same_new (o := .tup [.ref D, .ref t, .ref u]) hp
      have e23 := e2.trans e3
      have e123 := e1.trans e23
      have ft := hs.fresh ht
      have hu' := e1.free hu
      have fu := hs.fresh hu'
      have tu : t ≠ u := ne_of_none upd_same hu
      refine kk _ _ ⟨p, D, t, u, L, rfl, sm.trans e123, upd_same, e123 _ _ hs.d, ⟨[], e23 _ _ upd_same, Nat.zero_le _, fun v hv => absurd hv List.not_mem_nil⟩, ⟨[], e3 _ _ upd_same, Nat.zero_le _, fun v hv => absurd hv List.not_mem_nil⟩,
        fun x hx => ⟨e123 _ _ (hs.at_ x hx).1, ⟨[], e123 _ _ (hs.at_ x hx).2.1, Nat.zero_le _, fun v hv => absurd hv List.not_mem_nil⟩, ⟨[], e123 _ _ (hs.at_ x hx).2.2, Nat.zero_le _, fun v hv => absurd hv List.not_mem_nil⟩⟩, by omega, ?_, fun b hb => ?_⟩
      · obtain ⟨n1, n2⟩ := List.nodup_cons.mp hs.nd
        refine List.nodup_cons.mpr ⟨fun z => ?_, List.nodup_cons.mpr ⟨fun z => ?_, List.nodup_cons.mpr ⟨fun z => fu (List.mem_cons_of_mem _ z), n2⟩⟩⟩
        · rcases List.mem_cons.mp z with e | z
          · exact ft (by rw [← e]; exact List.mem_cons_self)
          rcases List.mem_cons.mp z with e | z
          · exact fu (by rw [← e]; exact List.mem_cons_self)
          · exact n1 z
        · rcases List.mem_cons.mp z with e | z
          · exact tu e
          · exact ft (List.mem_cons_of_mem _ z)
      · rcases List.mem_cons.mp hb with rfl | hb
        · exact hD
        rcases List.mem_cons.mp hb with rfl | hb
        · exact sm.free ht
        rcases List.mem_cons.mp hb with rfl | hb
        · exact sm.free hu'
        · exact hs.n0 b hb
  rintro _ H2 ⟨p, s, t, qq, L, rfl, hL⟩
  -- things
  refine s_rangeH (B := 4) (rng5 rfl (hL.sm.seq hA1) (by decide)) (by decide) (fun i σ' H' => ∃ v4, σ' = [some (.ref a), some (.int k), some (.ref wp), some (.ref p), v4, none] ∧ Lay H1 H' p s t qq L (4 + i)) ⟨_, rfl, hL⟩ ?_ ?_
  · rintro i σ' H' hi ⟨v4, rfl, hL⟩
    obtain ⟨lt, lq, hP, l1, l2⟩ := hL.pts
    have hp := hL.hp
    refine s_appendH hP.t (by walk_at "v") (vh_tup (va_cons val_c (va_cons val_c va_nil)) (by show 2 ≤ 100; decide)) (by omega) ?_
    rintro _ H3 ⟨r, rfl, sm, hr⟩
    exact ⟨sm _ _ hP.t, _, rfl, (hL.mono sm).appT (y := ("plain", 0)) (sm _ _ hP.t) ⟨r, rfl, hr⟩ w_plain.t⟩
  rintro n σ' H3 hn ⟨v4, rfl, hL⟩
  have hL := hL.le (show 4 + n ≤ 8 by omega)
  clear hn
  obtain ⟨N, _, hNo, hNl, hS⟩ := hL.net (by decide)
  have hp := hL.hp
  -- questions
  refine s_cut (fun σ' H' => ∃ v4, σ' = [some (.ref a), some (.int k), some (.ref wp), some (.ref p), v4, none] ∧ Lay H1 H' p s t qq L 12) (s_ifH (ah_neNil (by walk_at "v") hS hNo.sc) (fun _ H4 s4 => ?_) (fun _ H4 s4 => s_next ⟨_, rfl, (hL.mono s4).le (by decide)⟩)) ?_
  · have hL4 := hL.mono s4
    refine s_rangeH0 (B := 4) (rng5 rfl (hL4.sm.seq hA1) (by decide)) (by decide) (fun i σ' H' => ∃ v4, σ' = [some (.ref a), some (.int k), some (.ref wp), some (.ref p), v4, none] ∧ Lay H1 H' p s t qq L (8 + i)) ⟨_, rfl, hL4⟩ ?_ (fun n σ' H' hn h => by obtain ⟨v4, e, hL⟩ := h; exact ⟨v4, e, hL.le (by omega)⟩)
    rintro i σ' H' hi ⟨v4, rfl, hL⟩
    obtain ⟨lt, lq, hP, l1, l2⟩ := hL.pts
    have hp := hL.hp
    have hWl : (ws.map V.str).length = 9 := by rw [List.length_map]; exact hW.n
    have hW2 := (hW.mono hL.sm).h
    obtain ⟨u1, hu1, hx1⟩ := at_in (xs := ws.map V.str) (n := (i : Int)) (by omega) (by omega)
    obtain ⟨z1, hz1, rfl⟩ := List.mem_map.mp hu1
    obtain ⟨u2, hu2, hx2⟩ := at_in (xs := ws.map V.str) (n := 2 * (i : Int)) (by omega) (by omega)
    obtain ⟨z2, hz2, rfl⟩ := List.mem_map.mp hu2
    refine s_appendH hP.q (by walk_at "v") (W := fun v H'' => Same H' H'' ∧ VQst H'' v (0, (i : Int), [z1, z2])) (fun Z kk => ?_) (by omega) ?_
    · refine n_tup3 (W1 := fun v H'' => v = .int 0 ∧ H'' = H') (W2 := fun _ v H'' => v = .int (i : Int) ∧ H'' = H') (W3 := fun _ v H'' => ∃ r, v = .ref r ∧ Same H' H'' ∧ H'' r = some (.tup [.str z1, .str z2])) (vh_is val_c) (fun x H1 w1 => by rw [w1.2]; exact vh_is (by walk_at "v"))
        (fun x H1 y H2 w1 w2 => by rw [w2.2]; exact vh_tup (va_cons (v_ixL (by walk_at "v") (by walk_at "v") hW2 hx1) (va_cons (v_ixL (by walk_at "v") (v_I val_c (by walk_at "v") (Or.inl ⟨by decide, by decide⟩)) hW2 hx2) va_nil)) (by show 2 ≤ 100; decide)) ?_
      rintro x H5 y H6 z H7 r ⟨rfl, _⟩ ⟨rfl, _⟩ ⟨r2, rfl, sm, hr2⟩ hr
      exact kk _ _ ⟨same_new2 sm hr, r, r2, rfl, upd_same, same_new hr _ _ hr2⟩
    rintro v H5 ⟨sm, hv⟩
    refine ⟨sm _ _ hP.q, _, rfl, (hL.mono sm).appQ (sm _ _ hP.q) hv ⟨by show 2 ≤ 100; decide, fun x hx => ?_⟩⟩
    have hx : x ∈ [z1, z2] := hx
    simp only [List.mem_cons, List.not_mem_nil, or_false] at hx
    rcases hx with rfl | rfl
    · exact (hW.ok _ hz1).t
    · exact (hW.ok _ hz2).t
  rintro σ' H4 ⟨v4', rfl, hL4⟩
  -- the cells
  have hA4 := hL4.sm.seq hA1
  refine s_forHs (W := fun x H' => ∃ (l : Addr) (zs : List Int), x = .ref l ∧ zs.length ≤ 63 ∧ H4 l = none ∧ H' = upd H4 l (.lst (zs.map V.int))) (fun Z kk => ?_) ?_
  · refine ⟨_, rfl, 4, rfl, _, rfl, k, rfl, a, _, rfl, hA4, fun l hl => kk _ _ ⟨l, ((ns.drop (HT.sIx (ns.map V.int).length 0 (some 4))).take (HT.sIx (ns.map V.int).length (ns.map V.int).length (some k) - HT.sIx (ns.map V.int).length 0 (some 4))), rfl, ?_, hl, ?_⟩⟩
    · rw [List.length_take, List.length_drop]
      omega
    · unfold cutV
      rw [List.map_take, List.map_drop]
  rintro _ _ ⟨l, zs, rfl, hzs, hl, rfl⟩
  have s5 := same_new (o := .lst (zs.map V.int)) hl
  have hL5 : Lay (upd H1 l (.lst (zs.map V.int))) (upd H4 l (.lst (zs.map V.int))) p s t qq L 12 := (hL4.mono s5).base upd_same (hL4.fresh hl)
  have hl1 : H1 l = none := hL4.sm.free hl
  have s15 := same_new (o := .lst (zs.map V.int)) hl1
  refine s_forL val_c upd_same (fun i σ' H' => ∃ v4 v5 L', σ' = [some (.ref a), some (.int k), some (.ref wp), some (.ref p), v4, v5] ∧ Lay (upd H1 l (.lst (zs.map V.int))) H' p s t qq L' (12 + i)) (fun i σ' H' h => by obtain ⟨_, _, _, _, hL⟩ := h; exact hL.sm _ _ upd_same) ⟨_, _, L, rfl, hL5⟩ ?_ ?_
  · rintro i v σ' H' hi ⟨v4, v5, L', rfl, hL⟩
    obtain ⟨c, _, rfl⟩ := List.mem_map.mp (List.mem_of_getElem? hi)
    have hil : i < 63 := by
      have := (List.getElem?_eq_some_iff.mp hi).1
      rw [List.length_map] at this
      omega
    exact s_dropH (vh_call (W := fun v H'' => ∃ L', Lay (upd H1 l (.lst (zs.map V.int))) H'' p s t qq L' (12 + i + 1)) (va_cons (by walk_at "v") (va_cons (by walk_at "v") (va_cons (by walk_at "v") va_nil))) fun Q E k => ⟨_, p, s, t, qq, wp, L', 12 + i, ws, c, rfl, hL, by omega, hW.mono s15, fun H' L' h => k _ _ ⟨L', h⟩⟩) fun v H'' ⟨L'', h⟩ => ⟨_, _, L'', rfl, h⟩
  rintro σ' H6 ⟨v4, v5, L', rfl, hL6⟩
  rw [List.length_map] at hL6
  obtain ⟨N, hN, hNo, _⟩ := hL6.net (by omega)
  exact s_ret (by walk_at "v") (q _ H6 N ((s1.trans s15).trans hL6.sm) hN hNo)
/-! ### law -/
abbrev s_law : Stmt := topS 51
abbrev n_law : List Str := ["_law_script"]
abbrev p_law : List Str := ["_law_script"]
theorem sc_law : FnScope ["_law_script"] ["_law_script"] (defScope s_law) := ⟨rfl, rfl, rfl, by decide +kernel, rfl, by decide +kernel, by decide +kernel⟩
def sp_law (K : PySem.W.Frag) : Sp := fun vs H Q _ => ∃ (a : Addr) (ns : List Int), vs = [.ref a] ∧ SqL K H a (ns.map V.int) ∧ ns.length ≤ 63 ∧ ∀ H', Q (.bl true) H'
theorem fn_law {f : Addr} {fd : FuncData} (T : Txt K mg cl) (F : Fun K "law" "law" s_law f fd) (c_law_judged : Cal P w K mg base CX0 5 "_law_judged" p_law_judged sp_law_judged) (c_law_laid : Cal P w K mg base CX0 4 "_law_laid" p_law_laid (sp_law_laid K)) : FnOk P w K mg base CX0 6 f fd ["_law_script"] (sp_law K) := by
  refine F.ok sc_law (fun vs H Q E h => ?_) (fun cdv A outer s H vs Q E hr h => ?_)
  · obtain ⟨a, ns, rfl, _⟩ := h
    rfl
  obtain ⟨a, ns, rfl, hA, hns, q⟩ := h
  refine ⟨_, (pss_cons (ps_if (pt_not (pt_val (pe_cal c_law_judged hr (by decide) (by rfl) (pa_cons (pe_cal c_law_laid hr (by decide) (by rfl) (pa_cons (pv 0) (pa_cons (pe_callB call_lenQ (by rfl) T.z_len PySem.boot_len (pa_cons (pv 0) pa_nil)) pa_nil))) pa_nil)))) (pss_one (ps_ret pe_bl)) pss_nil)
    (pss_one (ps_ret (pe_cal c_law_judged hr (by decide) (by rfl) (pa_cons (pe_cal c_law_laid hr (by decide) (by rfl) (pa_cons (pv 0) (pa_cons (pe_callB (call_maxOf rfl) (by rfl) T.z_max boot_maxB (pa_cons (pe_op op_sub (pe_callB call_lenQ (by rfl) T.z_len PySem.boot_len (pa_cons (pv 0) pa_nil)) pe_int) (pa_cons pe_int pa_nil))) pa_nil))) pa_nil))))), ?_⟩
  have one : ∀ (H : Hp) (te : TE) (m : Int), SqL K H a (ns.map V.int) → Val te (L2.start ["_law_script"] [V.ref a]) H (.int m) → ValH (tCall sp_law_judged [] E0 (tCons (tCall (sp_law_laid K) [] E0 (tCons (tVar 0) (tCons te tNil))) tNil)) (L2.start ["_law_script"] [V.ref a]) H (fun v H' => v = .bl true ∧ Same H H') := fun H te m hA ht =>
    vh_call1 (W1 := fun v H' => ∃ N, Same H H' ∧ VNet H' v N ∧ NOk N) (vh_call (va_cons (val_var rfl) (va_cons ht va_nil)) fun Q E k => ⟨a, ns, m, rfl, hA, hns, fun v H' N sm hv ok => k _ _ ⟨N, sm, hv, ok⟩⟩) fun x H' Q E ⟨N, sm, hv, ok⟩ k => ⟨x, N, rfl, hv, ok, fun H'' s2 => k _ _ ⟨rfl, sm.trans s2⟩⟩
  refine s_ifsH (b := !true) (W := fun H' => Same H H') (ah_not (ah_B (one H _ (ns.map V.int).length hA (by walk_at "v")))) (fun e => (Bool.false_ne_true e).elim) (fun _ H1 s1 => ?_)
  have hA1 := s1.seq hA
  refine s_retH (one H1 _ _ hA1 (v_max (j := ((ns.map V.int).length : Int) - 1) (k := 0) (by walk_at "v") val_c)) fun v H2 h => ?_
  rw [h.1]
  exact q H2
end
end K17
namespace K17
open PySem PySem.Spec PyProof.Rows L2
section
variable {K : PySem.W.Frag} {mg : Str → Option Value} {h : Heap}
theorem df_mk {x : Str} {st : Stmt} {f : Addr} {oc : Value} {od an : Option Addr} {osl : Array (Option Value)} {kV doc pm cdv ct : Value} (X : K.In h) (G : h.Ns mainGlobals mg) (a : PySem.W.nsIn K mainGlobals x = some (some (.ref f)))
    (l : K.lookup f = some ⟨oc, od, .func (PySem.W.fnOf x x (defArgs st) (defBody st) (defScope st) .none kV doc pm an cdv ct), osl⟩) (c : PySem.W.codeIn K cdv x = true) (k : PySem.W.keepIn K (.ref f) = true) : Df K mg x st := ⟨f, _, fun_mk l c k, PySem.W.mg_of X G a⟩
theorem kit_ref {C D : Addr} {b : Bool} (h1 : PySem.W.isClsIn K C = true) (h2 : PySem.W.typeIn K (.ref C) = some (.type "type")) (h3 : PySem.W.subIn K (.ref D) (.ref C) = some b) (hb : D = C → b = true) : PySem.W.kitOne K (.ref D) (.ref C) = some b := by
  unfold PySem.W.kitOne
  by_cases e : D = C
  · subst e
    rw [if_pos (beq_self_eq_true _), hb rfl]
  · rw [if_neg (fun z => e (Value.ref.inj (beq_iff_eq.mp z)))]
    have e2 : ((PySem.W.clsIn K C).isSome && PySem.W.typeIn K (.ref C) == some (.type "type")) = true := by
      have h1' : (PySem.W.clsIn K C).isSome = true := h1
      rw [h1', h2] <;> rfl
    show (if ((PySem.W.clsIn K C).isSome && PySem.W.typeIn K (.ref C) == some (.type "type")) = true then PySem.W.subIn K (.ref D) (.ref C) else none) = some b
    rw [if_pos e2]
    exact h3
theorem kit_val {D : Addr} {b : Bool} (h3 : PySem.W.subIn K (.ref D) (.type "ValueError") = some b) : PySem.W.kitOne K (.ref D) (.type "ValueError") = some b := by
  unfold PySem.W.kitOne
  rw [if_neg (fun z => by cases beq_iff_eq.mp z)]
  show (if PySem.W.kitMeta "ValueError" = true then PySem.W.subIn K (.ref D) (.type "ValueError") else none) = some b
  rw [if_pos (by decide +kernel)]
  exact h3
def clOf (c0 c1 c2 c3 c4 c5 c6 c7 c8 c9 : Addr) (i : Fin 10) : Addr := match i with
  | 0 => c0 | 1 => c1 | 2 => c2 | 3 => c3 | 4 => c4 | 5 => c5 | 6 => c6 | 7 => c7 | 8 => c8 | 9 => c9
theorem txt_mk (X : K.In h) (G : h.Ns mainGlobals mg) {c0 c1 c2 c3 c4 c5 c6 c7 c8 c9 : Addr} {uL : Value} {t_MOST_SCOPES t_MOST_THINGS t_MOST_QUESTIONS t_MOST_STEPS t_MOST_TELLINGS t_MOST_NAMES : Tok}
    (z_len : PySem.W.nsIn K mainGlobals "len" = some none)
    (z_range : PySem.W.nsIn K mainGlobals "range" = some none)
    (z_isinstance : PySem.W.nsIn K mainGlobals "isinstance" = some none)
    (z_list : PySem.W.nsIn K mainGlobals "list" = some none)
    (z_tuple : PySem.W.nsIn K mainGlobals "tuple" = some none)
    (z_str : PySem.W.nsIn K mainGlobals "str" = some none)
    (z_int : PySem.W.nsIn K mainGlobals "int" = some none)
    (z_any : PySem.W.nsIn K mainGlobals "any" = some none)
    (z_all : PySem.W.nsIn K mainGlobals "all" = some none)
    (z_max : PySem.W.nsIn K mainGlobals "max" = some none)
    (z_ValueError : PySem.W.nsIn K mainGlobals "ValueError" = some none)
    (g_L : PySem.W.nsIn K mainGlobals "LETTERS" = some (some uL))
    (v_L : RelV (.str letters) uL)
    (g_MOST_SCOPES : PySem.W.nsIn K mainGlobals "MOST_SCOPES" = some (some (.int 40 t_MOST_SCOPES)))
    (g_MOST_THINGS : PySem.W.nsIn K mainGlobals "MOST_THINGS" = some (some (.int 80 t_MOST_THINGS)))
    (g_MOST_QUESTIONS : PySem.W.nsIn K mainGlobals "MOST_QUESTIONS" = some (some (.int 60 t_MOST_QUESTIONS)))
    (g_MOST_STEPS : PySem.W.nsIn K mainGlobals "MOST_STEPS" = some (some (.int 8 t_MOST_STEPS)))
    (g_MOST_TELLINGS : PySem.W.nsIn K mainGlobals "MOST_TELLINGS" = some (some (.int 12 t_MOST_TELLINGS)))
    (g_MOST_NAMES : PySem.W.nsIn K mainGlobals "MOST_NAMES" = some (some (.int 6 t_MOST_NAMES)))
    (c_0 : PySem.W.nsIn K mainGlobals "PathError" = some (some (.ref c0)))
    (c_1 : PySem.W.nsIn K mainGlobals "TooGreat" = some (some (.ref c1)))
    (c_2 : PySem.W.nsIn K mainGlobals "NoName" = some (some (.ref c2)))
    (c_3 : PySem.W.nsIn K mainGlobals "NoPlace" = some (some (.ref c3)))
    (c_4 : PySem.W.nsIn K mainGlobals "Twice" = some (some (.ref c4)))
    (c_5 : PySem.W.nsIn K mainGlobals "Tangled" = some (some (.ref c5)))
    (c_6 : PySem.W.nsIn K mainGlobals "NoText" = some (some (.ref c6)))
    (c_7 : PySem.W.nsIn K mainGlobals "NoRow" = some (some (.ref c7)))
    (c_8 : PySem.W.nsIn K mainGlobals "Ring" = some (some (.ref c8)))
    (c_9 : PySem.W.nsIn K mainGlobals "Caught" = some (some (.ref c9)))
    (i_0 : PySem.W.isClsIn K c0 = true)
    (t_0 : PySem.W.typeIn K (.ref c0) = some (.type "type"))
    (i_1 : PySem.W.isClsIn K c1 = true)
    (t_1 : PySem.W.typeIn K (.ref c1) = some (.type "type"))
    (i_2 : PySem.W.isClsIn K c2 = true)
    (t_2 : PySem.W.typeIn K (.ref c2) = some (.type "type"))
    (i_3 : PySem.W.isClsIn K c3 = true)
    (t_3 : PySem.W.typeIn K (.ref c3) = some (.type "type"))
    (i_4 : PySem.W.isClsIn K c4 = true)
    (t_4 : PySem.W.typeIn K (.ref c4) = some (.type "type"))
    (i_5 : PySem.W.isClsIn K c5 = true)
    (t_5 : PySem.W.typeIn K (.ref c5) = some (.type "type"))
    (i_6 : PySem.W.isClsIn K c6 = true)
    (t_6 : PySem.W.typeIn K (.ref c6) = some (.type "type"))
    (i_7 : PySem.W.isClsIn K c7 = true)
    (t_7 : PySem.W.typeIn K (.ref c7) = some (.type "type"))
    (i_8 : PySem.W.isClsIn K c8 = true)
    (t_8 : PySem.W.typeIn K (.ref c8) = some (.type "type"))
    (i_9 : PySem.W.isClsIn K c9 = true)
    (t_9 : PySem.W.typeIn K (.ref c9) = some (.type "type"))
    (s_1_0 : PySem.W.subIn K (.ref c1) (.ref c0) = some true)
    (s_1_1 : PySem.W.subIn K (.ref c1) (.ref c1) = some true)
    (s_1_2 : PySem.W.subIn K (.ref c1) (.ref c2) = some false)
    (s_1_3 : PySem.W.subIn K (.ref c1) (.ref c3) = some false)
    (s_1_4 : PySem.W.subIn K (.ref c1) (.ref c4) = some false)
    (s_1_5 : PySem.W.subIn K (.ref c1) (.ref c5) = some false)
    (s_1_6 : PySem.W.subIn K (.ref c1) (.ref c6) = some false)
    (s_1_7 : PySem.W.subIn K (.ref c1) (.ref c7) = some false)
    (s_1_8 : PySem.W.subIn K (.ref c1) (.ref c8) = some false)
    (s_1_9 : PySem.W.subIn K (.ref c1) (.ref c9) = some false)
    (s_1_V : PySem.W.subIn K (.ref c1) (.type "ValueError") = some true)
    (b_1 : PySem.W.subIn K (.ref c1) (.type "BaseException") = some true)
    (x_1 : PySem.W.excIn K c1 [.type "ValueError", .type "Exception", .type "BaseException", .type "object"] "ValueError.__new__" = true)
    (k_1 : PySem.W.keepIn K (.ref c1) = true)
    (hg_1 : PySem.W.findIn K (.ref c1) "__getattribute__" = some (some (.builtin "BaseException.__getattribute__")))
    (hk_1 : PySem.W.findIn K (.ref c1) "__getattr__" = some none)
    (hd_1 : PySem.W.hasDictIn K c1 = true)
    (ha_1 : PySem.W.findIn K (.ref c1) "__class__" = some (some (.builtin "object.__class__")))
    (hm_1 : PySem.W.mroIn K c1 (.type "object") = some true)
    (s_2_0 : PySem.W.subIn K (.ref c2) (.ref c0) = some true)
    (s_2_1 : PySem.W.subIn K (.ref c2) (.ref c1) = some false)
    (s_2_2 : PySem.W.subIn K (.ref c2) (.ref c2) = some true)
    (s_2_3 : PySem.W.subIn K (.ref c2) (.ref c3) = some false)
    (s_2_4 : PySem.W.subIn K (.ref c2) (.ref c4) = some false)
    (s_2_5 : PySem.W.subIn K (.ref c2) (.ref c5) = some false)
    (s_2_6 : PySem.W.subIn K (.ref c2) (.ref c6) = some false)
    (s_2_7 : PySem.W.subIn K (.ref c2) (.ref c7) = some false)
    (s_2_8 : PySem.W.subIn K (.ref c2) (.ref c8) = some false)
    (s_2_9 : PySem.W.subIn K (.ref c2) (.ref c9) = some false)
    (s_2_V : PySem.W.subIn K (.ref c2) (.type "ValueError") = some true)
    (b_2 : PySem.W.subIn K (.ref c2) (.type "BaseException") = some true)
    (x_2 : PySem.W.excIn K c2 [.type "ValueError", .type "Exception", .type "BaseException", .type "object"] "ValueError.__new__" = true)
    (k_2 : PySem.W.keepIn K (.ref c2) = true)
    (hg_2 : PySem.W.findIn K (.ref c2) "__getattribute__" = some (some (.builtin "BaseException.__getattribute__")))
    (hk_2 : PySem.W.findIn K (.ref c2) "__getattr__" = some none)
    (hd_2 : PySem.W.hasDictIn K c2 = true)
    (ha_2 : PySem.W.findIn K (.ref c2) "__class__" = some (some (.builtin "object.__class__")))
    (hm_2 : PySem.W.mroIn K c2 (.type "object") = some true)
    (s_3_0 : PySem.W.subIn K (.ref c3) (.ref c0) = some true)
    (s_3_1 : PySem.W.subIn K (.ref c3) (.ref c1) = some false)
    (s_3_2 : PySem.W.subIn K (.ref c3) (.ref c2) = some false)
    (s_3_3 : PySem.W.subIn K (.ref c3) (.ref c3) = some true)
    (s_3_4 : PySem.W.subIn K (.ref c3) (.ref c4) = some false)
    (s_3_5 : PySem.W.subIn K (.ref c3) (.ref c5) = some false)
    (s_3_6 : PySem.W.subIn K (.ref c3) (.ref c6) = some false)
    (s_3_7 : PySem.W.subIn K (.ref c3) (.ref c7) = some false)
    (s_3_8 : PySem.W.subIn K (.ref c3) (.ref c8) = some false)
    (s_3_9 : PySem.W.subIn K (.ref c3) (.ref c9) = some false)
    (s_3_V : PySem.W.subIn K (.ref c3) (.type "ValueError") = some true)
    (b_3 : PySem.W.subIn K (.ref c3) (.type "BaseException") = some true)
    (x_3 : PySem.W.excIn K c3 [.type "ValueError", .type "Exception", .type "BaseException", .type "object"] "ValueError.__new__" = true)
    (k_3 : PySem.W.keepIn K (.ref c3) = true)
    (hg_3 : PySem.W.findIn K (.ref c3) "__getattribute__" = some (some (.builtin "BaseException.__getattribute__")))
    (hk_3 : PySem.W.findIn K (.ref c3) "__getattr__" = some none)
    (hd_3 : PySem.W.hasDictIn K c3 = true)
    (ha_3 : PySem.W.findIn K (.ref c3) "__class__" = some (some (.builtin "object.__class__")))
    (hm_3 : PySem.W.mroIn K c3 (.type "object") = some true)
    (b_0 : PySem.W.subIn K (.ref c0) (.type "BaseException") = some true)
    (hd_0 : PySem.W.hasDictIn K c0 = true)
    (hn : PySem.W.specialIn K (.builtin "object.__class__") "__get__" = some (some (.builtin "getset_descriptor.__get__")))
    (ht : PySem.W.takesIn K (.builtin "object.__class__") = some true) :
    Txt K mg (clOf c0 c1 c2 c3 c4 c5 c6 c7 c8 c9) where
  z_len := PySem.W.mg_none_of X G z_len
  z_range := PySem.W.mg_none_of X G z_range
  z_isinstance := PySem.W.mg_none_of X G z_isinstance
  z_list := PySem.W.mg_none_of X G z_list
  z_tuple := PySem.W.mg_none_of X G z_tuple
  z_str := PySem.W.mg_none_of X G z_str
  z_int := PySem.W.mg_none_of X G z_int
  z_any := PySem.W.mg_none_of X G z_any
  z_all := PySem.W.mg_none_of X G z_all
  z_max := PySem.W.mg_none_of X G z_max
  z_ValueError := PySem.W.mg_none_of X G z_ValueError
  g_LETTERS := ⟨_, PySem.W.mg_of X G g_L, v_L⟩
  g_MOST_SCOPES := ⟨_, PySem.W.mg_of X G g_MOST_SCOPES, _, rfl⟩
  g_MOST_THINGS := ⟨_, PySem.W.mg_of X G g_MOST_THINGS, _, rfl⟩
  g_MOST_QUESTIONS := ⟨_, PySem.W.mg_of X G g_MOST_QUESTIONS, _, rfl⟩
  g_MOST_STEPS := ⟨_, PySem.W.mg_of X G g_MOST_STEPS, _, rfl⟩
  g_MOST_TELLINGS := ⟨_, PySem.W.mg_of X G g_MOST_TELLINGS, _, rfl⟩
  g_MOST_NAMES := ⟨_, PySem.W.mg_of X G g_MOST_NAMES, _, rfl⟩
  g_PathError := PySem.W.mg_of X G c_0
  g_TooGreat := PySem.W.mg_of X G c_1
  g_NoName := PySem.W.mg_of X G c_2
  g_NoPlace := PySem.W.mg_of X G c_3
  g_Twice := PySem.W.mg_of X G c_4
  g_Tangled := PySem.W.mg_of X G c_5
  g_NoText := PySem.W.mg_of X G c_6
  g_NoRow := PySem.W.mg_of X G c_7
  g_Ring := PySem.W.mg_of X G c_8
  g_Caught := PySem.W.mg_of X G c_9
  e_TooGreat := ⟨x_1, k_1, b_1, t_1, ⟨hg_1, hk_1, b_1, hd_1, ha_1, hn, ht, hm_1⟩⟩
  e_NoName := ⟨x_2, k_2, b_2, t_2, ⟨hg_2, hk_2, b_2, hd_2, ha_2, hn, ht, hm_2⟩⟩
  e_NoPlace := ⟨x_3, k_3, b_3, t_3, ⟨hg_3, hk_3, b_3, hd_3, ha_3, hn, ht, hm_3⟩⟩
  sub := fun i h1 h3 j => by
    have hi : i = 1 ∨ i = 2 ∨ i = 3 := by omega
    have hj : j = 0 ∨ j = 1 ∨ j = 2 ∨ j = 3 ∨ j = 4 ∨ j = 5 ∨ j = 6 ∨ j = 7 ∨ j = 8 ∨ j = 9 := by omega
    rcases hi with rfl | rfl | rfl
    · rcases hj with rfl | rfl | rfl | rfl | rfl | rfl | rfl | rfl | rfl | rfl
      · exact kit_ref i_0 t_0 s_1_0 (fun e => rfl)
      · exact kit_ref i_1 t_1 s_1_1 (fun e => rfl)
      · exact kit_ref i_2 t_2 s_1_2 (fun e => Option.some.inj (s_1_2.symm.trans (by have e2 : c1 = c2 := e; rw [← e2]; exact s_1_1)))
      · exact kit_ref i_3 t_3 s_1_3 (fun e => Option.some.inj (s_1_3.symm.trans (by have e2 : c1 = c3 := e; rw [← e2]; exact s_1_1)))
      · exact kit_ref i_4 t_4 s_1_4 (fun e => Option.some.inj (s_1_4.symm.trans (by have e2 : c1 = c4 := e; rw [← e2]; exact s_1_1)))
      · exact kit_ref i_5 t_5 s_1_5 (fun e => Option.some.inj (s_1_5.symm.trans (by have e2 : c1 = c5 := e; rw [← e2]; exact s_1_1)))
      · exact kit_ref i_6 t_6 s_1_6 (fun e => Option.some.inj (s_1_6.symm.trans (by have e2 : c1 = c6 := e; rw [← e2]; exact s_1_1)))
      · exact kit_ref i_7 t_7 s_1_7 (fun e => Option.some.inj (s_1_7.symm.trans (by have e2 : c1 = c7 := e; rw [← e2]; exact s_1_1)))
      · exact kit_ref i_8 t_8 s_1_8 (fun e => Option.some.inj (s_1_8.symm.trans (by have e2 : c1 = c8 := e; rw [← e2]; exact s_1_1)))
      · exact kit_ref i_9 t_9 s_1_9 (fun e => Option.some.inj (s_1_9.symm.trans (by have e2 : c1 = c9 := e; rw [← e2]; exact s_1_1)))
    · rcases hj with rfl | rfl | rfl | rfl | rfl | rfl | rfl | rfl | rfl | rfl
      · exact kit_ref i_0 t_0 s_2_0 (fun e => rfl)
      · exact kit_ref i_1 t_1 s_2_1 (fun e => Option.some.inj (s_2_1.symm.trans (by have e2 : c2 = c1 := e; rw [← e2]; exact s_2_2)))
      · exact kit_ref i_2 t_2 s_2_2 (fun e => rfl)
      · exact kit_ref i_3 t_3 s_2_3 (fun e => Option.some.inj (s_2_3.symm.trans (by have e2 : c2 = c3 := e; rw [← e2]; exact s_2_2)))
      · exact kit_ref i_4 t_4 s_2_4 (fun e => Option.some.inj (s_2_4.symm.trans (by have e2 : c2 = c4 := e; rw [← e2]; exact s_2_2)))
      · exact kit_ref i_5 t_5 s_2_5 (fun e => Option.some.inj (s_2_5.symm.trans (by have e2 : c2 = c5 := e; rw [← e2]; exact s_2_2)))
      · exact kit_ref i_6 t_6 s_2_6 (fun e => Option.some.inj (s_2_6.symm.trans (by have e2 : c2 = c6 := e; rw [← e2]; exact s_2_2)))
      · exact kit_ref i_7 t_7 s_2_7 (fun e => Option.some.inj (s_2_7.symm.trans (by have e2 : c2 = c7 := e; rw [← e2]; exact s_2_2)))
      · exact kit_ref i_8 t_8 s_2_8 (fun e => Option.some.inj (s_2_8.symm.trans (by have e2 : c2 = c8 := e; rw [← e2]; exact s_2_2)))
      · exact kit_ref i_9 t_9 s_2_9 (fun e => Option.some.inj (s_2_9.symm.trans (by have e2 : c2 = c9 := e; rw [← e2]; exact s_2_2)))
    · rcases hj with rfl | rfl | rfl | rfl | rfl | rfl | rfl | rfl | rfl | rfl
      · exact kit_ref i_0 t_0 s_3_0 (fun e => rfl)
      · exact kit_ref i_1 t_1 s_3_1 (fun e => Option.some.inj (s_3_1.symm.trans (by have e2 : c3 = c1 := e; rw [← e2]; exact s_3_3)))
      · exact kit_ref i_2 t_2 s_3_2 (fun e => Option.some.inj (s_3_2.symm.trans (by have e2 : c3 = c2 := e; rw [← e2]; exact s_3_3)))
      · exact kit_ref i_3 t_3 s_3_3 (fun e => rfl)
      · exact kit_ref i_4 t_4 s_3_4 (fun e => Option.some.inj (s_3_4.symm.trans (by have e2 : c3 = c4 := e; rw [← e2]; exact s_3_3)))
      · exact kit_ref i_5 t_5 s_3_5 (fun e => Option.some.inj (s_3_5.symm.trans (by have e2 : c3 = c5 := e; rw [← e2]; exact s_3_3)))
      · exact kit_ref i_6 t_6 s_3_6 (fun e => Option.some.inj (s_3_6.symm.trans (by have e2 : c3 = c6 := e; rw [← e2]; exact s_3_3)))
      · exact kit_ref i_7 t_7 s_3_7 (fun e => Option.some.inj (s_3_7.symm.trans (by have e2 : c3 = c7 := e; rw [← e2]; exact s_3_3)))
      · exact kit_ref i_8 t_8 s_3_8 (fun e => Option.some.inj (s_3_8.symm.trans (by have e2 : c3 = c8 := e; rw [← e2]; exact s_3_3)))
      · exact kit_ref i_9 t_9 s_3_9 (fun e => Option.some.inj (s_3_9.symm.trans (by have e2 : c3 = c9 := e; rw [← e2]; exact s_3_3)))
  subV := fun i h1 h3 => by
    have hi : i = 1 ∨ i = 2 ∨ i = 3 := by omega
    rcases hi with rfl | rfl | rfl
    · exact kit_val s_1_V
    · exact kit_val s_2_V
    · exact kit_val s_3_V
  exm := fun i h1 h3 => by
    have hi : i = 1 ∨ i = 2 ∨ i = 3 := by omega
    rcases hi with rfl | rfl | rfl
    · exact PySem.W.exm_ref b_0 hd_0 t_0 s_1_0
    · exact PySem.W.exm_ref b_0 hd_0 t_0 s_2_0
    · exact PySem.W.exm_ref b_0 hd_0 t_0 s_3_0
end
/-- the law's def, from what the top has written -/
theorem law_all {P : Program} {w : World} {K : PySem.W.Frag} {h : Heap} {mg : Str → Option Value} {fa : Addr} {cl : Fin 10 → Addr} (X : K.In h) (G : h.Ns mainGlobals mg) (hfa : mg "law" = some (.ref fa)) (T : Txt K mg cl)
    (d_is_name : Df K mg "is_name" s_is_name)
    (d_small_enough : Df K mg "small_enough" s_small_enough)
    (d_all_named : Df K mg "all_named" s_all_named)
    (d_step_there : Df K mg "step_there" s_step_there)
    (d_telling_there : Df K mg "telling_there" s_telling_there)
    (d_thing_there : Df K mg "thing_there" s_thing_there)
    (d_all_there : Df K mg "all_there" s_all_there)
    (d_net_of : Df K mg "net_of" s_net_of)
    (d_law_cell_at : Df K mg "_law_cell_at" s_law_cell_at)
    (d_law_words : Df K mg "_law_words" s_law_words)
    (d_law_kinds_of : Df K mg "_law_kinds_of" s_law_kinds_of)
    (d_law_refused_as : Df K mg "_law_refused_as" s_law_refused_as)
    (d_law_is_net : Df K mg "_law_is_net" s_law_is_net)
    (d_law_copy : Df K mg "_law_copy" s_law_copy)
    (d_law_number : Df K mg "_law_number" s_law_number)
    (d_law_word : Df K mg "_law_word" s_law_word)
    (d_law_kind : Df K mg "_law_kind" s_law_kind)
    (d_law_question : Df K mg "_law_question" s_law_question)
    (d_law_thing : Df K mg "_law_thing" s_law_thing)
    (d_law_step : Df K mg "_law_step" s_law_step)
    (d_law_telling : Df K mg "_law_telling" s_law_telling)
    (d_law_lay : Df K mg "_law_lay" s_law_lay)
    (d_law_great : Df K mg "_law_great" s_law_great)
    (d_law_is_word : Df K mg "_law_is_word" s_law_is_word)
    (d_law_words_of : Df K mg "_law_words_of" s_law_words_of)
    (d_law_there : Df K mg "_law_there" s_law_there)
    (d_law_placed : Df K mg "_law_placed" s_law_placed)
    (d_law_due : Df K mg "_law_due" s_law_due)
    (d_law_judged : Df K mg "_law_judged" s_law_judged)
    (d_law_laid : Df K mg "_law_laid" s_law_laid)
    (d_law : Df K mg "law" s_law)
    : ∃ fd : FuncData, (∀ (s : Shared) (v : Value), BindsTo s fd ⟨[v], []⟩ [("_law_script", v)]) ∧ ∀ base : Heap, K.In base → base.Ns mainGlobals mg → FnOk P w K mg base CX0 6 fa fd ["_law_script"] (sp_law K) := by
  obtain ⟨f, fd, F, g⟩ := d_law
  have e := hfa.symm.trans g
  cases e
  obtain ⟨oc, od, kV, doc, pm, an, cdv, ct, osl, rfl, lk, hcd⟩ := id F.ex
  refine ⟨PySem.W.fnOf "law" "law" (defArgs s_law) (defBody s_law) (defScope s_law) .none kV doc pm an cdv ct, fun s v => .of_eq rfl, fun base _ _ => ?_⟩
  have k_is_name := ok_is_name (P := P) (w := w) (base := base) T d_is_name
  have k_small_enough := ok_small_enough (P := P) (w := w) (base := base) T d_small_enough
  have k_all_named := ok_all_named (P := P) (w := w) (base := base) T d_all_named k_is_name
  have k_step_there := ok_step_there (P := P) (w := w) (base := base) T d_step_there
  have k_telling_there := ok_telling_there (P := P) (w := w) (base := base) T d_telling_there
  have k_thing_there := ok_thing_there (P := P) (w := w) (base := base) T d_thing_there
  have k_all_there := ok_all_there (P := P) (w := w) (base := base) T d_all_there k_step_there k_telling_there k_thing_there
  have k_net_of := ok_net_of (P := P) (w := w) (base := base) T d_net_of k_small_enough k_all_named k_all_there
  have k_law_cell_at := ok_law_cell_at (P := P) (w := w) (base := base) T d_law_cell_at
  have k_law_words := ok_law_words (P := P) (w := w) (base := base) T d_law_words
  have k_law_kinds_of := ok_law_kinds_of (P := P) (w := w) (base := base) T d_law_kinds_of k_net_of
  have k_law_refused_as := ok_law_refused_as (P := P) (w := w) (base := base) T d_law_refused_as
  have k_law_is_net := ok_law_is_net (P := P) (w := w) (base := base) T d_law_is_net
  have k_law_copy := ok_law_copy (P := P) (w := w) (base := base) T d_law_copy
  have k_law_number := ok_law_number (P := P) (w := w) (base := base) T d_law_number
  have k_law_word := ok_law_word (P := P) (w := w) (base := base) T d_law_word
  have k_law_kind := ok_law_kind (P := P) (w := w) (base := base) T d_law_kind
  have k_law_question := ok_law_question (P := P) (w := w) (base := base) T d_law_question k_law_number k_law_word
  have k_law_thing := ok_law_thing (P := P) (w := w) (base := base) T d_law_thing k_law_number k_law_kind
  have k_law_step := ok_law_step (P := P) (w := w) (base := base) T d_law_step k_law_number k_law_kind k_law_word
  have k_law_telling := ok_law_telling (P := P) (w := w) (base := base) T d_law_telling k_law_number k_law_kind k_law_word
  have k_law_lay := ok_law_lay (P := P) (w := w) (base := base) T d_law_lay k_law_thing k_law_question k_law_step k_law_telling
  have k_law_great := ok_law_great (P := P) (w := w) (base := base) T d_law_great
  have k_law_is_word := ok_law_is_word (P := P) (w := w) (base := base) T d_law_is_word
  have k_law_words_of := ok_law_words_of (P := P) (w := w) (base := base) T d_law_words_of
  have k_law_there := ok_law_there (P := P) (w := w) (base := base) T d_law_there
  have k_law_placed := ok_law_placed (P := P) (w := w) (base := base) T d_law_placed k_law_there
  have k_law_due := ok_law_due (P := P) (w := w) (base := base) T d_law_due k_law_great k_law_words_of k_law_is_word k_law_placed
  have k_law_judged := ok_law_judged (P := P) (w := w) (base := base) T d_law_judged k_law_copy k_law_due k_law_refused_as k_law_kinds_of k_law_is_net k_net_of
  have k_law_laid := ok_law_laid (P := P) (w := w) (base := base) T d_law_laid k_law_words k_law_cell_at k_law_lay
  exact fn_law T F k_law_judged k_law_laid
end K17
open PySem PySem.W PyProof.Rows
set_option maxHeartbeats 0 in
theorem PySem.Challenge.cw_namepaths_k17_whole_nets_judged_holds : PySem.Challenge.rw_namepaths_k17_whole_nets_judged.Holds := by
  w_on; o_law; k_head; (case hw => w_witness2)
  k_fill
  refine L2.walk_of (l := PySem.Challenge.rw_namepaths_k17_whole_nets_judged) (n := 63) (k := 6) (x := "_law_script") (CX := fun _ => L2.CX0) (sp := fun w => K17.sp_law _) rfl (by decide) rfl ⟨rfl, by decide, by decide⟩ (fun w h Y => PySem.W.kIn_of Y) ?F (fun _ _ a ns hl _ hS => ⟨a, ns, rfl, hS, hl, fun _ => rfl⟩) (fun _ _ _ _ _ h => h)
  case F =>
    intro w mg fa h KX G hmg
    refine' K17.law_all KX G hmg (K17.txt_mk KX G ?z_len ?z_range ?z_isinstance ?z_list ?z_tuple ?z_str ?z_int ?z_any ?z_all ?z_max ?z_ValueError ?g_L ?v_L ?g_MOST_SCOPES ?g_MOST_THINGS ?g_MOST_QUESTIONS ?g_MOST_STEPS ?g_MOST_TELLINGS ?g_MOST_NAMES ?c_0 ?c_1 ?c_2 ?c_3 ?c_4 ?c_5 ?c_6 ?c_7 ?c_8 ?c_9 ?i_0 ?t_0 ?i_1 ?t_1 ?i_2 ?t_2 ?i_3 ?t_3 ?i_4 ?t_4 ?i_5 ?t_5 ?i_6 ?t_6 ?i_7 ?t_7 ?i_8 ?t_8 ?i_9 ?t_9 ?s_1_0 ?s_1_1 ?s_1_2 ?s_1_3 ?s_1_4 ?s_1_5 ?s_1_6 ?s_1_7 ?s_1_8 ?s_1_9 ?s_1_V ?b_1 ?x_1 ?k_1 ?hg_1 ?hk_1 ?hd_1 ?ha_1 ?hm_1 ?s_2_0 ?s_2_1 ?s_2_2 ?s_2_3 ?s_2_4 ?s_2_5 ?s_2_6 ?s_2_7 ?s_2_8 ?s_2_9 ?s_2_V ?b_2 ?x_2 ?k_2 ?hg_2 ?hk_2 ?hd_2 ?ha_2 ?hm_2 ?s_3_0 ?s_3_1 ?s_3_2 ?s_3_3 ?s_3_4 ?s_3_5 ?s_3_6 ?s_3_7 ?s_3_8 ?s_3_9 ?s_3_V ?b_3 ?x_3 ?k_3 ?hg_3 ?hk_3 ?hd_3 ?ha_3 ?hm_3 ?b_0 ?hd_0 ?hn ?ht) (K17.df_mk KX G ?da_is_name ?dl_is_name ?dc_is_name ?dk_is_name) (K17.df_mk KX G ?da_small_enough ?dl_small_enough ?dc_small_enough ?dk_small_enough) (K17.df_mk KX G ?da_all_named ?dl_all_named ?dc_all_named ?dk_all_named) (K17.df_mk KX G ?da_step_there ?dl_step_there ?dc_step_there ?dk_step_there) (K17.df_mk KX G ?da_telling_there ?dl_telling_there ?dc_telling_there ?dk_telling_there) (K17.df_mk KX G ?da_thing_there ?dl_thing_there ?dc_thing_there ?dk_thing_there) (K17.df_mk KX G ?da_all_there ?dl_all_there ?dc_all_there ?dk_all_there) (K17.df_mk KX G ?da_net_of ?dl_net_of ?dc_net_of ?dk_net_of) (K17.df_mk KX G ?da_law_cell_at ?dl_law_cell_at ?dc_law_cell_at ?dk_law_cell_at) (K17.df_mk KX G ?da_law_words ?dl_law_words ?dc_law_words ?dk_law_words) (K17.df_mk KX G ?da_law_kinds_of ?dl_law_kinds_of ?dc_law_kinds_of ?dk_law_kinds_of) (K17.df_mk KX G ?da_law_refused_as ?dl_law_refused_as ?dc_law_refused_as ?dk_law_refused_as) (K17.df_mk KX G ?da_law_is_net ?dl_law_is_net ?dc_law_is_net ?dk_law_is_net) (K17.df_mk KX G ?da_law_copy ?dl_law_copy ?dc_law_copy ?dk_law_copy) (K17.df_mk KX G ?da_law_number ?dl_law_number ?dc_law_number ?dk_law_number) (K17.df_mk KX G ?da_law_word ?dl_law_word ?dc_law_word ?dk_law_word) (K17.df_mk KX G ?da_law_kind ?dl_law_kind ?dc_law_kind ?dk_law_kind) (K17.df_mk KX G ?da_law_question ?dl_law_question ?dc_law_question ?dk_law_question) (K17.df_mk KX G ?da_law_thing ?dl_law_thing ?dc_law_thing ?dk_law_thing) (K17.df_mk KX G ?da_law_step ?dl_law_step ?dc_law_step ?dk_law_step) (K17.df_mk KX G ?da_law_telling ?dl_law_telling ?dc_law_telling ?dk_law_telling) (K17.df_mk KX G ?da_law_lay ?dl_law_lay ?dc_law_lay ?dk_law_lay) (K17.df_mk KX G ?da_law_great ?dl_law_great ?dc_law_great ?dk_law_great) (K17.df_mk KX G ?da_law_is_word ?dl_law_is_word ?dc_law_is_word ?dk_law_is_word) (K17.df_mk KX G ?da_law_words_of ?dl_law_words_of ?dc_law_words_of ?dk_law_words_of) (K17.df_mk KX G ?da_law_there ?dl_law_there ?dc_law_there ?dk_law_there) (K17.df_mk KX G ?da_law_placed ?dl_law_placed ?dc_law_placed ?dk_law_placed) (K17.df_mk KX G ?da_law_due ?dl_law_due ?dc_law_due ?dk_law_due) (K17.df_mk KX G ?da_law_judged ?dl_law_judged ?dc_law_judged ?dk_law_judged) (K17.df_mk KX G ?da_law_laid ?dl_law_laid ?dc_law_laid ?dk_law_laid) (K17.df_mk KX G ?da_law ?dl_law ?dc_law ?dk_law)
    (case da_is_name => k_is); (case dl_is_name => k_is); (case dc_is_name => k_is); (case dk_is_name => k_is)
    (case da_small_enough => k_is); (case dl_small_enough => k_is); (case dc_small_enough => k_is); (case dk_small_enough => k_is)
    (case da_all_named => k_is); (case dl_all_named => k_is); (case dc_all_named => k_is); (case dk_all_named => k_is)
    (case da_step_there => k_is); (case dl_step_there => k_is); (case dc_step_there => k_is); (case dk_step_there => k_is)
    (case da_telling_there => k_is); (case dl_telling_there => k_is); (case dc_telling_there => k_is); (case dk_telling_there => k_is)
    (case da_thing_there => k_is); (case dl_thing_there => k_is); (case dc_thing_there => k_is); (case dk_thing_there => k_is)
    (case da_all_there => k_is); (case dl_all_there => k_is); (case dc_all_there => k_is); (case dk_all_there => k_is)
    (case da_net_of => k_is); (case dl_net_of => k_is); (case dc_net_of => k_is); (case dk_net_of => k_is)
    (case da_law_cell_at => k_is); (case dl_law_cell_at => k_is); (case dc_law_cell_at => k_is); (case dk_law_cell_at => k_is)
    (case da_law_words => k_is); (case dl_law_words => k_is); (case dc_law_words => k_is); (case dk_law_words => k_is)
    (case da_law_kinds_of => k_is); (case dl_law_kinds_of => k_is); (case dc_law_kinds_of => k_is); (case dk_law_kinds_of => k_is)
    (case da_law_refused_as => k_is); (case dl_law_refused_as => k_is); (case dc_law_refused_as => k_is); (case dk_law_refused_as => k_is)
    (case da_law_is_net => k_is); (case dl_law_is_net => k_is); (case dc_law_is_net => k_is); (case dk_law_is_net => k_is)
    (case da_law_copy => k_is); (case dl_law_copy => k_is); (case dc_law_copy => k_is); (case dk_law_copy => k_is)
    (case da_law_number => k_is); (case dl_law_number => k_is); (case dc_law_number => k_is); (case dk_law_number => k_is)
    (case da_law_word => k_is); (case dl_law_word => k_is); (case dc_law_word => k_is); (case dk_law_word => k_is)
    (case da_law_kind => k_is); (case dl_law_kind => k_is); (case dc_law_kind => k_is); (case dk_law_kind => k_is)
    (case da_law_question => k_is); (case dl_law_question => k_is); (case dc_law_question => k_is); (case dk_law_question => k_is)
    (case da_law_thing => k_is); (case dl_law_thing => k_is); (case dc_law_thing => k_is); (case dk_law_thing => k_is)
    (case da_law_step => k_is); (case dl_law_step => k_is); (case dc_law_step => k_is); (case dk_law_step => k_is)
    (case da_law_telling => k_is); (case dl_law_telling => k_is); (case dc_law_telling => k_is); (case dk_law_telling => k_is)
    (case da_law_lay => k_is); (case dl_law_lay => k_is); (case dc_law_lay => k_is); (case dk_law_lay => k_is)
    (case da_law_great => k_is); (case dl_law_great => k_is); (case dc_law_great => k_is); (case dk_law_great => k_is)
    (case da_law_is_word => k_is); (case dl_law_is_word => k_is); (case dc_law_is_word => k_is); (case dk_law_is_word => k_is)
    (case da_law_words_of => k_is); (case dl_law_words_of => k_is); (case dc_law_words_of => k_is); (case dk_law_words_of => k_is)
    (case da_law_there => k_is); (case dl_law_there => k_is); (case dc_law_there => k_is); (case dk_law_there => k_is)
    (case da_law_placed => k_is); (case dl_law_placed => k_is); (case dc_law_placed => k_is); (case dk_law_placed => k_is)
    (case da_law_due => k_is); (case dl_law_due => k_is); (case dc_law_due => k_is); (case dk_law_due => k_is)
    (case da_law_judged => k_is); (case dl_law_judged => k_is); (case dc_law_judged => k_is); (case dk_law_judged => k_is)
    (case da_law_laid => k_is); (case dl_law_laid => k_is); (case dc_law_laid => k_is); (case dk_law_laid => k_is)
    (case da_law => k_is); (case dl_law => k_is); (case dc_law => k_is); (case dk_law => k_is)
    (case g_L => k_is)
    (case g_MOST_SCOPES => k_is)
    (case g_MOST_THINGS => k_is)
    (case g_MOST_QUESTIONS => k_is)
    (case g_MOST_STEPS => k_is)
    (case g_MOST_TELLINGS => k_is)
    (case g_MOST_NAMES => k_is)
    (case c_0 => k_is)
    (case c_1 => k_is)
    (case c_2 => k_is)
    (case c_3 => k_is)
    (case c_4 => k_is)
    (case c_5 => k_is)
    (case c_6 => k_is)
    (case c_7 => k_is)
    (case c_8 => k_is)
    (case c_9 => k_is)
    (case z_len => k_is)
    (case z_range => k_is)
    (case z_isinstance => k_is)
    (case z_list => k_is)
    (case z_tuple => k_is)
    (case z_str => k_is)
    (case z_int => k_is)
    (case z_any => k_is)
    (case z_all => k_is)
    (case z_max => k_is)
    (case z_ValueError => k_is)
    (case v_L => exact ⟨_, rfl⟩)
    (case i_0 => k_is)
    (case t_0 => k_is)
    (case i_1 => k_is)
    (case t_1 => k_is)
    (case i_2 => k_is)
    (case t_2 => k_is)
    (case i_3 => k_is)
    (case t_3 => k_is)
    (case i_4 => k_is)
    (case t_4 => k_is)
    (case i_5 => k_is)
    (case t_5 => k_is)
    (case i_6 => k_is)
    (case t_6 => k_is)
    (case i_7 => k_is)
    (case t_7 => k_is)
    (case i_8 => k_is)
    (case t_8 => k_is)
    (case i_9 => k_is)
    (case t_9 => k_is)
    (case s_1_0 => k_is)
    (case s_1_1 => k_is)
    (case s_1_2 => k_is)
    (case s_1_3 => k_is)
    (case s_1_4 => k_is)
    (case s_1_5 => k_is)
    (case s_1_6 => k_is)
    (case s_1_7 => k_is)
    (case s_1_8 => k_is)
    (case s_1_9 => k_is)
    (case s_1_V => k_is)
    (case b_1 => k_is)
    (case x_1 => k_exc)
    (case k_1 => k_is)
    (case hg_1 => k_is)
    (case hk_1 => k_is)
    (case hd_1 => k_is)
    (case ha_1 => k_is)
    (case hm_1 => k_is)
    (case s_2_0 => k_is)
    (case s_2_1 => k_is)
    (case s_2_2 => k_is)
    (case s_2_3 => k_is)
    (case s_2_4 => k_is)
    (case s_2_5 => k_is)
    (case s_2_6 => k_is)
    (case s_2_7 => k_is)
    (case s_2_8 => k_is)
    (case s_2_9 => k_is)
    (case s_2_V => k_is)
    (case b_2 => k_is)
    (case x_2 => k_exc)
    (case k_2 => k_is)
    (case hg_2 => k_is)
    (case hk_2 => k_is)
    (case hd_2 => k_is)
    (case ha_2 => k_is)
    (case hm_2 => k_is)
    (case s_3_0 => k_is)
    (case s_3_1 => k_is)
    (case s_3_2 => k_is)
    (case s_3_3 => k_is)
    (case s_3_4 => k_is)
    (case s_3_5 => k_is)
    (case s_3_6 => k_is)
    (case s_3_7 => k_is)
    (case s_3_8 => k_is)
    (case s_3_9 => k_is)
    (case s_3_V => k_is)
    (case b_3 => k_is)
    (case x_3 => k_exc)
    (case k_3 => k_is)
    (case hg_3 => k_is)
    (case hk_3 => k_is)
    (case hd_3 => k_is)
    (case ha_3 => k_is)
    (case hm_3 => k_is)
    (case b_0 => k_is)
    (case hd_0 => k_is)
    (case hn => k_is)
    (case ht => k_is)
#print axioms PySem.Challenge.cw_namepaths_k17_whole_nets_judged_holds
