import PyProof.Rows.All
import Wide.All
import OpenK.AllK
import Wide.FinOn
import HandS.ForMost
import HandS.Evl
import HandS.TupAny
import HandS.Defaults
import KE.SortData
import HandS.Strs
import PySem.Challenge.RW_goneday_k69_whole_archive_does_the_plan
import HandS.HeadHook1
import HandS.HeadHook2
import HandS.HeadHook3
import HandS.Ends
import HandS.SortKw
import KE.DataMinMax
import PyProof.Claim2Refuses
import HandS.SetFor
import HandS.Walk
import HandS.IsInst
import HandS.Text
import HandS.Steps
import HandS.Zip
import KE.GoesZip
import KE.GoesMore
import KE.GoesEnum
import HandS.More
import HandS.ExcInit
import HandS.TryOnly
import KE.KStateDown
import HandS.WordsExc
import HandS.Head0
import HandS.Head1
import HandS.Head2
import HandS.HeadEnd
import PyProof.StrBlock2
import HandS.WideBits
import KE.DataCmp
set_option Elab.async false
set_option linter.all false
set_option maxRecDepth 100000
set_option maxHeartbeats 4000000
/-! The layer of this proof: what an expression, a statement gives, over tuples that stand (TD), by weakest preconditions. -/
namespace G
open PySem PySem.Spec PyProof.Rows L2 Evl

/-! ### heaps whose tuples stand -/
def Tm (H H' : Hp) : Prop := ∀ a xs, Rd H a (.tup xs) → Rd H' a (.tup xs)
theorem Tm.refl (H : Hp) : Tm H H := fun _ _ h => h
theorem Tm.trans {H H1 H2 : Hp} (a : Tm H H1) (b : Tm H1 H2) : Tm H H2 := fun x o h => b x o (a x o h)
theorem Tm.ex {H H' : Hp} (e : Ex H H') : Tm H H' := fun _ _ h => ex_rd e h
theorem Tm.put {H : Hp} {p : Addr} {o o' : HO} (h : H p = some o) (n : ∀ xs, o ≠ .tup xs) (n2 : ∀ ob xs, o ≠ .frz ob (.tup xs)) : Tm H (upd H p o') := fun a xs r => by
  rcases r with r | ⟨ob, r⟩
  · exact .inl (by rw [upd_ne (ne_of r h (Ne.symm (n xs)))]; exact r)
  · exact .inr ⟨ob, by rw [upd_ne (ne_of r h (Ne.symm (n2 ob xs)))]; exact r⟩
theorem Tm.lst {H : Hp} {p : Addr} {xs : List V} {o' : HO} (h : H p = some (.lst xs)) : Tm H (upd H p o') := Tm.put h (fun _ z => nomatch z) fun _ _ z => nomatch z
theorem Tm.dK {H : Hp} {p : Addr} {xs : List (Key × V)} {o' : HO} (h : H p = some (.dK xs)) : Tm H (upd H p o') := Tm.put h (fun _ z => nomatch z) fun _ _ z => nomatch z
theorem Tm.ins {H : Hp} {p C dx : Addr} {fs : List (Str × V)} {o' : HO} (h : H p = some (.ins C dx fs)) : Tm H (upd H p o') := Tm.put h (fun _ z => nomatch z) fun _ _ z => nomatch z
theorem tm_t {K : PySem.W.Frag} {H H' : Hp} {a : Addr} {xs : List V} (e : Tm H H') (h : SqT K H a xs) : SqT K H' a xs := by
  rcases h with h | h
  · exact Or.inl (e a xs h)
  · exact Or.inr h

/-! ### data that stands: None, truths, ints, texts, tuples of such -/
mutual
inductive TD (K : PySem.W.Frag) (H : Hp) : V → PyData → Prop
  | non : TD K H .non .none
  | bl (b : Bool) : TD K H (.bl b) (.bool b)
  | int (i : Int) : TD K H (.int i) (.int i)
  | str (x : Str) : TD K H (.str x) (.str x)
  | tup {a : Addr} {xs : List V} {ds : List PyData} : SqT K H a xs → TDs K H xs ds → TD K H (.ref a) (.tuple ds)
inductive TDs (K : PySem.W.Frag) (H : Hp) : List V → List PyData → Prop
  | nil : TDs K H [] []
  | cons {v : V} {vs : List V} {d : PyData} {ds : List PyData} : TD K H v d → TDs K H vs ds → TDs K H (v :: vs) (d :: ds)
end
section
variable {K : PySem.W.Frag} {H H' : Hp}
mutual
theorem TD.tm (e : Tm H H') : ∀ {v : V} {d : PyData}, TD K H v d → TD K H' v d
  | _, _, .non => .non
  | _, _, .bl b => .bl b
  | _, _, .int i => .int i
  | _, _, .str x => .str x
  | _, _, .tup s t => .tup (tm_t e s) (TDs.tm e t)
theorem TDs.tm (e : Tm H H') : ∀ {v : List V} {d : List PyData}, TDs K H v d → TDs K H' v d
  | _, _, .nil => .nil
  | _, _, .cons a b => .cons (TD.tm e a) (TDs.tm e b)
end
theorem TD.ex (e : Ex H H') {v : V} {d : PyData} (h : TD K H v d) : TD K H' v d := h.tm (.ex e)
theorem TDs.ex (e : Ex H H') {v : List V} {d : List PyData} (h : TDs K H v d) : TDs K H' v d := h.tm (.ex e)
mutual
theorem TD.dp : ∀ {v : V} {d : PyData}, TD K H v d → Dp K H v d
  | _, _, .non => .non
  | _, _, .bl b => .bl b
  | _, _, .int i => .int i
  | _, _, .str x => .str x
  | _, _, .tup s t => .tup s (TDs.dp t)
theorem TDs.dp : ∀ {v : List V} {d : List PyData}, TDs K H v d → DpAll K H v d
  | _, _, .nil => .nil
  | _, _, .cons a b => .cons (TD.dp a) (TDs.dp b)
end
theorem TDs.length : ∀ {v : List V} {d : List PyData}, TDs K H v d → v.length = d.length
  | _, _, .nil => rfl
  | _, _, .cons _ b => congrArg Nat.succ (TDs.length b)
theorem TDs.get : ∀ {v : List V} {d : List PyData} {i : Nat} {x : PyData}, TDs K H v d → d[i]? = some x → ∃ u, v[i]? = some u ∧ TD K H u x
  | _, _, _, _, .nil, e => by simp at e
  | _, _, 0, _, .cons r _, e => by simp at e; subst e; exact ⟨_, rfl, r⟩
  | _, _, i + 1, x, .cons _ t, e => by
    obtain ⟨u, h1, h2⟩ := TDs.get (i := i) (x := x) t (by simpa using e)
    exact ⟨u, by simpa using h1, h2⟩
theorem TDs.get' : ∀ {v : List V} {d : List PyData} {i : Nat} {u : V}, TDs K H v d → v[i]? = some u → ∃ x, d[i]? = some x ∧ TD K H u x
  | _, _, _, _, .nil, e => by simp at e
  | _, _, 0, _, .cons r _, e => by simp at e; subst e; exact ⟨_, rfl, r⟩
  | _, _, i + 1, u, .cons _ t, e => by
    obtain ⟨x, h1, h2⟩ := TDs.get' (i := i) (u := u) t (by simpa using e)
    exact ⟨x, by simpa using h1, h2⟩
theorem TDs.append : ∀ {v v' : List V} {d d' : List PyData}, TDs K H v d → TDs K H v' d' → TDs K H (v ++ v') (d ++ d')
  | _, _, _, _, .nil, s => s
  | _, _, _, _, .cons r t, s => .cons r (TDs.append t s)
theorem TDs.take : ∀ {v : List V} {d : List PyData} (n : Nat), TDs K H v d → TDs K H (v.take n) (d.take n)
  | _, _, 0, _ => .nil
  | _, _, _ + 1, .nil => .nil
  | _, _, n + 1, .cons r t => .cons r (TDs.take n t)
theorem TDs.drop : ∀ {v : List V} {d : List PyData} (n : Nat), TDs K H v d → TDs K H (v.drop n) (d.drop n)
  | _, _, 0, r => r
  | _, _, n + 1, .nil => .nil
  | _, _, n + 1, .cons _ t => TDs.drop n t
theorem TDs.cut {v : List V} {d : List PyData} (h : TDs K H v d) (lo hi : Option Int) : TDs K H (cutV v lo hi) ((d.drop (HT.sIx d.length 0 lo)).take (HT.sIx d.length d.length hi - HT.sIx d.length 0 lo)) := by
  unfold cutV
  rw [h.length]
  exact (h.drop _).take _
theorem TD.str_iff {v : V} {x : Str} (h : TD K H v (.str x)) : v = .str x := by cases h; rfl
theorem TD.int_iff {v : V} {x : Int} (h : TD K H v (.int x)) : v = .int x := by cases h; rfl
theorem TD.bl_iff {v : V} {x : Bool} (h : TD K H v (.bool x)) : v = .bl x := by cases h; rfl
theorem TD.non_iff {v : V} (h : TD K H v .none) : v = .non := by cases h; rfl
theorem TDs.strs : ∀ {v : List V} {xs : List Str}, TDs K H v (xs.map .str) → v = xs.map .str
  | _, [], .nil => rfl
  | _, x :: r, .cons a b => by rw [a.str_iff, TDs.strs b]; rfl
theorem TDs.ints : ∀ {v : List V} {xs : List Int}, TDs K H v (xs.map .int) → v = xs.map .int
  | _, [], .nil => rfl
  | _, x :: r, .cons a b => by rw [a.int_iff, TDs.ints b]; rfl
theorem TDs.bls : ∀ {v : List V} {xs : List Bool}, TDs K H v (xs.map .bool) → v = xs.map .bl
  | _, [], .nil => rfl
  | _, x :: r, .cons a b => by rw [a.bl_iff, TDs.bls b]; rfl
theorem TDs.of_strs : ∀ (xs : List Str), TDs K H (xs.map .str) (xs.map .str)
  | [] => .nil
  | x :: r => .cons (.str x) (TDs.of_strs r)
theorem TDs.of_ints : ∀ (xs : List Int), TDs K H (xs.map .int) (xs.map .int)
  | [] => .nil
  | x :: r => .cons (.int x) (TDs.of_ints r)
end

/-! ### the readings that are the runs themselves -/
structure wE (X : Cx) (e : Expr) (σ : L2.St) (H : Hp) (Q : VK) : Prop where
  run : ∀ pins s, Inv X pins σ H s → wpAny (model X.prog X.w) X.A (eval e X.env) (EP X pins σ Q) X.xe s
structure wT (X : Cx) (e : Expr) (σ : L2.St) (H : Hp) (Q : Bool → Hp → Prop) : Prop where
  run : ∀ pins s, Inv X pins σ H s → wpAny (model X.prog X.w) X.A (isTrue e X.env (eval e X.env)) (TP X pins σ Q) X.xe s
structure wW (X : Cx) (e : Expr) (σ : L2.St) (H : Hp) (Q : Bool → Hp → Prop) : Prop where
  run : ∀ (wh : Sem Value) pins s, Inv X pins σ H s → wpAny (model X.prog X.w) X.A (isTrue e X.env wh) (TP X pins σ Q) X.xe s
structure wA (X : Cx) (es : List Expr) (σ : L2.St) (H : Hp) (Q : List V → Hp → Prop) : Prop where
  run : ∀ (pos : Pos) pins s, Inv X pins σ H s → wpAny (model X.prog X.w) X.A (spliced (backTo pos (starEach es X.env))) (AP X pins σ Q) X.xe s
structure wS (X : Cx) (st : Stmt) (D : Ends) (σ : L2.St) (H : Hp) : Prop where
  run : ∀ pins s, Inv X pins σ H s → wpAny (model X.prog X.w) X.A (exec st X.env) (SP X pins D) X.xe s
structure wSs (X : Cx) (st : List Stmt) (D : Ends) (σ : L2.St) (H : Hp) : Prop where
  run : ∀ pins s, Inv X pins σ H s → wpAny (model X.prog X.w) X.A (execs st X.env) (SP X pins D) X.xe s
section
variable {X : Cx} {e : Expr} {es : List Expr} {st : Stmt} {sts : List Stmt} {σ : L2.St} {H : Hp}
theorem we (e : Expr) : PE X e (wE X e) := ⟨fun pins s σ H Q I h => h.run pins s I⟩
theorem wt (e : Expr) : PT X e (wT X e) := ⟨fun pins s σ H Q I h => h.run pins s I⟩
theorem ww (e : Expr) : PW X e (wW X e) := ⟨fun wh pins s σ H Q I h => h.run wh pins s I⟩
theorem wa (es : List Expr) : PA X es (wA X es) := ⟨fun pos pins s σ H Q I h => h.run pos pins s I⟩
theorem ws (st : Stmt) : PS X st (wS X st) := ⟨fun pins s σ H D I h => h.run pins s I⟩
theorem wss (sts : List Stmt) : PSs X sts (wSs X sts) := ⟨fun pins s σ H D I h => h.run pins s I⟩
theorem pe_le {t : TE} (h : PE X e t) {Q : VK} (q : t σ H Q) : wE X e σ H Q := ⟨fun pins s I => h.run pins s σ H Q I q⟩
theorem pt_le {t : TT} (h : PT X e t) {Q : Bool → Hp → Prop} (q : t σ H Q) : wT X e σ H Q := ⟨fun pins s I => h.run pins s σ H Q I q⟩
theorem pw_le {t : TT} (h : PW X e t) {Q : Bool → Hp → Prop} (q : t σ H Q) : wW X e σ H Q := ⟨fun wh pins s I => h.run wh pins s σ H Q I q⟩
theorem pa_le {t : TA} (h : PA X es t) {Q : List V → Hp → Prop} (q : t σ H Q) : wA X es σ H Q := ⟨fun pos pins s I => h.run pos pins s σ H Q I q⟩
theorem ps_le {t : TS} (h : PS X st t) {D : Ends} (q : t D σ H) : wS X st D σ H := ⟨fun pins s I => h.run pins s σ H D I q⟩
theorem pss_le {t : TS} (h : PSs X sts t) {D : Ends} (q : t D σ H) : wSs X sts D σ H := ⟨fun pins s I => h.run pins s σ H D I q⟩
end

/-! ### what is given -/
/-- a value that fits R, by the heap behind -/
def EvR (te : TE) (σ : L2.St) (H : Hp) (R : Hp → V → Prop) : Prop := ∀ H1, Ex H H1 → ∀ Q : VK, (∀ v H2, Ex H1 H2 → R H2 v → Q v H2) → te σ H1 Q
/-- a new list of such data -/
def LD (K : PySem.W.Frag) (H0 : Hp) (ds : List PyData) (H : Hp) (v : V) : Prop := ∃ p xs, v = .ref p ∧ H0 p = none ∧ H p = some (.lst xs) ∧ TDs K H xs ds
/-- an expression gives the value v | data d | a new list of ds; a test the answer b -/
def EV (X : Cx) (e : Expr) (σ : L2.St) (H : Hp) (v : V) : Prop := Ev (wE X e) σ H v
def ED (X : Cx) (e : Expr) (σ : L2.St) (H : Hp) (d : PyData) : Prop := EvR (wE X e) σ H fun H2 v => TD X.K H2 v d
def EL (X : Cx) (e : Expr) (σ : L2.St) (H : Hp) (ds : List PyData) : Prop := EvR (wE X e) σ H (LD X.K H ds)
def ET (X : Cx) (e : Expr) (σ : L2.St) (H : Hp) (b : Bool) : Prop := EvT (wT X e) σ H b
/-- arguments: values, data -/
inductive AV where
  | v (v : V)
  | d (d : PyData)
inductive AVs (K : PySem.W.Frag) (H : Hp) : List V → List AV → Prop
  | nil : AVs K H [] []
  | v {v : V} {vs : List V} {as : List AV} : AVs K H vs as → AVs K H (v :: vs) (.v v :: as)
  | d {v : V} {vs : List V} {d : PyData} {as : List AV} : TD K H v d → AVs K H vs as → AVs K H (v :: vs) (.d d :: as)
def EA (X : Cx) (es : List Expr) (σ : L2.St) (H : Hp) (as : List AV) : Prop := ∀ H1, Ex H H1 → ∀ Q : List V → Hp → Prop, (∀ vs H2, Ex H1 H2 → AVs X.K H2 vs as → Q vs H2) → wA X es σ H1 Q
theorem AVs.ex {K : PySem.W.Frag} {H H' : Hp} (e : Ex H H') : ∀ {vs : List V} {as : List AV}, AVs K H vs as → AVs K H' vs as
  | _, _, .nil => .nil
  | _, _, .v r => .v (AVs.ex e r)
  | _, _, .d t r => .d (t.ex e) (AVs.ex e r)
theorem AVs.length {K : PySem.W.Frag} {H : Hp} : ∀ {vs : List V} {as : List AV}, AVs K H vs as → vs.length = as.length
  | _, _, .nil => rfl
  | _, _, .v r => congrArg Nat.succ (AVs.length r)
  | _, _, .d _ r => congrArg Nat.succ (AVs.length r)

section
variable {X : Cx} {e a b : Expr} {es : List Expr} {σ : L2.St} {H H' : Hp} {d d1 d2 : PyData} {v : V} {pos : Pos}
theorem EvR.mono {te : TE} {R : Hp → V → Prop} (e : Ex H H') (h : EvR te σ H R) : EvR te σ H' R := fun H1 a Q q => h H1 (e.trans a) Q q
theorem EV.ex (x : Ex H H') (h : EV X e σ H v) : EV X e σ H' v := Ev.mono x h
theorem ED.ex (x : Ex H H') (h : ED X e σ H d) : ED X e σ H' d := EvR.mono x h
theorem EL.ex {ds : List PyData} (x : Ex H H') (h : EL X e σ H ds) : EvR (wE X e) σ H' (LD X.K H ds) := EvR.mono x h
theorem ET.ex {b : Bool} (x : Ex H H') (h : ET X e σ H b) : ET X e σ H' b := EvT.mono x h
theorem EA.ex {as : List AV} (x : Ex H H') (h : EA X es σ H as) : EA X es σ H' as := fun H1 a Q q => h H1 (x.trans a) Q q
theorem ED.ev (h : EV X e σ H v) (t : TD X.K H v d) : ED X e σ H d := fun H1 x Q q => h H1 x Q fun H2 y => q v H2 y (t.ex (x.trans y))
theorem EV.of (h : ED X e σ H d) (t : ∀ H u, TD X.K H u d → u = v) : EV X e σ H v := fun H1 x Q q => h H1 x Q fun u H2 y z => by rw [t H2 u z]; exact q H2 y
theorem EV.int {i : Int} (h : ED X e σ H (.int i)) : EV X e σ H (.int i) := EV.of h fun _ _ t => t.int_iff
theorem EV.str {i : Str} (h : ED X e σ H (.str i)) : EV X e σ H (.str i) := EV.of h fun _ _ t => t.str_iff
theorem EV.bl {i : Bool} (h : ED X e σ H (.bool i)) : EV X e σ H (.bl i) := EV.of h fun _ _ t => t.bl_iff
theorem EV.non (h : ED X e σ H .none) : EV X e σ H .non := EV.of h fun _ _ t => t.non_iff
theorem ED.to {d' : PyData} (h : ED X e σ H d) (q : d = d') : ED X e σ H d' := q ▸ h
theorem ET.to {b b' : Bool} (h : ET X e σ H b) (q : b = b') : ET X e σ H b' := q ▸ h
theorem EvR.le {t : TE} {R : Hp → V → Prop} (p : PE X e t) (h : EvR t σ H R) : EvR (wE X e) σ H R := fun H1 x Q q => pe_le p (h H1 x Q q)
theorem EV.le {t : TE} (p : PE X e t) (h : Ev t σ H v) : EV X e σ H v := fun H1 x Q q => pe_le p (h H1 x Q q)
theorem ET.le {t : TT} {b : Bool} (p : PT X e t) (h : EvT t σ H b) : ET X e σ H b := fun H1 x Q q => pt_le p (h H1 x Q q)
end
end G
namespace G
open PySem PySem.Spec PyProof.Rows L2 Evl

/-! ### where a body runs -/
structure DC (X : Cx) (N : List Str) (sc : Scope) (k : Nat) : Prop where
  hN : X.N = N
  nd : N.Nodup
  keep : ∀ x kd, kd ≠ NameKind.free → sc.names.lookup x = some kd → X.env.kindOf x = some kd
  free : ∀ x, sc.names.lookup x = some .free → X.env.kindOf x = some .cell ∨ X.env.kindOf x = some .free
  fn : ∀ x, sc.names.lookup x = some .cell → X.fn x = true
  calm : X.calm = true
  hr : Room k X.A
  po : PassesOwn (model X.prog X.w) X.A X.env X.xe
def visB (sc : Scope) (x : Str) : Bool := match sc.names.lookup x with
  | some .local => true
  | some .cell => true
  | some .free => true
  | _ => false
def locB (sc : Scope) (x : Str) : Bool := match sc.names.lookup x with
  | some .local => true
  | some .cell => true
  | _ => false
def glB (sc : Scope) (x : Str) : Bool := match sc.names.lookup x with
  | some .globalImplicit => true
  | _ => false
section
variable {X : Cx} {N : List Str} {sc : Scope} {k : Nat}
theorem DC.vis (D : DC X N sc k) {x : Str} (h : visB sc x = true) : Vis X.env.scope x := by
  unfold visB at h
  split at h
  · exact .inl (D.keep x _ (by decide) (by assumption))
  · exact .inr (.inl (D.keep x _ (by decide) (by assumption)))
  · rcases D.free x (by assumption) with q | q
    · exact .inr (.inl q)
    · exact .inr (.inr q)
  · cases h
theorem DC.loc (D : DC X N sc k) {x : Str} (h : locB sc x = true) : Loc X.env.scope x ∧ (X.fn x = true ∨ X.env.scope.names.lookup x = some .local) := by
  unfold locB at h
  split at h
  · exact ⟨.inl (D.keep x _ (by decide) (by assumption)), .inr (D.keep x _ (by decide) (by assumption))⟩
  · exact ⟨.inr (D.keep x _ (by decide) (by assumption)), .inl (D.fn x (by assumption))⟩
  · cases h
theorem DC.gl (D : DC X N sc k) {x : Str} (h : glB sc x = true) : Gl X x := by
  unfold glB at h
  split at h
  · exact D.keep x _ (by decide) (by assumption)
  · cases h
theorem DC.mono {j : Nat} (D : DC X N sc k) (h : j ≤ k) : DC X N sc j := ⟨D.hN, D.nd, D.keep, D.free, D.fn, D.calm, D.hr.mono h, D.po⟩
theorem DC.hu (D : DC X N sc k) : X.A.units + 1 < cLine := hu_of D.hr
theorem DC.u64 (D : DC X N sc k) : X.A.units + 64 < cLine := D.hr.units
theorem relab_free {env : Env} : ∀ {names : List (Str × NameKind)} {x : Str}, names.lookup x = some .free →
    (names.map fun (n, k) => if (k == NameKind.free && env.scope.kind == .function && env.kindOf n == some .cell) then (n, NameKind.cell) else (n, k)).lookup x = some .cell ∨
    (names.map fun (n, k) => if (k == NameKind.free && env.scope.kind == .function && env.kindOf n == some .cell) then (n, NameKind.cell) else (n, k)).lookup x = some .free
  | [], _, h => by simp at h
  | (n, k₀) :: r, x, h => by
    have ih := @relab_free env r x
    show List.lookup x ((if (k₀ == NameKind.free && env.scope.kind == .function && env.kindOf n == some .cell) = true then (n, NameKind.cell) else (n, k₀)) :: _) = _ ∨ List.lookup x ((if (k₀ == NameKind.free && env.scope.kind == .function && env.kindOf n == some .cell) = true then (n, NameKind.cell) else (n, k₀)) :: _) = _
    cases hx : x == n with
    | true =>
      simp only [List.lookup_cons, hx] at h
      cases h
      by_cases hc : (NameKind.free == NameKind.free && env.scope.kind == .function && env.kindOf n == some .cell) = true
      · rw [if_pos hc]; simp [List.lookup_cons, hx]
      · rw [if_neg hc]; simp [List.lookup_cons, hx]
    | false =>
      simp only [List.lookup_cons, hx] at h
      by_cases hc : (k₀ == NameKind.free && env.scope.kind == .function && env.kindOf n == some .cell) = true
      · rw [if_pos hc]; simp only [List.lookup_cons, hx]; exact ih h
      · rw [if_neg hc]; simp only [List.lookup_cons, hx]; exact ih h
/-- a comprehension's block -/
theorem DC.blk (D : DC X N sc k) (s : Shared) (H : Hp) (scope : Scope) (C : Addr) (cl : List (Str × Addr)) (fp : List Addr) : DC (X.blk s H scope (compEnvC scope cl C X.env) fp) N scope k where
  hN := D.hN
  nd := D.nd
  keep := fun x kd hk h => lookup_relS_keep (sc := X.env.scope) hk h
  free := fun x h => relab_free (env := X.env) h
  fn := fun x h => by
    show (scope.names.lookup x == some .cell) = true
    rw [h] <;> rfl
  calm := D.calm
  hr := D.hr
  po := PassesOwn.never
/-- a def's body (no exception leaves it) -/
theorem DC.of {P : Program} {w : World} {K : PySem.W.Frag} {mg : Str → Option Value} {base : Heap} {ps : List Str} {qual : Str} {f : Addr} {cd : Value} {A : Around} {outer : List Env} {s : Shared} {H : Hp} {E : XK} {CX : CXT}
    (S : FnScope N ps sc) (hr : Room k (A.deeper (envOfC qual sc s.heap.objs.size f cd))) : DC (cxOf CX P w K mg base N qual sc f cd A outer s H E).nox N sc k where
  hN := rfl
  nd := S.nd
  keep := fun x kd _ h => h
  free := fun x h => .inr h
  fn := fun x _ => rfl
  calm := rfl
  hr := hr
  po := PassesOwn.never
end

/-! ### names, constants -/
section
variable {X : Cx} {N : List Str} {sc : Scope} {k : Nat} {a b e : Expr} {es : List Expr} {σ : L2.St} {H : Hp} {d d1 d2 : PyData} {v : V} {pos : Pos}
theorem en (D : DC X N sc k) (i : Nat) {x : Str} (hs : σ[i]? = some (some v) := by rfl) (hN : N[i]? = some x := by rfl) (hv : visB sc x = true := by decide +kernel) (hd : (x == ("__debug__" : Str)) = false := by decide +kernel) (hcd : (x == ("__classdict__" : Str)) = false := by decide +kernel) :
    EV X (.Name x pos) σ H v := EV.le (pe_var (by rw [D.hN]; exact hN) (D.vis hv) hd hcd) (ev_var hs)
theorem dn (D : DC X N sc k) (i : Nat) {x : Str} (t : TD X.K H v d) (hs : σ[i]? = some (some v) := by rfl) (hN : N[i]? = some x := by rfl) (hv : visB sc x = true := by decide +kernel) (hd : (x == ("__debug__" : Str)) = false := by decide +kernel) (hcd : (x == ("__classdict__" : Str)) = false := by decide +kernel) :
    ED X (.Name x pos) σ H d := ED.ev (en D i hs hN hv hd hcd) t
theorem dni (D : DC X N sc k) (i : Nat) {x : Str} {z : Int} (hs : σ[i]? = some (some (.int z)) := by rfl) (hN : N[i]? = some x := by rfl) (hv : visB sc x = true := by decide +kernel) (hd : (x == ("__debug__" : Str)) = false := by decide +kernel) (hcd : (x == ("__classdict__" : Str)) = false := by decide +kernel) :
    ED X (.Name x pos) σ H (.int z) := dn D i (.int z) hs hN hv hd hcd
theorem dns (D : DC X N sc k) (i : Nat) {x : Str} {z : Str} (hs : σ[i]? = some (some (.str z)) := by rfl) (hN : N[i]? = some x := by rfl) (hv : visB sc x = true := by decide +kernel) (hd : (x == ("__debug__" : Str)) = false := by decide +kernel) (hcd : (x == ("__classdict__" : Str)) = false := by decide +kernel) :
    ED X (.Name x pos) σ H (.str z) := dn D i (.str z) hs hN hv hd hcd
theorem ev_ed {te : TE} (h : Ev te σ H v) (t : ∀ H, TD X.K H v d) : EvR te σ H fun H2 v => TD X.K H2 v d := fun H1 x Q q => h H1 x Q fun H2 y => q v H2 y (t H2)
theorem EVd (h : EV X e σ H v) (t : ∀ H, TD X.K H v d) : ED X e σ H d := ev_ed h t
theorem di {i : Int} {j : Nat} : ED X (.Constant (.int i) j pos) σ H (.int i) := EVd (EV.le pe_int ev_c) fun _ => .int i
theorem ds {x : Str} {j : Nat} : ED X (.Constant (.str x) j pos) σ H (.str x) := EVd (EV.le pe_str ev_c) fun _ => .str x
theorem db {x : Bool} {j : Nat} : ED X (.Constant (.bool x) j pos) σ H (.bool x) := EVd (EV.le pe_bl ev_c) fun _ => .bl x
theorem dnon {j : Nat} : ED X (.Constant .none j pos) σ H .none := EVd (EV.le pe_non ev_c) fun _ => .non
/-- a module's int, text, .. -/
theorem dg (D : DC X N sc k) {x : Str} {u : Value} (hm : X.mg x = some u) (r : RelV v u) (t : ∀ H, TD X.K H v d) (hg : glB sc x = true := by decide +kernel) (hd : (x == ("__debug__" : Str)) = false := by decide +kernel) : ED X (.Name x pos) σ H d :=
  EVd (EV.le (pe_glob (D.gl hg) hm r hd) ev_c) t

/-! ### operators -/
theorem dop2 {op : Operator} {r : R2} {g : Int → Int → Int} {i j : Int} (ho : OpR X (binaryOp op) r) (hr : ∀ H, RV r (.int i) (.int j) H (.int (g i j))) (ha : ED X a σ H (.int i)) (hb : ED X b σ H (.int j)) : ED X (.BinOp a op b pos) σ H (.int (g i j)) :=
  EVd (EV.le (pe_op ho (we a) (we b)) (ev_op (EV.int ha) (EV.int hb) (hr H))) fun _ => .int _
theorem dadd {i j : Int} (ha : ED X a σ H (.int i)) (hb : ED X b σ H (.int j)) : ED X (.BinOp a .Add b pos) σ H (.int (i + j)) := dop2 (g := fun i j => i + j) op_add (fun H => rv_I0) ha hb
theorem dsub {i j : Int} (ha : ED X a σ H (.int i)) (hb : ED X b σ H (.int j)) : ED X (.BinOp a .Sub b pos) σ H (.int (i - j)) := dop2 (g := fun i j => i - j) op_sub (fun H => rv_I0) ha hb
theorem dmul {i j : Int} (h : CMul i j) (ha : ED X a σ H (.int i)) (hb : ED X b σ H (.int j)) : ED X (.BinOp a .Mult b pos) σ H (.int (i * j)) := dop2 (g := fun i j => i * j) op_mul (fun H => rv_I h) ha hb
theorem dmod {i j : Int} (h : 0 < j) (ha : ED X a σ H (.int i)) (hb : ED X b σ H (.int j)) : ED X (.BinOp a .Mod b pos) σ H (.int (i % j)) := dop2 (g := fun i j => i % j) op_mod (fun H => rv_I h) ha hb
theorem ddiv {i j : Int} (h : CDiv i j) (ha : ED X a σ H (.int i)) (hb : ED X b σ H (.int j)) : ED X (.BinOp a .FloorDiv b pos) σ H (.int (i / j)) := dop2 (g := fun i j => i / j) op_fdiv (fun H => rv_I h) ha hb

/-! ### comparisons: as a value, as a test -/
theorem cmpV {op : CmpOp} {r : R2} {x y : V} {c : Bool} (ho : OpR X (compareOp op) r) (hr : ∀ H1, Ex H H1 → RV r x y H1 (.bl c)) (ha : EV X a σ H x) (hb : EV X b σ H y) (hm : behindInMarks op b = false) : ED X (.Compare a [op] [b] pos) σ H (.bool c) :=
  EVd (EV.le (pe_cmpR ho (we a) (we b) hm) (ev_op ha hb (hr H (Ex.refl H)))) fun _ => .bl c
theorem cmpT {op : CmpOp} {r : R2} {x y : V} {c : Bool} (ho : OpR X (compareOp op) r) (hr : ∀ H1, Ex H H1 → RV r x y H1 (.bl c)) (ha : EV X a σ H x) (hb : EV X b σ H y) (hm : behindInMarks op b = false) : ET X (.Compare a [op] [b] pos) σ H c :=
  ET.le (pt_cmpR ho (we a) (we b) hm) (et_test (ev_op ha hb (hr H (Ex.refl H))))
/-- by data: the two are read where the second has been given -/
theorem evr_op {ta tb : TE} {r : R2} {R1 R2' : Hp → V → Prop} {z : V} (ha : EvR ta σ H R1) (hb : EvR tb σ H R2') (m1 : ∀ H1 H2 v, Ex H1 H2 → R1 H1 v → R1 H2 v) (hr : ∀ H1 x y, Ex H H1 → R1 H1 x → R2' H1 y → ∀ Q : VK, Q z H1 → r x y H1 Q) : Ev (tOp r ta tb) σ H z := fun H1 x1 Q q =>
  ha H1 x1 _ fun v H2 x2 r1 => hb H2 (x1.trans x2) _ fun u H3 x3 r2 => hr H3 v u ((x1.trans x2).trans x3) (m1 _ _ _ x3 r1) r2 Q (q H3 (x2.trans x3))
theorem eqD (D : DC X N sc k) (ha : ED X a σ H d1) (hb : ED X b σ H d2) (h1 : SeqAt.shaped d1 = true) (h2 : SeqAt.shaped d2 = true) : ED X (.Compare a [.Eq] [b] pos) σ H (.bool (PyData.eqv d1 d2)) :=
  EVd (EV.le (pe_cmpR (op_eqD D.u64) (we a) (we b) (nomark _)) (evr_op ha hb (fun _ _ _ x t => t.ex x) fun H1 x y _ t1 t2 Q q => ⟨d1, d2, t1.dp, t2.dp, h1, h2, q⟩)) fun _ => .bl _
theorem neD (D : DC X N sc k) (ha : ED X a σ H d1) (hb : ED X b σ H d2) (h1 : SeqAt.shaped d1 = true) (h2 : SeqAt.shaped d2 = true) : ED X (.Compare a [.NotEq] [b] pos) σ H (.bool (!PyData.eqv d1 d2)) :=
  EVd (EV.le (pe_cmpR (op_neD D.u64) (we a) (we b) (nomark _)) (evr_op ha hb (fun _ _ _ x t => t.ex x) fun H1 x y _ t1 t2 Q q => ⟨d1, d2, t1.dp, t2.dp, h1, h2, q⟩)) fun _ => .bl _
theorem eqDt (D : DC X N sc k) (ha : ED X a σ H d1) (hb : ED X b σ H d2) (h1 : SeqAt.shaped d1 = true) (h2 : SeqAt.shaped d2 = true) : ET X (.Compare a [.Eq] [b] pos) σ H (PyData.eqv d1 d2) :=
  ET.le (pt_cmpR (op_eqD D.u64) (we a) (we b) (nomark _)) (et_test (evr_op ha hb (fun _ _ _ x t => t.ex x) fun H1 x y _ t1 t2 Q q => ⟨d1, d2, t1.dp, t2.dp, h1, h2, q⟩))
theorem neDt (D : DC X N sc k) (ha : ED X a σ H d1) (hb : ED X b σ H d2) (h1 : SeqAt.shaped d1 = true) (h2 : SeqAt.shaped d2 = true) : ET X (.Compare a [.NotEq] [b] pos) σ H (!PyData.eqv d1 d2) :=
  ET.le (pt_cmpR (op_neD D.u64) (we a) (we b) (nomark _)) (et_test (evr_op ha hb (fun _ _ _ x t => t.ex x) fun H1 x y _ t1 t2 Q q => ⟨d1, d2, t1.dp, t2.dp, h1, h2, q⟩))
theorem dS {x y : Str} : decide (V.str x = V.str y) = decide (x = y) := by
  by_cases e : x = y
  · rw [e]; simp
  · rw [decide_eq_false e]; exact decide_eq_false fun q => e (V.str.inj q)
theorem dI {x y : Int} : decide (V.int x = V.int y) = decide (x = y) := by
  by_cases e : x = y
  · rw [e]; simp
  · rw [decide_eq_false e]; exact decide_eq_false fun q => e (V.int.inj q)
theorem dB {x y : Bool} : decide (V.bl x = V.bl y) = (x == y) := by cases x <;> cases y <;> rfl
theorem eqS {x y : Str} (ha : ED X a σ H (.str x)) (hb : ED X b σ H (.str y)) : ET X (.Compare a [.Eq] [b] pos) σ H (decide (x = y)) := (cmpT op_eq (fun _ _ => rv_eq rfl) (EV.str ha) (EV.str hb) (nomark _)).to dS
theorem eqSv {x y : Str} (ha : ED X a σ H (.str x)) (hb : ED X b σ H (.str y)) : ED X (.Compare a [.Eq] [b] pos) σ H (.bool (decide (x = y))) := (cmpV op_eq (fun _ _ => rv_eq rfl) (EV.str ha) (EV.str hb) (nomark _)).to (congrArg _ dS)
theorem neS {x y : Str} (ha : ED X a σ H (.str x)) (hb : ED X b σ H (.str y)) : ET X (.Compare a [.NotEq] [b] pos) σ H (!decide (x = y)) := (cmpT op_ne (fun _ _ => rv_ne rfl) (EV.str ha) (EV.str hb) (nomark _)).to (congrArg _ dS)
theorem eqI {x y : Int} (ha : ED X a σ H (.int x)) (hb : ED X b σ H (.int y)) : ET X (.Compare a [.Eq] [b] pos) σ H (decide (x = y)) := (cmpT op_eq (fun _ _ => rv_eq rfl) (EV.int ha) (EV.int hb) (nomark _)).to dI
theorem eqIv {x y : Int} (ha : ED X a σ H (.int x)) (hb : ED X b σ H (.int y)) : ED X (.Compare a [.Eq] [b] pos) σ H (.bool (decide (x = y))) := (cmpV op_eq (fun _ _ => rv_eq rfl) (EV.int ha) (EV.int hb) (nomark _)).to (congrArg _ dI)
theorem neI {x y : Int} (ha : ED X a σ H (.int x)) (hb : ED X b σ H (.int y)) : ET X (.Compare a [.NotEq] [b] pos) σ H (!decide (x = y)) := (cmpT op_ne (fun _ _ => rv_ne rfl) (EV.int ha) (EV.int hb) (nomark _)).to (congrArg _ dI)
theorem neIv {x y : Int} (ha : ED X a σ H (.int x)) (hb : ED X b σ H (.int y)) : ED X (.Compare a [.NotEq] [b] pos) σ H (.bool (!decide (x = y))) := (cmpV op_ne (fun _ _ => rv_ne rfl) (EV.int ha) (EV.int hb) (nomark _)).to (congrArg _ (congrArg _ dI))
theorem eqB {x y : Bool} (ha : ED X a σ H (.bool x)) (hb : ED X b σ H (.bool y)) : ET X (.Compare a [.Eq] [b] pos) σ H (x == y) := (cmpT op_eq (fun _ _ => rv_eq rfl) (EV.bl ha) (EV.bl hb) (nomark _)).to dB
theorem ltI {x y : Int} (ha : ED X a σ H (.int x)) (hb : ED X b σ H (.int y)) : ET X (.Compare a [.Lt] [b] pos) σ H (decide (x < y)) := cmpT op_lt (fun _ _ => rv_I0 (g := fun i j => .bl (decide (i < j)))) (EV.int ha) (EV.int hb) (nomark _)
theorem leI {x y : Int} (ha : ED X a σ H (.int x)) (hb : ED X b σ H (.int y)) : ET X (.Compare a [.LtE] [b] pos) σ H (decide (x ≤ y)) := cmpT op_le (fun _ _ => rv_I0 (g := fun i j => .bl (decide (i ≤ j)))) (EV.int ha) (EV.int hb) (nomark _)
theorem leIv {x y : Int} (ha : ED X a σ H (.int x)) (hb : ED X b σ H (.int y)) : ED X (.Compare a [.LtE] [b] pos) σ H (.bool (decide (x ≤ y))) := cmpV op_le (fun _ _ => rv_I0 (g := fun i j => .bl (decide (i ≤ j)))) (EV.int ha) (EV.int hb) (nomark _)
theorem gtI {x y : Int} (ha : ED X a σ H (.int x)) (hb : ED X b σ H (.int y)) : ET X (.Compare a [.Gt] [b] pos) σ H (decide (y < x)) := cmpT op_gt (fun _ _ => rv_I0 (g := fun i j => .bl (decide (j < i)))) (EV.int ha) (EV.int hb) (nomark _)
theorem gtIv {x y : Int} (ha : ED X a σ H (.int x)) (hb : ED X b σ H (.int y)) : ED X (.Compare a [.Gt] [b] pos) σ H (.bool (decide (y < x))) := cmpV op_gt (fun _ _ => rv_I0 (g := fun i j => .bl (decide (j < i)))) (EV.int ha) (EV.int hb) (nomark _)
theorem geI {x y : Int} (ha : ED X a σ H (.int x)) (hb : ED X b σ H (.int y)) : ET X (.Compare a [.GtE] [b] pos) σ H (decide (y ≤ x)) := cmpT op_ge (fun _ _ => rv_I0 (g := fun i j => .bl (decide (j ≤ i)))) (EV.int ha) (EV.int hb) (nomark _)
/-- is None, is not None -/
def isNone : PyData → Bool
  | .none => true
  | _ => false
theorem TD.non_dec {K : PySem.W.Frag} {H : Hp} {v : V} {d : PyData} (t : TD K H v d) : decide (v = .non) = isNone d := by cases t <;> rfl
theorem isN {j : Nat} {p' : Pos} (ha : ED X a σ H d) : ET X (.Compare a [.Is] [.Constant .none j p'] pos) σ H (isNone d) := fun H1 x Q q => pt_le (pt_cmp (pc_isN (we a))) (ha H1 x _ fun v H2 y t => ⟨_, rfl, by rw [t.non_dec]; exact q H2 y⟩)
theorem isNv {j : Nat} {p' : Pos} (ha : ED X a σ H d) : ED X (.Compare a [.Is] [.Constant .none j p'] pos) σ H (.bool (isNone d)) := fun H1 x Q q => pe_le (pe_cmp (pc_isN (we a))) (ha H1 x _ fun v H2 y t => by rw [t.non_dec]; exact q _ H2 y (.bl _))
theorem notN {j : Nat} {p' : Pos} (ha : ED X a σ H d) : ET X (.Compare a [.IsNot] [.Constant .none j p'] pos) σ H (!isNone d) := fun H1 x Q q => pt_le (pt_cmp (pc_notN (we a))) (ha H1 x _ fun v H2 y t => ⟨_, rfl, by rw [t.non_dec]; exact q H2 y⟩)

/-! ### and, or, not -/
variable {r : List Expr} {c c1 c2 : Bool}
def EW (X : Cx) (e : Expr) (σ : L2.St) (H : Hp) (b : Bool) : Prop := EvT (wW X e) σ H b
theorem EW.et (h : EW X e σ H c) : ET X e σ H c := ET.le (PW.pt (ww e)) h
theorem tand1 (ha : ET X a σ H c) : EW X (.BoolOp .And [a] pos) σ H c := fun H1 x Q q => pw_le (pw_and1 (wt a)) (ha H1 x Q q)
theorem tor1 (ha : ET X a σ H c) : EW X (.BoolOp .Or [a] pos) σ H c := fun H1 x Q q => pw_le (pw_or1 (wt a)) (ha H1 x Q q)
theorem tandc (ha : ET X a σ H c1) (hb : c1 = true → EW X (.BoolOp .And (b :: r) pos) σ H c2) : EW X (.BoolOp .And (a :: b :: r) pos) σ H (c1 && c2) := fun H1 x Q q => pw_le (pw_and (wt a) (ww _)) (et_and ha hb H1 x Q q)
theorem torc (ha : ET X a σ H c1) (hb : c1 = false → EW X (.BoolOp .Or (b :: r) pos) σ H c2) : EW X (.BoolOp .Or (a :: b :: r) pos) σ H (c1 || c2) := fun H1 x Q q => pw_le (pw_or (wt a) (ww _)) (et_or ha hb H1 x Q q)
theorem tnot (ha : ET X a σ H c) : ET X (.UnaryOp .Not a pos) σ H (!c) := ET.le (pt_not (wt a)) (et_not ha)
theorem tval (h : ED X e σ H (.bool c)) (he : ∀ whole, isTrue e X.env whole = (do let v ← whole; standAt e.pos; holding [v] (truthy v)) := by intro _; rfl) : ET X e σ H c := ET.le (pt_val (we e) he) (et_B (EV.bl h))
theorem vone {op : BoolOp} (h : ED X a σ H d) : ED X (.BoolOp op [a] pos) σ H d := EvR.le (pe_one (we a)) h
theorem vand (ha : ED X a σ H (.bool c1)) (hb : c1 = true → ED X (.BoolOp .And (b :: r) pos) σ H (.bool c2)) : ED X (.BoolOp .And (a :: b :: r) pos) σ H (.bool (c1 && c2)) := EVd (EV.le (pe_and (we a) (we _)) (ev_andV (EV.bl ha) fun q => EV.bl (hb q))) fun _ => .bl _
theorem vor (ha : ED X a σ H (.bool c1)) (hb : c1 = false → ED X (.BoolOp .Or (b :: r) pos) σ H (.bool c2)) : ED X (.BoolOp .Or (a :: b :: r) pos) σ H (.bool (c1 || c2)) := EVd (EV.le (pe_or (we a) (we _)) (ev_orV (EV.bl ha) fun q => EV.bl (hb q))) fun _ => .bl _
theorem vnot (ha : ED X a σ H (.bool c)) : ED X (.UnaryOp .Not a pos) σ H (.bool (!c)) := EVd (EV.le (pe_not (we a)) (ev_notV (EV.bl ha))) fun _ => .bl _

/-! ### tuples, lists, items -/
theorem ean : EA X [] σ H [] := fun H1 x Q q => pa_le pa_nil (q [] H1 (Ex.refl H1) .nil)
theorem starE (hs : ∀ z p, e ≠ .Starred z p) : starEach (e :: es) X.env = (false, eval e X.env) :: starEach es X.env := by
  cases e <;> first | rfl | exact absurd rfl (hs _ _)
theorem eav {as : List AV} (h : EV X e σ H v) (hr : EA X es σ H as) (hs : starEach (e :: es) X.env = (false, eval e X.env) :: starEach es X.env := by rfl) : EA X (e :: es) σ H (.v v :: as) := fun H1 x Q q =>
  pa_le (pa_cons (we e) (wa es) hs) (h H1 x _ fun H2 y => hr H2 (x.trans y) _ fun vs H3 z t => q _ H3 (y.trans z) (.v t))
theorem ead {as : List AV} (h : ED X e σ H d) (hr : EA X es σ H as) (hs : starEach (e :: es) X.env = (false, eval e X.env) :: starEach es X.env := by rfl) : EA X (e :: es) σ H (.d d :: as) := fun H1 x Q q =>
  pa_le (pa_cons (we e) (wa es) hs) (h H1 x _ fun v H2 y t1 => hr H2 (x.trans y) _ fun vs H3 z t => q _ H3 (y.trans z) (.d (t1.ex z) t))
theorem AVs.tds {K : PySem.W.Frag} {H : Hp} : ∀ {vs : List V} {ds : List PyData}, AVs K H vs (ds.map AV.d) → TDs K H vs ds
  | vs, [], h => by cases h; exact .nil
  | vs, y :: r, h => by
    cases h with
    | d t q => exact .cons t (AVs.tds q)
theorem dtup {n : Nat} {xs : List PyData} (h : EA X es σ H (xs.map .d)) (hl : Nat.ble xs.length 1000 = true := by rfl) : ED X (.Tuple es n pos) σ H (.tuple xs) := fun H1 x Q q =>
  pe_le (pe_tup (wa es)) (h H1 x _ fun vs H2 y t => ⟨Nat.le_trans (Nat.le_of_eq t.length) (by rw [List.length_map]; exact Nat.le_trans (Nat.le_of_ble_eq_true hl) (by decide)), fun p hp => q _ _ (y.trans (Ex.new hp)) (.tup (.inl (.inl upd_same)) (t.tds.ex (Ex.new hp)))⟩)
theorem llst {xs : List PyData} (h : EA X es σ H (xs.map .d)) (hl : Nat.ble xs.length 1000 = true := by rfl) : EL X (.List es pos) σ H xs := fun H1 x Q q =>
  pe_le (pe_lst (wa es)) (h H1 x _ fun vs H2 y t => ⟨Nat.le_trans (Nat.le_of_eq t.length) (by rw [List.length_map]; exact Nat.le_trans (Nat.le_of_ble_eq_true hl) (by decide)), fun p hp => q _ _ (y.trans (Ex.new hp)) ⟨p, vs, rfl, fresh_back (x.trans y) hp, upd_same, t.tds.ex (Ex.new hp)⟩⟩)
theorem TDs.at {K : PySem.W.Frag} {H : Hp} {v : List V} {ds : List PyData} {i : Int} {x : PyData} (t : TDs K H v ds) (e : atI ds i = some x) : ∃ u, atI v i = some u ∧ TD K H u x := by
  unfold atI at e ⊢
  rw [t.length]
  cases q : ixN ds.length i with
  | none =>
    rw [q] at e
    cases e
  | some j =>
    rw [q] at e
    exact t.get e
/-- t[i] -/
theorem dix {xs : List PyData} {i : Int} (ha : ED X a σ H (.tuple xs)) (hb : ED X b σ H (.int i)) (h : atI xs i = some d) (hs : PlainIx b := by exact fun _ _ => rfl) : ED X (.Subscript a b pos) σ H d := fun H1 x1 Q q =>
  pe_le (pe_ix ix_tup (we a) (we b) hs) (ha H1 x1 _ fun v H2 x2 t1 => hb H2 (x1.trans x2) _ fun u H3 x3 t2 => by
    obtain rfl := t2.int_iff
    cases t1.ex x3 with
    | tup s t =>
      obtain ⟨z, e1, e2⟩ := t.at h
      exact ⟨_, _, i, z, rfl, rfl, s, e1, q z H3 (x2.trans x3) e2⟩)
/-- l[i], l a new list -/
theorem lix {xs : List PyData} {i : Int} (ha : EL X a σ H xs) (hb : ED X b σ H (.int i)) (h : atI xs i = some d) (hs : PlainIx b := by exact fun _ _ => rfl) : ED X (.Subscript a b pos) σ H d := fun H1 x1 Q q =>
  pe_le (pe_ix ix_list (we a) (we b) hs) (ha H1 x1 _ fun v H2 x2 t1 => hb H2 (x1.trans x2) _ fun u H3 x3 t2 => by
    obtain rfl := t2.int_iff
    obtain ⟨p, vs, rfl, _, hp, t⟩ := t1
    obtain ⟨z, e1, e2⟩ := (t.ex x3).at h
    exact ⟨_, _, i, z, rfl, rfl, .inl (.inl (x3 _ _ hp)), e1, q z H3 (x2.trans x3) e2⟩)
end
end G
namespace G
open PySem PySem.Spec PyProof.Rows L2 Evl
section
variable {X : Cx} {N : List Str} {sc : Scope} {k : Nat} {a b e : Expr} {es : List Expr} {σ : L2.St} {H : Hp} {d d1 d2 : PyData} {v : V} {pos : Pos}

/-! ### slices -/
def cutD (ds : List PyData) (lo hi : Option Int) : List PyData := (ds.drop (HT.sIx ds.length 0 lo)).take (HT.sIx ds.length ds.length hi - HT.sIx ds.length 0 lo)
def EO (X : Cx) (o : Option Expr) (σ : L2.St) (H : Hp) (i : Option Int) : Prop := ∃ t, PO X o t ∧ EvO t σ H i
theorem on : EO X none σ H none := ⟨_, po_none, eo_none⟩
theorem os {i : Int} (h : ED X e σ H (.int i)) : EO X (some e) σ H (some i) := ⟨_, po_some (we e), eo_some (EV.int h)⟩
theorem dslice {lo hi : Option Expr} {l u : Option Int} {p2 : Pos} {xs : List PyData} (h : ED X e σ H (.tuple xs)) (h1 : EO X lo σ H l) (h2 : EO X hi σ H u) : ED X (.Subscript e (.Slice lo hi none p2) pos) σ H (.tuple (cutD xs l u)) := by
  obtain ⟨tl, pl, el⟩ := h1
  obtain ⟨th, ph, eh⟩ := h2
  intro H1 x1 Q q
  refine pe_le (pe_slice sl_tupA (we e) pl ph) (h H1 x1 _ fun v H2 x2 t1 => el H2 (x1.trans x2) _ fun H3 x3 => eh H3 ((x1.trans x2).trans x3) _ fun H4 x4 => ?_)
  cases t1.ex (x3.trans x4) with
  | @tup A xs' _ s t =>
    have ln := t.length
    have ct : TDs X.K H4 (cutV xs' l u) (cutD xs l u) := t.cut l u
    refine ⟨A, xs', rfl, s, fun hw => q _ _ ((x2.trans x3).trans x4) (.tup s ?_), fun _ p hp => q _ _ (((x2.trans x3).trans x4).trans (Ex.new hp)) (.tup (.inl (.inl upd_same)) (ct.ex (Ex.new hp)))⟩
    have z : cutD xs l u = xs := by
      unfold cutD
      rw [← ln, hw.1, hw.2, List.drop_zero, Nat.sub_zero, ln, List.take_length]
    rw [z]
    exact t
theorem lslice {lo hi : Option Expr} {l u : Option Int} {p2 : Pos} {xs : List PyData} (h : EL X e σ H xs) (h1 : EO X lo σ H l) (h2 : EO X hi σ H u) : EL X (.Subscript e (.Slice lo hi none p2) pos) σ H (cutD xs l u) := by
  obtain ⟨tl, pl, el⟩ := h1
  obtain ⟨th, ph, eh⟩ := h2
  intro H1 x1 Q q
  refine pe_le (pe_slice sl_list (we e) pl ph) (h H1 x1 _ fun v H2 x2 t1 => el H2 (x1.trans x2) _ fun H3 x3 => eh H3 ((x1.trans x2).trans x3) _ fun H4 x4 => ?_)
  obtain ⟨p, vs, rfl, _, hp, t⟩ := t1
  exact ⟨p, vs, rfl, .inl (.inl ((x3.trans x4) _ _ hp)), fun p' hp' => q _ _ (((x2.trans x3).trans x4).trans (Ex.new hp')) ⟨p', _, rfl, fresh_back (((x1.trans x2).trans x3).trans x4) hp', upd_same, ((t.ex (x3.trans x4)).cut l u).ex (Ex.new hp')⟩⟩
/-- of a list that stands -/
theorem lsliceV {lo hi : Option Expr} {l u : Option Int} {p2 : Pos} {p : Addr} {vs : List V} {xs : List PyData} (h : EV X e σ H (.ref p)) (hs : SqL X.K H p vs) (t : TDs X.K H vs xs) (h1 : EO X lo σ H l) (h2 : EO X hi σ H u) : EL X (.Subscript e (.Slice lo hi none p2) pos) σ H (cutD xs l u) := by
  obtain ⟨tl, pl, el⟩ := h1
  obtain ⟨th, ph, eh⟩ := h2
  intro H1 x1 Q q
  refine pe_le (pe_slice sl_list (we e) pl ph) (h H1 x1 _ fun H2 x2 => el H2 (x1.trans x2) _ fun H3 x3 => eh H3 ((x1.trans x2).trans x3) _ fun H4 x4 => ?_)
  have y := ((x1.trans x2).trans x3).trans x4
  exact ⟨p, vs, rfl, ex_l y hs, fun p' hp' => q _ _ (((x2.trans x3).trans x4).trans (Ex.new hp')) ⟨p', _, rfl, fresh_back y hp', upd_same, ((t.ex y).cut l u).ex (Ex.new hp')⟩⟩
/-- an item of a list that stands -/
theorem dixV {p : Addr} {vs : List V} {xs : List PyData} {i : Int} (ha : EV X a σ H (.ref p)) (s : SqL X.K H p vs) (t : TDs X.K H vs xs) (hb : ED X b σ H (.int i)) (h : atI xs i = some d) (hs : PlainIx b := by exact fun _ _ => rfl) : ED X (.Subscript a b pos) σ H d := fun H1 x1 Q q =>
  pe_le (pe_ix ix_list (we a) (we b) hs) (ha H1 x1 _ fun H2 x2 => hb H2 (x1.trans x2) _ fun u H3 x3 t2 => by
    obtain rfl := t2.int_iff
    have y := (x1.trans x2).trans x3
    obtain ⟨z, e1, e2⟩ := (t.ex y).at h
    exact ⟨_, _, i, z, rfl, rfl, ex_l y s, e1, q z H3 (x2.trans x3) e2⟩)

/-! ### x in t, x not in t: texts -/
theorem inV_strs {x : Str} : ∀ {xs : List Str}, inV (.str x) (xs.map .str) = decide (x ∈ xs)
  | [] => rfl
  | y :: r => by
    show ((y == x) || inV (.str x) (r.map .str)) = _
    rw [inV_strs (xs := r)]
    by_cases e : y = x
    · subst e; simp
    · have e2 : ¬ x = y := fun z => e z.symm
      simp [e, e2]
theorem flat_strs : ∀ xs : List Str, (xs.map V.str).all flatV = true
  | [] => rfl
  | x :: r => by
    show (flatV (.str x) && (r.map V.str).all flatV) = true
    rw [flat_strs r] <;> rfl
theorem evr_opT {r : R2} {R1 R2' : Hp → V → Prop} {op : CmpOp} {c : Bool} (ho : OpR X (compareOp op) r) (hm : behindInMarks op b = false) (ha : EvR (wE X a) σ H R1) (hb : EvR (wE X b) σ H R2') (m1 : ∀ H1 H2 v, Ex H1 H2 → R1 H1 v → R1 H2 v)
    (hr : ∀ H1 x y, Ex H H1 → R1 H1 x → R2' H1 y → ∀ Q : VK, Q (.bl c) H1 → r x y H1 Q) : ET X (.Compare a [op] [b] pos) σ H c := ET.le (pt_cmpR ho (we a) (we b) hm) (et_test (evr_op ha hb m1 hr))
theorem evr_opV {r : R2} {R1 R2' : Hp → V → Prop} {op : CmpOp} {c : Bool} (ho : OpR X (compareOp op) r) (hm : behindInMarks op b = false) (ha : EvR (wE X a) σ H R1) (hb : EvR (wE X b) σ H R2') (m1 : ∀ H1 H2 v, Ex H1 H2 → R1 H1 v → R1 H2 v)
    (hr : ∀ H1 x y, Ex H H1 → R1 H1 x → R2' H1 y → ∀ Q : VK, Q (.bl c) H1 → r x y H1 Q) : ED X (.Compare a [op] [b] pos) σ H (.bool c) := EVd (EV.le (pe_cmpR ho (we a) (we b) hm) (evr_op ha hb m1 hr)) fun _ => .bl c
theorem inT {x : Str} {xs : List Str} (ha : ED X a σ H (.str x)) (hb : ED X b σ H (.tuple (xs.map .str))) (hm : behindInMarks .In b = false := by rfl) : ET X (.Compare a [.In] [b] pos) σ H (decide (x ∈ xs)) :=
  evr_opT op_in_seq hm ha hb (fun _ _ _ y t => t.ex y) fun H1 u w _ t1 t2 Q q => by
    obtain rfl := t1.str_iff
    cases t2 with
    | tup s t =>
      rw [t.strs] at s
      exact ⟨_, _, rfl, .inr s, rfl, flat_strs xs, by rw [if_neg (by decide), inV_strs]; exact q⟩
theorem inTv {x : Str} {xs : List Str} (ha : ED X a σ H (.str x)) (hb : ED X b σ H (.tuple (xs.map .str))) (hm : behindInMarks .In b = false := by rfl) : ED X (.Compare a [.In] [b] pos) σ H (.bool (decide (x ∈ xs))) :=
  evr_opV op_in_seq hm ha hb (fun _ _ _ y t => t.ex y) fun H1 u w _ t1 t2 Q q => by
    obtain rfl := t1.str_iff
    cases t2 with
    | tup s t =>
      rw [t.strs] at s
      exact ⟨_, _, rfl, .inr s, rfl, flat_strs xs, by rw [if_neg (by decide), inV_strs]; exact q⟩
/-- of a list that stands -/
theorem inL {x : Str} {xs : List Str} {p : Addr} (ha : ED X a σ H (.str x)) (hb : EV X b σ H (.ref p)) (s : SqL X.K H p (xs.map .str)) (hm : behindInMarks .In b = false := by rfl) : ET X (.Compare a [.In] [b] pos) σ H (decide (x ∈ xs)) :=
  ET.le (pt_cmpR op_in_seq (we a) (we b) hm) (et_is (et_test (ev_op (EV.str ha) hb (rv_isL s rfl (flat_strs xs)))) inV_strs)
theorem inLv {x : Str} {xs : List Str} {p : Addr} (ha : ED X a σ H (.str x)) (hb : EV X b σ H (.ref p)) (s : SqL X.K H p (xs.map .str)) (hm : behindInMarks .In b = false := by rfl) : ED X (.Compare a [.In] [b] pos) σ H (.bool (decide (x ∈ xs))) :=
  (EVd (EV.le (pe_cmpR op_in_seq (we a) (we b) hm) (ev_op (EV.str ha) hb (rv_isL s rfl (flat_strs xs)))) fun _ => .bl _).to (congrArg _ inV_strs)
theorem notInL {x : Str} {xs : List Str} {p : Addr} (ha : ED X a σ H (.str x)) (hb : EV X b σ H (.ref p)) (s : SqL X.K H p (xs.map .str)) (hm : behindInMarks .NotIn b = false := by rfl) : ET X (.Compare a [.NotIn] [b] pos) σ H (!decide (x ∈ xs)) :=
  ET.le (pt_cmpR op_notIn_seq (we a) (we b) hm) (et_is (et_test (ev_op (EV.str ha) hb (rv_niL s rfl (flat_strs xs)))) (congrArg _ inV_strs))

/-! ### dicts that are read: keys texts -/
theorem tin {p : Addr} {x : Str} {kvs : List (Key × V)} (D : DC X N sc k) (ha : ED X a σ H (.str x)) (hb : EV X b σ H (.ref p)) (s : H p = some (.dK kvs)) (hm : behindInMarks .In b = false := by rfl) : ET X (.Compare a [.In] [b] pos) σ H (valV kvs (.inr x)).isSome := fun H1 y1 Q q =>
  pt_le (pt_cmp (pc_din D.hu (we a) (we b)) hm) (EV.str ha H1 y1 _ fun H2 y2 => hb H2 (y1.trans y2) _ fun H3 y3 => ⟨p, _, rfl, DGet.k (k := .inr x) (((y1.trans y2).trans y3) _ _ s), _, rfl, q H3 (y2.trans y3)⟩)
theorem tinv {p : Addr} {x : Str} {kvs : List (Key × V)} (D : DC X N sc k) (ha : ED X a σ H (.str x)) (hb : EV X b σ H (.ref p)) (s : H p = some (.dK kvs)) (hm : behindInMarks .In b = false := by rfl) : ED X (.Compare a [.In] [b] pos) σ H (.bool (valV kvs (.inr x)).isSome) := fun H1 y1 Q q =>
  pe_le (pe_cmp (pc_din D.hu (we a) (we b)) hm) (EV.str ha H1 y1 _ fun H2 y2 => hb H2 (y1.trans y2) _ fun H3 y3 => ⟨p, _, rfl, DGet.k (k := .inr x) (((y1.trans y2).trans y3) _ _ s), q _ H3 (y2.trans y3) (.bl _)⟩)
theorem tnotin {p : Addr} {x : Str} {kvs : List (Key × V)} (D : DC X N sc k) (ha : ED X a σ H (.str x)) (hb : EV X b σ H (.ref p)) (s : H p = some (.dK kvs)) (hm : behindInMarks .NotIn b = false := by rfl) : ET X (.Compare a [.NotIn] [b] pos) σ H (!(valV kvs (.inr x)).isSome) := fun H1 y1 Q q =>
  pt_le (pt_cmp (pc_dnotin D.hu (we a) (we b)) hm) (EV.str ha H1 y1 _ fun H2 y2 => hb H2 (y1.trans y2) _ fun H3 y3 => ⟨p, _, rfl, DGet.k (k := .inr x) (((y1.trans y2).trans y3) _ _ s), _, rfl, q H3 (y2.trans y3)⟩)
theorem dget {p : Addr} {x : Str} {kvs : List (Key × V)} (D : DC X N sc k) (hb : EV X b σ H (.ref p)) (ha : ED X a σ H (.str x)) (s : H p = some (.dK kvs)) (h : valV kvs (.inr x) = some v) (hs : NoSl a := by exact fun _ _ => rfl) : EV X (.Subscript b a pos) σ H v := fun H1 y1 Q q =>
  pe_le (pe_dget D.hu (we b) (we a) hs) (hb H1 y1 _ fun H2 y2 => EV.str ha H2 (y1.trans y2) _ fun H3 y3 => ⟨p, v, rfl, h ▸ DGet.k (k := .inr x) (((y1.trans y2).trans y3) _ _ s), q H3 (y2.trans y3)⟩)
theorem dgetI {p : Addr} {x : Int} {kvs : List (Key × V)} (D : DC X N sc k) (hb : EV X b σ H (.ref p)) (ha : ED X a σ H (.int x)) (s : H p = some (.dK kvs)) (h : valV kvs (.inl x) = some v) (hs : NoSl a := by exact fun _ _ => rfl) : EV X (.Subscript b a pos) σ H v := fun H1 y1 Q q =>
  pe_le (pe_dget D.hu (we b) (we a) hs) (hb H1 y1 _ fun H2 y2 => EV.int ha H2 (y1.trans y2) _ fun H3 y3 => ⟨p, v, rfl, h ▸ DGet.k (k := .inl x) (((y1.trans y2).trans y3) _ _ s), q H3 (y2.trans y3)⟩)

/-! ### built-ins of one argument -/
theorem dB1 {id : String} {x : Str} {r : List V → Hp → VK → Prop} {p : Pos} {R1 R2' : Hp → V → Prop} (D : DC X N sc k) (hc : CallR X (.builtin id) r) (hm : X.mg x = none) (hv : bootBuiltins x = some (.builtin id)) (ha : EvR (wE X e) σ H R1)
    (hr : ∀ H1 v, Ex H H1 → R1 H1 v → ∀ Q : VK, (∀ u H2, Ex H1 H2 → R2' H2 u → Q u H2) → r [v] H1 Q) (hg : glB sc x = true := by decide +kernel) (hn : x ≠ "__name__" := by decide +kernel) (hd : (x == ("__debug__" : Str)) = false := by decide +kernel)
    (hs : starEach (e :: []) X.env = (false, eval e X.env) :: starEach [] X.env := by rfl) (hp : (backTo pos (starEach [] X.env)).any (·.1) = false := by rfl) : EvR (wE X (.Call (.Name x p) [e] [] pos)) σ H R2' := fun H1 x1 Q q =>
  pe_le (pe_callB hc (D.gl hg) hm hv (pa_cons (we e) pa_nil hs) hn hd hs hp) (ha H1 x1 _ fun v H2 x2 t => hr H2 v (x1.trans x2) t Q fun u H3 x3 => q u H3 (x2.trans x3))
theorem dTy1 {T : String} {x : Str} {r : List V → Hp → VK → Prop} {p : Pos} {R1 R2' : Hp → V → Prop} (D : DC X N sc k) (hc : CallR X (.type T) r) (hm : X.mg x = none) (hv : bootBuiltins x = some (.type T)) (ha : EvR (wE X e) σ H R1)
    (hr : ∀ H1 v, Ex H H1 → R1 H1 v → ∀ Q : VK, (∀ u H2, Ex H1 H2 → R2' H2 u → Q u H2) → r [v] H1 Q) (hg : glB sc x = true := by decide +kernel) (hn : x ≠ "__name__" := by decide +kernel) (hd : (x == ("__debug__" : Str)) = false := by decide +kernel)
    (hs : starEach (e :: []) X.env = (false, eval e X.env) :: starEach [] X.env := by rfl) (hp : (backTo pos (starEach [] X.env)).any (·.1) = false := by rfl) : EvR (wE X (.Call (.Name x p) [e] [] pos)) σ H R2' := fun H1 x1 Q q =>
  pe_le (pe_callTy hc (D.gl hg) hm hv (pa_cons (we e) pa_nil hs) hn hd hs hp) (ha H1 x1 _ fun v H2 x2 t => hr H2 v (x1.trans x2) t Q fun u H3 x3 => q u H3 (x2.trans x3))
variable {p : Pos} {xs : List PyData}
/-- tuple(l), l a new list -/
theorem dtuple (D : DC X N sc k) (hm : X.mg "tuple" = none) (h : EL X e σ H xs) (hg : glB sc "tuple" = true := by decide +kernel) (hs : starEach (e :: []) X.env = (false, eval e X.env) :: starEach [] X.env := by rfl) : ED X (.Call (.Name "tuple" p) [e] [] pos) σ H (.tuple xs) :=
  dTy1 D call_tuple_of hm (by decide +kernel) h (fun H1 v x t Q q => by
    obtain ⟨p, vs, rfl, _, hp, t⟩ := t
    exact ⟨p, vs, rfl, .inl ⟨.inl (.inl hp), fun l hl => q _ _ (Ex.new hl) (.tup (.inl (.inl upd_same)) (t.ex (Ex.new hl)))⟩⟩) hg (by decide +kernel) (by decide +kernel) hs
/-- tuple(l), l a list that stands -/
theorem dtupleV {q : Addr} {vs : List V} (D : DC X N sc k) (hm : X.mg "tuple" = none) (h : EV X e σ H (.ref q)) (s : SqL X.K H q vs) (t : TDs X.K H vs xs) (hg : glB sc "tuple" = true := by decide +kernel) (hs : starEach (e :: []) X.env = (false, eval e X.env) :: starEach [] X.env := by rfl) : ED X (.Call (.Name "tuple" p) [e] [] pos) σ H (.tuple xs) :=
  dTy1 (R1 := fun H2 v => v = .ref q ∧ Ex H H2) D call_tuple_of hm (by decide +kernel) (fun H1 x Q k => h H1 x Q fun H2 y => k _ _ y ⟨rfl, x.trans y⟩) (fun H1 v x z Q k => by
    obtain ⟨rfl, y⟩ := z
    exact ⟨q, vs, rfl, .inl ⟨ex_l y s, fun l hl => k _ _ (Ex.new hl) (.tup (.inl (.inl upd_same)) ((t.ex y).ex (Ex.new hl)))⟩⟩) hg (by decide +kernel) (by decide +kernel) hs
theorem dlenT (D : DC X N sc k) (hm : X.mg "len" = none) (h : ED X e σ H (.tuple xs)) (hg : glB sc "len" = true := by decide +kernel) (hs : starEach (e :: []) X.env = (false, eval e X.env) :: starEach [] X.env := by rfl) : ED X (.Call (.Name "len" p) [e] [] pos) σ H (.int xs.length) :=
  dB1 D call_len_seq hm PySem.boot_len h (fun H1 v x t Q q => by
    cases t with
    | tup s t => exact ⟨_, _, rfl, .inr s, by rw [t.length]; exact q _ _ (Ex.refl _) (.int _)⟩) hg (by decide +kernel) (by decide +kernel) hs
theorem dlenV {q : Addr} {vs : List V} (D : DC X N sc k) (hm : X.mg "len" = none) (h : EV X e σ H (.ref q)) (s : SqL X.K H q vs) (hg : glB sc "len" = true := by decide +kernel) (hs : starEach (e :: []) X.env = (false, eval e X.env) :: starEach [] X.env := by rfl) : ED X (.Call (.Name "len" p) [e] [] pos) σ H (.int vs.length) :=
  dB1 (R1 := fun H2 v => v = .ref q ∧ Ex H H2) D call_len_seq hm PySem.boot_len (fun H1 x Q k => h H1 x Q fun H2 y => k _ _ y ⟨rfl, x.trans y⟩) (fun H1 v x z Q k => by
    obtain ⟨rfl, y⟩ := z
    exact ⟨q, vs, rfl, .inl (ex_l y s), k _ _ (Ex.refl _) (.int _)⟩) hg (by decide +kernel) (by decide +kernel) hs
theorem dlenS {z : Str} (D : DC X N sc k) (hm : X.mg "len" = none) (h : ED X e σ H (.str z)) (hl : z.length ≤ 1000) (hg : glB sc "len" = true := by decide +kernel) (hs : starEach (e :: []) X.env = (false, eval e X.env) :: starEach [] X.env := by rfl) : ED X (.Call (.Name "len" p) [e] [] pos) σ H (.int z.length) :=
  dB1 D call_len_str hm PySem.boot_len h (fun H1 v x t Q q => by
    obtain rfl := t.str_iff
    exact ⟨_, rfl, Nat.le_trans hl (by decide), q _ _ (Ex.refl _) (.int _)⟩) hg (by decide +kernel) (by decide +kernel) hs
theorem dany {bs : List Bool} (D : DC X N sc k) (hm : X.mg "any" = none) (h : EL X e σ H (bs.map .bool)) (hg : glB sc "any" = true := by decide +kernel) (hs : starEach (e :: []) X.env = (false, eval e X.env) :: starEach [] X.env := by rfl) : ED X (.Call (.Name "any" p) [e] [] pos) σ H (.bool (bs.any id)) :=
  dB1 D (cr_any D.calm) hm (by decide +kernel) h (fun H1 v x t Q q => by
    obtain ⟨p, vs, rfl, _, hp, t⟩ := t
    rw [t.bls] at hp
    exact ⟨p, bs, rfl, .inl (.inl hp), q _ _ (Ex.refl _) (.bl _)⟩) hg (by decide +kernel) (by decide +kernel) hs
theorem dall {bs : List Bool} (D : DC X N sc k) (hm : X.mg "all" = none) (h : EL X e σ H (bs.map .bool)) (hg : glB sc "all" = true := by decide +kernel) (hs : starEach (e :: []) X.env = (false, eval e X.env) :: starEach [] X.env := by rfl) : ED X (.Call (.Name "all" p) [e] [] pos) σ H (.bool (bs.all id)) :=
  dB1 D (cr_all D.calm) hm (by decide +kernel) h (fun H1 v x t Q q => by
    obtain ⟨p, vs, rfl, _, hp, t⟩ := t
    rw [t.bls] at hp
    exact ⟨p, bs, rfl, .inl (.inl hp), q _ _ (Ex.refl _) (.bl _)⟩) hg (by decide +kernel) (by decide +kernel) hs
theorem dsum {ns : List Int} (D : DC X N sc k) (hm : X.mg "sum" = none) (h : EL X e σ H (ns.map .int)) (hg : glB sc "sum" = true := by decide +kernel) (hs : starEach (e :: []) X.env = (false, eval e X.env) :: starEach [] X.env := by rfl) : ED X (.Call (.Name "sum" p) [e] [] pos) σ H (.int ns.sum) :=
  dB1 D (cr_sum D.calm) hm (by decide +kernel) h (fun H1 v x t Q q => by
    obtain ⟨p, vs, rfl, _, hp, t⟩ := t
    rw [t.ints] at hp
    exact ⟨p, ns, rfl, .inl (.inl hp), q _ _ (Ex.refl _) (.int _)⟩) hg (by decide +kernel) (by decide +kernel) hs
theorem dint {c : Bool} (D : DC X N sc k) (hm : X.mg "int" = none) (h : ED X e σ H (.bool c)) (hg : glB sc "int" = true := by decide +kernel) (hs : starEach (e :: []) X.env = (false, eval e X.env) :: starEach [] X.env := by rfl) : ED X (.Call (.Name "int" p) [e] [] pos) σ H (.int (if c then 1 else 0)) :=
  dTy1 D call_int1 hm (by decide +kernel) h (fun H1 v x t Q q => by
    obtain rfl := t.bl_iff
    exact .inr ⟨c, rfl, q _ _ (Ex.refl _) (.int _)⟩) hg (by decide +kernel) (by decide +kernel) hs
end

/-! ### a def that is called -/
structure Cal (P : Program) (w : World) (K : PySem.W.Frag) (mg : Str → Option Value) (base : Heap) (j : Nat) (x : Str) (ps : List Str) (sp : Sp) : Prop where
  ex : ∃ f fd, mg x = some (.ref f) ∧ PySem.W.keepIn K (.ref f) = true ∧ FnOk P w K mg base CX0 j f fd ps sp ∧ Binds K fd ps []
/-- a promise: arguments, what must hold, what is given -/
def SpF {α : Type} (K : PySem.W.Frag) (as : α → List AV) (pre : α → Hp → Prop) (R : α → Hp → Hp → V → Prop) : Sp := fun vs H Q _ => ∃ a, AVs K H vs (as a) ∧ pre a H ∧ ∀ v H', Ex H H' → R a H H' v → Q v H'
abbrev SpD {α : Type} (K : PySem.W.Frag) (as : α → List AV) (pre : α → Hp → Prop) (res : α → PyData) : Sp := SpF K as pre fun a _ H' v => TD K H' v (res a)
abbrev SpL {α : Type} (K : PySem.W.Frag) (as : α → List AV) (pre : α → Hp → Prop) (res : α → List PyData) : Sp := SpF K as pre fun a H H' v => LD K H (res a) H' v
section
variable {X : Cx} {N : List Str} {sc : Scope} {k j : Nat} {e : Expr} {es : List Expr} {σ : L2.St} {H : Hp} {pos p : Pos} {x : Str} {ps : List Str} {α : Type} {as : α → List AV} {pre : α → Hp → Prop}
theorem rcall {R : α → Hp → Hp → V → Prop} (D : DC X N sc k) (c : Cal X.prog X.w X.K X.mg X.base j x ps (SpF X.K as pre R)) (hj : j ≤ k) (a : α) (ha : EA X (e :: es) σ H (as a)) (hp : ∀ H1, Ex H H1 → pre a H1)
    (hg : glB sc x = true := by decide +kernel) (hd : (x == ("__debug__" : Str)) = false := by decide +kernel) (hs : starEach (e :: es) X.env = (false, eval e X.env) :: starEach es X.env := by rfl) (hpl : (backTo pos (starEach es X.env)).any (·.1) = false := by rfl) {R' : Hp → V → Prop}
    (hR : ∀ H1 H2 v, Ex H H1 → Ex H1 H2 → R a H1 H2 v → R' H2 v) : EvR (wE X (.Call (.Name x p) (e :: es) [] pos)) σ H R' := by
  obtain ⟨f, fd, hm, hk, F, hb⟩ := c.ex
  intro H1 x1 Q q
  exact pe_le (pe_call F (D.hr.mono hj) (D.gl hg) hm hk hb .nil pass0 (wa (e :: es)) hd hs hpl) (ha H1 x1 _ fun vs H2 x2 t => by
    rw [List.append_nil]
    exact ⟨a, t, hp H2 (x1.trans x2), fun v H3 x3 r => q v H3 (x2.trans x3) (hR H2 H3 v (x1.trans x2) x3 r)⟩)
theorem dcall {res : α → PyData} (D : DC X N sc k) (c : Cal X.prog X.w X.K X.mg X.base j x ps (SpD X.K as pre res)) (a : α) (ha : EA X (e :: es) σ H (as a)) (hp : ∀ H1, Ex H H1 → pre a H1) (hj : j ≤ k := by decide)
    (hg : glB sc x = true := by decide +kernel) (hd : (x == ("__debug__" : Str)) = false := by decide +kernel) (hs : starEach (e :: es) X.env = (false, eval e X.env) :: starEach es X.env := by rfl) (hpl : (backTo pos (starEach es X.env)).any (·.1) = false := by rfl) :
    ED X (.Call (.Name x p) (e :: es) [] pos) σ H (res a) := rcall D c hj a ha hp hg hd hs hpl fun _ _ _ _ _ r => r
theorem lcall {res : α → List PyData} (D : DC X N sc k) (c : Cal X.prog X.w X.K X.mg X.base j x ps (SpL X.K as pre res)) (a : α) (ha : EA X (e :: es) σ H (as a)) (hp : ∀ H1, Ex H H1 → pre a H1) (hj : j ≤ k := by decide)
    (hg : glB sc x = true := by decide +kernel) (hd : (x == ("__debug__" : Str)) = false := by decide +kernel) (hs : starEach (e :: es) X.env = (false, eval e X.env) :: starEach es X.env := by rfl) (hpl : (backTo pos (starEach es X.env)).any (·.1) = false := by rfl) :
    EL X (.Call (.Name x p) (e :: es) [] pos) σ H (res a) := rcall D c hj a ha hp hg hd hs hpl fun H1 H2 v x1 x2 r => by
  obtain ⟨p, xs, rfl, h0, h1, t⟩ := r
  exact ⟨p, xs, rfl, fresh_back x1 h0, h1, t⟩
/-- a def by its body -/
theorem mkCal {P : Program} {w : World} {K : PySem.W.Frag} {mg : Str → Option Value} {base : Heap} {x qual : Str} {st : Stmt} {f : Addr} {fd : FuncData} {N ps : List Str} {sc : Scope} {k : Nat} {as : α → List AV} {pre : α → Hp → Prop} {R : α → Hp → Hp → V → Prop}
    (F : FunD K x qual (defArgs st) (defBody st) (defScope st) [] [] f fd) (hm : mg x = some (.ref f)) (S : FnScope N ps sc) (hsc : defScope st = sc)
    (hb : ∀ (kV doc pm : Value) (an : Option Addr) (cdv ct : Value) (us : List Value), us.length = ps.length → bindArgs (PySem.W.fnOf x qual (defArgs st) (defBody st) (defScope st) .none kV doc pm an cdv ct) ⟨us, []⟩ = pure (ps.zip us)) (len : ∀ a, (as a).length = ps.length)
    (body : ∀ X : Cx, X.prog = P → X.w = w → X.K = K → X.mg = mg → X.base = base → DC X N sc k → ∀ a vs H Q, AVs K H vs (as a) → pre a H → (∀ v H', Ex H H' → R a H H' v → Q v H') → wSs X (defBody st) { nx := fun _ H' => Q .non H', rt := Q } (start N vs) H) :
    Cal P w K mg base (k + 1) x ps (SpF K as pre R) := by
  refine ⟨f, fd, hm, F.kp, ?_, F.bindsN hb⟩
  have S' : FnScope N ps (defScope st) := hsc ▸ S
  refine F.ok S' (fun vs H Q E h => ?_) fun cdv A outer s H vs Q E hr h => ?_
  · obtain ⟨a, t, _⟩ := h
    rw [t.length, len a]
  · obtain ⟨a, t, hp, hq⟩ := h
    have D := DC.of (P := P) (w := w) (K := K) (mg := mg) (base := base) (outer := outer) (H := H) (E := E) (CX := CX0) S' hr
    exact ⟨_, PSs.nox (wss _), body _ rfl rfl rfl rfl rfl (hsc ▸ D) a vs H Q t hp hq⟩
end

/-! ### statements -/
section
variable {X : Cx} {N : List Str} {sc : Scope} {k : Nat} {a b e : Expr} {es : List Expr} {σ : L2.St} {H : Hp} {d : PyData} {v : V} {pos p' : Pos} {st : Stmt} {rest : List Stmt} {Dn : Ends}
theorem ss0 (h : Dn.nx σ H) : wSs X [] Dn σ H := pss_le pss_nil h
theorem ssc (h : wS X st { Dn with nx := fun σ' H' => wSs X rest Dn σ' H' } σ H) : wSs X (st :: rest) Dn σ H := pss_le (pss_cons (ws st) (wss rest)) h
theorem ss1 (h : wS X st Dn σ H) : wSs X [st] Dn σ H := pss_le (pss_one (ws st)) h
theorem DC.ndX (D : DC X N sc k) : X.N.Nodup := by rw [D.hN]; exact D.nd
theorem DC.ix (D : DC X N sc k) {i : Nat} {x : Str} (h : N[i]? = some x) : X.N[i]? = some x := by rw [D.hN]; exact h
theorem asgR {R : Hp → V → Prop} {x : Str} (D : DC X N sc k) (i : Nat) (h : EvR (wE X e) σ H R) (q : ∀ v H1, Ex H H1 → R H1 v → Dn.nx (σ.set i (some v)) H1) (hi : N[i]? = some x := by rfl) (hl : locB sc x = true := by decide +kernel)
    (hs : swapsWith e (some (.Name x p')) pos.line X.env = pure false := by rfl) : wS X (.Assign [.Name x p'] e pos) Dn σ H :=
  ps_le (ps_set D.ndX (D.ix hi) (D.loc hl).1 (we e) hs (D.loc hl).2) (h H (Ex.refl H) _ fun v H1 x r => q v H1 x r)
theorem asgD {x : Str} (D : DC X N sc k) (i : Nat) (h : ED X e σ H d) (q : ∀ v H1, Ex H H1 → TD X.K H1 v d → Dn.nx (σ.set i (some v)) H1) (hi : N[i]? = some x := by rfl) (hl : locB sc x = true := by decide +kernel)
    (hs : swapsWith e (some (.Name x p')) pos.line X.env = pure false := by rfl) : wS X (.Assign [.Name x p'] e pos) Dn σ H := asgR D i h q hi hl hs
theorem asgL {x : Str} {ds : List PyData} (D : DC X N sc k) (i : Nat) (h : EL X e σ H ds) (q : ∀ p xs H1, H p = none → Ex H H1 → H1 p = some (.lst xs) → TDs X.K H1 xs ds → Dn.nx (σ.set i (some (.ref p))) H1) (hi : N[i]? = some x := by rfl) (hl : locB sc x = true := by decide +kernel)
    (hs : swapsWith e (some (.Name x p')) pos.line X.env = pure false := by rfl) : wS X (.Assign [.Name x p'] e pos) Dn σ H := asgR D i h (fun v H1 y r => by
  obtain ⟨p, xs, rfl, h0, h1, t⟩ := r
  exact q p xs H1 h0 y h1 t) hi hl hs
theorem asgV {x : Str} (D : DC X N sc k) (i : Nat) (h : EV X e σ H v) (q : ∀ H1, Ex H H1 → Dn.nx (σ.set i (some v)) H1) (hi : N[i]? = some x := by rfl) (hl : locB sc x = true := by decide +kernel)
    (hs : swapsWith e (some (.Name x p')) pos.line X.env = pure false := by rfl) : wS X (.Assign [.Name x p'] e pos) Dn σ H :=
  ps_le (ps_set D.ndX (D.ix hi) (D.loc hl).1 (we e) hs (D.loc hl).2) (h H (Ex.refl H) _ fun H1 y => q H1 y)
/-- x = {} -/
theorem asgN {x : Str} {p2 : Pos} (D : DC X N sc k) (i : Nat) (q : ∀ p, H p = none → Dn.nx (σ.set i (some (.ref p))) (upd H p (.dK []))) (hi : N[i]? = some x := by rfl) (hl : locB sc x = true := by decide +kernel) : wS X (.Assign [.Name x p'] (.Dict [] [] p2) pos) Dn σ H :=
  ps_le (ps_set D.ndX (D.ix hi) (D.loc hl).1 pe_dnewK rfl (D.loc hl).2) fun p hp => q p hp
/-- x = [] -/
theorem asg0 {x : Str} {p2 : Pos} (D : DC X N sc k) (i : Nat) (q : ∀ p, H p = none → Dn.nx (σ.set i (some (.ref p))) (upd H p (.lst []))) (hi : N[i]? = some x := by rfl) (hl : locB sc x = true := by decide +kernel) : wS X (.Assign [.Name x p'] (.List [] p2) pos) Dn σ H :=
  ps_le (ps_set D.ndX (D.ix hi) (D.loc hl).1 (pe_lst pa_nil) rfl (D.loc hl).2) ⟨Nat.zero_le _, fun p hp => q p hp⟩
theorem retR {R : Hp → V → Prop} (h : EvR (wE X e) σ H R) (q : ∀ v H1, Ex H H1 → R H1 v → Dn.rt v H1) : wS X (.Return (some e) pos) Dn σ H := ps_le (ps_ret (we e)) (h H (Ex.refl H) _ fun v H1 x r => q v H1 x r)
theorem retD (h : ED X e σ H d) (q : ∀ v H1, Ex H H1 → TD X.K H1 v d → Dn.rt v H1) : wS X (.Return (some e) pos) Dn σ H := retR h q
theorem retL {ds : List PyData} (h : EL X e σ H ds) (q : ∀ v H1, Ex H H1 → LD X.K H ds H1 v → Dn.rt v H1) : wS X (.Return (some e) pos) Dn σ H := retR h q
theorem retV (h : EV X e σ H v) (q : ∀ H1, Ex H H1 → Dn.rt v H1) : wS X (.Return (some e) pos) Dn σ H := ps_le (ps_ret (we e)) (h H (Ex.refl H) _ fun H1 x => q H1 x)
theorem sif {c : Bool} {t u : List Stmt} (h : ET X e σ H c) (q1 : c = true → ∀ H1, Ex H H1 → wSs X t Dn σ H1) (q2 : c = false → ∀ H1, Ex H H1 → wSs X u Dn σ H1) : wS X (.If e t u pos) Dn σ H := ps_le (ps_if (wt e) (wss t) (wss u)) (s_if h q1 q2)
theorem few1 {pz : Pos} (hs : starEach (e :: []) X.env = (false, eval e X.env) :: starEach [] X.env) :
    ((backTo pz (starEach (e :: []) X.env)).all (fun x => !x.1) && (backToKw pz (keywordEach [] X.env)).all (fun x => x.1.isSome) && decide ((e :: ([] : List Expr)).length + ([] : List Keyword).length + (if ([] : List Keyword).isEmpty then 0 else 1) < 30)) = true := by
  rw [hs] <;> rfl
/-- l.append(e), l a list that stands -/
theorem sapp {x : Str} {l : Addr} {vs : List V} {px py pz pw : Pos} (ha : EV X (.Name x px) σ H (.ref l)) (hl : H l = some (.lst vs)) (hz : vs.length < 100000) (h : ED X e σ H d) (q : ∀ v H1, Ex H H1 → TD X.K H1 v d → Dn.nx σ (upd H1 l (.lst (vs ++ [v]))))
    (hs : starEach (e :: []) X.env = (false, eval e X.env) :: starEach [] X.env := by rfl) (hline : (py.endLine == pz.line) = true := by rfl) : wS X (.Expr (.Call (.Attribute (.Name x px) "append" py) [e] [] pz) pw) Dn σ H :=
  ps_le (ps_expr (pe_bm PySem.F.plainAttrs_list PySem.F.slot_list_append PySem.F.type_list_append mt_append (we _) (wa [e]) rfl (few1 hs) hline hs)) (ha H (Ex.refl H) _ fun H1 e1 => ⟨.inl ⟨rfl, vs, sq_of (e1 l _ hl)⟩,
    (ead h ean hs) H1 e1 _ fun ws H2 e2 t => by
      cases t with
      | d t r =>
        cases r
        exact ⟨l, vs, _, rfl, rfl, e2 l _ (e1 l _ hl), sz_lt hz, q _ H2 (e1.trans e2) t⟩⟩)
/-- l.extend(e), e a new list -/
theorem sext {x : Str} {l : Addr} {vs : List V} {ds : List PyData} {px py pz pw : Pos} (ha : EV X (.Name x px) σ H (.ref l)) (hl : H l = some (.lst vs)) (hz : vs.length + ds.length < 100000) (h : EL X e σ H ds) (q : ∀ us H1, Ex H H1 → TDs X.K H1 us ds → Dn.nx σ (upd H1 l (.lst (vs ++ us))))
    (hs : starEach (e :: []) X.env = (false, eval e X.env) :: starEach [] X.env := by rfl) (hline : (py.endLine == pz.line) = true := by rfl) : wS X (.Expr (.Call (.Attribute (.Name x px) "extend" py) [e] [] pz) pw) Dn σ H :=
  ps_le (ps_expr (pe_bm PySem.F.plainAttrs_list PySem.F.slot_list_extend PySem.F.type_list_extend mt_extend (we _) (pa_cons (we e) pa_nil hs) rfl (few1 hs) hline hs)) (ha H (Ex.refl H) _ fun H1 e1 => ⟨.inl ⟨rfl, vs, sq_of (e1 l _ hl)⟩,
    h H1 e1 _ fun v H2 e2 t => by
      obtain ⟨p, us, rfl, h0, h1, t⟩ := t
      exact ⟨l, p, vs, us, rfl, rfl, e2 l _ (e1 l _ hl), h1, by rw [t.length]; exact Nat.le_of_lt (sz_lt hz), q us H2 (e1.trans e2) t⟩⟩)

/-! ### targets -/
structure wG (X : Cx) (tg : Expr) (v : V) (σ : L2.St) (H : Hp) (Q : L2.St → Hp → Prop) : Prop where
  run : ∀ pins s u, Inv X pins σ H s → RelV v u → wpAny (model X.prog X.w) X.A (assign tg X.env u) (fun _ s' => ∃ σ' H', Inv X pins σ' H' s' ∧ Q σ' H') X.xe s
theorem wg (tg : Expr) : PG X tg (wG X tg) := ⟨fun pins s σ H v u Q I r h => h.run pins s u I r⟩
theorem pg_le {tg : Expr} {t : TG} (h : PG X tg t) {Q : L2.St → Hp → Prop} (q : t v σ H Q) : wG X tg v σ H Q := ⟨fun pins s u I r => h.run pins s σ H v u Q I r q⟩
theorem g1 {x : Str} {Q : L2.St → Hp → Prop} (D : DC X N sc k) (i : Nat) (q : Q (σ.set i (some v)) H) (hi : N[i]? = some x := by rfl) (hl : locB sc x = true := by decide +kernel) : wG X (.Name x pos) v σ H Q :=
  pg_le (pg_name D.ndX (D.ix hi) (D.loc hl).1 (D.loc hl).2) q
theorem g2 {x y : Str} {Q : L2.St → Hp → Prop} {n : Nat} {p1 p2 : Pos} {d1 d2 : PyData} (D : DC X N sc k) (i j : Nat) (t : TD X.K H v (.tuple [d1, d2])) (q : ∀ u w, TD X.K H u d1 → TD X.K H w d2 → Q ((σ.set i (some u)).set j (some w)) H)
    (hi : N[i]? = some x := by rfl) (hl : locB sc x = true := by decide +kernel) (hj : N[j]? = some y := by rfl) (hm : locB sc y = true := by decide +kernel) : wG X (.Tuple [.Name x p1, .Name y p2] n pos) v σ H Q := by
  refine pg_le (pg_tup D.calm (pgs_cons (pg_name D.ndX (D.ix hi) (D.loc hl).1 (D.loc hl).2) (pgs_cons (pg_name D.ndX (D.ix hj) (D.loc hm).1 (D.loc hm).2) pgs_nil)) (n := 2)) ?_
  cases t with
  | tup s t =>
    cases t with
    | cons t1 t =>
      cases t with
      | cons t2 t =>
        cases t
        exact ⟨_, _, rfl, s, rfl, _, _, rfl, _, _, rfl, rfl, q _ _ t1 t2⟩
theorem g3 {x y z : Str} {Q : L2.St → Hp → Prop} {n : Nat} {p1 p2 p3 : Pos} {d1 d2 d3 : PyData} (D : DC X N sc k) (i j l : Nat) (t : TD X.K H v (.tuple [d1, d2, d3])) (q : ∀ u w r, TD X.K H u d1 → TD X.K H w d2 → TD X.K H r d3 → Q (((σ.set i (some u)).set j (some w)).set l (some r)) H)
    (hi : N[i]? = some x := by rfl) (hl : locB sc x = true := by decide +kernel) (hj : N[j]? = some y := by rfl) (hm : locB sc y = true := by decide +kernel) (hk : N[l]? = some z := by rfl) (ho : locB sc z = true := by decide +kernel) : wG X (.Tuple [.Name x p1, .Name y p2, .Name z p3] n pos) v σ H Q := by
  refine pg_le (pg_tup D.calm (pgs_cons (pg_name D.ndX (D.ix hi) (D.loc hl).1 (D.loc hl).2) (pgs_cons (pg_name D.ndX (D.ix hj) (D.loc hm).1 (D.loc hm).2) (pgs_cons (pg_name D.ndX (D.ix hk) (D.loc ho).1 (D.loc ho).2) pgs_nil))) (n := 3)) ?_
  cases t with
  | tup s t =>
    cases t with
    | cons t1 t =>
      cases t with
      | cons t2 t =>
        cases t with
        | cons t3 t =>
          cases t
          exact ⟨_, _, rfl, s, rfl, _, _, rfl, _, _, rfl, _, _, rfl, rfl, q _ _ _ t1 t2 t3⟩

/-! ### for -/
variable {tg iter : Expr} {body : List Stmt}
/-- over a tuple: W H1 i σ' H' holds behind i turns, H1 the heap where the tuple was given -/
theorem forT {xs : List PyData} (D : DC X N sc k) (h : ED X iter σ H (.tuple xs)) (W : Hp → Nat → L2.St → Hp → Prop) (h0 : ∀ H1, Ex H H1 → W H1 0 σ H1) (hm : ∀ H1 i σ' H', W H1 i σ' H' → Tm H1 H')
    (hs : ∀ H1 i d v σ' H', Ex H H1 → xs[i]? = some d → W H1 i σ' H' → TD X.K H' v d → wG X tg v σ' H' fun σ2 H2 => wSs X body { Dn with nx := W H1 (i + 1), ct := W H1 (i + 1), bk := Dn.nx } σ2 H2) (hd : ∀ H1 σ' H', Ex H H1 → W H1 xs.length σ' H' → Dn.nx σ' H')
    (hf : ∀ x, foldedSetIterable iter X.env x = pure x := by intro _; rfl) : wS X (.For tg iter body [] pos) Dn σ H := by
  refine ps_le (ps_for D.po D.calm (pi_tup (we iter)) (wg tg) (wss body) hf) (h H (Ex.refl H) _ fun v H1 x t => ?_)
  cases t with
  | @tup A vs _ s t =>
    refine ⟨A, rfl, ⟨_, s⟩, for_tup (K := X.K) (a := A) (xs := vs) (W H1) (h0 H1 x) (fun i σ' H' _ w => tm_t (hm _ _ _ _ w) s) (fun i u σ' H' hi w => ?_) fun σ' H' w => hd H1 σ' H' x (t.length ▸ w)⟩
    obtain ⟨d, e1, e2⟩ := t.get' hi
    exact hs H1 i d u σ' H' x e1 w (e2.tm (hm _ _ _ _ w))
/-- over a new list: it stands in W -/
theorem forL {xs : List PyData} (D : DC X N sc k) (h : EL X iter σ H xs) (W : Addr → Hp → Nat → L2.St → Hp → Prop) (h0 : ∀ p H1, H p = none → Ex H H1 → W p H1 0 σ H1) (hm : ∀ p H1 i σ' H', W p H1 i σ' H' → Tm H1 H') (hl : ∀ p H1 vs i σ' H', Ex H H1 → H p = none → H1 p = some (.lst vs) → W p H1 i σ' H' → H' p = some (.lst vs))
    (hs : ∀ p H1 i d v σ' H', Ex H H1 → xs[i]? = some d → W p H1 i σ' H' → TD X.K H' v d → wG X tg v σ' H' fun σ2 H2 => wSs X body { Dn with nx := W p H1 (i + 1), ct := W p H1 (i + 1), bk := Dn.nx } σ2 H2) (hd : ∀ p H1 σ' H', Ex H H1 → W p H1 xs.length σ' H' → Dn.nx σ' H')
    (hf : ∀ x, foldedSetIterable iter X.env x = pure x := by intro _; rfl) : wS X (.For tg iter body [] pos) Dn σ H := by
  refine ps_le (ps_for D.po D.calm (pi_list (we iter)) (wg tg) (wss body) hf) (h H (Ex.refl H) _ fun v H1 x t => ?_)
  obtain ⟨A, vs, rfl, a0, a1, t⟩ := t
  refine ⟨A, rfl, ⟨_, .inl (.inl a1)⟩, for_list (K := X.K) (a := A) (xs := vs) (W A H1) (h0 A H1 a0 x) (fun i σ' H' _ w => .inl (.inl (hl A H1 vs i σ' H' x a0 a1 w))) (fun i u σ' H' hi w => ?_) fun σ' H' w => hd A H1 σ' H' x (t.length ▸ w)⟩
  obtain ⟨d, e1, e2⟩ := t.get' hi
  exact hs A H1 i d u σ' H' x e1 w (e2.tm (hm _ _ _ _ _ w))
end

/-! ### comprehensions -/
structure Bk where
  s : Shared
  H : Hp
  C : Addr
  cl : List (Str × Addr)
  fp : List Addr
abbrev Xb (X : Cx) (scope : Scope) (b : Bk) : Cx := X.blk b.s b.H scope (compEnvC scope b.cl b.C X.env) b.fp
section
variable {X : Cx} {N : List Str} {sc : Scope} {k : Nat} {e : Expr} {σ : L2.St} {H : Hp} {d : PyData} {v : V} {pos : Pos} {elt tg iter : Expr} {ifs : List Expr} {scope : Scope} {own : List (Str × Nat)}
theorem DC.blkOk (D : DC X N sc k) (h : blkC N sc scope own = true) : BlkOk X.N X.env.scope scope own := by
  have b := blkOk_by h
  refine ⟨b.kind, b.uniq, fun p hp => by rw [D.hN]; exact b.ix p hp, fun y hy e => ?_, fun y hy e => by rw [D.hN]; exact b.own y hy e⟩
  rcases b.free y hy e with q | q
  · exact .inl (D.keep _ _ (by decide) q)
  · exact D.free _ q
/-- no if, one if: the answer -/
def ETs (X : Cx) : List Expr → L2.St → Hp → Bool → Prop
  | [], _, _, c => c = true
  | [e], σ, H, c => ET X e σ H c
  | _, _, _, _ => False
def ftt (X : Cx) (scope : Scope) : List Expr → TT
  | [] => tYes
  | [e] => fun σ H Q => ∀ b : Bk, wT (Xb X scope b) e σ H Q
  | _ => fun _ _ _ => False
def gB (X : Cx) (scope : Scope) (tg : Expr) : TG := fun v σ H Q => ∀ b : Bk, wG (Xb X scope b) tg v σ H Q
def teB (X : Cx) (scope : Scope) (e : Expr) : TE := fun σ H Q => ∀ b : Bk, wE (Xb X scope b) e σ H Q
theorem ftt_ok (b : Bk) : ∀ ifs : List Expr, PTs (Xb X scope b) ifs (ftt X scope ifs)
  | [] => pts_nil
  | [e] => ⟨fun pins s σ H Q I h => (pts_one (wt e)).run pins s σ H Q I (h b)⟩
  | _ :: _ :: _ => ⟨fun pins s σ H Q I h => h.elim⟩
theorem gB_ok (s : Shared) (H' : Hp) (C : Addr) (cl : List (Str × Addr)) (fp : List Addr) : PG (X.blk s H' scope (compEnvC scope cl C X.env) fp) tg (gB X scope tg) :=
  ⟨fun pins s2 σ2 H2 v u Q I r t => (t ⟨s, H', C, cl, fp⟩).run pins s2 u I r⟩
theorem teB_ok (s : Shared) (H' : Hp) (C : Addr) (cl : List (Str × Addr)) (fp : List Addr) : PE (X.blk s H' scope (compEnvC scope cl C X.env) fp) elt (teB X scope elt) :=
  ⟨fun pins s2 σ2 H2 Q I t => (t ⟨s, H', C, cl, fp⟩).run pins s2 I⟩
/-- what a turn asks: the target's places, the test's answer, the item given -/
def Turn1 (X : Cx) (scope : Scope) (tg : Expr) (ifs : List Expr) (elt : Expr) (σ : L2.St) (vs : List Nat) (H1 : Hp) (x : V) (c : Bool) (d : PyData) : Prop :=
  ∃ σ2, (∀ (b : Bk) (Q : L2.St → Hp → Prop), Q σ2 H1 → wG (Xb X scope b) tg x (wipe σ vs) H1 Q) ∧ wipe σ2 vs = wipe σ vs ∧ (∀ b, ETs (Xb X scope b) ifs σ2 H1 c) ∧ (c = true → ∀ b, ED (Xb X scope b) elt σ2 H1 d)
def Lw (K : PySem.W.Frag) (H1 : Hp) (D : Addr) (ds : List PyData) (H' : Hp) : Prop := H1 D = none ∧ Ex H1 H' ∧ ∃ acc, H' D = some (.lst acc) ∧ TDs K H' acc ds
theorem turn1 {vs : List Nat} {H1 H' : Hp} {D : Addr} {ds : List PyData} {x : V} {c : Bool} (p : Lw X.K H1 D ds H') (hz : ds.length < 60000) (t : Turn1 X scope tg ifs elt σ vs H' x c d) {Pn : Hp → Prop} (hn : ∀ H', Lw X.K H1 D (if c = true then ds ++ [d] else ds) H' → Pn H') :
    gB X scope tg x (wipe σ vs) H' fun σ2 H2 => wipe σ2 vs = wipe σ vs ∧ ftt X scope ifs σ2 H2 fun b H3 =>
      if b = true then teB X scope elt σ2 H3 fun y H4 => ∃ acc, H4 D = some (.lst acc) ∧ acc.length < sizeLine ∧ Pn (upd H4 D (.lst (acc ++ [y]))) else Pn H3 := by
  obtain ⟨p1, p2, acc, p3, p4⟩ := p
  obtain ⟨σ2, t1, t2, t3, t4⟩ := t
  intro b
  refine t1 b _ ⟨t2, ?_⟩
  have fin : ∀ H3, Ex H' H3 → (if c = true then teB X scope elt σ2 H3 fun y H4 => ∃ acc, H4 D = some (.lst acc) ∧ acc.length < sizeLine ∧ Pn (upd H4 D (.lst (acc ++ [y]))) else Pn H3) := fun H3 e3 => by
    cases c with
    | true =>
      rw [if_pos rfl]
      intro b
      refine t4 rfl b H3 e3 _ fun v H4 e4 tv => ⟨acc, e4 D _ (e3 D _ p3), by rw [p4.length]; exact sz_lt (by omega), hn _ ⟨p1, Ex.mut ((p2.trans e3).trans e4) p1, _, upd_same, ?_⟩⟩
      exact (((p4.ex (e3.trans e4)).append (.cons tv .nil))).tm (Tm.lst (e4 D _ (e3 D _ p3)))
    | false =>
      rw [if_neg Bool.false_ne_true]
      exact hn _ ⟨p1, p2.trans e3, acc, e3 D _ p3, p4.ex e3⟩
  cases ifs with
  | nil =>
    have e : c = true := t3 b
    have z := fin H' (Ex.refl H')
    rw [e] at z
    exact z
  | cons e1 r =>
    cases r with
    | nil =>
      intro b2
      refine t3 b2 H' (Ex.refl H') _ fun H3 e3 => fin H3 e3
    | cons _ _ => exact (t3 b).elim
def kept {α : Type} (f : α → Bool) (g : α → PyData) (l : List α) : List PyData := (l.filter f).map g
theorem kept_len {α : Type} (f : α → Bool) (g : α → PyData) (l : List α) : (kept f g l).length ≤ l.length := by
  unfold kept
  rw [List.length_map]
  exact List.length_filter_le _ _
theorem take_more {α : Type} : ∀ {l : List α} {i : Nat} {x : α}, l[i]? = some x → l.take (i + 1) = l.take i ++ [x]
  | [], i, x, h => by simp at h
  | a :: l, 0, x, h => by
    have e : a = x := Option.some.inj h
    subst e
    rfl
  | a :: l, i + 1, x, h => by
    have ih := take_more (l := l) (i := i) (x := x) h
    show a :: l.take (i + 1) = a :: l.take i ++ [x]
    rw [ih]
    rfl
theorem kept_more {α : Type} {f : α → Bool} {g : α → PyData} {l : List α} {i : Nat} {x : α} (h : l[i]? = some x) : kept f g (l.take (i + 1)) = if f x = true then kept f g (l.take i) ++ [g x] else kept f g (l.take i) := by
  rw [take_more h]
  unfold kept
  rw [List.filter_append, List.map_append]
  cases q : f x with
  | true => rw [List.filter_cons, if_pos q, if_pos rfl] <;> rfl
  | false => rw [List.filter_cons, if_neg (by rw [q]; decide), if_neg (by decide)]; exact List.append_nil _
/-- [elt for tg in iter if ..], iter a tuple of (l.map m) -/
theorem lcT {α : Type} (m : α → PyData) (l : List α) (f : α → Bool) (g : α → PyData) (D : DC X N sc k) (own : List (Str × Nat)) (h : ED X iter σ H (.tuple (l.map m))) (hz : l.length < 50000)
    (turn : ∀ H1 x v, Ex H H1 → x ∈ l → TD X.K H1 v (m x) → Turn1 X scope tg ifs elt σ (own.map (·.2)) H1 v (f x) (g x)) (hb : blkC N sc scope own = true := by decide +kernel)
    (hs : ∀ x, foldedSetIterable iter X.env x = pure x := by intro _; rfl) : EL X (.ListComp elt [⟨tg, iter, ifs, 0⟩] scope pos) σ H (kept f g l) := by
  intro H1 x1 Q q
  refine pe_le (pe_lc D.calm D.ndX (pi_tup (we iter)) (D.blkOk hb) gB_ok (fun s H' C cl fp => ftt_ok ⟨s, H', C, cl, fp⟩ ifs) teB_ok hs) (h H1 x1 _ fun v H2 x2 t => ?_)
  cases t with
  | @tup A vs _ s t =>
    refine ⟨A, rfl, ⟨_, s⟩, fun Dl hD => lc_tup (K := X.K) (a := A) (xs := vs) (fun i H' => Lw X.K H2 Dl (kept f g (l.take i)) H') ⟨hD, Ex.new hD, [], upd_same, by rw [List.take_zero]; exact .nil⟩ (fun i H' _ p => ex_t p.2.1 s) (fun i u H' hi p => ?_) fun H' p => ?_⟩
    · obtain ⟨d, e1, e2⟩ := t.get' hi
      rw [List.getElem?_map] at e1
      cases hx : l[i]? with
      | none =>
        rw [hx] at e1
        cases e1
      | some x =>
        rw [hx] at e1
        have ed : m x = d := Option.some.inj e1
        subst ed
        have hlen := kept_len f g (l.take i)
        have hl2 : (l.take i).length ≤ l.length := by rw [List.length_take]; exact Nat.min_le_right _ _
        refine turn1 p (by omega) (turn H' x u ((x1.trans x2).trans p.2.1) (List.mem_of_getElem? hx) (e2.ex p.2.1)) fun H3 p3 => ?_
        rw [kept_more hx]
        exact p3
    · have e : vs.length = l.length := by rw [t.length, List.length_map]
      rw [e, List.take_length] at p
      obtain ⟨p1, p2, acc, p3, p4⟩ := p
      exact q _ H' (x2.trans p2) ⟨Dl, acc, rfl, fresh_back (x1.trans x2) p1, p3, p4⟩
/-- .. iter a new list of (l.map m) -/
theorem lcL {α : Type} (m : α → PyData) (l : List α) (f : α → Bool) (g : α → PyData) (D : DC X N sc k) (own : List (Str × Nat)) (h : EL X iter σ H (l.map m)) (hz : l.length < 50000)
    (turn : ∀ H1 x v, Ex H H1 → x ∈ l → TD X.K H1 v (m x) → Turn1 X scope tg ifs elt σ (own.map (·.2)) H1 v (f x) (g x)) (hb : blkC N sc scope own = true := by decide +kernel)
    (hs : ∀ x, foldedSetIterable iter X.env x = pure x := by intro _; rfl) : EL X (.ListComp elt [⟨tg, iter, ifs, 0⟩] scope pos) σ H (kept f g l) := by
  intro H1 x1 Q q
  refine pe_le (pe_lc D.calm D.ndX (pi_list (we iter)) (D.blkOk hb) gB_ok (fun s H' C cl fp => ftt_ok ⟨s, H', C, cl, fp⟩ ifs) teB_ok hs) (h H1 x1 _ fun v H2 x2 t => ?_)
  obtain ⟨A, vs, rfl, _, s, t⟩ := t
  refine ⟨A, rfl, ⟨_, .inl (.inl s)⟩, fun Dl hD => lc_list (K := X.K) (a := A) (xs := vs) (fun i H' => Lw X.K H2 Dl (kept f g (l.take i)) H') ⟨hD, Ex.new hD, [], upd_same, by rw [List.take_zero]; exact .nil⟩ (fun i H' _ p => .inl (.inl (p.2.1 _ _ s))) (fun i u H' hi p => ?_) fun H' p => ?_⟩
  · obtain ⟨d, e1, e2⟩ := t.get' hi
    rw [List.getElem?_map] at e1
    cases hx : l[i]? with
    | none =>
      rw [hx] at e1
      cases e1
    | some x =>
      rw [hx] at e1
      have ed : m x = d := Option.some.inj e1
      subst ed
      have hlen := kept_len f g (l.take i)
      have hl2 : (l.take i).length ≤ l.length := by rw [List.length_take]; exact Nat.min_le_right _ _
      refine turn1 p (by omega) (turn H' x u ((x1.trans x2).trans p.2.1) (List.mem_of_getElem? hx) (e2.ex p.2.1)) fun H3 p3 => ?_
      rw [kept_more hx]
      exact p3
  · have e : vs.length = l.length := by rw [t.length, List.length_map]
    rw [e, List.take_length] at p
    obtain ⟨p1, p2, acc, p3, p4⟩ := p
    exact q _ H' (x2.trans p2) ⟨Dl, acc, rfl, fresh_back (x1.trans x2) p1, p3, p4⟩
theorem kept_all {α : Type} (f : α → PyData) (l : List α) : kept (fun _ => true) f l = l.map f := by unfold kept; rw [List.filter_eq_self.mpr fun _ _ => rfl]
/-- without an if -/
theorem lcT0 {α : Type} (m : α → PyData) (l : List α) (g : α → PyData) (D : DC X N sc k) (own : List (Str × Nat)) (h : ED X iter σ H (.tuple (l.map m))) (hz : l.length < 50000)
    (turn : ∀ H1 x v, Ex H H1 → x ∈ l → TD X.K H1 v (m x) → Turn1 X scope tg [] elt σ (own.map (·.2)) H1 v true (g x)) (hb : blkC N sc scope own = true := by decide +kernel)
    (hs : ∀ x, foldedSetIterable iter X.env x = pure x := by intro _; rfl) : EL X (.ListComp elt [⟨tg, iter, [], 0⟩] scope pos) σ H (l.map g) := kept_all g l ▸ lcT m l (fun _ => true) g D own h hz turn hb hs
theorem lcL0 {α : Type} (m : α → PyData) (l : List α) (g : α → PyData) (D : DC X N sc k) (own : List (Str × Nat)) (h : EL X iter σ H (l.map m)) (hz : l.length < 50000)
    (turn : ∀ H1 x v, Ex H H1 → x ∈ l → TD X.K H1 v (m x) → Turn1 X scope tg [] elt σ (own.map (·.2)) H1 v true (g x)) (hb : blkC N sc scope own = true := by decide +kernel)
    (hs : ∀ x, foldedSetIterable iter X.env x = pure x := by intro _; rfl) : EL X (.ListComp elt [⟨tg, iter, [], 0⟩] scope pos) σ H (l.map g) := kept_all g l ▸ lcL m l (fun _ => true) g D own h hz turn hb hs
/-- a turn whose target is one name -/
theorem t1 {x : Str} {c : Bool} {H1 : Hp} {vs : List Nat} (D : DC X N sc k) (i : Nat) (ht : ∀ b, ETs (Xb X scope b) ifs ((wipe σ vs).set i (some v)) H1 c) (he : c = true → ∀ b, ED (Xb X scope b) elt ((wipe σ vs).set i (some v)) H1 d)
    (hw : wipe ((wipe σ vs).set i (some v)) vs = wipe σ vs := by rfl) (hi : N[i]? = some x := by rfl) (hl : locB scope x = true := by decide +kernel) : Turn1 X scope (.Name x pos) ifs elt σ vs H1 v c d :=
  ⟨_, fun b Q q => g1 (D.blk b.s b.H scope b.C b.cl b.fp) i q hi hl, hw, ht, he⟩
theorem t2 {x y : Str} {n : Nat} {p1 p2 : Pos} {c : Bool} {H1 : Hp} {vs : List Nat} {d1 d2 : PyData} (D : DC X N sc k) (i j : Nat) (t : TD X.K H1 v (.tuple [d1, d2]))
    (q : ∀ u w, TD X.K H1 u d1 → TD X.K H1 w d2 → (∀ b, ETs (Xb X scope b) ifs (((wipe σ vs).set i (some u)).set j (some w)) H1 c) ∧ (c = true → ∀ b, ED (Xb X scope b) elt (((wipe σ vs).set i (some u)).set j (some w)) H1 d))
    (hw : ∀ u w, wipe (((wipe σ vs).set i (some u)).set j (some w)) vs = wipe σ vs := by intro _ _; rfl) (hi : N[i]? = some x := by rfl) (hl : locB scope x = true := by decide +kernel) (hj : N[j]? = some y := by rfl) (hm : locB scope y = true := by decide +kernel) :
    Turn1 X scope (.Tuple [.Name x p1, .Name y p2] n pos) ifs elt σ vs H1 v c d := by
  cases t with
  | tup s t =>
    cases t with
    | cons t1 t =>
      cases t with
      | cons t2 t =>
        cases t
        obtain ⟨q1, q2⟩ := q _ _ t1 t2
        refine ⟨_, fun b Q hq => ?_, hw _ _, q1, q2⟩
        have D' := D.blk b.s b.H scope b.C b.cl b.fp
        exact pg_le (pg_tup D'.calm (pgs_cons (pg_name D'.ndX (D'.ix hi) (D'.loc hl).1 (D'.loc hl).2) (pgs_cons (pg_name D'.ndX (D'.ix hj) (D'.loc hm).1 (D'.loc hm).2) pgs_nil)) (n := 2)) ⟨_, _, rfl, s, rfl, _, _, rfl, _, _, rfl, rfl, hq⟩
theorem t3 {x y z : Str} {n : Nat} {p1 p2 p3 : Pos} {c : Bool} {H1 : Hp} {vs : List Nat} {d1 d2 d3 : PyData} (D : DC X N sc k) (i j l : Nat) (t : TD X.K H1 v (.tuple [d1, d2, d3]))
    (q : ∀ u w r, TD X.K H1 u d1 → TD X.K H1 w d2 → TD X.K H1 r d3 → (∀ b, ETs (Xb X scope b) ifs ((((wipe σ vs).set i (some u)).set j (some w)).set l (some r)) H1 c) ∧ (c = true → ∀ b, ED (Xb X scope b) elt ((((wipe σ vs).set i (some u)).set j (some w)).set l (some r)) H1 d))
    (hw : ∀ u w r, wipe ((((wipe σ vs).set i (some u)).set j (some w)).set l (some r)) vs = wipe σ vs := by intro _ _ _; rfl) (hi : N[i]? = some x := by rfl) (hl : locB scope x = true := by decide +kernel) (hj : N[j]? = some y := by rfl) (hm : locB scope y = true := by decide +kernel) (hk : N[l]? = some z := by rfl) (ho : locB scope z = true := by decide +kernel) :
    Turn1 X scope (.Tuple [.Name x p1, .Name y p2, .Name z p3] n pos) ifs elt σ vs H1 v c d := by
  cases t with
  | tup s t =>
    cases t with
    | cons t1 t =>
      cases t with
      | cons t2 t =>
        cases t with
        | cons t3 t =>
          cases t
          obtain ⟨q1, q2⟩ := q _ _ _ t1 t2 t3
          refine ⟨_, fun b Q hq => ?_, hw _ _ _, q1, q2⟩
          have D' := D.blk b.s b.H scope b.C b.cl b.fp
          exact pg_le (pg_tup D'.calm (pgs_cons (pg_name D'.ndX (D'.ix hi) (D'.loc hl).1 (D'.loc hl).2) (pgs_cons (pg_name D'.ndX (D'.ix hj) (D'.loc hm).1 (D'.loc hm).2) (pgs_cons (pg_name D'.ndX (D'.ix hk) (D'.loc ho).1 (D'.loc ho).2) pgs_nil))) (n := 3)) ⟨_, _, rfl, s, rfl, _, _, rfl, _, _, rfl, _, _, rfl, rfl, hq⟩
/-- in the block: DC -/
theorem DC.b (D : DC X N sc k) (b : Bk) : DC (Xb X scope b) N scope k := D.blk b.s b.H scope b.C b.cl b.fp
end
theorem at0 {α : Type} {a : α} {r : List α} : atI (a :: r) 0 = some a := atI_nat (j := 0) rfl
theorem at1 {α : Type} {a b : α} {r : List α} : atI (a :: b :: r) 1 = some b := atI_nat (j := 1) rfl
theorem at2 {α : Type} {a b c : α} {r : List α} : atI (a :: b :: c :: r) 2 = some c := atI_nat (j := 2) rfl
theorem at3 {α : Type} {a b c d : α} {r : List α} : atI (a :: b :: c :: d :: r) 3 = some d := atI_nat (j := 3) rfl
theorem at4 {α : Type} {a b c d e : α} {r : List α} : atI (a :: b :: c :: d :: e :: r) 4 = some e := atI_nat (j := 4) rfl
end G
namespace G
open PySem PySem.Spec PyProof.Rows L2 Evl
open PySem.W (EachIs dataLe AllAlike Sortable)

/-! ### sorted of data -/
section
variable {K : PySem.W.Frag} {H : Hp} {β : Type}
/-- the value stands for data d -/
def Fits (K : PySem.W.Frag) (H : Hp) (enc : β → PyData) (u : Value) (b : β) : Prop := ∃ v, RelV v u ∧ TD K H v (enc b)
theorem each_of {enc : β → PyData} : ∀ {xs : List V} {us : List Value} {bs : List β}, Vals xs us → TDs K H xs (bs.map enc) → EachIs (Fits K H enc) us bs
  | _, _, [], .nil, _ => .nil
  | _, _, b :: r, .cons r1 r2, h => by
    cases h with
    | cons t1 t2 => exact .cons ⟨_, r1, t1⟩ (each_of r2 t2)
  | _, _, [], .cons _ _, h => by cases h
  | _, _, b :: r, .nil, h => by cases h
theorem of_each {enc : β → PyData} : ∀ {us : List Value} {bs : List β}, EachIs (Fits K H enc) us bs → ∃ xs, Vals xs us ∧ TDs K H xs (bs.map enc)
  | _, _, .nil => ⟨[], .nil, .nil⟩
  | _, _, .cons ⟨v, r, t⟩ q => by
    obtain ⟨xs, r2, t2⟩ := of_each q
    exact ⟨v :: xs, .cons r r2, .cons t t2⟩
def rSortedT (K : PySem.W.Frag) (enc : β → PyData) : List V → Hp → VK → Prop := fun vs H Q => ∃ (a : Addr) (xs : List V) (bs : List β), vs = [.ref a] ∧ SqL K H a xs ∧ TDs K H xs (bs.map enc) ∧ AllAlike (bs.map enc) ∧ Sortable (bs.map enc) ∧ (∀ b ∈ bs, (enc b).depth ≤ 50) ∧
  ∀ (ys : List V) (p : Addr), H p = none → TDs K H ys ((bs.mergeSort (dataLe false enc)).map enc) → Q (.ref p) (upd H p (.lst ys))
theorem cr_sortedT {X : Cx} (hu : X.A.units + 64 < cLine) (enc : β → PyData) : CallR X (.builtin "sorted") (rSortedT X.K enc) := by
  intro pins s σ H vs us Q I r h
  obtain ⟨a, xs, bs, rfl, hs, t, hal, hk, hd, q⟩ := h
  obtain rfl := Vals.ref1 r
  obtain ⟨its, rv, hl, hz⟩ := I.list hs
  have e := each_of rv t
  refine PySem.W.sorted_data (R := Fits X.K H enc) hl.isList e (e.mono fun u b ⟨v, r, t⟩ => Dp.reads I _ v u t.dp r) hal hk (by rw [← e.length, ← rv.length]; exact hz) (fun b hb => by have := hd b hb; omega) fun out h1 h2 => ?_
  obtain ⟨ys, r3, t3⟩ := of_each h2
  obtain ⟨ep, he'⟩ := PyProof.Rows.sortedAll_at s.heap its out.toArray
  have hlen : ys.length ≤ sizeLine := by
    rw [r3.length, h1, ← e.length, ← rv.length]
    exact hz
  exact ⟨.ref _, upd H (s.heap.objs.size + 1) (.lst ys), I.laid (t' := s.toks) (fun _ _ => PyProof.Rows.sortedAll_old) (Nat.le_succ _) ⟨hlen, _, ep, r3, he'⟩, rfl, q ys _ (I.hok.fresh (Nat.le_succ _)) t3⟩
end
section
variable {X : Cx} {N : List Str} {sc : Scope} {k : Nat} {e : Expr} {σ : L2.St} {H : Hp} {pos p : Pos} {β : Type}
theorem lsorted {enc : β → PyData} {bs : List β} (D : DC X N sc k) (hm : X.mg "sorted" = none) (h : EL X e σ H (bs.map enc)) (hal : AllAlike (bs.map enc)) (hk : Sortable (bs.map enc)) (hd : ∀ b ∈ bs, (enc b).depth ≤ 50) (hg : glB sc "sorted" = true := by decide +kernel)
    (hs : starEach (e :: []) X.env = (false, eval e X.env) :: starEach [] X.env := by rfl) : EL X (.Call (.Name "sorted" p) [e] [] pos) σ H ((bs.mergeSort (dataLe false enc)).map enc) :=
  dB1 (R1 := fun H2 v => LD X.K H (bs.map enc) H2 v ∧ Ex H H2) D (cr_sortedT D.u64 enc) hm (by decide +kernel) (fun H1 x Q q => h H1 x Q fun v H2 y r => q v H2 y ⟨r, x.trans y⟩) (fun H1 v x t Q q => by
    obtain ⟨⟨p, xs, rfl, h0, h1, t⟩, _⟩ := t
    exact ⟨p, xs, bs, rfl, .inl (.inl h1), t, hal, hk, hd, fun ys p' hp' t' => q _ _ (Ex.new hp') ⟨p', ys, rfl, fresh_back x hp', upd_same, t'.ex (Ex.new hp')⟩⟩) hg (by decide +kernel) (by decide +kernel) hs
end
end G
namespace G
open PySem PySem.Spec PyProof.Rows L2 Evl

/-! ### a tuple whose object is known (it has no dict): its method index -/
def TupF (H : Hp) (p : Addr) (xs : List V) : Prop := ∃ o : Obj, o.dict = none ∧ H p = some (.frz o (.tup xs))
theorem TupF.ex {H H' : Hp} {p : Addr} {xs : List V} (x : Ex H H') (h : TupF H p xs) : TupF H' p xs := let ⟨o, a, b⟩ := h; ⟨o, a, x _ _ b⟩
theorem TupF.seq {K : PySem.W.Frag} {H : Hp} {p : Addr} {xs : List V} (h : TupF H p xs) : SqT K H p xs := let ⟨o, _, b⟩ := h; .inl (.inr ⟨o, b⟩)
section
variable {X : Cx}
theorem call_tupleF : CallR X (.type "tuple") (fun xs H Q => ∃ p ys, xs = [.ref p] ∧ SqL X.K H p ys ∧ ∀ l o, H l = none → o.dict = none → Q (.ref l) (upd H l (.frz o (.tup ys)))) := by
  intro pins s σ H xs us Q I r h
  obtain ⟨p, ys, rfl, hq, q⟩ := h
  obtain ⟨u, rfl, rx⟩ := vals1 r
  cases rx
  obtain ⟨its, r', pl, hz⟩ := I.list hq
  have hlen := r'.length
  refine call_tuple_list pl.isList (fun h' kp => ?_) (by simp only [List.size_toArray] <;> omega)
  have I1 : Inv X pins σ H { s with heap := h' } := I.kept (t' := s.toks) kp
  have I2 : Inv X pins σ (upd H h'.objs.size (.frz { cls := .type "tuple", data := .seq its.toArray } (.tup ys))) { s with heap := h'.push { cls := .type "tuple", data := .seq its.toArray } } :=
    I1.laid (t' := s.toks) (fun b o e => Heap.get?_push_of_some _ e) (Nat.le_refl _) (show ObjOk X.prog X.w _ _ _ (.frz _ (.tup ys)) from ⟨Heap.get?_push_size _ rfl, hz, its, r', IsTup.new _ _⟩)
  exact ⟨.ref h'.objs.size, _, I2, rfl, q _ _ (I1.hok.fresh (Nat.le_refl _)) rfl⟩
/-- o.m(e), o such a tuple -/
theorem pe_bmF {o e : Expr} {es : List Expr} {to : TE} {t : TA} {name : Str} {apos cpos : Pos} {id : String} {r : V → List V → Hp → VK → Prop} (slot : Slot "tuple" name id) (hty : typeOf (.builtin id) = pure (.type "method_descriptor")) (hm : MtR X id r) (ho : PE X o to) (ha : PA X (e :: es) t)
    (hbase : attributeBase o name X.env (eval o X.env) = eval o X.env)
    (hfew : ((backTo cpos (starEach (e :: es) X.env)).all (fun x => !x.1) && (backToKw cpos (keywordEach [] X.env)).all (fun x => x.1.isSome)
      && decide ((e :: es).length + ([] : List Keyword).length + (if ([] : List Keyword).isEmpty then 0 else 1) < 30)) = true)
    (hline : (apos.endLine == cpos.line) = true) (hs : starEach (e :: es) X.env = (false, eval e X.env) :: starEach es X.env) (hplain : (backTo cpos (starEach es X.env)).any (·.1) = false) :
    PE X (.Call (.Attribute o name apos) (e :: es) [] cpos) (fun σ H Q => to σ H fun x H1 => (∃ p xs, x = .ref p ∧ TupF H1 p xs) ∧ t σ H1 fun xs H2 => r x xs H2 Q) := by
  refine ⟨fun pins s σ H Q I h => ?_⟩
  refine wpAny_Call_method_late hbase hfew hline rfl (thn (ho.run pins s σ H _ I h) fun v s1 ⟨x, H1, I1, r1, ty, q1⟩ => ?_)
  obtain ⟨p, xs, rfl, ob, hn, hp⟩ := ty
  cases r1
  obtain ⟨hg, _, its, rv, o2, ho2, hc, _⟩ := I1.hok p _ hp
  have e2 : o2 = ob := by
    rw [hg] at ho2
    exact (Option.some.inj ho2).symm
  subst e2
  refine ⟨"tuple", id, PySem.F.plainAttrs_tuple, slot, hty, ⟨o2, hg, hc⟩, fun a q => ?_, ?_⟩
  · cases q
    exact ⟨o2, hg, hn⟩
  have hA := ha.run cpos pins s1 σ H1 _ I1 q1
  rw [hs] at hA ⊢
  refine Calls.callWith_builtin (by show (false || (backTo cpos (starEach es X.env)).any (·.1)) = false; rw [hplain] <;> rfl) (Calls.evalArgs_plain ?_)
  exact thn hA fun us s2 ⟨vs, H2, I2, r2, q2⟩ => hm pins s2 σ H2 (.ref p) vs (.ref p) us Q I2 rfl r2 q2
end
section
variable {X : Cx} {N : List Str} {sc : Scope} {k : Nat} {e a : Expr} {σ : L2.St} {H : Hp} {pos p : Pos} {xs : List PyData}
/-- data that is such a tuple -/
def TDF (K : PySem.W.Frag) (H : Hp) (v : V) (ds : List PyData) : Prop := ∃ p vs, v = .ref p ∧ TupF H p vs ∧ TDs K H vs ds
theorem TDF.td {K : PySem.W.Frag} {v : V} {ds : List PyData} (h : TDF K H v ds) : TD K H v (.tuple ds) := by
  obtain ⟨p, vs, rfl, f, t⟩ := h
  exact .tup f.seq t
theorem TDF.ex {K : PySem.W.Frag} {H' : Hp} {v : V} {ds : List PyData} (x : Ex H H') (h : TDF K H v ds) : TDF K H' v ds := by
  obtain ⟨p, vs, rfl, f, t⟩ := h
  exact ⟨p, vs, rfl, f.ex x, t.ex x⟩
theorem dtupleF (D : DC X N sc k) (hm : X.mg "tuple" = none) (h : EL X e σ H xs) (hg : glB sc "tuple" = true := by decide +kernel) (hs : starEach (e :: []) X.env = (false, eval e X.env) :: starEach [] X.env := by rfl) : EvR (wE X (.Call (.Name "tuple" p) [e] [] pos)) σ H (fun H2 v => TDF X.K H2 v xs) :=
  dTy1 D call_tupleF hm (by decide +kernel) h (fun H1 v x t Q q => by
    obtain ⟨p, vs, rfl, _, hp, t⟩ := t
    exact ⟨p, vs, rfl, .inl (.inl hp), fun l o hl ho => q _ _ (Ex.new hl) ⟨l, vs, rfl, ⟨o, ho, upd_same⟩, t.ex (Ex.new hl)⟩⟩) hg (by decide +kernel) (by decide +kernel) hs
theorem idx_first {z : Str} : ∀ {ys : List Str}, z ∈ ys → ys[ys.idxOf z]? = some z ∧ ∀ m, m < ys.idxOf z → ys[m]? ≠ some z
  | [], h => by simp at h
  | y :: r, h => by
    by_cases e : y = z
    · subst e
      simp
    · have h2 : z ∈ r := by
        rcases List.mem_cons.mp h with q | q
        · exact absurd q.symm e
        · exact q
      obtain ⟨h3, h4⟩ := idx_first h2
      have hb : (y == z) = false := by simpa using e
      rw [List.idxOf_cons, hb]
      simp only [cond_false]
      refine ⟨by simpa using h3, fun m hm => ?_⟩
      cases m with
      | zero => simpa using e
      | succ m =>
        have : m < r.idxOf z := by omega
        simpa using h4 m this
/-- t.index(x), t such a tuple of texts -/
theorem didx {x : Str} {v : V} {ys : List Str} {z : Str} {px py pz : Pos} (ha : EV X (.Name x px) σ H v) (t : TDF X.K H v (ys.map .str)) (hz : ED X e σ H (.str z)) (hm : z ∈ ys)
    (hs : starEach (e :: []) X.env = (false, eval e X.env) :: starEach [] X.env := by rfl) (hline : (py.endLine == pz.line) = true := by rfl) : ED X (.Call (.Attribute (.Name x px) "index" py) [e] [] pz) σ H (.int (ys.idxOf z)) := fun H1 x1 Q q => by
  obtain ⟨p, vs, rfl, f, t⟩ := t
  obtain ⟨h1, h2⟩ := idx_first hm
  refine pe_le (pe_bmF PySem.F.slot_tuple_index PySem.F.type_tuple_index mt_tup_index (we _) (wa [e]) rfl (few1 hs) hline hs rfl) (ha H1 x1 _ fun H2 x2 => ⟨⟨p, vs, rfl, f.ex (x1.trans x2)⟩, (ead hz ean hs) H2 (x1.trans x2) _ fun ws H3 x3 tw => ?_⟩)
  cases tw with
  | d t1 r =>
    cases r
    obtain rfl := t1.str_iff
    have f3 := f.ex ((x1.trans x2).trans x3)
    rw [t.strs] at f3
    exact ⟨p, ys, z, _, rfl, rfl, f3.seq, h1, h2, q _ H3 (x2.trans x3) (.int _)⟩
end
theorem AVs.cd {K : PySem.W.Frag} {H : Hp} {vs : List V} {x : PyData} {r : List AV} (h : AVs K H vs (.d x :: r)) : ∃ v ws, vs = v :: ws ∧ TD K H v x ∧ AVs K H ws r := by
  cases h with
  | d t q => exact ⟨_, _, rfl, t, q⟩
theorem AVs.cv {K : PySem.W.Frag} {H : Hp} {vs : List V} {u : V} {r : List AV} (h : AVs K H vs (.v u :: r)) : ∃ ws, vs = u :: ws ∧ AVs K H ws r := by
  cases h with
  | v q => exact ⟨_, rfl, q⟩
theorem AVs.n {K : PySem.W.Frag} {H : Hp} {vs : List V} (h : AVs K H vs []) : vs = [] := by
  cases h
  rfl
theorem AVs.d1 {K : PySem.W.Frag} {H : Hp} {vs : List V} {a : PyData} (h : AVs K H vs [.d a]) : ∃ u, vs = [u] ∧ TD K H u a := by
  obtain ⟨u, ws, rfl, t, r⟩ := h.cd
  obtain rfl := r.n
  exact ⟨u, rfl, t⟩
theorem AVs.d2 {K : PySem.W.Frag} {H : Hp} {vs : List V} {a b : PyData} (h : AVs K H vs [.d a, .d b]) : ∃ u v, vs = [u, v] ∧ TD K H u a ∧ TD K H v b := by
  obtain ⟨u, ws, rfl, t, r⟩ := h.cd
  obtain ⟨v, rfl, t2⟩ := r.d1
  exact ⟨u, v, rfl, t, t2⟩
theorem AVs.d3 {K : PySem.W.Frag} {H : Hp} {vs : List V} {a b c : PyData} (h : AVs K H vs [.d a, .d b, .d c]) : ∃ u v w, vs = [u, v, w] ∧ TD K H u a ∧ TD K H v b ∧ TD K H w c := by
  obtain ⟨u, ws, rfl, t, r⟩ := h.cd
  obtain ⟨v, w, rfl, t2, t3⟩ := r.d2
  exact ⟨u, v, w, rfl, t, t2, t3⟩
theorem AVs.d4 {K : PySem.W.Frag} {H : Hp} {vs : List V} {a b c d : PyData} (h : AVs K H vs [.d a, .d b, .d c, .d d]) : ∃ u v w z, vs = [u, v, w, z] ∧ TD K H u a ∧ TD K H v b ∧ TD K H w c ∧ TD K H z d := by
  obtain ⟨u, ws, rfl, t, r⟩ := h.cd
  obtain ⟨v, w, z, rfl, t2, t3, t4⟩ := r.d3
  exact ⟨u, v, w, z, rfl, t, t2, t3, t4⟩
section
variable {X : Cx} {N : List Str} {sc : Scope} {k : Nat} {e : Expr} {σ : L2.St} {H : Hp} {pos : Pos} {Dn : Ends}
theorem EvR.td {te : TE} {ds : List PyData} (h : EvR te σ H fun H2 v => TDF X.K H2 v ds) : EvR te σ H fun H2 v => TD X.K H2 v (.tuple ds) := fun H1 x Q q => h H1 x Q fun v H2 y r => q v H2 y r.td
theorem cut_take (xs : List PyData) (i : Nat) : cutD xs none (some (i : Int)) = xs.take i := by
  unfold cutD
  rw [HT.sIx_none, HT.sIx_nat, List.drop_zero, Nat.sub_zero]
  by_cases h : i ≤ xs.length
  · rw [Nat.min_eq_left h]
  · rw [Nat.min_eq_right (by omega), List.take_length, List.take_of_length_le (by omega)]
theorem cut_drop (xs : List PyData) (i : Nat) : cutD xs (some (i : Int)) none = xs.drop i := by
  unfold cutD
  rw [HT.sIx_none, HT.sIx_nat]
  by_cases h : i ≤ xs.length
  · rw [Nat.min_eq_left h, List.take_of_length_le (by rw [List.length_drop]; exact Nat.le_refl _)]
  · rw [Nat.min_eq_right (by omega), List.drop_length, List.drop_of_length_le (by omega)]
    simp
theorem swhile {c : Expr} {body : List Stmt} (D : DC X N sc k) (W : Nat → L2.St → Hp → Prop) (m0 : Nat) (h0 : W m0 σ H)
    (hs : ∀ m σ' H', W m σ' H' → ∃ b, ET X c σ' H' b ∧ (b = true → ∀ H1, Ex H' H1 → wSs X body { Dn with nx := fun σ2 H2 => ∃ m', m' < m ∧ W m' σ2 H2, ct := fun σ2 H2 => ∃ m', m' < m ∧ W m' σ2 H2, bk := Dn.nx } σ' H1) ∧ (b = false → ∀ H1, Ex H' H1 → Dn.nx σ' H1)) :
    wS X (.While c body [] pos) Dn σ H := ps_le (ps_while D.po (wt c) (wss body)) (s_while W m0 h0 fun m σ' H' hw => by
  obtain ⟨b, h1, h2, h3⟩ := hs m σ' H' hw
  exact ⟨b, h1, fun hb H1 e => ⟨_, fun _ _ n => n, h2 hb H1 e⟩, h3⟩)
end
end G
namespace G
open PySem PySem.Spec PyProof.Rows L2 Evl
section
variable {X : Cx} {N : List Str} {sc : Scope} {k : Nat} {a b e : Expr} {es : List Expr} {σ : L2.St} {H : Hp} {d : PyData} {v : V} {pos p p' : Pos} {Dn : Ends} {elt tg : Expr} {ifs : List Expr} {scope : Scope}
/-! ### comprehensions over ranges -/
theorem lcW {wi : TI} (D : DC X N sc k) (own : List (Str × Nat)) {iter : Expr} (hi : PI X tg iter wi) (lo : Int) (n : Nat) (f : Nat → Bool) (g : Nat → PyData) (hz : n < 50000)
    (src : ∀ H1, Ex H H1 → ∀ Q : It → Hp → Prop, (∀ H2, Ex H1 H2 → Q (Itr lo n) H2) → wi σ H1 Q)
    (turn : ∀ H1 i, Ex H H1 → i < n → Turn1 X scope tg ifs elt σ (own.map (·.2)) H1 (.int (lo + (i : Int))) (f i) (g i)) (hb : blkC N sc scope own = true)
    (hs : ∀ x, foldedSetIterable iter X.env x = pure x) : EL X (.ListComp elt [⟨tg, iter, ifs, 0⟩] scope pos) σ H (kept f g (List.range n)) := by
  intro H1 x1 Q q
  refine pe_le (pe_lc D.calm D.ndX hi (D.blkOk hb) gB_ok (fun s H' C cl fp => ftt_ok ⟨s, H', C, cl, fp⟩ ifs) teB_ok hs) (src H1 x1 _ fun H2 x2 => fun Dl hD => lc_range (lo := lo) (n := n) (fun i H' => Lw X.K H2 Dl (kept f g ((List.range n).take i)) H') ⟨hD, Ex.new hD, [], upd_same, by rw [List.take_zero]; exact .nil⟩ (fun i H' hi' p => ?_) fun H' p => ?_)
  · have hx : (List.range n)[i]? = some i := by rw [List.getElem?_range hi']
    have hlen := kept_len f g ((List.range n).take i)
    have hl2 : ((List.range n).take i).length ≤ n := by rw [List.length_take, List.length_range]; exact Nat.min_le_right _ _
    refine turn1 p (by omega) (turn H' i ((x1.trans x2).trans p.2.1) hi') fun H3 p3 => ?_
    rw [kept_more hx]
    exact p3
  · have e : (List.range n).take n = List.range n := by rw [List.take_of_length_le]; rw [List.length_range]; exact Nat.le_refl _
    rw [e] at p
    obtain ⟨p1, p2, acc, p3, p4⟩ := p
    exact q _ H' (x2.trans p2) ⟨Dl, acc, rfl, fresh_back (x1.trans x2) p1, p3, p4⟩
/-- .. range(n) -/
theorem lcR1 {i : Int} (f : Nat → Bool) (g : Nat → PyData) (D : DC X N sc k) (own : List (Str × Nat)) (hm : X.mg "range" = none) (h : ED X a σ H (.int i)) (hz : 0 ≤ i ∧ i < 50000)
    (turn : ∀ H1 (j : Nat), Ex H H1 → (j : Int) < i → Turn1 X scope tg ifs elt σ (own.map (·.2)) H1 (.int (j : Int)) (f j) (g j)) (hb : blkC N sc scope own = true := by decide +kernel) (hg : glB sc "range" = true := by decide +kernel)
    (hs : starEach (a :: []) X.env = (false, eval a X.env) :: starEach [] X.env := by rfl) (hf : ∀ x, foldedSetIterable (.Call (.Name "range" p) [a] [] p') X.env x = pure x := by intro _; rfl) :
    EL X (.ListComp elt [⟨tg, .Call (.Name "range" p) [a] [] p', ifs, 0⟩] scope pos) σ H (kept f g (List.range i.toNat)) :=
  lcW D own (pi_range1 (D.gl hg) hm (wa [a]) hs) 0 i.toNat f g (by omega) (fun H1 x1 Q q => (ead h ean hs) H1 x1 _ fun vs H2 x2 t => by
    cases t with
    | d t r =>
      cases r
      obtain rfl := t.int_iff
      exact ⟨i, rfl, by omega, by omega, q H2 x2⟩) (fun H1 j x1 hj => by rw [Int.zero_add]; exact turn H1 j x1 (by omega)) hb hf
/-- .. range(lo, hi) -/
theorem lcR2 {lo hi : Int} (f : Nat → Bool) (g : Nat → PyData) (D : DC X N sc k) (own : List (Str × Nat)) (hm : X.mg "range" = none) (h1 : ED X a σ H (.int lo)) (h2 : ED X b σ H (.int hi)) (hz : (-50000 ≤ lo ∧ lo ≤ 50000) ∧ -50000 ≤ hi ∧ hi - lo < 50000)
    (turn : ∀ H1 (j : Nat), Ex H H1 → lo + (j : Int) < hi → Turn1 X scope tg ifs elt σ (own.map (·.2)) H1 (.int (lo + (j : Int))) (f j) (g j)) (hb : blkC N sc scope own = true := by decide +kernel) (hg : glB sc "range" = true := by decide +kernel)
    (hs : starEach [a, b] X.env = (false, eval a X.env) :: starEach [b] X.env := by rfl) (hs2 : starEach (b :: []) X.env = (false, eval b X.env) :: starEach [] X.env := by rfl) (hf : ∀ x, foldedSetIterable (.Call (.Name "range" p) [a, b] [] p') X.env x = pure x := by intro _; rfl) :
    EL X (.ListComp elt [⟨tg, .Call (.Name "range" p) [a, b] [] p', ifs, 0⟩] scope pos) σ H (kept f g (List.range (hi - lo).toNat)) :=
  lcW D own (pi_range2 (D.gl hg) hm (wa [a, b]) (by rw [hs, hs2] <;> rfl) (by rw [hs2] <;> rfl)) lo (hi - lo).toNat f g (by omega) (fun H1 x1 Q q => (ead h1 (ead h2 ean hs2) hs) H1 x1 _ fun vs H2 x2 t => by
    obtain ⟨u, w, rfl, t1, t2⟩ := t.d2
    obtain rfl := t1.int_iff
    obtain rfl := t2.int_iff
    exact ⟨lo, hi, rfl, ⟨by omega, by omega, by omega, by omega⟩, q H2 x2⟩) (fun H1 j x1 hj => turn H1 j x1 (by omega)) hb hf

/-! ### assignments -/
/-- target = e, any target -/
theorem sasg {R : Hp → V → Prop} (h : EvR (wE X e) σ H R) (q : ∀ v H1, Ex H H1 → R H1 v → wG X tg v σ H1 Dn.nx) (hs : swapsWithSole [tg] e pos.line X.env = pure false := by rfl) (hw : swappedStores [tg] e X.env = pure none := by rfl) (h1 : (assignEach [tg] X.env).map (·.2) = [assign tg X.env] := by rfl) : wS X (.Assign [tg] e pos) Dn σ H :=
  ps_le (ps_asg (we e) (wg tg) hs hw h1) (h H (Ex.refl H) _ fun v H1 x r => q v H1 x r)
/-- {a: i, b: j}[e] -/
theorem dpick {x y u : Str} {i j : Int} {k1 k2 k3 k4 : Nat} {q1 q2 q3 q4 q5 : Pos} (D : DC X N sc k) (hk : ED X e σ H (.str u)) (hu : u = x ∨ u = y) (hxy : x ≠ y) (hs : NoSl e := by exact fun _ _ => rfl) :
    ED X (.Subscript (.Dict [some (.Constant (.str x) k1 q1), some (.Constant (.str y) k2 q2)] [.Constant (.int i) k3 q3, .Constant (.int j) k4 q4] q5) e pos) σ H (.int (if u = x then i else j)) := by
  intro H1 x1 Q q
  have P0 : PPs X q5 [some (.Constant (.str x) k1 q1), some (.Constant (.str y) k2 q2)] [.Constant (.int i) k3 q3, .Constant (.int j) k4 q4] [(tC (.str x), tC (.int i)), (tC (.str y), tC (.int j))] := pps_cons pe_str pe_int (pps_cons pe_str pe_int pps_nil)
  have P1 : PE X (.Dict [some (.Constant (.str x) k1 q1), some (.Constant (.str y) k2 q2)] [.Constant (.int i) k3 q3, .Constant (.int j) k4 q4] q5) (tDisp [(tC (.str x), tC (.int i)), (tC (.str y), tC (.int j))]) :=
    pe_disp P0 rfl rfl (fun z => by cases z) (Nat.le_of_ble_eq_true rfl)
  have P2 := pe_dget (pos := pos) D.hu P1 (we e) hs
  refine pe_le P2 ?_
  intro pd hp
  refine ⟨upd_same, [(Sum.inr x, V.int i), (Sum.inr y, V.int j)], rfl, (by show 2 ≤ 15; decide), ?_⟩
  have hm : mergeK [] [((Sum.inr x : Key), V.int i), (Sum.inr y, V.int j)] = [(Sum.inr x, V.int i), (Sum.inr y, V.int j)] := by
    have hne : ¬ (Sum.inr x : Key) = Sum.inr y := fun z => hxy (Sum.inr.inj z)
    simp [mergeK, putK, hne]
  rw [hm, upd_upd]
  have xn := Ex.new (o := HO.dK [(Sum.inr x, V.int i), (Sum.inr y, V.int j)]) hp
  refine EV.str hk _ (x1.trans xn) _ fun H2 x2 => ⟨pd, .int (if u = x then i else j), rfl, ?_, q _ H2 (xn.trans x2) (.int _)⟩
  have hd : H2 pd = some (.dK [(Sum.inr x, V.int i), (Sum.inr y, V.int j)]) := x2 _ _ upd_same
  have hv : valV [((Sum.inr x : Key), V.int i), (Sum.inr y, V.int j)] (Sum.inr u) = some (V.int (if u = x then i else j)) := by
    by_cases e1 : u = x
    · subst e1
      rw [valV_pos rfl, if_pos rfl]
    · have e2 : u = y := hu.resolve_left e1
      subst e2
      rw [valV_neg (fun z => e1 (Sum.inr.inj z).symm), valV_pos rfl, if_neg e1]
  have g := DGet.k (k := .inr u) hd
  rw [hv] at g
  exact g
/-- min(a, b) -/
theorem dmin2 {i j : Int} (D : DC X N sc k) (hm : X.mg "min" = none) (h1 : ED X a σ H (.int i)) (h2 : ED X b σ H (.int j)) (hg : glB sc "min" = true := by decide +kernel)
    (hs : starEach [a, b] X.env = (false, eval a X.env) :: starEach [b] X.env := by rfl) (hs2 : starEach (b :: []) X.env = (false, eval b X.env) :: starEach [] X.env := by rfl) :
    ED X (.Call (.Name "min" p) [a, b] [] pos) σ H (.int (if j < i then j else i)) := fun H1 x1 Q q =>
  pe_le (pe_callB (call_min2 D.calm) (D.gl hg) hm (by decide +kernel) (wa [a, b]) (by decide +kernel) (by decide +kernel) hs (by rw [hs2] <;> rfl)) ((ead h1 (ead h2 ean hs2) hs) H1 x1 _ fun vs H2 x2 t => by
    obtain ⟨u, w, rfl, t1, t2⟩ := t.d2
    obtain rfl := t1.int_iff
    obtain rfl := t2.int_iff
    exact ⟨i, j, rfl, q _ H2 x2 (.int _)⟩)
theorem dmax2 {i j : Int} (D : DC X N sc k) (hm : X.mg "max" = none) (h1 : ED X a σ H (.int i)) (h2 : ED X b σ H (.int j)) (hg : glB sc "max" = true := by decide +kernel)
    (hs : starEach [a, b] X.env = (false, eval a X.env) :: starEach [b] X.env := by rfl) (hs2 : starEach (b :: []) X.env = (false, eval b X.env) :: starEach [] X.env := by rfl) :
    ED X (.Call (.Name "max" p) [a, b] [] pos) σ H (.int (if j > i then j else i)) := fun H1 x1 Q q =>
  pe_le (pe_callB (call_max2 D.calm) (D.gl hg) hm (by decide +kernel) (wa [a, b]) (by decide +kernel) (by decide +kernel) hs (by rw [hs2] <;> rfl)) ((ead h1 (ead h2 ean hs2) hs) H1 x1 _ fun vs H2 x2 t => by
    obtain ⟨u, w, rfl, t1, t2⟩ := t.d2
    obtain rfl := t1.int_iff
    obtain rfl := t2.int_iff
    exact ⟨i, j, rfl, q _ H2 x2 (.int _)⟩)
/-- a, b = e1, e2: plain locals -/
theorem spar {i j : Nat} {x y : Str} {px py pt pt2 : Pos} {kt k2 : Nat} {d1 d2 : PyData} (D : DC X N sc k) (hij : i ≠ j) (h1 : ED X a σ H d1) (h2 : ED X b σ H d2) (q : ∀ u w H1, Ex H H1 → TD X.K H1 u d1 → TD X.K H1 w d2 → Dn.nx ((σ.set i (some u)).set j (some w)) H1)
    (hsw : ∀ env : Env, env.blockKind = .function → env.kindOf x = some .local → env.kindOf y = some .local → swappedStores [.Tuple [.Name x px, .Name y py] kt pt] (.Tuple [a, b] k2 pt2) env = pure (some [x, y]))
    (hi : N[i]? = some x := by rfl) (hj : N[j]? = some y := by rfl) (hx : decide (sc.names.lookup x = some .local) = true := by decide +kernel) (hy : decide (sc.names.lookup y = some .local) = true := by decide +kernel)
    (hs : starEach [a, b] X.env = (false, eval a X.env) :: starEach [b] X.env := by rfl) (hs2 : starEach (b :: []) X.env = (false, eval b X.env) :: starEach [] X.env := by rfl)
    (hs3 : swapsWithSole [.Tuple [.Name x px, .Name y py] kt pt] (.Tuple [a, b] k2 pt2) pos.line X.env = pure false := by rfl) : wS X (.Assign [.Tuple [.Name x px, .Name y py] kt pt] (.Tuple [a, b] k2 pt2) pos) Dn σ H := ⟨fun pins s I => by
  have lx := D.keep x _ (by decide) (of_decide_eq_true hx)
  have ly := D.keep y _ (by decide) (of_decide_eq_true hy)
  have bk : X.env.blockKind = .function := by unfold Env.blockKind; rw [I.ok.kind] <;> rfl
  refine (ps_par (pos := pos) D.calm D.ndX (D.ix hi) (D.ix hj) hij lx ly (wa [a, b]) (hsw X.env bk lx ly) hs3).run pins s σ H Dn I ?_
  exact (ead h1 (ead h2 ean hs2) hs) H (Ex.refl H) _ fun vs H2 x2 t => by
    obtain ⟨u, w, rfl, t1, t2⟩ := t.d2
    exact ⟨u, w, rfl, q u w H2 x2 t1 t2⟩⟩
end
end G
/-! The mirror: what each def computes, over plain data. -/
namespace G
open PySem
open PySem.W (dataLe)

inductive Since where
  | coming
  | first (h : Str)
  | last (h : Str)
def Since.d : Since → PyData
  | .coming => .tuple [.str "coming"]
  | .first h => .tuple [.str "first", .str h]
  | .last h => .tuple [.str "last", .str h]
inductive Parts where
  | span (keep : Bool) (kind : Str) (since : Since) (many : Int) (unit : Str)
  | one (word kind : Str)
def Parts.word : Parts → Str
  | .span true .. => "keep"
  | .span false .. => "gone"
  | .one w _ => w
def Parts.kind : Parts → Str
  | .span _ k .. => k
  | .one _ k => k
def Parts.rest : Parts → List PyData
  | .span _ _ s m u => [s.d, .int m, .str u]
  | .one .. => []
def Parts.d (p : Parts) : PyData := .tuple (.str p.word :: .str p.kind :: p.rest)
inductive Deed where
  | paper (day : Int) (name kind : Str) (mk : List Str)
  | happens (day : Int) (paper hap : Str)
  | rule (day : Int) (name : Str) (parts : Parts)
  | fin (day : Int) (name : Str)
  | hold (day : Int) (name sort aim : Str) (deep : Bool)
  | lift (day : Int) (name : Str)
  | leave (day : Int) (name kind : Str)
def Deed.word : Deed → Str
  | .paper .. => "paper"
  | .happens .. => "happens"
  | .rule .. => "rule"
  | .fin .. => "end"
  | .hold .. => "hold"
  | .lift .. => "lift"
  | .leave .. => "leave"
def Deed.day : Deed → Int
  | .paper d .. => d
  | .happens d .. => d
  | .rule d .. => d
  | .fin d .. => d
  | .hold d .. => d
  | .lift d .. => d
  | .leave d .. => d
def Deed.name : Deed → Str
  | .paper _ n .. => n
  | .happens _ n .. => n
  | .rule _ n .. => n
  | .fin _ n => n
  | .hold _ n .. => n
  | .lift _ n => n
  | .leave _ n _ => n
def Deed.rest : Deed → List PyData
  | .paper _ _ k m => [.str k, .tuple (m.map .str)]
  | .happens _ _ h => [.str h]
  | .rule _ _ p => [p.d]
  | .fin .. => []
  | .hold _ _ s a b => [.tuple [.str s, .str a], .bool b]
  | .lift .. => []
  | .leave _ _ k => [.str k]
def Deed.d (x : Deed) : PyData := .tuple (.str x.word :: .int x.day :: .str x.name :: x.rest)
def dd (l : List Deed) : PyData := .tuple (l.map Deed.d)

/-! ### papers -/
def isW (w : Str) (x : Deed) : Bool := decide (x.word = w)
def pairD (x : Deed) : PyData := .tuple [.int x.day, .str x.name]
def paperDeeds (l : List Deed) : List Deed := (l.filter (isW "paper")).mergeSort (dataLe false pairD)
def papersM (l : List Deed) : List Str := (paperDeeds l).map Deed.name
def rowM (l : List Deed) (p : Str) : Option Deed := l.find? fun x => isW "paper" x && decide (x.name = p)
def comeM (l : List Deed) (p : Str) : Int := match rowM l p with
  | some x => x.day
  | none => 0
def kindM (l : List Deed) (p : Str) : Str := match rowM l p with
  | some (.paper _ _ k _) => k
  | _ => ""
def toldM (l : List Deed) (p : Str) : List Str := match rowM l p with
  | some (.paper _ _ _ m) => m
  | _ => []
def makersM (l : List Deed) (p : Str) : List Str := ((papersM l).take ((papersM l).idxOf p)).filter fun n => decide (n ∈ toldM l p)
def madeLoop (l : List Deed) : Nat → List Str → Nat → List Str
  | 0, found, _ => found
  | n + 1, found, i => match found[i]? with
    | some x => madeLoop l n (found ++ (makersM l x).filter fun m => !decide (m ∈ found)) (i + 1)
    | none => found
def madeFromM (l : List Deed) (p : Str) : List Str := madeLoop l ((papersM l).length + 1) [p] 0

/-! ### days -/
def longB (y : Int) : Bool := decide (y % 400 = 0) || (decide (y % 4 = 0) && !decide (y % 100 = 0))
def lensM : List Int := [31, 28, 31, 30, 31, 30, 31, 31, 30, 31, 30, 31]
def lenM (y m : Int) : Int := (lensM.getD (m - 1).toNat 0) + (if decide (m = 2) && longB y then 1 else 0)
def longsM (y : Int) : Int := y / 4 - y / 100 + y / 400
def aheadM (y : Int) : Int := 365 * (y - 2000) + longsM (y - 1) - longsM (2000 - 1)
def dayAtM (y m d : Int) : Int := aheadM y + (((List.range (m - 1).toNat).map fun i : Nat => lenM y (1 + (i : Int))).sum) + d - 1
def yearLoop (day : Int) : Nat → Int → Int
  | 0, y => y
  | n + 1, y => if aheadM (y + 1) ≤ day then yearLoop day n (y + 1) else y
def monthLoop (y : Int) : Nat → Int → Int → Int × Int
  | 0, left, m => (left, m)
  | n + 1, left, m => if lenM y m ≤ left then monthLoop y n (left - lenM y m) (m + 1) else (left, m)
def yearM (day : Int) : Int := yearLoop day (day.toNat + 1) (2000 + day / 366)
def monthM (day : Int) : Int × Int := monthLoop (yearM day) 12 (day - aheadM (yearM day)) 1
def unitM (u : Str) : Int := if u = "months" then 1 else 12
def laterM (day many : Int) (u : Str) : Int :=
  if u = "days" then day + many else
    dayAtM ((12 * yearM day + (monthM day).2 - 1 + many * unitM u) / 12) ((12 * yearM day + (monthM day).2 - 1 + many * unitM u) % 12 + 1)
      (if lenM ((12 * yearM day + (monthM day).2 - 1 + many * unitM u) / 12) ((12 * yearM day + (monthM day).2 - 1 + many * unitM u) % 12 + 1) < (monthM day).1 + 1 then lenM ((12 * yearM day + (monthM day).2 - 1 + many * unitM u) / 12) ((12 * yearM day + (monthM day).2 - 1 + many * unitM u) % 12 + 1) else (monthM day).1 + 1)

/-! ### what stands -/
def putA (kv : List (Str × Deed)) (x : Deed) : List (Str × Deed) := if kv.any (fun p => decide (p.1 = x.name)) then kv.map (fun p => if p.1 = x.name then (p.1, x) else p) else kv ++ [(x.name, x)]
def getA (kv : List (Str × Deed)) (n : Str) : Option Deed := (kv.find? fun p => decide (p.1 = n)).map (·.2)
def leS (a b : Str) : Bool := !decide (b.cps.toList < a.cps.toList)
def latestOf (l : List Deed) (w0 : Str) : List Deed :=
  ((((l.mergeSort (dataLe false fun x => .int x.day)).foldl putA []).map (·.1)).mergeSort leS).filterMap fun n => match getA ((l.mergeSort (dataLe false fun x => .int x.day)).foldl putA []) n with
    | some x => if isW w0 x then some x else none
    | none => none
def inW (w0 w1 : Str) (x : Deed) : Bool := decide (x.word ∈ [w0, w1])
def latestM (l : List Deed) (day : Int) (w0 w1 : Str) : List Deed := latestOf (l.filter fun x => inW w0 w1 x && decide (x.day ≤ day)) w0
def rulesM (l : List Deed) (day : Int) : List Deed := latestM l day "rule" "end"
def holdsM (l : List Deed) (day : Int) : List Deed := latestM l day "hold" "lift"
def partsOf : Deed → Parts
  | .rule _ _ p => p
  | _ => .one "" ""
def ruleD (x : Deed) : PyData := .tuple [.str x.name, (partsOf x).d]
def aimSort : Deed → Str
  | .hold _ _ s _ _ => s
  | _ => ""
def aimName : Deed → Str
  | .hold _ _ _ a _ => a
  | _ => ""
def isDeep : Deed → Bool
  | .hold _ _ _ _ b => b
  | _ => false
def aimD (x : Deed) : PyData := .tuple [.str (aimSort x), .str (aimName x)]
def holdD (x : Deed) : PyData := .tuple [.str x.name, aimD x, .bool (isDeep x)]
def targetM (l : List Deed) (p sort name : Str) : Bool := if sort = "paper" then decide (name = p) else decide (name = kindM l p)
def coversB (l : List Deed) (p : Str) (x : Deed) : Bool := (if isDeep x then madeFromM l p else [p]).any fun o => targetM l o (aimSort x) (aimName x)
def coveringM (l : List Deed) (day : Int) (p : Str) : List Str := ((holdsM l day).filter (coversB l p)).map Deed.name
def hapB (p h : Str) (x : Deed) : Bool := isW "happens" x && PyData.eqv (.tuple (.str x.name :: x.rest)) (.tuple [.str p, .str h])
def heardM (l : List Deed) (p h : Str) : List Int := ((l.filter (hapB p h)).mergeSort (dataLe false fun x => .int x.day)).map Deed.day
def basesM (l : List Deed) (s : Since) (p : Str) : List Int := match s with
  | .coming => [comeM l p]
  | .first h => (heardM l p h).take 1
  | .last h => heardM l p h
def baseM (l : List Deed) (s : Since) (p : Str) (day : Int) : Option Int := match s with
  | .coming => some (comeM l p)
  | _ => ((basesM l s p).filter fun o => decide (o ≤ day)).getLast?
def reckM (l : List Deed) (s : Since) (m : Int) (u p : Str) (day : Int) : Option Int := (baseM l s p day).map fun b => laterM b m u
def oI : Option Int → PyData
  | some i => .int i
  | none => .none
def oS : Option Str → PyData
  | some i => .str i
  | none => .none

/-! ### calls: gone a list of (paper, day) -/
abbrev Gone := List (Str × Int)
def getG (g : Gone) (p : Str) : Option Int := (g.find? fun q => decide (q.1 = p)).map (·.2)
def hasGoneM (g : Gone) (p : Str) (day : Int) : Bool := match getG g p with
  | some d => decide (d ≤ day)
  | none => false
def firstMakerM (l : List Deed) (day : Int) (p : Str) (g : Gone) (away : Bool) : Option Str := (makersM l p).find? fun m => hasGoneM g m day == away
def overM (l : List Deed) (day : Int) (p : Str) : List Deed := if comeM l p ≤ day then (rulesM l day).filter fun x => decide ((partsOf x).kind = kindM l p) else []
def stayBy (l : List Deed) (day : Int) (p : Str) (g : Gone) : Parts → List PyData
  | .span true _ s m u => match reckM l s m u p day with
    | none => [.none]
    | some t => if day < t then [.int t] else []
  | .span false .. => []
  | .one w _ => if w = "while" then (match firstMakerM l day p g false with
    | some m => [.str m]
    | none => []) else []
def goBy (l : List Deed) (day : Int) (p : Str) (g : Gone) : Parts → List PyData
  | .span false _ s m u => match reckM l s m u p day with
    | none => []
    | some t => if t ≤ day then [.int t] else []
  | .span true .. => []
  | .one w _ => if w = "follow" then (match firstMakerM l day p g true with
    | some m => [.str m]
    | none => []) else []
def callsD (f : Parts → List PyData) (l : List Deed) : List PyData := l.flatMap fun x => (f (partsOf x)).map fun b => .tuple [.str x.name, b]
def staysM (l : List Deed) (day : Int) (p : Str) (g : Gone) : List PyData := callsD (stayBy l day p g) (overM l day p)
def goesM (l : List Deed) (day : Int) (p : Str) (g : Gone) : List PyData := callsD (goBy l day p g) (overM l day p)
def needsM (l : List Deed) (day : Int) (p : Str) : Bool := (rulesM l day).any fun x => PyData.eqv (partsOf x).d (.tuple [.str "leave", .str (kindM l p)])

/-! ### goings -/
structure Going where
  paper : Str
  day : Int
  leave : Option Str
def goneOf (gs : List Going) : Gone := gs.map fun g => (g.paper, g.day)
def usedOf (gs : List Going) : List (Str × Str) := gs.filterMap fun g => g.leave.map fun l => (l, g.paper)
def kindOfLeave : Deed → Str
  | .leave _ _ k => k
  | _ => ""
def leaveOk (day : Int) (k : Str) (u : List (Str × Str)) (x : Deed) : Bool := isW "leave" x && (decide (kindOfLeave x = k) && (decide (x.day ≤ day) && !(u.any fun q => decide (q.1 = x.name))))
/-- the least of some, by day and name; the first of equal ones -/
def leastM : List Deed → Option Deed
  | [] => none
  | x :: r => some (r.foldl (fun b y => if PySem.W.dataLt (pairD y) (pairD b) then y else b) x)
def unusedM (l : List Deed) (day : Int) (k : Str) (u : List (Str × Str)) : Option Str := (leastM (l.filter (leaveOk day k u))).map Deed.name
structure MetM where
  stay : List PyData
  leaving : List PyData
  covers : List Str
  lacks : Bool
  leave : Option Str
def lookM (l : List Deed) (day : Int) (p : Str) (g : Gone) (u : List (Str × Str)) : MetM :=
  { stay := staysM l day p g, leaving := goesM l day p g, covers := coveringM l day p,
    lacks := needsM l day p && (unusedM l day (kindM l p) u).isNone, leave := if needsM l day p then unusedM l day (kindM l p) u else none }
def MetM.barred (m : MetM) : Bool := !m.stay.isEmpty || (!m.covers.isEmpty || m.lacks)
def MetM.isLet (m : MetM) : Bool := !m.leaving.isEmpty && !m.barred
/-- one paper at its turn -/
def stepM (l : List Deed) (day : Int) (gs : List Going) (p : Str) : List Going :=
  if comeM l p ≤ day ∧ getG (goneOf gs) p = none then
    (if (lookM l day p (goneOf gs) (usedOf gs)).isLet then gs ++ [⟨p, day, (lookM l day p (goneOf gs) (usedOf gs)).leave⟩] else gs)
  else gs
def closeM (l : List Deed) (day : Int) (gs : List Going) : List Going := (papersM l).foldl (stepM l day) gs

/-! ### turning days -/
def reckonsM (l : List Deed) : Parts → List Int
  | .span _ k s m u => ((papersM l).filter fun p => decide (kindM l p = k)).flatMap fun p => (basesM l s p).map fun b => laterM b m u
  | .one .. => []
def putI (l : List Int) (i : Int) : List Int := if i ∈ l then l else l ++ [i]
def isSpan : Deed → Bool
  | .rule _ _ (.span ..) => true
  | _ => false
def turnsOf (l : List Deed) (x : Deed) : List Int := x.day :: (if isSpan x then reckonsM l (partsOf x) else [])
def turnSet (l : List Deed) : List Int := (l.flatMap (turnsOf l)).foldl putI []
def turningM (l : List Deed) : List Int := (turnSet l).mergeSort fun a b => decide (a ≤ b)
def walkDays (l : List Deed) (more : List Int) : List Int := ((turningM l ++ more).foldl putI []).mergeSort fun a b => decide (a ≤ b)
def runM (l : List Deed) (days : List Int) (gs : List Going) : List Going := days.foldl (fun g d => closeM l d g) gs
def planM (l : List Deed) : List Going := runM l (walkDays l []) []
end G
/-! Sets of deeds that go together: what holds of the mirror. Plain Lean. -/
namespace G
open PySem
open PySem.W (dataLe)

/-! ### texts, deeds, sets of deeds -/
def nameB (s : Str) : Bool := decide (1 ≤ s.length) && (decide (s.length ≤ 8) && s.cps.toList.all fun c => decide (97 ≤ c) && decide (c ≤ 122))
def Since.ok : Since → Prop
  | .coming => True
  | .first h => nameB h = true
  | .last h => nameB h = true
def Parts.ok : Parts → Prop
  | .span _ k s m u => nameB k = true ∧ s.ok ∧ (0 ≤ m ∧ m ≤ 999) ∧ u ∈ (["days", "months", "years"] : List Str)
  | .one w k => w ∈ (["while", "follow", "leave"] : List Str) ∧ nameB k = true
def Deed.ok' : Deed → Prop
  | .paper _ _ k m => nameB k = true ∧ m.length ≤ 4 ∧ (∀ x ∈ m, nameB x = true) ∧ m.Pairwise fun a b => a.cps.toList < b.cps.toList
  | .happens _ _ h => nameB h = true
  | .rule _ _ p => p.ok
  | .fin .. => True
  | .hold _ _ s a _ => s ∈ (["paper", "kind"] : List Str) ∧ nameB a = true
  | .lift .. => True
  | .leave _ _ k => nameB k = true
def Deed.ok (x : Deed) : Prop := (0 ≤ x.day ∧ x.day ≤ 99999) ∧ nameB x.name = true ∧ x.ok'
/-- whether two deeds quarrel -/
def quarrelM (x y : Deed) : Bool := PyData.eqv x.d y.d || (decide (x.name = y.name) &&
  ((decide (x.word = y.word) && decide (x.word ∈ (["paper", "leave"] : List Str))) || (decide (x.day = y.day) && ((decide (x.word ∈ (["rule", "end"] : List Str)) && decide (y.word ∈ (["rule", "end"] : List Str))) || (decide (x.word ∈ (["hold", "lift"] : List Str)) && decide (y.word ∈ (["hold", "lift"] : List Str)))))))
structure WF (l : List Deed) : Prop where
  len : l.length ≤ 40
  ok : ∀ x ∈ l, x.ok
  apart : l.Pairwise fun x y => quarrelM x y = false

/-! ### papers -/
theorem isW_paper {x : Deed} (h : isW "paper" x = true) : ∃ d n k m, x = .paper d n k m := by
  have e : x.word = "paper" := of_decide_eq_true h
  cases x with
  | paper d n k m => exact ⟨d, n, k, m, rfl⟩
  | happens => exact absurd (show ("happens" : Str) = "paper" from e) (by decide +kernel)
  | rule => exact absurd (show ("rule" : Str) = "paper" from e) (by decide +kernel)
  | fin => exact absurd (show ("end" : Str) = "paper" from e) (by decide +kernel)
  | hold => exact absurd (show ("hold" : Str) = "paper" from e) (by decide +kernel)
  | lift => exact absurd (show ("lift" : Str) = "paper" from e) (by decide +kernel)
  | leave => exact absurd (show ("leave" : Str) = "paper" from e) (by decide +kernel)
theorem isW_rule {x : Deed} (h : isW "rule" x = true) : ∃ d n p, x = .rule d n p := by
  have e : x.word = "rule" := of_decide_eq_true h
  cases x with
  | rule d n p => exact ⟨d, n, p, rfl⟩
  | happens => exact absurd (show ("happens" : Str) = "rule" from e) (by decide +kernel)
  | paper => exact absurd (show ("paper" : Str) = "rule" from e) (by decide +kernel)
  | fin => exact absurd (show ("end" : Str) = "rule" from e) (by decide +kernel)
  | hold => exact absurd (show ("hold" : Str) = "rule" from e) (by decide +kernel)
  | lift => exact absurd (show ("lift" : Str) = "rule" from e) (by decide +kernel)
  | leave => exact absurd (show ("leave" : Str) = "rule" from e) (by decide +kernel)
theorem isW_hold {x : Deed} (h : isW "hold" x = true) : ∃ d n s a b, x = .hold d n s a b := by
  have e : x.word = "hold" := of_decide_eq_true h
  cases x with
  | hold d n s a b => exact ⟨d, n, s, a, b, rfl⟩
  | happens => exact absurd (show ("happens" : Str) = "hold" from e) (by decide +kernel)
  | paper => exact absurd (show ("paper" : Str) = "hold" from e) (by decide +kernel)
  | fin => exact absurd (show ("end" : Str) = "hold" from e) (by decide +kernel)
  | rule => exact absurd (show ("rule" : Str) = "hold" from e) (by decide +kernel)
  | lift => exact absurd (show ("lift" : Str) = "hold" from e) (by decide +kernel)
  | leave => exact absurd (show ("leave" : Str) = "hold" from e) (by decide +kernel)
theorem isW_leave {x : Deed} (h : isW "leave" x = true) : ∃ d n k, x = .leave d n k := by
  have e : x.word = "leave" := of_decide_eq_true h
  cases x with
  | leave d n k => exact ⟨d, n, k, rfl⟩
  | happens => exact absurd (show ("happens" : Str) = "leave" from e) (by decide +kernel)
  | paper => exact absurd (show ("paper" : Str) = "leave" from e) (by decide +kernel)
  | fin => exact absurd (show ("end" : Str) = "leave" from e) (by decide +kernel)
  | rule => exact absurd (show ("rule" : Str) = "leave" from e) (by decide +kernel)
  | hold => exact absurd (show ("hold" : Str) = "leave" from e) (by decide +kernel)
  | lift => exact absurd (show ("lift" : Str) = "leave" from e) (by decide +kernel)
theorem isW_happens {x : Deed} (h : isW "happens" x = true) : ∃ d n k, x = .happens d n k := by
  have e : x.word = "happens" := of_decide_eq_true h
  cases x with
  | happens d n k => exact ⟨d, n, k, rfl⟩
  | leave => exact absurd (show ("leave" : Str) = "happens" from e) (by decide +kernel)
  | paper => exact absurd (show ("paper" : Str) = "happens" from e) (by decide +kernel)
  | fin => exact absurd (show ("end" : Str) = "happens" from e) (by decide +kernel)
  | rule => exact absurd (show ("rule" : Str) = "happens" from e) (by decide +kernel)
  | hold => exact absurd (show ("hold" : Str) = "happens" from e) (by decide +kernel)
  | lift => exact absurd (show ("lift" : Str) = "happens" from e) (by decide +kernel)
theorem word_paper {d n k m} : isW "paper" (.paper d n k m) = true := (by decide +kernel : decide (("paper" : Str) = "paper") = true)
theorem mem_papers {l : List Deed} {p : Str} : p ∈ papersM l ↔ ∃ x ∈ l, isW "paper" x = true ∧ x.name = p := by
  unfold papersM paperDeeds
  rw [List.mem_map]
  constructor
  · rintro ⟨x, hx, e⟩
    rw [List.mem_mergeSort, List.mem_filter] at hx
    exact ⟨x, hx.1, hx.2, e⟩
  · rintro ⟨x, h1, h2, e⟩
    exact ⟨x, by rw [List.mem_mergeSort, List.mem_filter]; exact ⟨h1, h2⟩, e⟩
theorem row_of_mem {l : List Deed} {p : Str} (h : p ∈ papersM l) : ∃ d k m, rowM l p = some (.paper d p k m) := by
  obtain ⟨x, h1, h2, h3⟩ := mem_papers.mp h
  cases e : rowM l p with
  | none =>
    have q := List.find?_eq_none.mp e x h1
    rw [h2, h3] at q
    simp at q
  | some y =>
    have q := List.find?_some e
    obtain ⟨q1, q2⟩ := Bool.and_eq_true_iff.mp q
    obtain ⟨d, n, k, m, rfl⟩ := isW_paper q1
    have q3 : n = p := of_decide_eq_true q2
    subst q3
    exact ⟨d, k, m, rfl⟩
theorem row_some {l : List Deed} {p : Str} {x : Deed} (h : rowM l p = some x) : x ∈ l ∧ isW "paper" x = true ∧ x.name = p := by
  have q := List.find?_some h
  obtain ⟨q1, q2⟩ := Bool.and_eq_true_iff.mp q
  exact ⟨List.mem_of_find?_eq_some h, q1, of_decide_eq_true q2⟩
theorem mem_of_row {l : List Deed} {p : Str} {x : Deed} (h : rowM l p = some x) : p ∈ papersM l := let ⟨a, b, c⟩ := row_some h; mem_papers.mpr ⟨x, a, b, c⟩
theorem papers_nodup {l : List Deed} (W : WF l) : (papersM l).Nodup := by
  have h1 : (l.filter (isW "paper")).Pairwise fun x y => x.name ≠ y.name := by
    have h2 := W.apart.filter (isW "paper")
    refine List.Pairwise.imp_of_mem (fun {x y} hx hy h => ?_) h2
    have wx := (List.mem_filter.mp hx).2
    have wy := (List.mem_filter.mp hy).2
    intro e
    have ex : x.word = "paper" := of_decide_eq_true wx
    have ey : y.word = "paper" := of_decide_eq_true wy
    unfold quarrelM at h
    rw [e, ex, ey] at h
    simp at h
  unfold papersM paperDeeds
  have h3 : ((l.filter (isW "paper")).map Deed.name).Nodup := List.pairwise_map.mpr h1
  exact ((List.mergeSort_perm _ _).map Deed.name).nodup_iff.mpr h3
theorem papers_len (l : List Deed) : (papersM l).length ≤ l.length := by
  unfold papersM paperDeeds
  rw [List.length_map, List.length_mergeSort]
  exact List.length_filter_le _ _
theorem makers_sub {l : List Deed} {p m : Str} (h : m ∈ makersM l p) : m ∈ papersM l := List.mem_of_mem_take (List.mem_filter.mp h).1
theorem makers_nodup {l : List Deed} (W : WF l) (p : Str) : (makersM l p).Nodup := ((papers_nodup W).sublist (List.take_sublist _ _)).sublist List.filter_sublist
theorem makers_len (l : List Deed) (p : Str) : (makersM l p).length ≤ l.length := by
  unfold makersM
  refine Nat.le_trans (List.length_filter_le _ _) (Nat.le_trans ?_ (papers_len l))
  rw [List.length_take]
  exact Nat.min_le_right _ _
/-- what the walk of makers keeps -/
structure MadeOk (l : List Deed) (found : List Str) : Prop where
  nd : found.Nodup
  sub : ∀ x ∈ found, x ∈ papersM l
theorem MadeOk.len {l : List Deed} {found : List Str} (h : MadeOk l found) : found.length ≤ (papersM l).length := List.Nodup.length_le_of_subset h.nd fun x hx => h.sub x hx
theorem MadeOk.next {l : List Deed} {found : List Str} (W : WF l) (h : MadeOk l found) (x : Str) : MadeOk l (found ++ (makersM l x).filter fun m => !decide (m ∈ found)) := by
  refine ⟨List.nodup_append.mpr ⟨h.nd, (makers_nodup W x).sublist List.filter_sublist, fun a ha b hb e => ?_⟩, fun y hy => ?_⟩
  · subst e
    have := (List.mem_filter.mp hb).2
    simp at this
    exact this ha
  · rcases List.mem_append.mp hy with q | q
    · exact h.sub y q
    · exact makers_sub (List.mem_filter.mp q).1
theorem made_end {l : List Deed} {found : List Str} {i n : Nat} (h : found.length ≤ i) : madeLoop l n found i = found := by
  cases n with
  | zero => rfl
  | succ n =>
    unfold madeLoop
    rw [List.getElem?_eq_none h]
theorem made_step {l : List Deed} {found : List Str} {i n : Nat} {x : Str} (h : found[i]? = some x) : madeLoop l (n + 1) found i = madeLoop l n (found ++ (makersM l x).filter fun m => !decide (m ∈ found)) (i + 1) := by
  conv => lhs; unfold madeLoop
  rw [h]
theorem made_in {l : List Deed} (W : WF l) : ∀ {n : Nat} {found : List Str} {i : Nat}, MadeOk l found → MadeOk l (madeLoop l n found i)
  | 0, _, _, h => h
  | n + 1, found, i, h => by
    unfold madeLoop
    split
    · exact made_in W (h.next W _)
    · exact h
theorem made_ok {l : List Deed} (W : WF l) {p : Str} (h : p ∈ papersM l) : MadeOk l (madeFromM l p) := made_in W ⟨by simp, fun x hx => by rw [List.mem_singleton.mp hx]; exact h⟩

/-! ### data that may be compared -/
theorem strOk_name {s : Str} (h : nameB s = true) : PyData.strOk s = true := by
  unfold nameB at h
  simp only [Bool.and_eq_true, decide_eq_true_eq, List.all_eq_true] at h
  unfold PyData.strOk
  rw [← Array.all_toList]
  refine List.all_eq_true.mpr fun c hc => decide_eq_true ?_
  have := h.2.2 c hc
  show c < 1114112
  omega
end G
/-! The program's text by places: each def's statement, names (parameters first), scope. Printed by gen_text.py. -/
namespace G
open PySem PySem.Spec PyProof.Rows L2
def top (i : Nat) : Stmt := PySem.Challenge.pw_goneday_k69_whole_archive_does_the_plan.main.body.getD i (.Pass ⟨0, 0, 0, 0⟩)
abbrev s_Act_init : Stmt := inClass (top 2) 0
abbrev N_Act_init : List Str := ["self", "day", "deed", "struck"]
def sc_Act_init : Scope := { kind := .function, names := [("self", .local), ("day", .local), ("deed", .local), ("struck", .local)], isGenerator := false, isCoroutine := false, more := (defScope s_Act_init).more }
theorem S_Act_init : FnScope N_Act_init ["self", "day", "deed", "struck"] sc_Act_init := ⟨rfl, rfl, rfl, by decide +kernel, rfl, by decide +kernel, by decide +kernel⟩
theorem H_Act_init : defScope s_Act_init = sc_Act_init := rfl
abbrev s_known_behind : Stmt := top 3
abbrev N_known_behind : List Str := ["acts", "many", "found", "number", "act"]
def sc_known_behind : Scope := { kind := .function, names := [("acts", .local), ("many", .local), ("found", .local), ("number", .local), ("act", .local), ("enumerate", .globalImplicit)], isGenerator := false, isCoroutine := false, more := (defScope s_known_behind).more }
theorem S_known_behind : FnScope N_known_behind ["acts", "many"] sc_known_behind := ⟨rfl, rfl, rfl, by decide +kernel, rfl, by decide +kernel, by decide +kernel⟩
theorem H_known_behind : defScope s_known_behind = sc_known_behind := rfl
abbrev s_deeds_behind : Stmt := top 5
abbrev N_deeds_behind : List Str := ["acts", "many", "known", "number"]
def sc_deeds_behind : Scope := { kind := .function, names := [("acts", .local), ("many", .local), ("known", .cell), ("known_behind", .globalImplicit), ("tuple", .globalImplicit), ("sorted", .globalImplicit)], isGenerator := false, isCoroutine := false, more := (defScope s_deeds_behind).more }
theorem S_deeds_behind : FnScope N_deeds_behind ["acts", "many"] sc_deeds_behind := ⟨rfl, rfl, rfl, by decide +kernel, rfl, by decide +kernel, by decide +kernel⟩
theorem H_deeds_behind : defScope s_deeds_behind = sc_deeds_behind := rfl
abbrev s_Twice_init : Stmt := inClass (top 10) 0
abbrev N_Twice_init : List Str := ["self", "number"]
def sc_Twice_init : Scope := { kind := .function, names := [("self", .local), ("number", .local), ("ArchiveError", .globalImplicit)], isGenerator := false, isCoroutine := false, more := (defScope s_Twice_init).more }
theorem S_Twice_init : FnScope N_Twice_init ["self", "number"] sc_Twice_init := ⟨rfl, rfl, rfl, by decide +kernel, rfl, by decide +kernel, by decide +kernel⟩
theorem H_Twice_init : defScope s_Twice_init = sc_Twice_init := rfl
abbrev s_GoneMaker_init : Stmt := inClass (top 11) 0
abbrev N_GoneMaker_init : List Str := ["self", "paper"]
def sc_GoneMaker_init : Scope := { kind := .function, names := [("self", .local), ("paper", .local), ("ArchiveError", .globalImplicit)], isGenerator := false, isCoroutine := false, more := (defScope s_GoneMaker_init).more }
theorem S_GoneMaker_init : FnScope N_GoneMaker_init ["self", "paper"] sc_GoneMaker_init := ⟨rfl, rfl, rfl, by decide +kernel, rfl, by decide +kernel, by decide +kernel⟩
theorem H_GoneMaker_init : defScope s_GoneMaker_init = sc_GoneMaker_init := rfl
abbrev s_is_whole : Stmt := top 17
abbrev N_is_whole : List Str := ["thing"]
def sc_is_whole : Scope := { kind := .function, names := [("thing", .local), ("isinstance", .globalImplicit), ("int", .globalImplicit), ("bool", .globalImplicit)], isGenerator := false, isCoroutine := false, more := (defScope s_is_whole).more }
theorem S_is_whole : FnScope N_is_whole ["thing"] sc_is_whole := ⟨rfl, rfl, rfl, by decide +kernel, rfl, by decide +kernel, by decide +kernel⟩
theorem H_is_whole : defScope s_is_whole = sc_is_whole := rfl
abbrev s_is_day : Stmt := top 18
abbrev N_is_day : List Str := ["thing"]
def sc_is_day : Scope := { kind := .function, names := [("thing", .local), ("is_whole", .globalImplicit), ("LAST_DAY", .globalImplicit)], isGenerator := false, isCoroutine := false, more := (defScope s_is_day).more }
theorem S_is_day : FnScope N_is_day ["thing"] sc_is_day := ⟨rfl, rfl, rfl, by decide +kernel, rfl, by decide +kernel, by decide +kernel⟩
theorem H_is_day : defScope s_is_day = sc_is_day := rfl
abbrev s_is_long : Stmt := top 19
abbrev N_is_long : List Str := ["year"]
def sc_is_long : Scope := { kind := .function, names := [("year", .local)], isGenerator := false, isCoroutine := false, more := (defScope s_is_long).more }
theorem S_is_long : FnScope N_is_long ["year"] sc_is_long := ⟨rfl, rfl, rfl, by decide +kernel, rfl, by decide +kernel, by decide +kernel⟩
theorem H_is_long : defScope s_is_long = sc_is_long := rfl
abbrev s_length_of : Stmt := top 20
abbrev N_length_of : List Str := ["year", "month"]
def sc_length_of : Scope := { kind := .function, names := [("year", .local), ("month", .local), ("LENGTHS", .globalImplicit), ("int", .globalImplicit), ("is_long", .globalImplicit)], isGenerator := false, isCoroutine := false, more := (defScope s_length_of).more }
theorem S_length_of : FnScope N_length_of ["year", "month"] sc_length_of := ⟨rfl, rfl, rfl, by decide +kernel, rfl, by decide +kernel, by decide +kernel⟩
theorem H_length_of : defScope s_length_of = sc_length_of := rfl
abbrev s_long_years : Stmt := top 21
abbrev N_long_years : List Str := ["year"]
def sc_long_years : Scope := { kind := .function, names := [("year", .local)], isGenerator := false, isCoroutine := false, more := (defScope s_long_years).more }
theorem S_long_years : FnScope N_long_years ["year"] sc_long_years := ⟨rfl, rfl, rfl, by decide +kernel, rfl, by decide +kernel, by decide +kernel⟩
theorem H_long_years : defScope s_long_years = sc_long_years := rfl
abbrev s_days_ahead : Stmt := top 22
abbrev N_days_ahead : List Str := ["year"]
def sc_days_ahead : Scope := { kind := .function, names := [("year", .local), ("FIRST_YEAR", .globalImplicit), ("long_years", .globalImplicit)], isGenerator := false, isCoroutine := false, more := (defScope s_days_ahead).more }
theorem S_days_ahead : FnScope N_days_ahead ["year"] sc_days_ahead := ⟨rfl, rfl, rfl, by decide +kernel, rfl, by decide +kernel, by decide +kernel⟩
theorem H_days_ahead : defScope s_days_ahead = sc_days_ahead := rfl
abbrev s_day_at : Stmt := top 23
abbrev N_day_at : List Str := ["year", "month", "day", "ahead"]
def sc_day_at : Scope := { kind := .function, names := [("year", .cell), ("month", .local), ("day", .local), ("days_ahead", .globalImplicit), ("sum", .globalImplicit), ("range", .globalImplicit)], isGenerator := false, isCoroutine := false, more := (defScope s_day_at).more }
theorem S_day_at : FnScope N_day_at ["year", "month", "day"] sc_day_at := ⟨rfl, rfl, rfl, by decide +kernel, rfl, by decide +kernel, by decide +kernel⟩
theorem H_day_at : defScope s_day_at = sc_day_at := rfl
abbrev s_date_of : Stmt := top 24
abbrev N_date_of : List Str := ["day", "year", "left", "month"]
def sc_date_of : Scope := { kind := .function, names := [("day", .local), ("year", .local), ("left", .local), ("month", .local), ("FIRST_YEAR", .globalImplicit), ("days_ahead", .globalImplicit), ("length_of", .globalImplicit)], isGenerator := false, isCoroutine := false, more := (defScope s_date_of).more }
theorem S_date_of : FnScope N_date_of ["day"] sc_date_of := ⟨rfl, rfl, rfl, by decide +kernel, rfl, by decide +kernel, by decide +kernel⟩
theorem H_date_of : defScope s_date_of = sc_date_of := rfl
abbrev s_later : Stmt := top 25
abbrev N_later : List Str := ["day", "many", "unit", "year", "month", "number", "months"]
def sc_later : Scope := { kind := .function, names := [("day", .local), ("many", .local), ("unit", .local), ("year", .local), ("month", .local), ("number", .local), ("months", .local), ("date_of", .globalImplicit), ("day_at", .globalImplicit), ("min", .globalImplicit), ("length_of", .globalImplicit)], isGenerator := false, isCoroutine := false, more := (defScope s_later).more }
theorem S_later : FnScope N_later ["day", "many", "unit"] sc_later := ⟨rfl, rfl, rfl, by decide +kernel, rfl, by decide +kernel, by decide +kernel⟩
theorem H_later : defScope s_later = sc_later := rfl
abbrev s_is_name : Stmt := top 34
abbrev N_is_name : List Str := ["thing", "sign"]
def sc_is_name : Scope := { kind := .function, names := [("thing", .local), ("isinstance", .globalImplicit), ("str", .globalImplicit), ("len", .globalImplicit), ("MOST_LETTERS", .globalImplicit), ("all", .globalImplicit)], isGenerator := false, isCoroutine := false, more := (defScope s_is_name).more }
theorem S_is_name : FnScope N_is_name ["thing"] sc_is_name := ⟨rfl, rfl, rfl, by decide +kernel, rfl, by decide +kernel, by decide +kernel⟩
theorem H_is_name : defScope s_is_name = sc_is_name := rfl
abbrev s_is_since : Stmt := top 35
abbrev N_is_since : List Str := ["thing"]
def sc_is_since : Scope := { kind := .function, names := [("thing", .local), ("isinstance", .globalImplicit), ("tuple", .globalImplicit), ("str", .globalImplicit), ("len", .globalImplicit), ("is_name", .globalImplicit)], isGenerator := false, isCoroutine := false, more := (defScope s_is_since).more }
theorem S_is_since : FnScope N_is_since ["thing"] sc_is_since := ⟨rfl, rfl, rfl, by decide +kernel, rfl, by decide +kernel, by decide +kernel⟩
theorem H_is_since : defScope s_is_since = sc_is_since := rfl
abbrev s_is_span_told : Stmt := top 36
abbrev N_is_span_told : List Str := ["many", "unit"]
def sc_is_span_told : Scope := { kind := .function, names := [("many", .local), ("unit", .local), ("is_whole", .globalImplicit), ("MOST_MANY", .globalImplicit), ("isinstance", .globalImplicit), ("str", .globalImplicit), ("UNITS", .globalImplicit)], isGenerator := false, isCoroutine := false, more := (defScope s_is_span_told).more }
theorem S_is_span_told : FnScope N_is_span_told ["many", "unit"] sc_is_span_told := ⟨rfl, rfl, rfl, by decide +kernel, rfl, by decide +kernel, by decide +kernel⟩
theorem H_is_span_told : defScope s_is_span_told = sc_is_span_told := rfl
abbrev s_is_rule : Stmt := top 37
abbrev N_is_rule : List Str := ["thing"]
def sc_is_rule : Scope := { kind := .function, names := [("thing", .local), ("isinstance", .globalImplicit), ("tuple", .globalImplicit), ("len", .globalImplicit), ("str", .globalImplicit), ("is_name", .globalImplicit), ("is_since", .globalImplicit), ("is_span_told", .globalImplicit)], isGenerator := false, isCoroutine := false, more := (defScope s_is_rule).more }
theorem S_is_rule : FnScope N_is_rule ["thing"] sc_is_rule := ⟨rfl, rfl, rfl, by decide +kernel, rfl, by decide +kernel, by decide +kernel⟩
theorem H_is_rule : defScope s_is_rule = sc_is_rule := rfl
abbrev s_are_makers : Stmt := top 38
abbrev N_are_makers : List Str := ["thing", "one", "k"]
def sc_are_makers : Scope := { kind := .function, names := [("thing", .cell), ("isinstance", .globalImplicit), ("tuple", .globalImplicit), ("len", .globalImplicit), ("MOST_MAKERS", .globalImplicit), ("all", .globalImplicit), ("range", .globalImplicit)], isGenerator := false, isCoroutine := false, more := (defScope s_are_makers).more }
theorem S_are_makers : FnScope N_are_makers ["thing"] sc_are_makers := ⟨rfl, rfl, rfl, by decide +kernel, rfl, by decide +kernel, by decide +kernel⟩
theorem H_are_makers : defScope s_are_makers = sc_are_makers := rfl
abbrev s_is_aim : Stmt := top 39
abbrev N_is_aim : List Str := ["thing"]
def sc_is_aim : Scope := { kind := .function, names := [("thing", .local), ("isinstance", .globalImplicit), ("tuple", .globalImplicit), ("len", .globalImplicit), ("str", .globalImplicit), ("is_name", .globalImplicit)], isGenerator := false, isCoroutine := false, more := (defScope s_is_aim).more }
theorem S_is_aim : FnScope N_is_aim ["thing"] sc_is_aim := ⟨rfl, rfl, rfl, by decide +kernel, rfl, by decide +kernel, by decide +kernel⟩
theorem H_is_aim : defScope s_is_aim = sc_is_aim := rfl
abbrev s_fits_form : Stmt := top 40
abbrev N_fits_form : List Str := ["thing", "letter"]
def sc_fits_form : Scope := { kind := .function, names := [("thing", .local), ("letter", .local), ("is_name", .globalImplicit), ("are_makers", .globalImplicit), ("is_rule", .globalImplicit), ("is_aim", .globalImplicit), ("isinstance", .globalImplicit), ("bool", .globalImplicit)], isGenerator := false, isCoroutine := false, more := (defScope s_fits_form).more }
theorem S_fits_form : FnScope N_fits_form ["thing", "letter"] sc_fits_form := ⟨rfl, rfl, rfl, by decide +kernel, rfl, by decide +kernel, by decide +kernel⟩
theorem H_fits_form : defScope s_fits_form = sc_fits_form := rfl
abbrev s_is_deed : Stmt := top 41
abbrev N_is_deed : List Str := ["thing", "form", "part", "letter"]
def sc_is_deed : Scope := { kind := .function, names := [("thing", .local), ("form", .local), ("isinstance", .globalImplicit), ("tuple", .globalImplicit), ("len", .globalImplicit), ("str", .globalImplicit), ("FORMS", .globalImplicit), ("is_day", .globalImplicit), ("all", .globalImplicit), ("zip", .globalImplicit)], isGenerator := false, isCoroutine := false, more := (defScope s_is_deed).more }
theorem S_is_deed : FnScope N_is_deed ["thing"] sc_is_deed := ⟨rfl, rfl, rfl, by decide +kernel, rfl, by decide +kernel, by decide +kernel⟩
theorem H_is_deed : defScope s_is_deed = sc_is_deed := rfl
abbrev s_quarrel : Stmt := top 42
abbrev N_quarrel : List Str := ["one", "other", "words"]
def sc_quarrel : Scope := { kind := .function, names := [("one", .cell), ("other", .cell), ("any", .globalImplicit), ("TURNED", .globalImplicit)], isGenerator := false, isCoroutine := false, more := (defScope s_quarrel).more }
theorem S_quarrel : FnScope N_quarrel ["one", "other"] sc_quarrel := ⟨rfl, rfl, rfl, by decide +kernel, rfl, by decide +kernel, by decide +kernel⟩
theorem H_quarrel : defScope s_quarrel = sc_quarrel := rfl
abbrev s_papers : Stmt := top 44
abbrev N_papers : List Str := ["deeds", "day", "name", "deed"]
def sc_papers : Scope := { kind := .function, names := [("deeds", .local), ("tuple", .globalImplicit), ("sorted", .globalImplicit)], isGenerator := false, isCoroutine := false, more := (defScope s_papers).more }
theorem S_papers : FnScope N_papers ["deeds"] sc_papers := ⟨rfl, rfl, rfl, by decide +kernel, rfl, by decide +kernel, by decide +kernel⟩
theorem H_papers : defScope s_papers = sc_papers := rfl
abbrev s_row_of : Stmt := top 45
abbrev N_row_of : List Str := ["deeds", "paper", "deed"]
def sc_row_of : Scope := { kind := .function, names := [("deeds", .local), ("paper", .local), ("deed", .local), ("NoPaper", .globalImplicit)], isGenerator := false, isCoroutine := false, more := (defScope s_row_of).more }
theorem S_row_of : FnScope N_row_of ["deeds", "paper"] sc_row_of := ⟨rfl, rfl, rfl, by decide +kernel, rfl, by decide +kernel, by decide +kernel⟩
theorem H_row_of : defScope s_row_of = sc_row_of := rfl
abbrev s_kind_of : Stmt := top 46
abbrev N_kind_of : List Str := ["deeds", "paper"]
def sc_kind_of : Scope := { kind := .function, names := [("deeds", .local), ("paper", .local), ("row_of", .globalImplicit)], isGenerator := false, isCoroutine := false, more := (defScope s_kind_of).more }
theorem S_kind_of : FnScope N_kind_of ["deeds", "paper"] sc_kind_of := ⟨rfl, rfl, rfl, by decide +kernel, rfl, by decide +kernel, by decide +kernel⟩
theorem H_kind_of : defScope s_kind_of = sc_kind_of := rfl
abbrev s_makers : Stmt := top 47
abbrev N_makers : List Str := ["deeds", "paper", "told", "order", "name"]
def sc_makers : Scope := { kind := .function, names := [("deeds", .local), ("paper", .local), ("told", .cell), ("order", .local), ("row_of", .globalImplicit), ("papers", .globalImplicit), ("tuple", .globalImplicit)], isGenerator := false, isCoroutine := false, more := (defScope s_makers).more }
theorem S_makers : FnScope N_makers ["deeds", "paper"] sc_makers := ⟨rfl, rfl, rfl, by decide +kernel, rfl, by decide +kernel, by decide +kernel⟩
theorem H_makers : defScope s_makers = sc_makers := rfl
abbrev s_made_from : Stmt := top 48
abbrev N_made_from : List Str := ["deeds", "paper", "found", "at", "maker"]
def sc_made_from : Scope := { kind := .function, names := [("deeds", .local), ("paper", .local), ("found", .cell), ("at", .local), ("len", .globalImplicit), ("makers", .globalImplicit)], isGenerator := false, isCoroutine := false, more := (defScope s_made_from).more }
theorem S_made_from : FnScope N_made_from ["deeds", "paper"] sc_made_from := ⟨rfl, rfl, rfl, by decide +kernel, rfl, by decide +kernel, by decide +kernel⟩
theorem H_made_from : defScope s_made_from = sc_made_from := rfl
abbrev s_day_of_deed : Stmt := top 50
abbrev N_day_of_deed : List Str := ["deed"]
def sc_day_of_deed : Scope := { kind := .function, names := [("deed", .local)], isGenerator := false, isCoroutine := false, more := (defScope s_day_of_deed).more }
theorem S_day_of_deed : FnScope N_day_of_deed ["deed"] sc_day_of_deed := ⟨rfl, rfl, rfl, by decide +kernel, rfl, by decide +kernel, by decide +kernel⟩
theorem H_day_of_deed : defScope s_day_of_deed = sc_day_of_deed := rfl
abbrev s_latest : Stmt := top 51
abbrev N_latest : List Str := ["deeds", "day", "words", "found", "deed", "name"]
def sc_latest : Scope := { kind := .function, names := [("deeds", .local), ("day", .cell), ("words", .cell), ("found", .cell), ("deed", .local), ("sorted", .globalImplicit), ("day_of_deed", .globalImplicit)], isGenerator := false, isCoroutine := false, more := (defScope s_latest).more }
theorem S_latest : FnScope N_latest ["deeds", "day", "words"] sc_latest := ⟨rfl, rfl, rfl, by decide +kernel, rfl, by decide +kernel, by decide +kernel⟩
theorem H_latest : defScope s_latest = sc_latest := rfl
abbrev s_rules_on : Stmt := top 52
abbrev N_rules_on : List Str := ["deeds", "day", "deed"]
def sc_rules_on : Scope := { kind := .function, names := [("deeds", .local), ("day", .local), ("tuple", .globalImplicit), ("latest", .globalImplicit)], isGenerator := false, isCoroutine := false, more := (defScope s_rules_on).more }
theorem S_rules_on : FnScope N_rules_on ["deeds", "day"] sc_rules_on := ⟨rfl, rfl, rfl, by decide +kernel, rfl, by decide +kernel, by decide +kernel⟩
theorem H_rules_on : defScope s_rules_on = sc_rules_on := rfl
abbrev s_holds_on : Stmt := top 53
abbrev N_holds_on : List Str := ["deeds", "day", "deed"]
def sc_holds_on : Scope := { kind := .function, names := [("deeds", .local), ("day", .local), ("tuple", .globalImplicit), ("latest", .globalImplicit)], isGenerator := false, isCoroutine := false, more := (defScope s_holds_on).more }
theorem S_holds_on : FnScope N_holds_on ["deeds", "day"] sc_holds_on := ⟨rfl, rfl, rfl, by decide +kernel, rfl, by decide +kernel, by decide +kernel⟩
theorem H_holds_on : defScope s_holds_on = sc_holds_on := rfl
abbrev s_is_target : Stmt := top 54
abbrev N_is_target : List Str := ["deeds", "paper", "target", "sort", "name"]
def sc_is_target : Scope := { kind := .function, names := [("deeds", .local), ("paper", .local), ("target", .local), ("sort", .local), ("name", .local), ("kind_of", .globalImplicit)], isGenerator := false, isCoroutine := false, more := (defScope s_is_target).more }
theorem S_is_target : FnScope N_is_target ["deeds", "paper", "target"] sc_is_target := ⟨rfl, rfl, rfl, by decide +kernel, rfl, by decide +kernel, by decide +kernel⟩
theorem H_is_target : defScope s_is_target = sc_is_target := rfl
abbrev s_covering : Stmt := top 55
abbrev N_covering : List Str := ["deeds", "day", "paper", "above", "found", "hold", "target", "deep", "some", "one"]
def sc_covering : Scope := { kind := .function, names := [("deeds", .cell), ("day", .local), ("paper", .local), ("above", .local), ("found", .local), ("hold", .local), ("target", .cell), ("deep", .local), ("some", .local), ("made_from", .globalImplicit), ("holds_on", .globalImplicit), ("any", .globalImplicit), ("tuple", .globalImplicit)], isGenerator := false, isCoroutine := false, more := (defScope s_covering).more }
theorem S_covering : FnScope N_covering ["deeds", "day", "paper"] sc_covering := ⟨rfl, rfl, rfl, by decide +kernel, rfl, by decide +kernel, by decide +kernel⟩
theorem H_covering : defScope s_covering = sc_covering := rfl
abbrev s_heard : Stmt := top 56
abbrev N_heard : List Str := ["deeds", "paper", "happening", "deed"]
def sc_heard : Scope := { kind := .function, names := [("deeds", .local), ("paper", .cell), ("happening", .cell), ("sorted", .globalImplicit)], isGenerator := false, isCoroutine := false, more := (defScope s_heard).more }
theorem S_heard : FnScope N_heard ["deeds", "paper", "happening"] sc_heard := ⟨rfl, rfl, rfl, by decide +kernel, rfl, by decide +kernel, by decide +kernel⟩
theorem H_heard : defScope s_heard = sc_heard := rfl
abbrev s_bases : Stmt := top 57
abbrev N_bases : List Str := ["deeds", "since", "paper", "days"]
def sc_bases : Scope := { kind := .function, names := [("deeds", .local), ("since", .local), ("paper", .local), ("days", .local), ("row_of", .globalImplicit), ("heard", .globalImplicit)], isGenerator := false, isCoroutine := false, more := (defScope s_bases).more }
theorem S_bases : FnScope N_bases ["deeds", "since", "paper"] sc_bases := ⟨rfl, rfl, rfl, by decide +kernel, rfl, by decide +kernel, by decide +kernel⟩
theorem H_bases : defScope s_bases = sc_bases := rfl
abbrev s_base_on : Stmt := top 58
abbrev N_base_on : List Str := ["deeds", "since", "paper", "day", "some", "one"]
def sc_base_on : Scope := { kind := .function, names := [("deeds", .local), ("since", .local), ("paper", .local), ("day", .cell), ("some", .local), ("row_of", .globalImplicit), ("bases", .globalImplicit)], isGenerator := false, isCoroutine := false, more := (defScope s_base_on).more }
theorem S_base_on : FnScope N_base_on ["deeds", "since", "paper", "day"] sc_base_on := ⟨rfl, rfl, rfl, by decide +kernel, rfl, by decide +kernel, by decide +kernel⟩
theorem H_base_on : defScope s_base_on = sc_base_on := rfl
abbrev s_reckoning : Stmt := top 59
abbrev N_reckoning : List Str := ["deeds", "parts", "paper", "day", "begin"]
def sc_reckoning : Scope := { kind := .function, names := [("deeds", .local), ("parts", .local), ("paper", .local), ("day", .local), ("begin", .local), ("row_of", .globalImplicit), ("base_on", .globalImplicit), ("later", .globalImplicit)], isGenerator := false, isCoroutine := false, more := (defScope s_reckoning).more }
theorem S_reckoning : FnScope N_reckoning ["deeds", "parts", "paper", "day"] sc_reckoning := ⟨rfl, rfl, rfl, by decide +kernel, rfl, by decide +kernel, by decide +kernel⟩
theorem H_reckoning : defScope s_reckoning = sc_reckoning := rfl
abbrev s_has_gone : Stmt := top 61
abbrev N_has_gone : List Str := ["gone", "paper", "day"]
def sc_has_gone : Scope := { kind := .function, names := [("gone", .local), ("paper", .local), ("day", .local)], isGenerator := false, isCoroutine := false, more := (defScope s_has_gone).more }
theorem S_has_gone : FnScope N_has_gone ["gone", "paper", "day"] sc_has_gone := ⟨rfl, rfl, rfl, by decide +kernel, rfl, by decide +kernel, by decide +kernel⟩
theorem H_has_gone : defScope s_has_gone = sc_has_gone := rfl
abbrev s_first_maker : Stmt := top 62
abbrev N_first_maker : List Str := ["deeds", "day", "paper", "gone", "away", "maker"]
def sc_first_maker : Scope := { kind := .function, names := [("deeds", .local), ("day", .local), ("paper", .local), ("gone", .local), ("away", .local), ("maker", .local), ("makers", .globalImplicit), ("has_gone", .globalImplicit)], isGenerator := false, isCoroutine := false, more := (defScope s_first_maker).more }
theorem S_first_maker : FnScope N_first_maker ["deeds", "day", "paper", "gone", "away"] sc_first_maker := ⟨rfl, rfl, rfl, by decide +kernel, rfl, by decide +kernel, by decide +kernel⟩
theorem H_first_maker : defScope s_first_maker = sc_first_maker := rfl
abbrev s_rules_over : Stmt := top 63
abbrev N_rules_over : List Str := ["deeds", "day", "paper", "kind", "rule", "parts"]
def sc_rules_over : Scope := { kind := .function, names := [("deeds", .local), ("day", .local), ("paper", .local), ("kind", .cell), ("row_of", .globalImplicit), ("kind_of", .globalImplicit), ("rules_on", .globalImplicit)], isGenerator := false, isCoroutine := false, more := (defScope s_rules_over).more }
theorem S_rules_over : FnScope N_rules_over ["deeds", "day", "paper"] sc_rules_over := ⟨rfl, rfl, rfl, by decide +kernel, rfl, by decide +kernel, by decide +kernel⟩
theorem H_rules_over : defScope s_rules_over = sc_rules_over := rfl
abbrev s_stay_by : Stmt := top 64
abbrev N_stay_by : List Str := ["deeds", "day", "paper", "gone", "parts", "till", "maker"]
def sc_stay_by : Scope := { kind := .function, names := [("deeds", .local), ("day", .local), ("paper", .local), ("gone", .local), ("parts", .local), ("till", .local), ("maker", .local), ("reckoning", .globalImplicit), ("first_maker", .globalImplicit)], isGenerator := false, isCoroutine := false, more := (defScope s_stay_by).more }
theorem S_stay_by : FnScope N_stay_by ["deeds", "day", "paper", "gone", "parts"] sc_stay_by := ⟨rfl, rfl, rfl, by decide +kernel, rfl, by decide +kernel, by decide +kernel⟩
theorem H_stay_by : defScope s_stay_by = sc_stay_by := rfl
abbrev s_go_by : Stmt := top 65
abbrev N_go_by : List Str := ["deeds", "day", "paper", "gone", "parts", "due", "maker"]
def sc_go_by : Scope := { kind := .function, names := [("deeds", .local), ("day", .local), ("paper", .local), ("gone", .local), ("parts", .local), ("due", .local), ("maker", .local), ("reckoning", .globalImplicit), ("first_maker", .globalImplicit)], isGenerator := false, isCoroutine := false, more := (defScope s_go_by).more }
theorem S_go_by : FnScope N_go_by ["deeds", "day", "paper", "gone", "parts"] sc_go_by := ⟨rfl, rfl, rfl, by decide +kernel, rfl, by decide +kernel, by decide +kernel⟩
theorem H_go_by : defScope s_go_by = sc_go_by := rfl
abbrev s_stays : Stmt := top 66
abbrev N_stays : List Str := ["deeds", "day", "paper", "gone", "found", "rule", "parts", "by"]
def sc_stays : Scope := { kind := .function, names := [("deeds", .local), ("day", .local), ("paper", .local), ("gone", .local), ("found", .local), ("rule", .cell), ("parts", .local), ("rules_over", .globalImplicit), ("stay_by", .globalImplicit), ("tuple", .globalImplicit)], isGenerator := false, isCoroutine := false, more := (defScope s_stays).more }
theorem S_stays : FnScope N_stays ["deeds", "day", "paper", "gone"] sc_stays := ⟨rfl, rfl, rfl, by decide +kernel, rfl, by decide +kernel, by decide +kernel⟩
theorem H_stays : defScope s_stays = sc_stays := rfl
abbrev s_goes : Stmt := top 67
abbrev N_goes : List Str := ["deeds", "day", "paper", "gone", "found", "rule", "parts", "by"]
def sc_goes : Scope := { kind := .function, names := [("deeds", .local), ("day", .local), ("paper", .local), ("gone", .local), ("found", .local), ("rule", .cell), ("parts", .local), ("rules_over", .globalImplicit), ("go_by", .globalImplicit), ("tuple", .globalImplicit)], isGenerator := false, isCoroutine := false, more := (defScope s_goes).more }
theorem S_goes : FnScope N_goes ["deeds", "day", "paper", "gone"] sc_goes := ⟨rfl, rfl, rfl, by decide +kernel, rfl, by decide +kernel, by decide +kernel⟩
theorem H_goes : defScope s_goes = sc_goes := rfl
abbrev s_needs_leave : Stmt := top 68
abbrev N_needs_leave : List Str := ["deeds", "day", "paper", "kind", "rule", "parts"]
def sc_needs_leave : Scope := { kind := .function, names := [("deeds", .local), ("day", .local), ("paper", .local), ("kind", .cell), ("kind_of", .globalImplicit), ("any", .globalImplicit), ("rules_on", .globalImplicit)], isGenerator := false, isCoroutine := false, more := (defScope s_needs_leave).more }
theorem S_needs_leave : FnScope N_needs_leave ["deeds", "day", "paper"] sc_needs_leave := ⟨rfl, rfl, rfl, by decide +kernel, rfl, by decide +kernel, by decide +kernel⟩
theorem H_needs_leave : defScope s_needs_leave = sc_needs_leave := rfl
abbrev s_Met_init : Stmt := inClass (top 70) 0
abbrev N_Met_init : List Str := ["self", "day", "paper"]
def sc_Met_init : Scope := { kind := .function, names := [("self", .local), ("day", .local), ("paper", .local)], isGenerator := false, isCoroutine := false, more := (defScope s_Met_init).more }
theorem S_Met_init : FnScope N_Met_init ["self", "day", "paper"] sc_Met_init := ⟨rfl, rfl, rfl, by decide +kernel, rfl, by decide +kernel, by decide +kernel⟩
theorem H_Met_init : defScope s_Met_init = sc_Met_init := rfl
abbrev s_Met_is_barred : Stmt := inClass (top 70) 1
abbrev N_Met_is_barred : List Str := ["self"]
def sc_Met_is_barred : Scope := { kind := .function, names := [("self", .local)], isGenerator := false, isCoroutine := false, more := (defScope s_Met_is_barred).more }
theorem S_Met_is_barred : FnScope N_Met_is_barred ["self"] sc_Met_is_barred := ⟨rfl, rfl, rfl, by decide +kernel, rfl, by decide +kernel, by decide +kernel⟩
theorem H_Met_is_barred : defScope s_Met_is_barred = sc_Met_is_barred := rfl
abbrev s_Met_is_let : Stmt := inClass (top 70) 2
abbrev N_Met_is_let : List Str := ["self"]
def sc_Met_is_let : Scope := { kind := .function, names := [("self", .local)], isGenerator := false, isCoroutine := false, more := (defScope s_Met_is_let).more }
theorem S_Met_is_let : FnScope N_Met_is_let ["self"] sc_Met_is_let := ⟨rfl, rfl, rfl, by decide +kernel, rfl, by decide +kernel, by decide +kernel⟩
theorem H_Met_is_let : defScope s_Met_is_let = sc_Met_is_let := rfl
abbrev s_unused_leave : Stmt := top 71
abbrev N_unused_leave : List Str := ["deeds", "day", "kind", "used", "found", "deed"]
def sc_unused_leave : Scope := { kind := .function, names := [("deeds", .local), ("day", .local), ("kind", .local), ("used", .local), ("found", .local), ("deed", .local), ("min", .globalImplicit)], isGenerator := false, isCoroutine := false, more := (defScope s_unused_leave).more }
theorem S_unused_leave : FnScope N_unused_leave ["deeds", "day", "kind", "used"] sc_unused_leave := ⟨rfl, rfl, rfl, by decide +kernel, rfl, by decide +kernel, by decide +kernel⟩
theorem H_unused_leave : defScope s_unused_leave = sc_unused_leave := rfl
abbrev s_look : Stmt := top 72
abbrev N_look : List Str := ["deeds", "day", "paper", "gone", "used", "met"]
def sc_look : Scope := { kind := .function, names := [("deeds", .local), ("day", .local), ("paper", .local), ("gone", .local), ("used", .local), ("met", .local), ("Met", .globalImplicit), ("stays", .globalImplicit), ("goes", .globalImplicit), ("covering", .globalImplicit), ("needs_leave", .globalImplicit), ("unused_leave", .globalImplicit), ("kind_of", .globalImplicit)], isGenerator := false, isCoroutine := false, more := (defScope s_look).more }
theorem S_look : FnScope N_look ["deeds", "day", "paper", "gone", "used"] sc_look := ⟨rfl, rfl, rfl, by decide +kernel, rfl, by decide +kernel, by decide +kernel⟩
theorem H_look : defScope s_look = sc_look := rfl
abbrev s_close_day : Stmt := top 73
abbrev N_close_day : List Str := ["deeds", "day", "gone", "used", "found", "paper", "met"]
def sc_close_day : Scope := { kind := .function, names := [("deeds", .local), ("day", .local), ("gone", .local), ("used", .local), ("found", .local), ("paper", .local), ("met", .local), ("papers", .globalImplicit), ("row_of", .globalImplicit), ("look", .globalImplicit)], isGenerator := false, isCoroutine := false, more := (defScope s_close_day).more }
theorem S_close_day : FnScope N_close_day ["deeds", "day", "gone", "used"] sc_close_day := ⟨rfl, rfl, rfl, by decide +kernel, rfl, by decide +kernel, by decide +kernel⟩
theorem H_close_day : defScope s_close_day = sc_close_day := rfl
abbrev s_reckonings : Stmt := top 75
abbrev N_reckonings : List Str := ["deeds", "parts", "found", "paper", "base"]
def sc_reckonings : Scope := { kind := .function, names := [("deeds", .local), ("parts", .cell), ("found", .local), ("paper", .local), ("papers", .globalImplicit), ("kind_of", .globalImplicit), ("bases", .globalImplicit)], isGenerator := false, isCoroutine := false, more := (defScope s_reckonings).more }
theorem S_reckonings : FnScope N_reckonings ["deeds", "parts"] sc_reckonings := ⟨rfl, rfl, rfl, by decide +kernel, rfl, by decide +kernel, by decide +kernel⟩
theorem H_reckonings : defScope s_reckonings = sc_reckonings := rfl
abbrev s_turning_days : Stmt := top 76
abbrev N_turning_days : List Str := ["deeds", "found", "deed", "day"]
def sc_turning_days : Scope := { kind := .function, names := [("deeds", .local), ("found", .local), ("deed", .local), ("day", .local), ("reckonings", .globalImplicit), ("tuple", .globalImplicit), ("sorted", .globalImplicit)], isGenerator := false, isCoroutine := false, more := (defScope s_turning_days).more }
theorem S_turning_days : FnScope N_turning_days ["deeds"] sc_turning_days := ⟨rfl, rfl, rfl, by decide +kernel, rfl, by decide +kernel, by decide +kernel⟩
theorem H_turning_days : defScope s_turning_days = sc_turning_days := rfl
abbrev s_Walk_init : Stmt := inClass (top 78) 0
abbrev N_Walk_init : List Str := ["self", "deeds", "more", "day"]
def sc_Walk_init : Scope := { kind := .function, names := [("self", .local), ("deeds", .local), ("more", .local), ("day", .local), ("sorted", .globalImplicit), ("set", .globalImplicit), ("turning_days", .globalImplicit), ("close_day", .globalImplicit)], isGenerator := false, isCoroutine := false, more := (defScope s_Walk_init).more }
theorem S_Walk_init : FnScope N_Walk_init ["self", "deeds", "more"] sc_Walk_init := ⟨rfl, rfl, rfl, by decide +kernel, rfl, by decide +kernel, by decide +kernel⟩
theorem H_Walk_init : defScope s_Walk_init = sc_Walk_init := rfl
abbrev s_Walk_leave_of : Stmt := inClass (top 78) 1
abbrev N_Walk_leave_of : List Str := ["self", "paper", "leave"]
def sc_Walk_leave_of : Scope := { kind := .function, names := [("self", .local), ("paper", .local), ("leave", .local)], isGenerator := false, isCoroutine := false, more := (defScope s_Walk_leave_of).more }
theorem S_Walk_leave_of : FnScope N_Walk_leave_of ["self", "paper"] sc_Walk_leave_of := ⟨rfl, rfl, rfl, by decide +kernel, rfl, by decide +kernel, by decide +kernel⟩
theorem H_Walk_leave_of : defScope s_Walk_leave_of = sc_Walk_leave_of := rfl
abbrev s_plan : Stmt := top 79
abbrev N_plan : List Str := ["deeds", "walk", "paper"]
def sc_plan : Scope := { kind := .function, names := [("deeds", .local), ("walk", .cell), ("Walk", .globalImplicit), ("tuple", .globalImplicit), ("papers", .globalImplicit)], isGenerator := false, isCoroutine := false, more := (defScope s_plan).more }
theorem S_plan : FnScope N_plan ["deeds"] sc_plan := ⟨rfl, rfl, rfl, by decide +kernel, rfl, by decide +kernel, by decide +kernel⟩
theorem H_plan : defScope s_plan = sc_plan := rfl
abbrev s_there : Stmt := top 80
abbrev N_there : List Str := ["deeds", "day", "gone", "found", "paper"]
def sc_there : Scope := { kind := .function, names := [("deeds", .local), ("day", .local), ("gone", .local), ("found", .local), ("paper", .local), ("Walk", .globalImplicit), ("papers", .globalImplicit), ("row_of", .globalImplicit), ("tuple", .globalImplicit)], isGenerator := false, isCoroutine := false, more := (defScope s_there).more }
theorem S_there : FnScope N_there ["deeds", "day"] sc_there := ⟨rfl, rfl, rfl, by decide +kernel, rfl, by decide +kernel, by decide +kernel⟩
theorem H_there : defScope s_there = sc_there := rfl
abbrev s_Going_init : Stmt := inClass (top 82) 0
abbrev N_Going_init : List Str := ["self", "met", "by_hand", "many"]
def sc_Going_init : Scope := { kind := .function, names := [("self", .local), ("met", .local), ("by_hand", .local), ("many", .local)], isGenerator := false, isCoroutine := false, more := (defScope s_Going_init).more }
theorem S_Going_init : FnScope N_Going_init ["self", "met", "by_hand", "many"] sc_Going_init := ⟨rfl, rfl, rfl, by decide +kernel, rfl, by decide +kernel, by decide +kernel⟩
theorem H_Going_init : defScope s_Going_init = sc_Going_init := rfl
abbrev s_last_turn : Stmt := top 85
abbrev N_last_turn : List Str := ["acts", "goings", "place", "found", "right", "many", "now"]
def sc_last_turn : Scope := { kind := .function, names := [("acts", .local), ("goings", .local), ("place", .local), ("found", .local), ("right", .local), ("many", .local), ("now", .local), ("range", .globalImplicit), ("len", .globalImplicit), ("is_right", .globalImplicit), ("deeds_behind", .globalImplicit)], isGenerator := false, isCoroutine := false, more := (defScope s_last_turn).more }
theorem S_last_turn : FnScope N_last_turn ["acts", "goings", "place"] sc_last_turn := ⟨rfl, rfl, rfl, by decide +kernel, rfl, by decide +kernel, by decide +kernel⟩
theorem H_last_turn : defScope s_last_turn = sc_last_turn := rfl
abbrev s_gone_by_plan : Stmt := top 87
abbrev N_gone_by_plan : List Str := ["deeds", "paper", "day", "walk", "met"]
def sc_gone_by_plan : Scope := { kind := .function, names := [("deeds", .local), ("paper", .cell), ("day", .cell), ("walk", .local), ("Walk", .globalImplicit), ("any", .globalImplicit)], isGenerator := false, isCoroutine := false, more := (defScope s_gone_by_plan).more }
theorem S_gone_by_plan : FnScope N_gone_by_plan ["deeds", "paper", "day"] sc_gone_by_plan := ⟨rfl, rfl, rfl, by decide +kernel, rfl, by decide +kernel, by decide +kernel⟩
theorem H_gone_by_plan : defScope s_gone_by_plan = sc_gone_by_plan := rfl
abbrev s_Archive_init : Stmt := inClass (top 88) 0
abbrev N_Archive_init : List Str := ["self", "day"]
def sc_Archive_init : Scope := { kind := .function, names := [("self", .local), ("day", .local), ("is_day", .globalImplicit), ("NoDay", .globalImplicit)], isGenerator := false, isCoroutine := false, more := (defScope s_Archive_init).more }
theorem S_Archive_init : FnScope N_Archive_init ["self", "day"] sc_Archive_init := ⟨rfl, rfl, rfl, by decide +kernel, rfl, by decide +kernel, by decide +kernel⟩
theorem H_Archive_init : defScope s_Archive_init = sc_Archive_init := rfl
abbrev s_Archive_present : Stmt := inClass (top 88) 1
abbrev N_Archive_present : List Str := ["self"]
def sc_Archive_present : Scope := { kind := .function, names := [("self", .local)], isGenerator := false, isCoroutine := false, more := (defScope s_Archive_present).more }
theorem S_Archive_present : FnScope N_Archive_present ["self"] sc_Archive_present := ⟨rfl, rfl, rfl, by decide +kernel, rfl, by decide +kernel, by decide +kernel⟩
theorem H_Archive_present : defScope s_Archive_present = sc_Archive_present := rfl
abbrev s_Archive_deeds_now : Stmt := inClass (top 88) 2
abbrev N_Archive_deeds_now : List Str := ["self"]
def sc_Archive_deeds_now : Scope := { kind := .function, names := [("self", .local), ("deeds_behind", .globalImplicit), ("len", .globalImplicit)], isGenerator := false, isCoroutine := false, more := (defScope s_Archive_deeds_now).more }
theorem S_Archive_deeds_now : FnScope N_Archive_deeds_now ["self"] sc_Archive_deeds_now := ⟨rfl, rfl, rfl, by decide +kernel, rfl, by decide +kernel, by decide +kernel⟩
theorem H_Archive_deeds_now : defScope s_Archive_deeds_now = sc_Archive_deeds_now := rfl
abbrev s_Archive_ask_makers : Stmt := inClass (top 88) 3
abbrev N_Archive_ask_makers : List Str := ["self", "deed", "deeds", "maker"]
def sc_Archive_ask_makers : Scope := { kind := .function, names := [("self", .local), ("deed", .local), ("deeds", .local), ("maker", .local), ("GoneMaker", .globalImplicit), ("makers", .globalImplicit), ("gone_by_plan", .globalImplicit)], isGenerator := false, isCoroutine := false, more := (defScope s_Archive_ask_makers).more }
theorem S_Archive_ask_makers : FnScope N_Archive_ask_makers ["self", "deed"] sc_Archive_ask_makers := ⟨rfl, rfl, rfl, by decide +kernel, rfl, by decide +kernel, by decide +kernel⟩
theorem H_Archive_ask_makers : defScope s_Archive_ask_makers = sc_Archive_ask_makers := rfl
abbrev s_Archive_enter : Stmt := inClass (top 88) 4
abbrev N_Archive_enter : List Str := ["self", "deed", "known", "number"]
def sc_Archive_enter : Scope := { kind := .function, names := [("self", .local), ("deed", .local), ("known", .local), ("number", .local), ("is_deed", .globalImplicit), ("NoDeed", .globalImplicit), ("known_behind", .globalImplicit), ("len", .globalImplicit), ("sorted", .globalImplicit), ("quarrel", .globalImplicit), ("Twice", .globalImplicit), ("Act", .globalImplicit)], isGenerator := false, isCoroutine := false, more := (defScope s_Archive_enter).more }
theorem S_Archive_enter : FnScope N_Archive_enter ["self", "deed"] sc_Archive_enter := ⟨rfl, rfl, rfl, by decide +kernel, rfl, by decide +kernel, by decide +kernel⟩
theorem H_Archive_enter : defScope s_Archive_enter = sc_Archive_enter := rfl
abbrev s_Archive_keep_going : Stmt := inClass (top 88) 6
abbrev N_Archive_keep_going : List Str := ["self", "met", "by_hand"]
def sc_Archive_keep_going : Scope := { kind := .function, names := [("self", .local), ("met", .local), ("by_hand", .local), ("Going", .globalImplicit), ("len", .globalImplicit)], isGenerator := false, isCoroutine := false, more := (defScope s_Archive_keep_going).more }
theorem S_Archive_keep_going : FnScope N_Archive_keep_going ["self", "met", "by_hand"] sc_Archive_keep_going := ⟨rfl, rfl, rfl, by decide +kernel, rfl, by decide +kernel, by decide +kernel⟩
theorem H_Archive_keep_going : defScope s_Archive_keep_going = sc_Archive_keep_going := rfl
abbrev s_Archive_close : Stmt := inClass (top 88) 7
abbrev N_Archive_close : List Str := ["self", "day", "met"]
def sc_Archive_close : Scope := { kind := .function, names := [("self", .local), ("day", .local), ("met", .local), ("close_day", .globalImplicit)], isGenerator := false, isCoroutine := false, more := (defScope s_Archive_close).more }
theorem S_Archive_close : FnScope N_Archive_close ["self", "day"] sc_Archive_close := ⟨rfl, rfl, rfl, by decide +kernel, rfl, by decide +kernel, by decide +kernel⟩
theorem H_Archive_close : defScope s_Archive_close = sc_Archive_close := rfl
abbrev s_Archive_turn : Stmt := inClass (top 88) 8
abbrev N_Archive_turn : List Str := ["self", "day", "other"]
def sc_Archive_turn : Scope := { kind := .function, names := [("self", .local), ("day", .local), ("other", .local), ("is_day", .globalImplicit), ("NoDay", .globalImplicit), ("turning_days", .globalImplicit)], isGenerator := false, isCoroutine := false, more := (defScope s_Archive_turn).more }
theorem S_Archive_turn : FnScope N_Archive_turn ["self", "day"] sc_Archive_turn := ⟨rfl, rfl, rfl, by decide +kernel, rfl, by decide +kernel, by decide +kernel⟩
theorem H_Archive_turn : defScope s_Archive_turn = sc_Archive_turn := rfl
abbrev s_Archive_there : Stmt := inClass (top 88) 9
abbrev N_Archive_there : List Str := ["self", "deeds", "found", "paper"]
def sc_Archive_there : Scope := { kind := .function, names := [("self", .local), ("deeds", .local), ("found", .local), ("paper", .local), ("papers", .globalImplicit), ("row_of", .globalImplicit), ("tuple", .globalImplicit)], isGenerator := false, isCoroutine := false, more := (defScope s_Archive_there).more }
theorem S_Archive_there : FnScope N_Archive_there ["self"] sc_Archive_there := ⟨rfl, rfl, rfl, by decide +kernel, rfl, by decide +kernel, by decide +kernel⟩
theorem H_Archive_there : defScope s_Archive_there = sc_Archive_there := rfl
abbrev s_Archive_done : Stmt := inClass (top 88) 12
abbrev N_Archive_done : List Str := ["self", "going"]
def sc_Archive_done : Scope := { kind := .function, names := [("self", .local), ("tuple", .globalImplicit)], isGenerator := false, isCoroutine := false, more := (defScope s_Archive_done).more }
theorem S_Archive_done : FnScope N_Archive_done ["self"] sc_Archive_done := ⟨rfl, rfl, rfl, by decide +kernel, rfl, by decide +kernel, by decide +kernel⟩
theorem H_Archive_done : defScope s_Archive_done = sc_Archive_done := rfl
abbrev s_Archive_wrong : Stmt := inClass (top 88) 13
abbrev N_Archive_wrong : List Str := ["self", "found", "place", "act"]
def sc_Archive_wrong : Scope := { kind := .function, names := [("self", .local), ("found", .local), ("place", .local), ("act", .local), ("range", .globalImplicit), ("len", .globalImplicit), ("last_turn", .globalImplicit), ("tuple", .globalImplicit)], isGenerator := false, isCoroutine := false, more := (defScope s_Archive_wrong).more }
theorem S_Archive_wrong : FnScope N_Archive_wrong ["self"] sc_Archive_wrong := ⟨rfl, rfl, rfl, by decide +kernel, rfl, by decide +kernel, by decide +kernel⟩
theorem H_Archive_wrong : defScope s_Archive_wrong = sc_Archive_wrong := rfl
abbrev s__law_cell : Stmt := top 90
abbrev N__law_cell : List Str := ["_law_script", "_law_k", "_law_state", "_law_cell_here"]
def sc__law_cell : Scope := { kind := .function, names := [("_law_script", .local), ("_law_k", .local), ("_law_state", .local), ("_law_cell_here", .local), ("len", .globalImplicit)], isGenerator := false, isCoroutine := false, more := (defScope s__law_cell).more }
theorem S__law_cell : FnScope N__law_cell ["_law_script", "_law_k"] sc__law_cell := ⟨rfl, rfl, rfl, by decide +kernel, rfl, by decide +kernel, by decide +kernel⟩
theorem H__law_cell : defScope s__law_cell = sc__law_cell := rfl
abbrev s__law_numbers : Stmt := top 91
abbrev N__law_numbers : List Str := ["_law_cell_here", "_law_many", "_law_found", "_law_state", "_law_digits", "_law_k"]
def sc__law_numbers : Scope := { kind := .function, names := [("_law_cell_here", .local), ("_law_many", .local), ("_law_found", .local), ("_law_state", .local), ("_law_digits", .local), ("_law_k", .local), ("abs", .globalImplicit), ("range", .globalImplicit), ("int", .globalImplicit)], isGenerator := false, isCoroutine := false, more := (defScope s__law_numbers).more }
theorem S__law_numbers : FnScope N__law_numbers ["_law_cell_here", "_law_many"] sc__law_numbers := ⟨rfl, rfl, rfl, by decide +kernel, rfl, by decide +kernel, by decide +kernel⟩
theorem H__law_numbers : defScope s__law_numbers = sc__law_numbers := rfl
abbrev s__law_pool : Stmt := top 92
abbrev N__law_pool : List Str := ["_law_x", "_law_many", "_law_letters", "_law_words", "_law_size", "_law_at", "_law_stem", "_law_ends", "_law_k", "_law_one"]
def sc__law_pool : Scope := { kind := .function, names := [("_law_x", .cell), ("_law_many", .local), ("_law_letters", .cell), ("_law_words", .cell), ("_law_size", .cell), ("_law_at", .cell), ("_law_stem", .cell), ("_law_ends", .local), ("range", .globalImplicit)], isGenerator := false, isCoroutine := false, more := (defScope s__law_pool).more }
theorem S__law_pool : FnScope N__law_pool ["_law_x", "_law_many"] sc__law_pool := ⟨rfl, rfl, rfl, by decide +kernel, rfl, by decide +kernel, by decide +kernel⟩
theorem H__law_pool : defScope s__law_pool = sc__law_pool := rfl
abbrev s__law_first : Stmt := top 93
abbrev N__law_first : List Str := ["_law_year", "_law_past"]
def sc__law_first : Scope := { kind := .function, names := [("_law_year", .local), ("_law_past", .local)], isGenerator := false, isCoroutine := false, more := (defScope s__law_first).more }
theorem S__law_first : FnScope N__law_first ["_law_year"] sc__law_first := ⟨rfl, rfl, rfl, by decide +kernel, rfl, by decide +kernel, by decide +kernel⟩
theorem H__law_first : defScope s__law_first = sc__law_first := rfl
abbrev s__law_lengths : Stmt := top 94
abbrev N__law_lengths : List Str := ["_law_year", "_law_leap"]
def sc__law_lengths : Scope := { kind := .function, names := [("_law_year", .local), ("_law_leap", .local), ("int", .globalImplicit)], isGenerator := false, isCoroutine := false, more := (defScope s__law_lengths).more }
theorem S__law_lengths : FnScope N__law_lengths ["_law_year"] sc__law_lengths := ⟨rfl, rfl, rfl, by decide +kernel, rfl, by decide +kernel, by decide +kernel⟩
theorem H__law_lengths : defScope s__law_lengths = sc__law_lengths := rfl
abbrev s__law_day : Stmt := top 95
abbrev N__law_day : List Str := ["_law_x", "_law_far_here", "_law_month", "_law_ahead"]
def sc__law_day : Scope := { kind := .function, names := [("_law_x", .local), ("_law_far_here", .local), ("_law_month", .local), ("_law_ahead", .local), ("_law_first", .globalImplicit), ("sum", .globalImplicit), ("_law_lengths", .globalImplicit), ("max", .globalImplicit)], isGenerator := false, isCoroutine := false, more := (defScope s__law_day).more }
theorem S__law_day : FnScope N__law_day ["_law_x", "_law_far_here"] sc__law_day := ⟨rfl, rfl, rfl, by decide +kernel, rfl, by decide +kernel, by decide +kernel⟩
theorem H__law_day : defScope s__law_day = sc__law_day := rfl
abbrev s__law_since : Stmt := top 96
abbrev N__law_since : List Str := ["_law_x", "_law_words"]
def sc__law_since : Scope := { kind := .function, names := [("_law_x", .local), ("_law_words", .local)], isGenerator := false, isCoroutine := false, more := (defScope s__law_since).more }
theorem S__law_since : FnScope N__law_since ["_law_x", "_law_words"] sc__law_since := ⟨rfl, rfl, rfl, by decide +kernel, rfl, by decide +kernel, by decide +kernel⟩
theorem H__law_since : defScope s__law_since = sc__law_since := rfl
abbrev s__law_parts : Stmt := top 97
abbrev N__law_parts : List Str := ["_law_xs", "_law_kinds", "_law_words", "_law_far_here", "_law_kind", "_law_sort", "_law_unit", "_law_many"]
def sc__law_parts : Scope := { kind := .function, names := [("_law_xs", .local), ("_law_kinds", .local), ("_law_words", .local), ("_law_far_here", .local), ("_law_kind", .local), ("_law_sort", .local), ("_law_unit", .local), ("_law_many", .local), ("len", .globalImplicit), ("int", .globalImplicit), ("_law_since", .globalImplicit)], isGenerator := false, isCoroutine := false, more := (defScope s__law_parts).more }
theorem S__law_parts : FnScope N__law_parts ["_law_xs", "_law_kinds", "_law_words", "_law_far_here"] sc__law_parts := ⟨rfl, rfl, rfl, by decide +kernel, rfl, by decide +kernel, by decide +kernel⟩
theorem H__law_parts : defScope s__law_parts = sc__law_parts := rfl
abbrev s__law_quarrel : Stmt := top 98
abbrev N__law_quarrel : List Str := ["_law_one", "_law_other"]
def sc__law_quarrel : Scope := { kind := .function, names := [("_law_one", .local), ("_law_other", .local)], isGenerator := false, isCoroutine := false, more := (defScope s__law_quarrel).more }
theorem S__law_quarrel : FnScope N__law_quarrel ["_law_one", "_law_other"] sc__law_quarrel := ⟨rfl, rfl, rfl, by decide +kernel, rfl, by decide +kernel, by decide +kernel⟩
theorem H__law_quarrel : defScope s__law_quarrel = sc__law_quarrel := rfl
abbrev s__law_deed : Stmt := top 99
abbrev N__law_deed : List Str := ["_law_sort", "_law_xs", "_law_pools_here", "_law_far_here", "_law_names", "_law_kinds", "_law_words", "_law_rules", "_law_day_here", "_law_some", "_law_target", "_law_k"]
def sc__law_deed : Scope := { kind := .function, names := [("_law_sort", .local), ("_law_xs", .cell), ("_law_pools_here", .local), ("_law_far_here", .local), ("_law_names", .cell), ("_law_kinds", .local), ("_law_words", .local), ("_law_rules", .local), ("_law_day_here", .local), ("_law_some", .local), ("_law_target", .local), ("_law_day", .globalImplicit), ("range", .globalImplicit), ("len", .globalImplicit), ("tuple", .globalImplicit), ("sorted", .globalImplicit), ("_law_parts", .globalImplicit), ("int", .globalImplicit)], isGenerator := false, isCoroutine := false, more := (defScope s__law_deed).more }
theorem S__law_deed : FnScope N__law_deed ["_law_sort", "_law_xs", "_law_pools_here", "_law_far_here"] sc__law_deed := ⟨rfl, rfl, rfl, by decide +kernel, rfl, by decide +kernel, by decide +kernel⟩
theorem H__law_deed : defScope s__law_deed = sc__law_deed := rfl
abbrev s__law_pools : Stmt := top 100
abbrev N__law_pools : List Str := ["_law_x", "_law_names"]
def sc__law_pools : Scope := { kind := .function, names := [("_law_x", .local), ("_law_names", .local), ("_law_pool", .globalImplicit)], isGenerator := false, isCoroutine := false, more := (defScope s__law_pools).more }
theorem S__law_pools : FnScope N__law_pools ["_law_x"] sc__law_pools := ⟨rfl, rfl, rfl, by decide +kernel, rfl, by decide +kernel, by decide +kernel⟩
theorem H__law_pools : defScope s__law_pools = sc__law_pools := rfl
abbrev s__law_sorts : Stmt := top 101
abbrev N__law_sorts : List Str := ["_law_found"]
def sc__law_sorts : Scope := { kind := .function, names := [("_law_found", .local)], isGenerator := false, isCoroutine := false, more := (defScope s__law_sorts).more }
theorem S__law_sorts : FnScope N__law_sorts [] sc__law_sorts := ⟨rfl, rfl, rfl, by decide +kernel, rfl, by decide +kernel, by decide +kernel⟩
theorem H__law_sorts : defScope s__law_sorts = sc__law_sorts := rfl
abbrev s__law_deeds : Stmt := top 102
abbrev N__law_deeds : List Str := ["_law_script", "_law_at", "_law_far_here", "_law_head", "_law_pools_here", "_law_found", "_law_k", "_law_sort", "_law_xs", "_law_deed_here", "_law_turn", "_law_other"]
def sc__law_deeds : Scope := { kind := .function, names := [("_law_script", .local), ("_law_at", .local), ("_law_far_here", .local), ("_law_head", .local), ("_law_pools_here", .local), ("_law_found", .local), ("_law_k", .local), ("_law_sort", .local), ("_law_xs", .local), ("_law_deed_here", .cell), ("_law_turn", .local), ("_law_numbers", .globalImplicit), ("_law_cell", .globalImplicit), ("_law_pools", .globalImplicit), ("enumerate", .globalImplicit), ("_law_sorts", .globalImplicit), ("_law_deed", .globalImplicit), ("any", .globalImplicit), ("len", .globalImplicit), ("tuple", .globalImplicit)], isGenerator := false, isCoroutine := false, more := (defScope s__law_deeds).more }
theorem S__law_deeds : FnScope N__law_deeds ["_law_script", "_law_at", "_law_far_here"] sc__law_deeds := ⟨rfl, rfl, rfl, by decide +kernel, rfl, by decide +kernel, by decide +kernel⟩
theorem H__law_deeds : defScope s__law_deeds = sc__law_deeds := rfl
abbrev s__law_row : Stmt := top 103
abbrev N__law_row : List Str := ["_law_deeds_here", "_law_name", "_law_deed_here"]
def sc__law_row : Scope := { kind := .function, names := [("_law_deeds_here", .local), ("_law_name", .local), ("_law_deed_here", .local)], isGenerator := false, isCoroutine := false, more := (defScope s__law_row).more }
theorem S__law_row : FnScope N__law_row ["_law_deeds_here", "_law_name"] sc__law_row := ⟨rfl, rfl, rfl, by decide +kernel, rfl, by decide +kernel, by decide +kernel⟩
theorem H__law_row : defScope s__law_row = sc__law_row := rfl
abbrev s__law_order : Stmt := top 104
abbrev N__law_order : List Str := ["_law_deeds_here", "_law_day_here", "_law_name", "_law_deed_here"]
def sc__law_order : Scope := { kind := .function, names := [("_law_deeds_here", .local), ("sorted", .globalImplicit)], isGenerator := false, isCoroutine := false, more := (defScope s__law_order).more }
theorem S__law_order : FnScope N__law_order ["_law_deeds_here"] sc__law_order := ⟨rfl, rfl, rfl, by decide +kernel, rfl, by decide +kernel, by decide +kernel⟩
theorem H__law_order : defScope s__law_order = sc__law_order := rfl
abbrev s__law_far : Stmt := top 105
abbrev N__law_far : List Str := ["_law_script", "_law_at"]
def sc__law_far : Scope := { kind := .function, names := [("_law_script", .local), ("_law_at", .local), ("_law_numbers", .globalImplicit), ("_law_cell", .globalImplicit)], isGenerator := false, isCoroutine := false, more := (defScope s__law_far).more }
theorem S__law_far : FnScope N__law_far ["_law_script", "_law_at"] sc__law_far := ⟨rfl, rfl, rfl, by decide +kernel, rfl, by decide +kernel, by decide +kernel⟩
theorem H__law_far : defScope s__law_far = sc__law_far := rfl
abbrev s__law_entered : Stmt := top 106
abbrev N__law_entered : List Str := ["_law_archive", "_law_deeds_here", "_law_deed_here"]
def sc__law_entered : Scope := { kind := .function, names := [("_law_archive", .local), ("_law_deeds_here", .local), ("_law_deed_here", .local), ("GoneMaker", .globalImplicit)], isGenerator := false, isCoroutine := false, more := (defScope s__law_entered).more }
theorem S__law_entered : FnScope N__law_entered ["_law_archive", "_law_deeds_here"] sc__law_entered := ⟨rfl, rfl, rfl, by decide +kernel, rfl, by decide +kernel, by decide +kernel⟩
theorem H__law_entered : defScope s__law_entered = sc__law_entered := rfl
abbrev s__law_right : Stmt := top 107
abbrev N__law_right : List Str := ["_law_archive", "_law_deeds_here", "_law_rows", "_law_day_here", "_law_due", "_law_gone", "_law_come", "_law_row_here", "_law_at", "_law_place", "_law_name"]
def sc__law_right : Scope := { kind := .function, names := [("_law_archive", .local), ("_law_deeds_here", .cell), ("_law_rows", .local), ("_law_day_here", .cell), ("_law_due", .local), ("_law_gone", .cell), ("_law_come", .cell), ("tuple", .globalImplicit), ("sorted", .globalImplicit), ("_law_order", .globalImplicit), ("all", .globalImplicit), ("there", .globalImplicit)], isGenerator := false, isCoroutine := false, more := (defScope s__law_right).more }
theorem S__law_right : FnScope N__law_right ["_law_archive", "_law_deeds_here", "_law_rows"] sc__law_right := ⟨rfl, rfl, rfl, by decide +kernel, rfl, by decide +kernel, by decide +kernel⟩
theorem H__law_right : defScope s__law_right = sc__law_right := rfl
abbrev s_law : Stmt := top 108
abbrev N_law : List Str := ["_law_script", "_law_far_here", "_law_deeds_here", "_law_days", "_law_archive", "_law_rows", "_law_step", "_law_day_here", "_law_deed_here"]
def sc_law : Scope := { kind := .function, names := [("_law_script", .local), ("_law_far_here", .local), ("_law_deeds_here", .local), ("_law_days", .local), ("_law_archive", .local), ("_law_rows", .local), ("_law_step", .local), ("_law_day_here", .local), ("_law_far", .globalImplicit), ("_law_deeds", .globalImplicit), ("Archive", .globalImplicit), ("min", .globalImplicit), ("_law_numbers", .globalImplicit), ("_law_cell", .globalImplicit), ("_law_entered", .globalImplicit), ("plan", .globalImplicit), ("_law_right", .globalImplicit), ("int", .globalImplicit)], isGenerator := false, isCoroutine := false, more := (defScope s_law).more }
theorem S_law : FnScope N_law ["_law_script"] sc_law := ⟨rfl, rfl, rfl, by decide +kernel, rfl, by decide +kernel, by decide +kernel⟩
theorem H_law : defScope s_law = sc_law := rfl
end G
/-! What the top leaves, by names: printed by gen_txt.py. -/
namespace G
open PySem PySem.Spec PyProof.Rows L2 He
def d_Act_init : DefD := ⟨("Act", some "__init__"), "__init__", "Act.__init__", defArgs s_Act_init, defBody s_Act_init, defScope s_Act_init, [], []⟩
def d_known_behind : DefD := ⟨("known_behind", none), "known_behind", "known_behind", defArgs s_known_behind, defBody s_known_behind, defScope s_known_behind, [], []⟩
def d_deeds_behind : DefD := ⟨("deeds_behind", none), "deeds_behind", "deeds_behind", defArgs s_deeds_behind, defBody s_deeds_behind, defScope s_deeds_behind, [], []⟩
def d_Twice_init : DefD := ⟨("Twice", some "__init__"), "__init__", "Twice.__init__", defArgs s_Twice_init, defBody s_Twice_init, defScope s_Twice_init, [], []⟩
def d_GoneMaker_init : DefD := ⟨("GoneMaker", some "__init__"), "__init__", "GoneMaker.__init__", defArgs s_GoneMaker_init, defBody s_GoneMaker_init, defScope s_GoneMaker_init, [], []⟩
def d_is_whole : DefD := ⟨("is_whole", none), "is_whole", "is_whole", defArgs s_is_whole, defBody s_is_whole, defScope s_is_whole, [], []⟩
def d_is_day : DefD := ⟨("is_day", none), "is_day", "is_day", defArgs s_is_day, defBody s_is_day, defScope s_is_day, [], []⟩
def d_is_long : DefD := ⟨("is_long", none), "is_long", "is_long", defArgs s_is_long, defBody s_is_long, defScope s_is_long, [], []⟩
def d_length_of : DefD := ⟨("length_of", none), "length_of", "length_of", defArgs s_length_of, defBody s_length_of, defScope s_length_of, [], []⟩
def d_long_years : DefD := ⟨("long_years", none), "long_years", "long_years", defArgs s_long_years, defBody s_long_years, defScope s_long_years, [], []⟩
def d_days_ahead : DefD := ⟨("days_ahead", none), "days_ahead", "days_ahead", defArgs s_days_ahead, defBody s_days_ahead, defScope s_days_ahead, [], []⟩
def d_day_at : DefD := ⟨("day_at", none), "day_at", "day_at", defArgs s_day_at, defBody s_day_at, defScope s_day_at, [], []⟩
def d_date_of : DefD := ⟨("date_of", none), "date_of", "date_of", defArgs s_date_of, defBody s_date_of, defScope s_date_of, [], []⟩
def d_later : DefD := ⟨("later", none), "later", "later", defArgs s_later, defBody s_later, defScope s_later, [], []⟩
def d_is_name : DefD := ⟨("is_name", none), "is_name", "is_name", defArgs s_is_name, defBody s_is_name, defScope s_is_name, [], []⟩
def d_is_since : DefD := ⟨("is_since", none), "is_since", "is_since", defArgs s_is_since, defBody s_is_since, defScope s_is_since, [], []⟩
def d_is_span_told : DefD := ⟨("is_span_told", none), "is_span_told", "is_span_told", defArgs s_is_span_told, defBody s_is_span_told, defScope s_is_span_told, [], []⟩
def d_is_rule : DefD := ⟨("is_rule", none), "is_rule", "is_rule", defArgs s_is_rule, defBody s_is_rule, defScope s_is_rule, [], []⟩
def d_are_makers : DefD := ⟨("are_makers", none), "are_makers", "are_makers", defArgs s_are_makers, defBody s_are_makers, defScope s_are_makers, [], []⟩
def d_is_aim : DefD := ⟨("is_aim", none), "is_aim", "is_aim", defArgs s_is_aim, defBody s_is_aim, defScope s_is_aim, [], []⟩
def d_fits_form : DefD := ⟨("fits_form", none), "fits_form", "fits_form", defArgs s_fits_form, defBody s_fits_form, defScope s_fits_form, [], []⟩
def d_is_deed : DefD := ⟨("is_deed", none), "is_deed", "is_deed", defArgs s_is_deed, defBody s_is_deed, defScope s_is_deed, [], []⟩
def d_quarrel : DefD := ⟨("quarrel", none), "quarrel", "quarrel", defArgs s_quarrel, defBody s_quarrel, defScope s_quarrel, [], []⟩
def d_papers : DefD := ⟨("papers", none), "papers", "papers", defArgs s_papers, defBody s_papers, defScope s_papers, [], []⟩
def d_row_of : DefD := ⟨("row_of", none), "row_of", "row_of", defArgs s_row_of, defBody s_row_of, defScope s_row_of, [], []⟩
def d_kind_of : DefD := ⟨("kind_of", none), "kind_of", "kind_of", defArgs s_kind_of, defBody s_kind_of, defScope s_kind_of, [], []⟩
def d_makers : DefD := ⟨("makers", none), "makers", "makers", defArgs s_makers, defBody s_makers, defScope s_makers, [], []⟩
def d_made_from : DefD := ⟨("made_from", none), "made_from", "made_from", defArgs s_made_from, defBody s_made_from, defScope s_made_from, [], []⟩
def d_day_of_deed : DefD := ⟨("day_of_deed", none), "day_of_deed", "day_of_deed", defArgs s_day_of_deed, defBody s_day_of_deed, defScope s_day_of_deed, [], []⟩
def d_latest : DefD := ⟨("latest", none), "latest", "latest", defArgs s_latest, defBody s_latest, defScope s_latest, [], []⟩
def d_rules_on : DefD := ⟨("rules_on", none), "rules_on", "rules_on", defArgs s_rules_on, defBody s_rules_on, defScope s_rules_on, [], []⟩
def d_holds_on : DefD := ⟨("holds_on", none), "holds_on", "holds_on", defArgs s_holds_on, defBody s_holds_on, defScope s_holds_on, [], []⟩
def d_is_target : DefD := ⟨("is_target", none), "is_target", "is_target", defArgs s_is_target, defBody s_is_target, defScope s_is_target, [], []⟩
def d_covering : DefD := ⟨("covering", none), "covering", "covering", defArgs s_covering, defBody s_covering, defScope s_covering, [], []⟩
def d_heard : DefD := ⟨("heard", none), "heard", "heard", defArgs s_heard, defBody s_heard, defScope s_heard, [], []⟩
def d_bases : DefD := ⟨("bases", none), "bases", "bases", defArgs s_bases, defBody s_bases, defScope s_bases, [], []⟩
def d_base_on : DefD := ⟨("base_on", none), "base_on", "base_on", defArgs s_base_on, defBody s_base_on, defScope s_base_on, [], []⟩
def d_reckoning : DefD := ⟨("reckoning", none), "reckoning", "reckoning", defArgs s_reckoning, defBody s_reckoning, defScope s_reckoning, [], []⟩
def d_has_gone : DefD := ⟨("has_gone", none), "has_gone", "has_gone", defArgs s_has_gone, defBody s_has_gone, defScope s_has_gone, [], []⟩
def d_first_maker : DefD := ⟨("first_maker", none), "first_maker", "first_maker", defArgs s_first_maker, defBody s_first_maker, defScope s_first_maker, [], []⟩
def d_rules_over : DefD := ⟨("rules_over", none), "rules_over", "rules_over", defArgs s_rules_over, defBody s_rules_over, defScope s_rules_over, [], []⟩
def d_stay_by : DefD := ⟨("stay_by", none), "stay_by", "stay_by", defArgs s_stay_by, defBody s_stay_by, defScope s_stay_by, [], []⟩
def d_go_by : DefD := ⟨("go_by", none), "go_by", "go_by", defArgs s_go_by, defBody s_go_by, defScope s_go_by, [], []⟩
def d_stays : DefD := ⟨("stays", none), "stays", "stays", defArgs s_stays, defBody s_stays, defScope s_stays, [], []⟩
def d_goes : DefD := ⟨("goes", none), "goes", "goes", defArgs s_goes, defBody s_goes, defScope s_goes, [], []⟩
def d_needs_leave : DefD := ⟨("needs_leave", none), "needs_leave", "needs_leave", defArgs s_needs_leave, defBody s_needs_leave, defScope s_needs_leave, [], []⟩
def d_Met_init : DefD := ⟨("Met", some "__init__"), "__init__", "Met.__init__", defArgs s_Met_init, defBody s_Met_init, defScope s_Met_init, [], []⟩
def d_Met_is_barred : DefD := ⟨("Met", some "is_barred"), "is_barred", "Met.is_barred", defArgs s_Met_is_barred, defBody s_Met_is_barred, defScope s_Met_is_barred, [], []⟩
def d_Met_is_let : DefD := ⟨("Met", some "is_let"), "is_let", "Met.is_let", defArgs s_Met_is_let, defBody s_Met_is_let, defScope s_Met_is_let, [], []⟩
def d_unused_leave : DefD := ⟨("unused_leave", none), "unused_leave", "unused_leave", defArgs s_unused_leave, defBody s_unused_leave, defScope s_unused_leave, [], []⟩
def d_look : DefD := ⟨("look", none), "look", "look", defArgs s_look, defBody s_look, defScope s_look, [], []⟩
def d_close_day : DefD := ⟨("close_day", none), "close_day", "close_day", defArgs s_close_day, defBody s_close_day, defScope s_close_day, [], []⟩
def d_reckonings : DefD := ⟨("reckonings", none), "reckonings", "reckonings", defArgs s_reckonings, defBody s_reckonings, defScope s_reckonings, [], []⟩
def d_turning_days : DefD := ⟨("turning_days", none), "turning_days", "turning_days", defArgs s_turning_days, defBody s_turning_days, defScope s_turning_days, [], []⟩
def d_Walk_init : DefD := ⟨("Walk", some "__init__"), "__init__", "Walk.__init__", defArgs s_Walk_init, defBody s_Walk_init, defScope s_Walk_init, [], []⟩
def d_Walk_leave_of : DefD := ⟨("Walk", some "leave_of"), "leave_of", "Walk.leave_of", defArgs s_Walk_leave_of, defBody s_Walk_leave_of, defScope s_Walk_leave_of, [], []⟩
def d_plan : DefD := ⟨("plan", none), "plan", "plan", defArgs s_plan, defBody s_plan, defScope s_plan, [], []⟩
def d_there : DefD := ⟨("there", none), "there", "there", defArgs s_there, defBody s_there, defScope s_there, [], []⟩
def d_Going_init : DefD := ⟨("Going", some "__init__"), "__init__", "Going.__init__", defArgs s_Going_init, defBody s_Going_init, defScope s_Going_init, [], []⟩
def d_last_turn : DefD := ⟨("last_turn", none), "last_turn", "last_turn", defArgs s_last_turn, defBody s_last_turn, defScope s_last_turn, [], []⟩
def d_gone_by_plan : DefD := ⟨("gone_by_plan", none), "gone_by_plan", "gone_by_plan", defArgs s_gone_by_plan, defBody s_gone_by_plan, defScope s_gone_by_plan, [], []⟩
def d_Archive_init : DefD := ⟨("Archive", some "__init__"), "__init__", "Archive.__init__", defArgs s_Archive_init, defBody s_Archive_init, defScope s_Archive_init, [], []⟩
def d_Archive_present : DefD := ⟨("Archive", some "present"), "present", "Archive.present", defArgs s_Archive_present, defBody s_Archive_present, defScope s_Archive_present, [], []⟩
def d_Archive_deeds_now : DefD := ⟨("Archive", some "deeds_now"), "deeds_now", "Archive.deeds_now", defArgs s_Archive_deeds_now, defBody s_Archive_deeds_now, defScope s_Archive_deeds_now, [], []⟩
def d_Archive_ask_makers : DefD := ⟨("Archive", some "ask_makers"), "ask_makers", "Archive.ask_makers", defArgs s_Archive_ask_makers, defBody s_Archive_ask_makers, defScope s_Archive_ask_makers, [], []⟩
def d_Archive_enter : DefD := ⟨("Archive", some "enter"), "enter", "Archive.enter", defArgs s_Archive_enter, defBody s_Archive_enter, defScope s_Archive_enter, [], []⟩
def d_Archive_keep_going : DefD := ⟨("Archive", some "keep_going"), "keep_going", "Archive.keep_going", defArgs s_Archive_keep_going, defBody s_Archive_keep_going, defScope s_Archive_keep_going, [], []⟩
def d_Archive_close : DefD := ⟨("Archive", some "close"), "close", "Archive.close", defArgs s_Archive_close, defBody s_Archive_close, defScope s_Archive_close, [], []⟩
def d_Archive_turn : DefD := ⟨("Archive", some "turn"), "turn", "Archive.turn", defArgs s_Archive_turn, defBody s_Archive_turn, defScope s_Archive_turn, [], []⟩
def d_Archive_there : DefD := ⟨("Archive", some "there"), "there", "Archive.there", defArgs s_Archive_there, defBody s_Archive_there, defScope s_Archive_there, [], []⟩
def d_Archive_done : DefD := ⟨("Archive", some "done"), "done", "Archive.done", defArgs s_Archive_done, defBody s_Archive_done, defScope s_Archive_done, [], []⟩
def d_Archive_wrong : DefD := ⟨("Archive", some "wrong"), "wrong", "Archive.wrong", defArgs s_Archive_wrong, defBody s_Archive_wrong, defScope s_Archive_wrong, [], []⟩
def d__law_cell : DefD := ⟨("_law_cell", none), "_law_cell", "_law_cell", defArgs s__law_cell, defBody s__law_cell, defScope s__law_cell, [], []⟩
def d__law_numbers : DefD := ⟨("_law_numbers", none), "_law_numbers", "_law_numbers", defArgs s__law_numbers, defBody s__law_numbers, defScope s__law_numbers, [], []⟩
def d__law_pool : DefD := ⟨("_law_pool", none), "_law_pool", "_law_pool", defArgs s__law_pool, defBody s__law_pool, defScope s__law_pool, [], []⟩
def d__law_first : DefD := ⟨("_law_first", none), "_law_first", "_law_first", defArgs s__law_first, defBody s__law_first, defScope s__law_first, [], []⟩
def d__law_lengths : DefD := ⟨("_law_lengths", none), "_law_lengths", "_law_lengths", defArgs s__law_lengths, defBody s__law_lengths, defScope s__law_lengths, [], []⟩
def d__law_day : DefD := ⟨("_law_day", none), "_law_day", "_law_day", defArgs s__law_day, defBody s__law_day, defScope s__law_day, [], []⟩
def d__law_since : DefD := ⟨("_law_since", none), "_law_since", "_law_since", defArgs s__law_since, defBody s__law_since, defScope s__law_since, [], []⟩
def d__law_parts : DefD := ⟨("_law_parts", none), "_law_parts", "_law_parts", defArgs s__law_parts, defBody s__law_parts, defScope s__law_parts, [], []⟩
def d__law_quarrel : DefD := ⟨("_law_quarrel", none), "_law_quarrel", "_law_quarrel", defArgs s__law_quarrel, defBody s__law_quarrel, defScope s__law_quarrel, [], []⟩
def d__law_deed : DefD := ⟨("_law_deed", none), "_law_deed", "_law_deed", defArgs s__law_deed, defBody s__law_deed, defScope s__law_deed, [], []⟩
def d__law_pools : DefD := ⟨("_law_pools", none), "_law_pools", "_law_pools", defArgs s__law_pools, defBody s__law_pools, defScope s__law_pools, [], []⟩
def d__law_sorts : DefD := ⟨("_law_sorts", none), "_law_sorts", "_law_sorts", defArgs s__law_sorts, defBody s__law_sorts, defScope s__law_sorts, [], []⟩
def d__law_deeds : DefD := ⟨("_law_deeds", none), "_law_deeds", "_law_deeds", defArgs s__law_deeds, defBody s__law_deeds, defScope s__law_deeds, [], []⟩
def d__law_row : DefD := ⟨("_law_row", none), "_law_row", "_law_row", defArgs s__law_row, defBody s__law_row, defScope s__law_row, [], []⟩
def d__law_order : DefD := ⟨("_law_order", none), "_law_order", "_law_order", defArgs s__law_order, defBody s__law_order, defScope s__law_order, [], []⟩
def d__law_far : DefD := ⟨("_law_far", none), "_law_far", "_law_far", defArgs s__law_far, defBody s__law_far, defScope s__law_far, [], []⟩
def d__law_entered : DefD := ⟨("_law_entered", none), "_law_entered", "_law_entered", defArgs s__law_entered, defBody s__law_entered, defScope s__law_entered, [], []⟩
def d__law_right : DefD := ⟨("_law_right", none), "_law_right", "_law_right", defArgs s__law_right, defBody s__law_right, defScope s__law_right, [], []⟩
def d_law : DefD := ⟨("law", none), "law", "law", defArgs s_law, defBody s_law, defScope s_law, [], []⟩
def fn : List DefD := [d_Act_init, d_known_behind, d_deeds_behind, d_Twice_init, d_GoneMaker_init, d_is_whole, d_is_day, d_is_long, d_length_of, d_long_years, d_days_ahead, d_day_at, d_date_of, d_later, d_is_name, d_is_since, d_is_span_told, d_is_rule, d_are_makers, d_is_aim, d_fits_form, d_is_deed, d_quarrel, d_papers, d_row_of, d_kind_of, d_makers, d_made_from, d_day_of_deed, d_latest, d_rules_on, d_holds_on, d_is_target, d_covering, d_heard, d_bases, d_base_on, d_reckoning, d_has_gone, d_first_maker, d_rules_over, d_stay_by, d_go_by, d_stays, d_goes, d_needs_leave, d_Met_init, d_Met_is_barred, d_Met_is_let, d_unused_leave, d_look, d_close_day, d_reckonings, d_turning_days, d_Walk_init, d_Walk_leave_of, d_plan, d_there, d_Going_init, d_last_turn, d_gone_by_plan, d_Archive_init, d_Archive_present, d_Archive_deeds_now, d_Archive_ask_makers, d_Archive_enter, d_Archive_keep_going, d_Archive_close, d_Archive_turn, d_Archive_there, d_Archive_done, d_Archive_wrong, d__law_cell, d__law_numbers, d__law_pool, d__law_first, d__law_lengths, d__law_day, d__law_since, d__law_parts, d__law_quarrel, d__law_deed, d__law_pools, d__law_sorts, d__law_deeds, d__law_row, d__law_order, d__law_far, d__law_entered, d__law_right, d_law]
def fa0 : List Fa := [.glo "known_behind", .glo "deeds_behind", .glo "is_whole", .glo "is_day", .glo "is_long", .glo "length_of", .glo "long_years", .glo "days_ahead", .glo "day_at", .glo "date_of", .glo "later", .glo "is_name", .glo "is_since", .glo "is_span_told", .glo "is_rule", .glo "are_makers", .glo "is_aim", .glo "fits_form", .glo "is_deed", .glo "quarrel", .glo "papers", .glo "row_of", .glo "kind_of", .glo "makers", .glo "made_from", .glo "day_of_deed", .glo "latest", .glo "rules_on", .glo "holds_on", .glo "is_target", .glo "covering", .glo "heard", .glo "bases", .glo "base_on", .glo "reckoning", .glo "has_gone", .glo "first_maker", .glo "rules_over", .glo "stay_by", .glo "go_by"]
def fa1 : List Fa := [.glo "stays", .glo "goes", .glo "needs_leave", .glo "unused_leave", .glo "look", .glo "close_day", .glo "reckonings", .glo "turning_days", .glo "plan", .glo "there", .glo "last_turn", .glo "gone_by_plan", .glo "_law_cell", .glo "_law_numbers", .glo "_law_pool", .glo "_law_first", .glo "_law_lengths", .glo "_law_day", .glo "_law_since", .glo "_law_parts", .glo "_law_quarrel", .glo "_law_deed", .glo "_law_pools", .glo "_law_sorts", .glo "_law_deeds", .glo "_law_row", .glo "_law_order", .glo "_law_far", .glo "_law_entered", .glo "_law_right", .glo "law", .free "len", .free "sorted", .free "tuple", .free "enumerate", .free "isinstance", .free "sum", .free "range", .free "min", .free "any"]
def fa2 : List Fa := [.free "all", .free "zip", .free "set", .free "int", .free "abs", .free "max", .free "bool", .free "str", .int "FIRST_YEAR" 2000, .int "LAST_DAY" 99999, .int "MOST_LETTERS" 8, .int "MOST_MANY" 999, .int "MOST_MAKERS" 4, .str "LETTERS" "abcdefghijklmnopqrstuvwxyz", .glo "Act", .cls "Act", .mkr "Act", .noat "Act" "day", .noat "Act" "deed", .noat "Act" "struck", .glo "Met", .cls "Met", .mkr "Met", .meth "Met" "is_barred", .meth "Met" "is_let", .noat "Met" "day", .noat "Met" "paper", .noat "Met" "stay", .noat "Met" "leaving", .noat "Met" "covers", .noat "Met" "lacks", .noat "Met" "leave", .glo "Walk", .cls "Walk", .mkr "Walk", .meth "Walk" "leave_of", .noat "Walk" "deeds", .noat "Walk" "gone", .noat "Walk" "used", .noat "Walk" "met"]
def fa3 : List Fa := [.glo "Going", .cls "Going", .mkr "Going", .noat "Going" "paper", .noat "Going" "day", .noat "Going" "leave", .noat "Going" "by_hand", .noat "Going" "many", .glo "Archive", .cls "Archive", .mkr "Archive", .meth "Archive" "present", .meth "Archive" "deeds_now", .meth "Archive" "ask_makers", .meth "Archive" "enter", .meth "Archive" "keep_going", .meth "Archive" "close", .meth "Archive" "turn", .meth "Archive" "there", .meth "Archive" "done", .meth "Archive" "wrong", .noat "Archive" "first", .noat "Archive" "today", .noat "Archive" "acts", .noat "Archive" "gone", .noat "Archive" "used", .noat "Archive" "goings", .glo "LENGTHS", .glo "UNITS", .glo "TURNED", .glo "FORMS", .glo "GoneMaker", .glo "ArchiveError"]
def fa : List Fa := fa0 ++ fa1 ++ fa2 ++ fa3
/-- a nested table of texts: the tuple at a is of these tuples -/
def tupAt (K : PySem.W.Frag) (a : Addr) (vs : List V) : Bool := match K.lookup a with
  | some ⟨.type c, _, .seq its _, _⟩ => decide (c = "tuple") && (decide (its.size ≤ sizeLine) && relAll vs its.toList)
  | _ => false
def itAt (a : Addr) (i : Nat) (K : PySem.W.Frag) : Addr := match K.lookup a with
  | some ⟨_, _, .seq its _, _⟩ => (match its.toList[i]? with
    | some (.ref b) => b
    | _ => 0)
  | _ => 0
def tA (K : PySem.W.Frag) : Addr := itAt (ga K "TURNED") 0 K
def tB' (K : PySem.W.Frag) : Addr := itAt (ga K "TURNED") 1 K
def lengthsV : List V := [.int 31, .int 28, .int 31, .int 30, .int 31, .int 30, .int 31, .int 31, .int 30, .int 31, .int 30, .int 31]
def ex1 (K : PySem.W.Frag) : Bool := tupAt K (ga K "LENGTHS") lengthsV && (tupAt K (ga K "UNITS") [.str "days", .str "months", .str "years"] && (tupAt K (ga K "TURNED") [.ref (tA K), .ref (tB' K)] && (tupAt K (tA K) [.str "rule", .str "end"] && tupAt K (tB' K) [.str "hold", .str "lift"])))
theorem tupAt_ok {K : PySem.W.Frag} {a : Addr} {vs : List V} (h : tupAt K a vs = true) (H : Hp) : SqT K H a vs := by
  unfold tupAt at h
  cases q : K.lookup a with
  | none =>
    rw [q] at h
    cases h
  | some o =>
    obtain ⟨oc, od, dt, osl⟩ := o
    rw [q] at h
    cases oc with
    | type c =>
      cases dt with
      | seq its n =>
        obtain ⟨h1, h2⟩ := ba (show (decide (c = "tuple") && (decide (its.size ≤ sizeLine) && relAll vs its.toList)) = true from h)
        obtain ⟨h3, h4⟩ := ba h2
        exact .inr ⟨_, its, n, q, congrArg Value.type (of_decide_eq_true h1), rfl, of_decide_eq_true h3, relAll_ok h4⟩
      | _ => cases h
    | _ => cases dt <;> cases h
/-- the text as the top leaves it -/
structure Txt (K : PySem.W.Frag) (mg : Str → Option Value) : Prop where
  ex : ∃ h : Heap, K.In h ∧ h.Ns mainGlobals mg
  says : SaysD fa fn K
  more : ex1 K = true
section
variable {K : PySem.W.Frag} {mg : Str → Option Value}
theorem Txt.g_known_behind (T : Txt K mg) : mg "known_behind" = some (.ref (ga K "known_behind")) := let ⟨_, X, G⟩ := T.ex; glo_ok X G (T.says.fact 0 (f := .glo "known_behind") rfl)
theorem Txt.g_deeds_behind (T : Txt K mg) : mg "deeds_behind" = some (.ref (ga K "deeds_behind")) := let ⟨_, X, G⟩ := T.ex; glo_ok X G (T.says.fact 1 (f := .glo "deeds_behind") rfl)
theorem Txt.g_is_whole (T : Txt K mg) : mg "is_whole" = some (.ref (ga K "is_whole")) := let ⟨_, X, G⟩ := T.ex; glo_ok X G (T.says.fact 2 (f := .glo "is_whole") rfl)
theorem Txt.g_is_day (T : Txt K mg) : mg "is_day" = some (.ref (ga K "is_day")) := let ⟨_, X, G⟩ := T.ex; glo_ok X G (T.says.fact 3 (f := .glo "is_day") rfl)
theorem Txt.g_is_long (T : Txt K mg) : mg "is_long" = some (.ref (ga K "is_long")) := let ⟨_, X, G⟩ := T.ex; glo_ok X G (T.says.fact 4 (f := .glo "is_long") rfl)
theorem Txt.g_length_of (T : Txt K mg) : mg "length_of" = some (.ref (ga K "length_of")) := let ⟨_, X, G⟩ := T.ex; glo_ok X G (T.says.fact 5 (f := .glo "length_of") rfl)
theorem Txt.g_long_years (T : Txt K mg) : mg "long_years" = some (.ref (ga K "long_years")) := let ⟨_, X, G⟩ := T.ex; glo_ok X G (T.says.fact 6 (f := .glo "long_years") rfl)
theorem Txt.g_days_ahead (T : Txt K mg) : mg "days_ahead" = some (.ref (ga K "days_ahead")) := let ⟨_, X, G⟩ := T.ex; glo_ok X G (T.says.fact 7 (f := .glo "days_ahead") rfl)
theorem Txt.g_day_at (T : Txt K mg) : mg "day_at" = some (.ref (ga K "day_at")) := let ⟨_, X, G⟩ := T.ex; glo_ok X G (T.says.fact 8 (f := .glo "day_at") rfl)
theorem Txt.g_date_of (T : Txt K mg) : mg "date_of" = some (.ref (ga K "date_of")) := let ⟨_, X, G⟩ := T.ex; glo_ok X G (T.says.fact 9 (f := .glo "date_of") rfl)
theorem Txt.g_later (T : Txt K mg) : mg "later" = some (.ref (ga K "later")) := let ⟨_, X, G⟩ := T.ex; glo_ok X G (T.says.fact 10 (f := .glo "later") rfl)
theorem Txt.g_is_name (T : Txt K mg) : mg "is_name" = some (.ref (ga K "is_name")) := let ⟨_, X, G⟩ := T.ex; glo_ok X G (T.says.fact 11 (f := .glo "is_name") rfl)
theorem Txt.g_is_since (T : Txt K mg) : mg "is_since" = some (.ref (ga K "is_since")) := let ⟨_, X, G⟩ := T.ex; glo_ok X G (T.says.fact 12 (f := .glo "is_since") rfl)
theorem Txt.g_is_span_told (T : Txt K mg) : mg "is_span_told" = some (.ref (ga K "is_span_told")) := let ⟨_, X, G⟩ := T.ex; glo_ok X G (T.says.fact 13 (f := .glo "is_span_told") rfl)
theorem Txt.g_is_rule (T : Txt K mg) : mg "is_rule" = some (.ref (ga K "is_rule")) := let ⟨_, X, G⟩ := T.ex; glo_ok X G (T.says.fact 14 (f := .glo "is_rule") rfl)
theorem Txt.g_are_makers (T : Txt K mg) : mg "are_makers" = some (.ref (ga K "are_makers")) := let ⟨_, X, G⟩ := T.ex; glo_ok X G (T.says.fact 15 (f := .glo "are_makers") rfl)
theorem Txt.g_is_aim (T : Txt K mg) : mg "is_aim" = some (.ref (ga K "is_aim")) := let ⟨_, X, G⟩ := T.ex; glo_ok X G (T.says.fact 16 (f := .glo "is_aim") rfl)
theorem Txt.g_fits_form (T : Txt K mg) : mg "fits_form" = some (.ref (ga K "fits_form")) := let ⟨_, X, G⟩ := T.ex; glo_ok X G (T.says.fact 17 (f := .glo "fits_form") rfl)
theorem Txt.g_is_deed (T : Txt K mg) : mg "is_deed" = some (.ref (ga K "is_deed")) := let ⟨_, X, G⟩ := T.ex; glo_ok X G (T.says.fact 18 (f := .glo "is_deed") rfl)
theorem Txt.g_quarrel (T : Txt K mg) : mg "quarrel" = some (.ref (ga K "quarrel")) := let ⟨_, X, G⟩ := T.ex; glo_ok X G (T.says.fact 19 (f := .glo "quarrel") rfl)
theorem Txt.g_papers (T : Txt K mg) : mg "papers" = some (.ref (ga K "papers")) := let ⟨_, X, G⟩ := T.ex; glo_ok X G (T.says.fact 20 (f := .glo "papers") rfl)
theorem Txt.g_row_of (T : Txt K mg) : mg "row_of" = some (.ref (ga K "row_of")) := let ⟨_, X, G⟩ := T.ex; glo_ok X G (T.says.fact 21 (f := .glo "row_of") rfl)
theorem Txt.g_kind_of (T : Txt K mg) : mg "kind_of" = some (.ref (ga K "kind_of")) := let ⟨_, X, G⟩ := T.ex; glo_ok X G (T.says.fact 22 (f := .glo "kind_of") rfl)
theorem Txt.g_makers (T : Txt K mg) : mg "makers" = some (.ref (ga K "makers")) := let ⟨_, X, G⟩ := T.ex; glo_ok X G (T.says.fact 23 (f := .glo "makers") rfl)
theorem Txt.g_made_from (T : Txt K mg) : mg "made_from" = some (.ref (ga K "made_from")) := let ⟨_, X, G⟩ := T.ex; glo_ok X G (T.says.fact 24 (f := .glo "made_from") rfl)
theorem Txt.g_day_of_deed (T : Txt K mg) : mg "day_of_deed" = some (.ref (ga K "day_of_deed")) := let ⟨_, X, G⟩ := T.ex; glo_ok X G (T.says.fact 25 (f := .glo "day_of_deed") rfl)
theorem Txt.g_latest (T : Txt K mg) : mg "latest" = some (.ref (ga K "latest")) := let ⟨_, X, G⟩ := T.ex; glo_ok X G (T.says.fact 26 (f := .glo "latest") rfl)
theorem Txt.g_rules_on (T : Txt K mg) : mg "rules_on" = some (.ref (ga K "rules_on")) := let ⟨_, X, G⟩ := T.ex; glo_ok X G (T.says.fact 27 (f := .glo "rules_on") rfl)
theorem Txt.g_holds_on (T : Txt K mg) : mg "holds_on" = some (.ref (ga K "holds_on")) := let ⟨_, X, G⟩ := T.ex; glo_ok X G (T.says.fact 28 (f := .glo "holds_on") rfl)
theorem Txt.g_is_target (T : Txt K mg) : mg "is_target" = some (.ref (ga K "is_target")) := let ⟨_, X, G⟩ := T.ex; glo_ok X G (T.says.fact 29 (f := .glo "is_target") rfl)
theorem Txt.g_covering (T : Txt K mg) : mg "covering" = some (.ref (ga K "covering")) := let ⟨_, X, G⟩ := T.ex; glo_ok X G (T.says.fact 30 (f := .glo "covering") rfl)
theorem Txt.g_heard (T : Txt K mg) : mg "heard" = some (.ref (ga K "heard")) := let ⟨_, X, G⟩ := T.ex; glo_ok X G (T.says.fact 31 (f := .glo "heard") rfl)
theorem Txt.g_bases (T : Txt K mg) : mg "bases" = some (.ref (ga K "bases")) := let ⟨_, X, G⟩ := T.ex; glo_ok X G (T.says.fact 32 (f := .glo "bases") rfl)
theorem Txt.g_base_on (T : Txt K mg) : mg "base_on" = some (.ref (ga K "base_on")) := let ⟨_, X, G⟩ := T.ex; glo_ok X G (T.says.fact 33 (f := .glo "base_on") rfl)
theorem Txt.g_reckoning (T : Txt K mg) : mg "reckoning" = some (.ref (ga K "reckoning")) := let ⟨_, X, G⟩ := T.ex; glo_ok X G (T.says.fact 34 (f := .glo "reckoning") rfl)
theorem Txt.g_has_gone (T : Txt K mg) : mg "has_gone" = some (.ref (ga K "has_gone")) := let ⟨_, X, G⟩ := T.ex; glo_ok X G (T.says.fact 35 (f := .glo "has_gone") rfl)
theorem Txt.g_first_maker (T : Txt K mg) : mg "first_maker" = some (.ref (ga K "first_maker")) := let ⟨_, X, G⟩ := T.ex; glo_ok X G (T.says.fact 36 (f := .glo "first_maker") rfl)
theorem Txt.g_rules_over (T : Txt K mg) : mg "rules_over" = some (.ref (ga K "rules_over")) := let ⟨_, X, G⟩ := T.ex; glo_ok X G (T.says.fact 37 (f := .glo "rules_over") rfl)
theorem Txt.g_stay_by (T : Txt K mg) : mg "stay_by" = some (.ref (ga K "stay_by")) := let ⟨_, X, G⟩ := T.ex; glo_ok X G (T.says.fact 38 (f := .glo "stay_by") rfl)
theorem Txt.g_go_by (T : Txt K mg) : mg "go_by" = some (.ref (ga K "go_by")) := let ⟨_, X, G⟩ := T.ex; glo_ok X G (T.says.fact 39 (f := .glo "go_by") rfl)
theorem Txt.g_stays (T : Txt K mg) : mg "stays" = some (.ref (ga K "stays")) := let ⟨_, X, G⟩ := T.ex; glo_ok X G (T.says.fact 40 (f := .glo "stays") rfl)
theorem Txt.g_goes (T : Txt K mg) : mg "goes" = some (.ref (ga K "goes")) := let ⟨_, X, G⟩ := T.ex; glo_ok X G (T.says.fact 41 (f := .glo "goes") rfl)
theorem Txt.g_needs_leave (T : Txt K mg) : mg "needs_leave" = some (.ref (ga K "needs_leave")) := let ⟨_, X, G⟩ := T.ex; glo_ok X G (T.says.fact 42 (f := .glo "needs_leave") rfl)
theorem Txt.g_unused_leave (T : Txt K mg) : mg "unused_leave" = some (.ref (ga K "unused_leave")) := let ⟨_, X, G⟩ := T.ex; glo_ok X G (T.says.fact 43 (f := .glo "unused_leave") rfl)
theorem Txt.g_look (T : Txt K mg) : mg "look" = some (.ref (ga K "look")) := let ⟨_, X, G⟩ := T.ex; glo_ok X G (T.says.fact 44 (f := .glo "look") rfl)
theorem Txt.g_close_day (T : Txt K mg) : mg "close_day" = some (.ref (ga K "close_day")) := let ⟨_, X, G⟩ := T.ex; glo_ok X G (T.says.fact 45 (f := .glo "close_day") rfl)
theorem Txt.g_reckonings (T : Txt K mg) : mg "reckonings" = some (.ref (ga K "reckonings")) := let ⟨_, X, G⟩ := T.ex; glo_ok X G (T.says.fact 46 (f := .glo "reckonings") rfl)
theorem Txt.g_turning_days (T : Txt K mg) : mg "turning_days" = some (.ref (ga K "turning_days")) := let ⟨_, X, G⟩ := T.ex; glo_ok X G (T.says.fact 47 (f := .glo "turning_days") rfl)
theorem Txt.g_plan (T : Txt K mg) : mg "plan" = some (.ref (ga K "plan")) := let ⟨_, X, G⟩ := T.ex; glo_ok X G (T.says.fact 48 (f := .glo "plan") rfl)
theorem Txt.g_there (T : Txt K mg) : mg "there" = some (.ref (ga K "there")) := let ⟨_, X, G⟩ := T.ex; glo_ok X G (T.says.fact 49 (f := .glo "there") rfl)
theorem Txt.g_last_turn (T : Txt K mg) : mg "last_turn" = some (.ref (ga K "last_turn")) := let ⟨_, X, G⟩ := T.ex; glo_ok X G (T.says.fact 50 (f := .glo "last_turn") rfl)
theorem Txt.g_gone_by_plan (T : Txt K mg) : mg "gone_by_plan" = some (.ref (ga K "gone_by_plan")) := let ⟨_, X, G⟩ := T.ex; glo_ok X G (T.says.fact 51 (f := .glo "gone_by_plan") rfl)
theorem Txt.g__law_cell (T : Txt K mg) : mg "_law_cell" = some (.ref (ga K "_law_cell")) := let ⟨_, X, G⟩ := T.ex; glo_ok X G (T.says.fact 52 (f := .glo "_law_cell") rfl)
theorem Txt.g__law_numbers (T : Txt K mg) : mg "_law_numbers" = some (.ref (ga K "_law_numbers")) := let ⟨_, X, G⟩ := T.ex; glo_ok X G (T.says.fact 53 (f := .glo "_law_numbers") rfl)
theorem Txt.g__law_pool (T : Txt K mg) : mg "_law_pool" = some (.ref (ga K "_law_pool")) := let ⟨_, X, G⟩ := T.ex; glo_ok X G (T.says.fact 54 (f := .glo "_law_pool") rfl)
theorem Txt.g__law_first (T : Txt K mg) : mg "_law_first" = some (.ref (ga K "_law_first")) := let ⟨_, X, G⟩ := T.ex; glo_ok X G (T.says.fact 55 (f := .glo "_law_first") rfl)
theorem Txt.g__law_lengths (T : Txt K mg) : mg "_law_lengths" = some (.ref (ga K "_law_lengths")) := let ⟨_, X, G⟩ := T.ex; glo_ok X G (T.says.fact 56 (f := .glo "_law_lengths") rfl)
theorem Txt.g__law_day (T : Txt K mg) : mg "_law_day" = some (.ref (ga K "_law_day")) := let ⟨_, X, G⟩ := T.ex; glo_ok X G (T.says.fact 57 (f := .glo "_law_day") rfl)
theorem Txt.g__law_since (T : Txt K mg) : mg "_law_since" = some (.ref (ga K "_law_since")) := let ⟨_, X, G⟩ := T.ex; glo_ok X G (T.says.fact 58 (f := .glo "_law_since") rfl)
theorem Txt.g__law_parts (T : Txt K mg) : mg "_law_parts" = some (.ref (ga K "_law_parts")) := let ⟨_, X, G⟩ := T.ex; glo_ok X G (T.says.fact 59 (f := .glo "_law_parts") rfl)
theorem Txt.g__law_quarrel (T : Txt K mg) : mg "_law_quarrel" = some (.ref (ga K "_law_quarrel")) := let ⟨_, X, G⟩ := T.ex; glo_ok X G (T.says.fact 60 (f := .glo "_law_quarrel") rfl)
theorem Txt.g__law_deed (T : Txt K mg) : mg "_law_deed" = some (.ref (ga K "_law_deed")) := let ⟨_, X, G⟩ := T.ex; glo_ok X G (T.says.fact 61 (f := .glo "_law_deed") rfl)
theorem Txt.g__law_pools (T : Txt K mg) : mg "_law_pools" = some (.ref (ga K "_law_pools")) := let ⟨_, X, G⟩ := T.ex; glo_ok X G (T.says.fact 62 (f := .glo "_law_pools") rfl)
theorem Txt.g__law_sorts (T : Txt K mg) : mg "_law_sorts" = some (.ref (ga K "_law_sorts")) := let ⟨_, X, G⟩ := T.ex; glo_ok X G (T.says.fact 63 (f := .glo "_law_sorts") rfl)
theorem Txt.g__law_deeds (T : Txt K mg) : mg "_law_deeds" = some (.ref (ga K "_law_deeds")) := let ⟨_, X, G⟩ := T.ex; glo_ok X G (T.says.fact 64 (f := .glo "_law_deeds") rfl)
theorem Txt.g__law_row (T : Txt K mg) : mg "_law_row" = some (.ref (ga K "_law_row")) := let ⟨_, X, G⟩ := T.ex; glo_ok X G (T.says.fact 65 (f := .glo "_law_row") rfl)
theorem Txt.g__law_order (T : Txt K mg) : mg "_law_order" = some (.ref (ga K "_law_order")) := let ⟨_, X, G⟩ := T.ex; glo_ok X G (T.says.fact 66 (f := .glo "_law_order") rfl)
theorem Txt.g__law_far (T : Txt K mg) : mg "_law_far" = some (.ref (ga K "_law_far")) := let ⟨_, X, G⟩ := T.ex; glo_ok X G (T.says.fact 67 (f := .glo "_law_far") rfl)
theorem Txt.g__law_entered (T : Txt K mg) : mg "_law_entered" = some (.ref (ga K "_law_entered")) := let ⟨_, X, G⟩ := T.ex; glo_ok X G (T.says.fact 68 (f := .glo "_law_entered") rfl)
theorem Txt.g__law_right (T : Txt K mg) : mg "_law_right" = some (.ref (ga K "_law_right")) := let ⟨_, X, G⟩ := T.ex; glo_ok X G (T.says.fact 69 (f := .glo "_law_right") rfl)
theorem Txt.g_law (T : Txt K mg) : mg "law" = some (.ref (ga K "law")) := let ⟨_, X, G⟩ := T.ex; glo_ok X G (T.says.fact 70 (f := .glo "law") rfl)
theorem Txt.m_len (T : Txt K mg) : mg "len" = none := let ⟨_, X, G⟩ := T.ex; free_ok X G (T.says.fact 71 (f := .free "len") rfl)
theorem Txt.m_sorted (T : Txt K mg) : mg "sorted" = none := let ⟨_, X, G⟩ := T.ex; free_ok X G (T.says.fact 72 (f := .free "sorted") rfl)
theorem Txt.m_tuple (T : Txt K mg) : mg "tuple" = none := let ⟨_, X, G⟩ := T.ex; free_ok X G (T.says.fact 73 (f := .free "tuple") rfl)
theorem Txt.m_enumerate (T : Txt K mg) : mg "enumerate" = none := let ⟨_, X, G⟩ := T.ex; free_ok X G (T.says.fact 74 (f := .free "enumerate") rfl)
theorem Txt.m_isinstance (T : Txt K mg) : mg "isinstance" = none := let ⟨_, X, G⟩ := T.ex; free_ok X G (T.says.fact 75 (f := .free "isinstance") rfl)
theorem Txt.m_sum (T : Txt K mg) : mg "sum" = none := let ⟨_, X, G⟩ := T.ex; free_ok X G (T.says.fact 76 (f := .free "sum") rfl)
theorem Txt.m_range (T : Txt K mg) : mg "range" = none := let ⟨_, X, G⟩ := T.ex; free_ok X G (T.says.fact 77 (f := .free "range") rfl)
theorem Txt.m_min (T : Txt K mg) : mg "min" = none := let ⟨_, X, G⟩ := T.ex; free_ok X G (T.says.fact 78 (f := .free "min") rfl)
theorem Txt.m_any (T : Txt K mg) : mg "any" = none := let ⟨_, X, G⟩ := T.ex; free_ok X G (T.says.fact 79 (f := .free "any") rfl)
theorem Txt.m_all (T : Txt K mg) : mg "all" = none := let ⟨_, X, G⟩ := T.ex; free_ok X G (T.says.fact 80 (f := .free "all") rfl)
theorem Txt.m_zip (T : Txt K mg) : mg "zip" = none := let ⟨_, X, G⟩ := T.ex; free_ok X G (T.says.fact 81 (f := .free "zip") rfl)
theorem Txt.m_set (T : Txt K mg) : mg "set" = none := let ⟨_, X, G⟩ := T.ex; free_ok X G (T.says.fact 82 (f := .free "set") rfl)
theorem Txt.m_int (T : Txt K mg) : mg "int" = none := let ⟨_, X, G⟩ := T.ex; free_ok X G (T.says.fact 83 (f := .free "int") rfl)
theorem Txt.m_abs (T : Txt K mg) : mg "abs" = none := let ⟨_, X, G⟩ := T.ex; free_ok X G (T.says.fact 84 (f := .free "abs") rfl)
theorem Txt.m_max (T : Txt K mg) : mg "max" = none := let ⟨_, X, G⟩ := T.ex; free_ok X G (T.says.fact 85 (f := .free "max") rfl)
theorem Txt.m_bool (T : Txt K mg) : mg "bool" = none := let ⟨_, X, G⟩ := T.ex; free_ok X G (T.says.fact 86 (f := .free "bool") rfl)
theorem Txt.m_str (T : Txt K mg) : mg "str" = none := let ⟨_, X, G⟩ := T.ex; free_ok X G (T.says.fact 87 (f := .free "str") rfl)
theorem Txt.i_FIRST_YEAR (T : Txt K mg) : ∃ t, mg "FIRST_YEAR" = some (.int 2000 t) := let ⟨_, X, G⟩ := T.ex; int_ok X G (T.says.fact 88 (f := .int "FIRST_YEAR" 2000) rfl)
theorem Txt.i_LAST_DAY (T : Txt K mg) : ∃ t, mg "LAST_DAY" = some (.int 99999 t) := let ⟨_, X, G⟩ := T.ex; int_ok X G (T.says.fact 89 (f := .int "LAST_DAY" 99999) rfl)
theorem Txt.i_MOST_LETTERS (T : Txt K mg) : ∃ t, mg "MOST_LETTERS" = some (.int 8 t) := let ⟨_, X, G⟩ := T.ex; int_ok X G (T.says.fact 90 (f := .int "MOST_LETTERS" 8) rfl)
theorem Txt.i_MOST_MANY (T : Txt K mg) : ∃ t, mg "MOST_MANY" = some (.int 999 t) := let ⟨_, X, G⟩ := T.ex; int_ok X G (T.says.fact 91 (f := .int "MOST_MANY" 999) rfl)
theorem Txt.i_MOST_MAKERS (T : Txt K mg) : ∃ t, mg "MOST_MAKERS" = some (.int 4 t) := let ⟨_, X, G⟩ := T.ex; int_ok X G (T.says.fact 92 (f := .int "MOST_MAKERS" 4) rfl)
theorem Txt.i_LETTERS (T : Txt K mg) : ∃ t, mg "LETTERS" = some (.str "abcdefghijklmnopqrstuvwxyz" t) := let ⟨_, X, G⟩ := T.ex; str_ok X G (T.says.fact 93 (f := .str "LETTERS" "abcdefghijklmnopqrstuvwxyz") rfl)
theorem Txt.g_Act (T : Txt K mg) : mg "Act" = some (.ref (ga K "Act")) := let ⟨_, X, G⟩ := T.ex; glo_ok X G (T.says.fact 94 (f := .glo "Act") rfl)
theorem Txt.k_Act (T : Txt K mg) : Cls K (ga K "Act") := cls_ok (T.says.fact 95 (f := .cls "Act") rfl)
theorem Txt.mk_Act (T : Txt K mg) : Mk K (ga K "Act") (ma K (ga K "Act") "__init__") := mkr_ok (T.says.fact 96 (f := .mkr "Act") rfl)
theorem Txt.n_Act_day (T : Txt K mg) : NoAttr K (ga K "Act") "day" := noat_ok (T.says.fact 97 (f := .noat "Act" "day") rfl)
theorem Txt.n_Act_deed (T : Txt K mg) : NoAttr K (ga K "Act") "deed" := noat_ok (T.says.fact 98 (f := .noat "Act" "deed") rfl)
theorem Txt.n_Act_struck (T : Txt K mg) : NoAttr K (ga K "Act") "struck" := noat_ok (T.says.fact 99 (f := .noat "Act" "struck") rfl)
theorem Txt.g_Met (T : Txt K mg) : mg "Met" = some (.ref (ga K "Met")) := let ⟨_, X, G⟩ := T.ex; glo_ok X G (T.says.fact 100 (f := .glo "Met") rfl)
theorem Txt.k_Met (T : Txt K mg) : Cls K (ga K "Met") := cls_ok (T.says.fact 101 (f := .cls "Met") rfl)
theorem Txt.mk_Met (T : Txt K mg) : Mk K (ga K "Met") (ma K (ga K "Met") "__init__") := mkr_ok (T.says.fact 102 (f := .mkr "Met") rfl)
theorem Txt.mt_Met_is_barred (T : Txt K mg) : Meth K (ga K "Met") "is_barred" (ma K (ga K "Met") "is_barred") := meth_ok (T.says.fact 103 (f := .meth "Met" "is_barred") rfl)
theorem Txt.mt_Met_is_let (T : Txt K mg) : Meth K (ga K "Met") "is_let" (ma K (ga K "Met") "is_let") := meth_ok (T.says.fact 104 (f := .meth "Met" "is_let") rfl)
theorem Txt.n_Met_day (T : Txt K mg) : NoAttr K (ga K "Met") "day" := noat_ok (T.says.fact 105 (f := .noat "Met" "day") rfl)
theorem Txt.n_Met_paper (T : Txt K mg) : NoAttr K (ga K "Met") "paper" := noat_ok (T.says.fact 106 (f := .noat "Met" "paper") rfl)
theorem Txt.n_Met_stay (T : Txt K mg) : NoAttr K (ga K "Met") "stay" := noat_ok (T.says.fact 107 (f := .noat "Met" "stay") rfl)
theorem Txt.n_Met_leaving (T : Txt K mg) : NoAttr K (ga K "Met") "leaving" := noat_ok (T.says.fact 108 (f := .noat "Met" "leaving") rfl)
theorem Txt.n_Met_covers (T : Txt K mg) : NoAttr K (ga K "Met") "covers" := noat_ok (T.says.fact 109 (f := .noat "Met" "covers") rfl)
theorem Txt.n_Met_lacks (T : Txt K mg) : NoAttr K (ga K "Met") "lacks" := noat_ok (T.says.fact 110 (f := .noat "Met" "lacks") rfl)
theorem Txt.n_Met_leave (T : Txt K mg) : NoAttr K (ga K "Met") "leave" := noat_ok (T.says.fact 111 (f := .noat "Met" "leave") rfl)
theorem Txt.g_Walk (T : Txt K mg) : mg "Walk" = some (.ref (ga K "Walk")) := let ⟨_, X, G⟩ := T.ex; glo_ok X G (T.says.fact 112 (f := .glo "Walk") rfl)
theorem Txt.k_Walk (T : Txt K mg) : Cls K (ga K "Walk") := cls_ok (T.says.fact 113 (f := .cls "Walk") rfl)
theorem Txt.mk_Walk (T : Txt K mg) : Mk K (ga K "Walk") (ma K (ga K "Walk") "__init__") := mkr_ok (T.says.fact 114 (f := .mkr "Walk") rfl)
theorem Txt.mt_Walk_leave_of (T : Txt K mg) : Meth K (ga K "Walk") "leave_of" (ma K (ga K "Walk") "leave_of") := meth_ok (T.says.fact 115 (f := .meth "Walk" "leave_of") rfl)
theorem Txt.n_Walk_deeds (T : Txt K mg) : NoAttr K (ga K "Walk") "deeds" := noat_ok (T.says.fact 116 (f := .noat "Walk" "deeds") rfl)
theorem Txt.n_Walk_gone (T : Txt K mg) : NoAttr K (ga K "Walk") "gone" := noat_ok (T.says.fact 117 (f := .noat "Walk" "gone") rfl)
theorem Txt.n_Walk_used (T : Txt K mg) : NoAttr K (ga K "Walk") "used" := noat_ok (T.says.fact 118 (f := .noat "Walk" "used") rfl)
theorem Txt.n_Walk_met (T : Txt K mg) : NoAttr K (ga K "Walk") "met" := noat_ok (T.says.fact 119 (f := .noat "Walk" "met") rfl)
theorem Txt.g_Going (T : Txt K mg) : mg "Going" = some (.ref (ga K "Going")) := let ⟨_, X, G⟩ := T.ex; glo_ok X G (T.says.fact 120 (f := .glo "Going") rfl)
theorem Txt.k_Going (T : Txt K mg) : Cls K (ga K "Going") := cls_ok (T.says.fact 121 (f := .cls "Going") rfl)
theorem Txt.mk_Going (T : Txt K mg) : Mk K (ga K "Going") (ma K (ga K "Going") "__init__") := mkr_ok (T.says.fact 122 (f := .mkr "Going") rfl)
theorem Txt.n_Going_paper (T : Txt K mg) : NoAttr K (ga K "Going") "paper" := noat_ok (T.says.fact 123 (f := .noat "Going" "paper") rfl)
theorem Txt.n_Going_day (T : Txt K mg) : NoAttr K (ga K "Going") "day" := noat_ok (T.says.fact 124 (f := .noat "Going" "day") rfl)
theorem Txt.n_Going_leave (T : Txt K mg) : NoAttr K (ga K "Going") "leave" := noat_ok (T.says.fact 125 (f := .noat "Going" "leave") rfl)
theorem Txt.n_Going_by_hand (T : Txt K mg) : NoAttr K (ga K "Going") "by_hand" := noat_ok (T.says.fact 126 (f := .noat "Going" "by_hand") rfl)
theorem Txt.n_Going_many (T : Txt K mg) : NoAttr K (ga K "Going") "many" := noat_ok (T.says.fact 127 (f := .noat "Going" "many") rfl)
theorem Txt.g_Archive (T : Txt K mg) : mg "Archive" = some (.ref (ga K "Archive")) := let ⟨_, X, G⟩ := T.ex; glo_ok X G (T.says.fact 128 (f := .glo "Archive") rfl)
theorem Txt.k_Archive (T : Txt K mg) : Cls K (ga K "Archive") := cls_ok (T.says.fact 129 (f := .cls "Archive") rfl)
theorem Txt.mk_Archive (T : Txt K mg) : Mk K (ga K "Archive") (ma K (ga K "Archive") "__init__") := mkr_ok (T.says.fact 130 (f := .mkr "Archive") rfl)
theorem Txt.mt_Archive_present (T : Txt K mg) : Meth K (ga K "Archive") "present" (ma K (ga K "Archive") "present") := meth_ok (T.says.fact 131 (f := .meth "Archive" "present") rfl)
theorem Txt.mt_Archive_deeds_now (T : Txt K mg) : Meth K (ga K "Archive") "deeds_now" (ma K (ga K "Archive") "deeds_now") := meth_ok (T.says.fact 132 (f := .meth "Archive" "deeds_now") rfl)
theorem Txt.mt_Archive_ask_makers (T : Txt K mg) : Meth K (ga K "Archive") "ask_makers" (ma K (ga K "Archive") "ask_makers") := meth_ok (T.says.fact 133 (f := .meth "Archive" "ask_makers") rfl)
theorem Txt.mt_Archive_enter (T : Txt K mg) : Meth K (ga K "Archive") "enter" (ma K (ga K "Archive") "enter") := meth_ok (T.says.fact 134 (f := .meth "Archive" "enter") rfl)
theorem Txt.mt_Archive_keep_going (T : Txt K mg) : Meth K (ga K "Archive") "keep_going" (ma K (ga K "Archive") "keep_going") := meth_ok (T.says.fact 135 (f := .meth "Archive" "keep_going") rfl)
theorem Txt.mt_Archive_close (T : Txt K mg) : Meth K (ga K "Archive") "close" (ma K (ga K "Archive") "close") := meth_ok (T.says.fact 136 (f := .meth "Archive" "close") rfl)
theorem Txt.mt_Archive_turn (T : Txt K mg) : Meth K (ga K "Archive") "turn" (ma K (ga K "Archive") "turn") := meth_ok (T.says.fact 137 (f := .meth "Archive" "turn") rfl)
theorem Txt.mt_Archive_there (T : Txt K mg) : Meth K (ga K "Archive") "there" (ma K (ga K "Archive") "there") := meth_ok (T.says.fact 138 (f := .meth "Archive" "there") rfl)
theorem Txt.mt_Archive_done (T : Txt K mg) : Meth K (ga K "Archive") "done" (ma K (ga K "Archive") "done") := meth_ok (T.says.fact 139 (f := .meth "Archive" "done") rfl)
theorem Txt.mt_Archive_wrong (T : Txt K mg) : Meth K (ga K "Archive") "wrong" (ma K (ga K "Archive") "wrong") := meth_ok (T.says.fact 140 (f := .meth "Archive" "wrong") rfl)
theorem Txt.n_Archive_first (T : Txt K mg) : NoAttr K (ga K "Archive") "first" := noat_ok (T.says.fact 141 (f := .noat "Archive" "first") rfl)
theorem Txt.n_Archive_today (T : Txt K mg) : NoAttr K (ga K "Archive") "today" := noat_ok (T.says.fact 142 (f := .noat "Archive" "today") rfl)
theorem Txt.n_Archive_acts (T : Txt K mg) : NoAttr K (ga K "Archive") "acts" := noat_ok (T.says.fact 143 (f := .noat "Archive" "acts") rfl)
theorem Txt.n_Archive_gone (T : Txt K mg) : NoAttr K (ga K "Archive") "gone" := noat_ok (T.says.fact 144 (f := .noat "Archive" "gone") rfl)
theorem Txt.n_Archive_used (T : Txt K mg) : NoAttr K (ga K "Archive") "used" := noat_ok (T.says.fact 145 (f := .noat "Archive" "used") rfl)
theorem Txt.n_Archive_goings (T : Txt K mg) : NoAttr K (ga K "Archive") "goings" := noat_ok (T.says.fact 146 (f := .noat "Archive" "goings") rfl)
theorem Txt.g_LENGTHS (T : Txt K mg) : mg "LENGTHS" = some (.ref (ga K "LENGTHS")) := let ⟨_, X, G⟩ := T.ex; glo_ok X G (T.says.fact 147 (f := .glo "LENGTHS") rfl)
theorem Txt.g_UNITS (T : Txt K mg) : mg "UNITS" = some (.ref (ga K "UNITS")) := let ⟨_, X, G⟩ := T.ex; glo_ok X G (T.says.fact 148 (f := .glo "UNITS") rfl)
theorem Txt.g_TURNED (T : Txt K mg) : mg "TURNED" = some (.ref (ga K "TURNED")) := let ⟨_, X, G⟩ := T.ex; glo_ok X G (T.says.fact 149 (f := .glo "TURNED") rfl)
theorem Txt.g_FORMS (T : Txt K mg) : mg "FORMS" = some (.ref (ga K "FORMS")) := let ⟨_, X, G⟩ := T.ex; glo_ok X G (T.says.fact 150 (f := .glo "FORMS") rfl)
theorem Txt.g_GoneMaker (T : Txt K mg) : mg "GoneMaker" = some (.ref (ga K "GoneMaker")) := let ⟨_, X, G⟩ := T.ex; glo_ok X G (T.says.fact 151 (f := .glo "GoneMaker") rfl)
theorem Txt.g_ArchiveError (T : Txt K mg) : mg "ArchiveError" = some (.ref (ga K "ArchiveError")) := let ⟨_, X, G⟩ := T.ex; glo_ok X G (T.says.fact 152 (f := .glo "ArchiveError") rfl)
theorem Txt.f_Act_init (T : Txt K mg) : ∃ fd, FunD K "__init__" "Act.__init__" (defArgs s_Act_init) (defBody s_Act_init) (defScope s_Act_init) [] [] (ma K (ga K "Act") "__init__") fd := T.says.def_ 0 (d := d_Act_init) rfl
theorem Txt.f_known_behind (T : Txt K mg) : ∃ fd, FunD K "known_behind" "known_behind" (defArgs s_known_behind) (defBody s_known_behind) (defScope s_known_behind) [] [] (ga K "known_behind") fd := T.says.def_ 1 (d := d_known_behind) rfl
theorem Txt.f_deeds_behind (T : Txt K mg) : ∃ fd, FunD K "deeds_behind" "deeds_behind" (defArgs s_deeds_behind) (defBody s_deeds_behind) (defScope s_deeds_behind) [] [] (ga K "deeds_behind") fd := T.says.def_ 2 (d := d_deeds_behind) rfl
theorem Txt.f_Twice_init (T : Txt K mg) : ∃ fd, FunD K "__init__" "Twice.__init__" (defArgs s_Twice_init) (defBody s_Twice_init) (defScope s_Twice_init) [] [] (ma K (ga K "Twice") "__init__") fd := T.says.def_ 3 (d := d_Twice_init) rfl
theorem Txt.f_GoneMaker_init (T : Txt K mg) : ∃ fd, FunD K "__init__" "GoneMaker.__init__" (defArgs s_GoneMaker_init) (defBody s_GoneMaker_init) (defScope s_GoneMaker_init) [] [] (ma K (ga K "GoneMaker") "__init__") fd := T.says.def_ 4 (d := d_GoneMaker_init) rfl
theorem Txt.f_is_whole (T : Txt K mg) : ∃ fd, FunD K "is_whole" "is_whole" (defArgs s_is_whole) (defBody s_is_whole) (defScope s_is_whole) [] [] (ga K "is_whole") fd := T.says.def_ 5 (d := d_is_whole) rfl
theorem Txt.f_is_day (T : Txt K mg) : ∃ fd, FunD K "is_day" "is_day" (defArgs s_is_day) (defBody s_is_day) (defScope s_is_day) [] [] (ga K "is_day") fd := T.says.def_ 6 (d := d_is_day) rfl
theorem Txt.f_is_long (T : Txt K mg) : ∃ fd, FunD K "is_long" "is_long" (defArgs s_is_long) (defBody s_is_long) (defScope s_is_long) [] [] (ga K "is_long") fd := T.says.def_ 7 (d := d_is_long) rfl
theorem Txt.f_length_of (T : Txt K mg) : ∃ fd, FunD K "length_of" "length_of" (defArgs s_length_of) (defBody s_length_of) (defScope s_length_of) [] [] (ga K "length_of") fd := T.says.def_ 8 (d := d_length_of) rfl
theorem Txt.f_long_years (T : Txt K mg) : ∃ fd, FunD K "long_years" "long_years" (defArgs s_long_years) (defBody s_long_years) (defScope s_long_years) [] [] (ga K "long_years") fd := T.says.def_ 9 (d := d_long_years) rfl
theorem Txt.f_days_ahead (T : Txt K mg) : ∃ fd, FunD K "days_ahead" "days_ahead" (defArgs s_days_ahead) (defBody s_days_ahead) (defScope s_days_ahead) [] [] (ga K "days_ahead") fd := T.says.def_ 10 (d := d_days_ahead) rfl
theorem Txt.f_day_at (T : Txt K mg) : ∃ fd, FunD K "day_at" "day_at" (defArgs s_day_at) (defBody s_day_at) (defScope s_day_at) [] [] (ga K "day_at") fd := T.says.def_ 11 (d := d_day_at) rfl
theorem Txt.f_date_of (T : Txt K mg) : ∃ fd, FunD K "date_of" "date_of" (defArgs s_date_of) (defBody s_date_of) (defScope s_date_of) [] [] (ga K "date_of") fd := T.says.def_ 12 (d := d_date_of) rfl
theorem Txt.f_later (T : Txt K mg) : ∃ fd, FunD K "later" "later" (defArgs s_later) (defBody s_later) (defScope s_later) [] [] (ga K "later") fd := T.says.def_ 13 (d := d_later) rfl
theorem Txt.f_is_name (T : Txt K mg) : ∃ fd, FunD K "is_name" "is_name" (defArgs s_is_name) (defBody s_is_name) (defScope s_is_name) [] [] (ga K "is_name") fd := T.says.def_ 14 (d := d_is_name) rfl
theorem Txt.f_is_since (T : Txt K mg) : ∃ fd, FunD K "is_since" "is_since" (defArgs s_is_since) (defBody s_is_since) (defScope s_is_since) [] [] (ga K "is_since") fd := T.says.def_ 15 (d := d_is_since) rfl
theorem Txt.f_is_span_told (T : Txt K mg) : ∃ fd, FunD K "is_span_told" "is_span_told" (defArgs s_is_span_told) (defBody s_is_span_told) (defScope s_is_span_told) [] [] (ga K "is_span_told") fd := T.says.def_ 16 (d := d_is_span_told) rfl
theorem Txt.f_is_rule (T : Txt K mg) : ∃ fd, FunD K "is_rule" "is_rule" (defArgs s_is_rule) (defBody s_is_rule) (defScope s_is_rule) [] [] (ga K "is_rule") fd := T.says.def_ 17 (d := d_is_rule) rfl
theorem Txt.f_are_makers (T : Txt K mg) : ∃ fd, FunD K "are_makers" "are_makers" (defArgs s_are_makers) (defBody s_are_makers) (defScope s_are_makers) [] [] (ga K "are_makers") fd := T.says.def_ 18 (d := d_are_makers) rfl
theorem Txt.f_is_aim (T : Txt K mg) : ∃ fd, FunD K "is_aim" "is_aim" (defArgs s_is_aim) (defBody s_is_aim) (defScope s_is_aim) [] [] (ga K "is_aim") fd := T.says.def_ 19 (d := d_is_aim) rfl
theorem Txt.f_fits_form (T : Txt K mg) : ∃ fd, FunD K "fits_form" "fits_form" (defArgs s_fits_form) (defBody s_fits_form) (defScope s_fits_form) [] [] (ga K "fits_form") fd := T.says.def_ 20 (d := d_fits_form) rfl
theorem Txt.f_is_deed (T : Txt K mg) : ∃ fd, FunD K "is_deed" "is_deed" (defArgs s_is_deed) (defBody s_is_deed) (defScope s_is_deed) [] [] (ga K "is_deed") fd := T.says.def_ 21 (d := d_is_deed) rfl
theorem Txt.f_quarrel (T : Txt K mg) : ∃ fd, FunD K "quarrel" "quarrel" (defArgs s_quarrel) (defBody s_quarrel) (defScope s_quarrel) [] [] (ga K "quarrel") fd := T.says.def_ 22 (d := d_quarrel) rfl
theorem Txt.f_papers (T : Txt K mg) : ∃ fd, FunD K "papers" "papers" (defArgs s_papers) (defBody s_papers) (defScope s_papers) [] [] (ga K "papers") fd := T.says.def_ 23 (d := d_papers) rfl
theorem Txt.f_row_of (T : Txt K mg) : ∃ fd, FunD K "row_of" "row_of" (defArgs s_row_of) (defBody s_row_of) (defScope s_row_of) [] [] (ga K "row_of") fd := T.says.def_ 24 (d := d_row_of) rfl
theorem Txt.f_kind_of (T : Txt K mg) : ∃ fd, FunD K "kind_of" "kind_of" (defArgs s_kind_of) (defBody s_kind_of) (defScope s_kind_of) [] [] (ga K "kind_of") fd := T.says.def_ 25 (d := d_kind_of) rfl
theorem Txt.f_makers (T : Txt K mg) : ∃ fd, FunD K "makers" "makers" (defArgs s_makers) (defBody s_makers) (defScope s_makers) [] [] (ga K "makers") fd := T.says.def_ 26 (d := d_makers) rfl
theorem Txt.f_made_from (T : Txt K mg) : ∃ fd, FunD K "made_from" "made_from" (defArgs s_made_from) (defBody s_made_from) (defScope s_made_from) [] [] (ga K "made_from") fd := T.says.def_ 27 (d := d_made_from) rfl
theorem Txt.f_day_of_deed (T : Txt K mg) : ∃ fd, FunD K "day_of_deed" "day_of_deed" (defArgs s_day_of_deed) (defBody s_day_of_deed) (defScope s_day_of_deed) [] [] (ga K "day_of_deed") fd := T.says.def_ 28 (d := d_day_of_deed) rfl
theorem Txt.f_latest (T : Txt K mg) : ∃ fd, FunD K "latest" "latest" (defArgs s_latest) (defBody s_latest) (defScope s_latest) [] [] (ga K "latest") fd := T.says.def_ 29 (d := d_latest) rfl
theorem Txt.f_rules_on (T : Txt K mg) : ∃ fd, FunD K "rules_on" "rules_on" (defArgs s_rules_on) (defBody s_rules_on) (defScope s_rules_on) [] [] (ga K "rules_on") fd := T.says.def_ 30 (d := d_rules_on) rfl
theorem Txt.f_holds_on (T : Txt K mg) : ∃ fd, FunD K "holds_on" "holds_on" (defArgs s_holds_on) (defBody s_holds_on) (defScope s_holds_on) [] [] (ga K "holds_on") fd := T.says.def_ 31 (d := d_holds_on) rfl
theorem Txt.f_is_target (T : Txt K mg) : ∃ fd, FunD K "is_target" "is_target" (defArgs s_is_target) (defBody s_is_target) (defScope s_is_target) [] [] (ga K "is_target") fd := T.says.def_ 32 (d := d_is_target) rfl
theorem Txt.f_covering (T : Txt K mg) : ∃ fd, FunD K "covering" "covering" (defArgs s_covering) (defBody s_covering) (defScope s_covering) [] [] (ga K "covering") fd := T.says.def_ 33 (d := d_covering) rfl
theorem Txt.f_heard (T : Txt K mg) : ∃ fd, FunD K "heard" "heard" (defArgs s_heard) (defBody s_heard) (defScope s_heard) [] [] (ga K "heard") fd := T.says.def_ 34 (d := d_heard) rfl
theorem Txt.f_bases (T : Txt K mg) : ∃ fd, FunD K "bases" "bases" (defArgs s_bases) (defBody s_bases) (defScope s_bases) [] [] (ga K "bases") fd := T.says.def_ 35 (d := d_bases) rfl
theorem Txt.f_base_on (T : Txt K mg) : ∃ fd, FunD K "base_on" "base_on" (defArgs s_base_on) (defBody s_base_on) (defScope s_base_on) [] [] (ga K "base_on") fd := T.says.def_ 36 (d := d_base_on) rfl
theorem Txt.f_reckoning (T : Txt K mg) : ∃ fd, FunD K "reckoning" "reckoning" (defArgs s_reckoning) (defBody s_reckoning) (defScope s_reckoning) [] [] (ga K "reckoning") fd := T.says.def_ 37 (d := d_reckoning) rfl
theorem Txt.f_has_gone (T : Txt K mg) : ∃ fd, FunD K "has_gone" "has_gone" (defArgs s_has_gone) (defBody s_has_gone) (defScope s_has_gone) [] [] (ga K "has_gone") fd := T.says.def_ 38 (d := d_has_gone) rfl
theorem Txt.f_first_maker (T : Txt K mg) : ∃ fd, FunD K "first_maker" "first_maker" (defArgs s_first_maker) (defBody s_first_maker) (defScope s_first_maker) [] [] (ga K "first_maker") fd := T.says.def_ 39 (d := d_first_maker) rfl
theorem Txt.f_rules_over (T : Txt K mg) : ∃ fd, FunD K "rules_over" "rules_over" (defArgs s_rules_over) (defBody s_rules_over) (defScope s_rules_over) [] [] (ga K "rules_over") fd := T.says.def_ 40 (d := d_rules_over) rfl
theorem Txt.f_stay_by (T : Txt K mg) : ∃ fd, FunD K "stay_by" "stay_by" (defArgs s_stay_by) (defBody s_stay_by) (defScope s_stay_by) [] [] (ga K "stay_by") fd := T.says.def_ 41 (d := d_stay_by) rfl
theorem Txt.f_go_by (T : Txt K mg) : ∃ fd, FunD K "go_by" "go_by" (defArgs s_go_by) (defBody s_go_by) (defScope s_go_by) [] [] (ga K "go_by") fd := T.says.def_ 42 (d := d_go_by) rfl
theorem Txt.f_stays (T : Txt K mg) : ∃ fd, FunD K "stays" "stays" (defArgs s_stays) (defBody s_stays) (defScope s_stays) [] [] (ga K "stays") fd := T.says.def_ 43 (d := d_stays) rfl
theorem Txt.f_goes (T : Txt K mg) : ∃ fd, FunD K "goes" "goes" (defArgs s_goes) (defBody s_goes) (defScope s_goes) [] [] (ga K "goes") fd := T.says.def_ 44 (d := d_goes) rfl
theorem Txt.f_needs_leave (T : Txt K mg) : ∃ fd, FunD K "needs_leave" "needs_leave" (defArgs s_needs_leave) (defBody s_needs_leave) (defScope s_needs_leave) [] [] (ga K "needs_leave") fd := T.says.def_ 45 (d := d_needs_leave) rfl
theorem Txt.f_Met_init (T : Txt K mg) : ∃ fd, FunD K "__init__" "Met.__init__" (defArgs s_Met_init) (defBody s_Met_init) (defScope s_Met_init) [] [] (ma K (ga K "Met") "__init__") fd := T.says.def_ 46 (d := d_Met_init) rfl
theorem Txt.f_Met_is_barred (T : Txt K mg) : ∃ fd, FunD K "is_barred" "Met.is_barred" (defArgs s_Met_is_barred) (defBody s_Met_is_barred) (defScope s_Met_is_barred) [] [] (ma K (ga K "Met") "is_barred") fd := T.says.def_ 47 (d := d_Met_is_barred) rfl
theorem Txt.f_Met_is_let (T : Txt K mg) : ∃ fd, FunD K "is_let" "Met.is_let" (defArgs s_Met_is_let) (defBody s_Met_is_let) (defScope s_Met_is_let) [] [] (ma K (ga K "Met") "is_let") fd := T.says.def_ 48 (d := d_Met_is_let) rfl
theorem Txt.f_unused_leave (T : Txt K mg) : ∃ fd, FunD K "unused_leave" "unused_leave" (defArgs s_unused_leave) (defBody s_unused_leave) (defScope s_unused_leave) [] [] (ga K "unused_leave") fd := T.says.def_ 49 (d := d_unused_leave) rfl
theorem Txt.f_look (T : Txt K mg) : ∃ fd, FunD K "look" "look" (defArgs s_look) (defBody s_look) (defScope s_look) [] [] (ga K "look") fd := T.says.def_ 50 (d := d_look) rfl
theorem Txt.f_close_day (T : Txt K mg) : ∃ fd, FunD K "close_day" "close_day" (defArgs s_close_day) (defBody s_close_day) (defScope s_close_day) [] [] (ga K "close_day") fd := T.says.def_ 51 (d := d_close_day) rfl
theorem Txt.f_reckonings (T : Txt K mg) : ∃ fd, FunD K "reckonings" "reckonings" (defArgs s_reckonings) (defBody s_reckonings) (defScope s_reckonings) [] [] (ga K "reckonings") fd := T.says.def_ 52 (d := d_reckonings) rfl
theorem Txt.f_turning_days (T : Txt K mg) : ∃ fd, FunD K "turning_days" "turning_days" (defArgs s_turning_days) (defBody s_turning_days) (defScope s_turning_days) [] [] (ga K "turning_days") fd := T.says.def_ 53 (d := d_turning_days) rfl
theorem Txt.f_Walk_init (T : Txt K mg) : ∃ fd, FunD K "__init__" "Walk.__init__" (defArgs s_Walk_init) (defBody s_Walk_init) (defScope s_Walk_init) [] [] (ma K (ga K "Walk") "__init__") fd := T.says.def_ 54 (d := d_Walk_init) rfl
theorem Txt.f_Walk_leave_of (T : Txt K mg) : ∃ fd, FunD K "leave_of" "Walk.leave_of" (defArgs s_Walk_leave_of) (defBody s_Walk_leave_of) (defScope s_Walk_leave_of) [] [] (ma K (ga K "Walk") "leave_of") fd := T.says.def_ 55 (d := d_Walk_leave_of) rfl
theorem Txt.f_plan (T : Txt K mg) : ∃ fd, FunD K "plan" "plan" (defArgs s_plan) (defBody s_plan) (defScope s_plan) [] [] (ga K "plan") fd := T.says.def_ 56 (d := d_plan) rfl
theorem Txt.f_there (T : Txt K mg) : ∃ fd, FunD K "there" "there" (defArgs s_there) (defBody s_there) (defScope s_there) [] [] (ga K "there") fd := T.says.def_ 57 (d := d_there) rfl
theorem Txt.f_Going_init (T : Txt K mg) : ∃ fd, FunD K "__init__" "Going.__init__" (defArgs s_Going_init) (defBody s_Going_init) (defScope s_Going_init) [] [] (ma K (ga K "Going") "__init__") fd := T.says.def_ 58 (d := d_Going_init) rfl
theorem Txt.f_last_turn (T : Txt K mg) : ∃ fd, FunD K "last_turn" "last_turn" (defArgs s_last_turn) (defBody s_last_turn) (defScope s_last_turn) [] [] (ga K "last_turn") fd := T.says.def_ 59 (d := d_last_turn) rfl
theorem Txt.f_gone_by_plan (T : Txt K mg) : ∃ fd, FunD K "gone_by_plan" "gone_by_plan" (defArgs s_gone_by_plan) (defBody s_gone_by_plan) (defScope s_gone_by_plan) [] [] (ga K "gone_by_plan") fd := T.says.def_ 60 (d := d_gone_by_plan) rfl
theorem Txt.f_Archive_init (T : Txt K mg) : ∃ fd, FunD K "__init__" "Archive.__init__" (defArgs s_Archive_init) (defBody s_Archive_init) (defScope s_Archive_init) [] [] (ma K (ga K "Archive") "__init__") fd := T.says.def_ 61 (d := d_Archive_init) rfl
theorem Txt.f_Archive_present (T : Txt K mg) : ∃ fd, FunD K "present" "Archive.present" (defArgs s_Archive_present) (defBody s_Archive_present) (defScope s_Archive_present) [] [] (ma K (ga K "Archive") "present") fd := T.says.def_ 62 (d := d_Archive_present) rfl
theorem Txt.f_Archive_deeds_now (T : Txt K mg) : ∃ fd, FunD K "deeds_now" "Archive.deeds_now" (defArgs s_Archive_deeds_now) (defBody s_Archive_deeds_now) (defScope s_Archive_deeds_now) [] [] (ma K (ga K "Archive") "deeds_now") fd := T.says.def_ 63 (d := d_Archive_deeds_now) rfl
theorem Txt.f_Archive_ask_makers (T : Txt K mg) : ∃ fd, FunD K "ask_makers" "Archive.ask_makers" (defArgs s_Archive_ask_makers) (defBody s_Archive_ask_makers) (defScope s_Archive_ask_makers) [] [] (ma K (ga K "Archive") "ask_makers") fd := T.says.def_ 64 (d := d_Archive_ask_makers) rfl
theorem Txt.f_Archive_enter (T : Txt K mg) : ∃ fd, FunD K "enter" "Archive.enter" (defArgs s_Archive_enter) (defBody s_Archive_enter) (defScope s_Archive_enter) [] [] (ma K (ga K "Archive") "enter") fd := T.says.def_ 65 (d := d_Archive_enter) rfl
theorem Txt.f_Archive_keep_going (T : Txt K mg) : ∃ fd, FunD K "keep_going" "Archive.keep_going" (defArgs s_Archive_keep_going) (defBody s_Archive_keep_going) (defScope s_Archive_keep_going) [] [] (ma K (ga K "Archive") "keep_going") fd := T.says.def_ 66 (d := d_Archive_keep_going) rfl
theorem Txt.f_Archive_close (T : Txt K mg) : ∃ fd, FunD K "close" "Archive.close" (defArgs s_Archive_close) (defBody s_Archive_close) (defScope s_Archive_close) [] [] (ma K (ga K "Archive") "close") fd := T.says.def_ 67 (d := d_Archive_close) rfl
theorem Txt.f_Archive_turn (T : Txt K mg) : ∃ fd, FunD K "turn" "Archive.turn" (defArgs s_Archive_turn) (defBody s_Archive_turn) (defScope s_Archive_turn) [] [] (ma K (ga K "Archive") "turn") fd := T.says.def_ 68 (d := d_Archive_turn) rfl
theorem Txt.f_Archive_there (T : Txt K mg) : ∃ fd, FunD K "there" "Archive.there" (defArgs s_Archive_there) (defBody s_Archive_there) (defScope s_Archive_there) [] [] (ma K (ga K "Archive") "there") fd := T.says.def_ 69 (d := d_Archive_there) rfl
theorem Txt.f_Archive_done (T : Txt K mg) : ∃ fd, FunD K "done" "Archive.done" (defArgs s_Archive_done) (defBody s_Archive_done) (defScope s_Archive_done) [] [] (ma K (ga K "Archive") "done") fd := T.says.def_ 70 (d := d_Archive_done) rfl
theorem Txt.f_Archive_wrong (T : Txt K mg) : ∃ fd, FunD K "wrong" "Archive.wrong" (defArgs s_Archive_wrong) (defBody s_Archive_wrong) (defScope s_Archive_wrong) [] [] (ma K (ga K "Archive") "wrong") fd := T.says.def_ 71 (d := d_Archive_wrong) rfl
theorem Txt.f__law_cell (T : Txt K mg) : ∃ fd, FunD K "_law_cell" "_law_cell" (defArgs s__law_cell) (defBody s__law_cell) (defScope s__law_cell) [] [] (ga K "_law_cell") fd := T.says.def_ 72 (d := d__law_cell) rfl
theorem Txt.f__law_numbers (T : Txt K mg) : ∃ fd, FunD K "_law_numbers" "_law_numbers" (defArgs s__law_numbers) (defBody s__law_numbers) (defScope s__law_numbers) [] [] (ga K "_law_numbers") fd := T.says.def_ 73 (d := d__law_numbers) rfl
theorem Txt.f__law_pool (T : Txt K mg) : ∃ fd, FunD K "_law_pool" "_law_pool" (defArgs s__law_pool) (defBody s__law_pool) (defScope s__law_pool) [] [] (ga K "_law_pool") fd := T.says.def_ 74 (d := d__law_pool) rfl
theorem Txt.f__law_first (T : Txt K mg) : ∃ fd, FunD K "_law_first" "_law_first" (defArgs s__law_first) (defBody s__law_first) (defScope s__law_first) [] [] (ga K "_law_first") fd := T.says.def_ 75 (d := d__law_first) rfl
theorem Txt.f__law_lengths (T : Txt K mg) : ∃ fd, FunD K "_law_lengths" "_law_lengths" (defArgs s__law_lengths) (defBody s__law_lengths) (defScope s__law_lengths) [] [] (ga K "_law_lengths") fd := T.says.def_ 76 (d := d__law_lengths) rfl
theorem Txt.f__law_day (T : Txt K mg) : ∃ fd, FunD K "_law_day" "_law_day" (defArgs s__law_day) (defBody s__law_day) (defScope s__law_day) [] [] (ga K "_law_day") fd := T.says.def_ 77 (d := d__law_day) rfl
theorem Txt.f__law_since (T : Txt K mg) : ∃ fd, FunD K "_law_since" "_law_since" (defArgs s__law_since) (defBody s__law_since) (defScope s__law_since) [] [] (ga K "_law_since") fd := T.says.def_ 78 (d := d__law_since) rfl
theorem Txt.f__law_parts (T : Txt K mg) : ∃ fd, FunD K "_law_parts" "_law_parts" (defArgs s__law_parts) (defBody s__law_parts) (defScope s__law_parts) [] [] (ga K "_law_parts") fd := T.says.def_ 79 (d := d__law_parts) rfl
theorem Txt.f__law_quarrel (T : Txt K mg) : ∃ fd, FunD K "_law_quarrel" "_law_quarrel" (defArgs s__law_quarrel) (defBody s__law_quarrel) (defScope s__law_quarrel) [] [] (ga K "_law_quarrel") fd := T.says.def_ 80 (d := d__law_quarrel) rfl
theorem Txt.f__law_deed (T : Txt K mg) : ∃ fd, FunD K "_law_deed" "_law_deed" (defArgs s__law_deed) (defBody s__law_deed) (defScope s__law_deed) [] [] (ga K "_law_deed") fd := T.says.def_ 81 (d := d__law_deed) rfl
theorem Txt.f__law_pools (T : Txt K mg) : ∃ fd, FunD K "_law_pools" "_law_pools" (defArgs s__law_pools) (defBody s__law_pools) (defScope s__law_pools) [] [] (ga K "_law_pools") fd := T.says.def_ 82 (d := d__law_pools) rfl
theorem Txt.f__law_sorts (T : Txt K mg) : ∃ fd, FunD K "_law_sorts" "_law_sorts" (defArgs s__law_sorts) (defBody s__law_sorts) (defScope s__law_sorts) [] [] (ga K "_law_sorts") fd := T.says.def_ 83 (d := d__law_sorts) rfl
theorem Txt.f__law_deeds (T : Txt K mg) : ∃ fd, FunD K "_law_deeds" "_law_deeds" (defArgs s__law_deeds) (defBody s__law_deeds) (defScope s__law_deeds) [] [] (ga K "_law_deeds") fd := T.says.def_ 84 (d := d__law_deeds) rfl
theorem Txt.f__law_row (T : Txt K mg) : ∃ fd, FunD K "_law_row" "_law_row" (defArgs s__law_row) (defBody s__law_row) (defScope s__law_row) [] [] (ga K "_law_row") fd := T.says.def_ 85 (d := d__law_row) rfl
theorem Txt.f__law_order (T : Txt K mg) : ∃ fd, FunD K "_law_order" "_law_order" (defArgs s__law_order) (defBody s__law_order) (defScope s__law_order) [] [] (ga K "_law_order") fd := T.says.def_ 86 (d := d__law_order) rfl
theorem Txt.f__law_far (T : Txt K mg) : ∃ fd, FunD K "_law_far" "_law_far" (defArgs s__law_far) (defBody s__law_far) (defScope s__law_far) [] [] (ga K "_law_far") fd := T.says.def_ 87 (d := d__law_far) rfl
theorem Txt.f__law_entered (T : Txt K mg) : ∃ fd, FunD K "_law_entered" "_law_entered" (defArgs s__law_entered) (defBody s__law_entered) (defScope s__law_entered) [] [] (ga K "_law_entered") fd := T.says.def_ 88 (d := d__law_entered) rfl
theorem Txt.f__law_right (T : Txt K mg) : ∃ fd, FunD K "_law_right" "_law_right" (defArgs s__law_right) (defBody s__law_right) (defScope s__law_right) [] [] (ga K "_law_right") fd := T.says.def_ 89 (d := d__law_right) rfl
theorem Txt.f_law (T : Txt K mg) : ∃ fd, FunD K "law" "law" (defArgs s_law) (defBody s_law) (defScope s_law) [] [] (ga K "law") fd := T.says.def_ 90 (d := d_law) rfl
theorem Txt.t_LENGTHS (T : Txt K mg) (H : Hp) : SqT K H (ga K "LENGTHS") lengthsV := tupAt_ok (ba T.more).1 H
theorem Txt.t_UNITS (T : Txt K mg) (H : Hp) : SqT K H (ga K "UNITS") [.str "days", .str "months", .str "years"] := tupAt_ok (ba (ba T.more).2).1 H
theorem Txt.t_TURNED (T : Txt K mg) (H : Hp) : SqT K H (ga K "TURNED") [.ref (tA K), .ref (tB' K)] := tupAt_ok (ba (ba (ba T.more).2).2).1 H
theorem Txt.t_tA (T : Txt K mg) (H : Hp) : SqT K H (tA K) [.str "rule", .str "end"] := tupAt_ok (ba (ba (ba (ba T.more).2).2).2).1 H
theorem Txt.t_tB (T : Txt K mg) (H : Hp) : SqT K H (tB' K) [.str "hold", .str "lift"] := tupAt_ok (ba (ba (ba (ba T.more).2).2).2).2 H
end
end G
/-! sorted(l, key=day_of_deed): the key's call, the walk's frame, the rule. -/
namespace G
open PySem PySem.Spec PyProof.Rows L2 Evl
open PySem.W (EachIs dataLe AllAlike Sortable)

/-- the key's call by itself: nothing but new objects -/
theorem key_raw {P : Program} {w : World} {A : Around} {K : PySem.W.Frag} {s : Shared} {f t : Addr} {fd : FuncData} {its : Array Value} {n : Int} {tok : Tok} (X : K.In s.heap) (hlim : s.heap.NoLimit) (hroom : A.depth < recursionLimit)
    (F : FunD K "day_of_deed" "day_of_deed" (defArgs s_day_of_deed) (defBody s_day_of_deed) (defScope s_day_of_deed) [] [] f fd) (ht : IsTup s.heap t its) (hn : 1 < its.size) (h1 : its[1]? = some (.int n tok)) :
    wpAny (model P w) A (call (.ref f) [.ref t]) (fun v s2 => ∃ h' tk, s2 = { s with heap := h', toks := tk } ∧ (∀ b o, s.heap.get? b = some o → h'.get? b = some o) ∧ v = .int n tok) (fun _ _ => False) s := by
  obtain ⟨oc, od, dV, kV, doc, pm, an, cdv, ct, osl, rfl, lk, hcd, hD, _⟩ := F.ex
  rcases hD with ⟨_, rfl⟩ | ⟨e, _⟩
  · refine wpAny_call (Att.call_fn (binds := [("deed", .ref t)]) X hlim lk hcd hroom (.of_eq rfl) (by first | rfl | decide +kernel) (fun s₁ IC => ?_) rfl rfl rfl)
    obtain ⟨h₁, tk₁, rfl⟩ := IC.toInCall.same
    have k : ∀ b o, s.heap.get? b = some o → h₁.get? b = some o := IC.toInCall.keep
    have hns := IC.toInCall.ns
    show wpAny _ _ (execs [_] _) _ _ _
    refine wpAny_execs_cons (wpAny_Return_some (Subscript_ ?_))
    refine wpAny_Name (wpAny_loadName_local (v := .ref t) rfl (by first | rfl | kernel_rfl) hns (by first | rfl | kernel_rfl) ?_) (by decide +kernel)
    refine wpAny_Constant_int ?_
    have ht1 : IsTup h₁ t its := ht.keeps k
    refine subscriptTail_builtinR (x := .int n tok) ht1.typeIs slot_tuple_getitem.lookup (getItem_tuple (j := 1) ht1 (by decide) (by decide) ?_ h1 ⟨rfl, ?_⟩) (by intros; rfl)
    · unfold seqIndex?
      have : (1 : Int) < (its.size : Int) := by omega
      simp [this]
    · exact ⟨h₁, _, rfl, k, rfl⟩
  · exact absurd rfl e

theorem objok_some {P : Program} {w : World} {H : Hp} {h : Heap} {a : Addr} {o : HO} (x : ObjOk P w H h a o) : ∃ o', h.get? a = some o' := by
  cases o with
  | lst xs => obtain ⟨_, _, _, _, e⟩ := x; exact ⟨_, e⟩
  | tup xs => obtain ⟨_, _, _, o, e, _⟩ := x; exact ⟨_, e⟩
  | dK kvs => obtain ⟨_, _, _, _, o, _, _, e, _⟩ := x; exact ⟨_, e⟩
  | dT kvs => obtain ⟨_, _, _, _, o, _, _, e, _⟩ := x; exact ⟨_, e⟩
  | set S n => obtain ⟨o, _, _, _, e, _⟩ := x; exact ⟨_, e⟩
  | ins C dx fs => obtain ⟨_, _, _, e, _⟩ := x; exact ⟨_, e⟩
  | own y => obtain ⟨_, e⟩ := x; exact ⟨_, e⟩
  | xd fs => obtain ⟨_, ⟨_, _, _, e, _⟩, _⟩ := x; exact ⟨_, e⟩
  | rng lo hi => obtain ⟨_, _, _, e⟩ := x; exact ⟨_, e⟩
  | frz ob u => obtain ⟨e, _⟩ := x; exact ⟨_, e⟩
  | tbl ps => exact ⟨_, (show h.get? a = some _ from x)⟩
  | met f y => exact ⟨_, (show h.get? a = some _ from x)⟩
  | ext φ => obtain ⟨_, ⟨_, e⟩, _⟩ := x; exact ⟨_, e⟩
def dayD (x : Deed) : PyData := .int x.day
def rSortedDay (K : PySem.W.Frag) : List V → List V → Hp → VK → Prop := fun vs zs H Q => ∃ (a : Addr) (xs : List V) (bs : List Deed), vs = [.ref a] ∧ zs = [.ref (He.ga K "day_of_deed")] ∧ SqL K H a xs ∧ TDs K H xs (bs.map Deed.d) ∧
  ∀ (ys : List V) (p : Addr), H p = none → TDs K H ys ((bs.mergeSort (dataLe false dayD)).map Deed.d) → Q (.ref p) (upd H p (.lst ys))
theorem cr_sortedDay {X : Cx} (T : Txt X.K X.mg) (hr : Room 3 X.A) : CallRK X (.builtin "sorted") [Str.ofString "key"] (rSortedDay X.K) := by
  intro pins s σ H vs zs us ws Q I r rz h
  obtain ⟨a, xs, bs, rfl, rfl, hs, t, q⟩ := h
  obtain ⟨fd, FD⟩ := T.f_day_of_deed
  obtain rfl := Vals.ref1 r
  obtain rfl := Vals.ref1 rz
  obtain ⟨its, rv, hl, hz⟩ := I.list hs
  have e := each_of rv t
  obtain ⟨m, F⟩ := I.fr
  have N : News X.base X.env.locals s.heap (allNews X.base s.heap X.env.locals) := news_all
  have kept : ∀ {h : Heap} {own : List (Addr × Obj)}, Fr X.base X.env.locals h m → News X.base X.env.locals h (allNews X.base s.heap X.env.locals ++ own) → ∀ b o, b ≠ X.env.locals → s.heap.get? b = some o → h.get? b = some o := fun {h own} F' N' b o hb e => by
    cases q : X.base.get? b with
    | some u =>
      have := F.keep b u q
      rw [e] at this
      cases this
      exact F'.keep b _ q
    | none => exact (N' (b, o) (List.mem_append_left _ (mem_allNews hb q e))).1
  have hlen : bs.length = its.length := e.length.symm
  refine PySem.W.sorted_key_data_frame (R := Fits X.K H Deed.d) (b := false) dayD F N hl.isList e (.of fun x y => by simp [dayD, PySem.W.alike]) (.others fun x => ⟨(fun z => nomatch z), fun _ z => nomatch z⟩) (by rw [hlen, ← rv.length]; exact hz)
    (fun x _ => by have := hr.units; show X.A.units + 2 + 0 < cLine; omega) (ksk_s1 _ _) (fun _ => ksk_l1 _ _) (fun x => ksk_t1 _ x) (fun v x hv hx h tk own F' N' => ?_) fun D out c h' tk F' N' hD h1 h2 => ?_
  · obtain ⟨v', rv', tv⟩ := hv
    cases tv with
    | @tup A ws _ st tt =>
      cases rv'
      obtain ⟨its2, r2, p2, hz2⟩ := I.tuple st
      obtain ⟨o, ho, hc, n, hd⟩ := id p2
      have hA : A ≠ X.env.locals := fun z => by
        obtain ⟨_, ⟨o', es, ep, ho', hd', _⟩, _⟩ := I.loc
        rw [z, ho'] at ho
        cases ho
        rw [hd'] at hd
        cases hd
      have hA2 : h.get? A = some o := kept F' N' A o hA ho
      obtain ⟨u1, g1, g2⟩ := tt.get (i := 1) (x := .int x.day) rfl
      obtain rfl := g2.int_iff
      obtain ⟨u2, g3, tok, rfl⟩ := r2.get g1
      have hsz : 1 < its2.toArray.size := by
        have := (List.getElem?_eq_some_iff.mp g3).1
        simpa using this
      refine wpAny_mono (key_raw (s := { s with heap := h, toks := tk }) (n := x.day) (tok := tok) (its := its2.toArray) (t := A) (I.ok.mod.kin.keeps F'.keep) (I.ok.mod.nolimit.keeps F'.keep) ?_ FD ⟨o, hA2, hc, n, hd⟩ hsz (by simpa using g3)) (fun v s2 hq => ?_) fun _ _ z => z
      · have := ((hr.mono (by decide : 2 ≤ 3)).in1).in1
        exact this.depth
      · obtain ⟨h2, tk2, rfl, kp, rfl⟩ := hq
        exact ⟨h2, tk2, [], rfl, PySem.W.KeyIs.int _ _, (fun p hp => nomatch hp), F'.kept kp, by rw [List.append_nil]; exact N'.grown kp⟩
  · obtain ⟨ys, r3, t3⟩ := of_each h2
    have kp := kept (own := []) F' (by rw [List.append_nil]; exact fun p hp => N' p (List.mem_cons_of_mem _ hp))
    obtain ⟨d1, d2, d3⟩ := N' _ List.mem_cons_self
    have fresh : s.heap.get? D = none := by
      cases z : s.heap.get? D with
      | none => rfl
      | some o =>
        have := hD (D, o) (mem_allNews d2 d3 z)
        exact absurd this (Nat.lt_irrefl _)
    have hH : H D = none := by
      cases z : H D with
      | none => rfl
      | some o =>
        obtain ⟨o2, e2⟩ := objok_some (I.hok D o z)
        rw [fresh] at e2
        cases e2
    have hlen2 : ys.length ≤ sizeLine := by
      rw [r3.length, h1, hlen, ← rv.length]
      exact hz
    refine ⟨.ref D, upd H D (.lst ys), ?_, rfl, q ys D hH t3⟩
    refine I.step (g' := s.gens) (d' := s.drawn) (ch := []) (fun _ z => nomatch z) (fun b o hb _ _ e _ => kp b o hb e) (fun b o hb _ _ e _ => ⟨o.slots, kp b o hb e⟩) (fun b o _ e n => ?_) (fun b o _ e => ?_) (fun b xs e => by rw [upd_ne (ne_of_none e hH)]; exact e) (fun b o u e => by rw [upd_ne (ne_of_none e hH)]; exact e)
      (fun b ps e => ⟨#[], by rw [upd_ne (ne_of_none e hH), e]; simp⟩) (fun m' hm' => ?_) (fun b u e => ?_) I.bare
    · rw [upd_ne fun z => by rw [z, fresh] at e; cases e]
      exact n
    · by_cases hb : b = X.env.locals
      · obtain ⟨o', _, _, ho', _⟩ := F'.ns
        exact ⟨o', by rw [hb]; exact ho'⟩
      · exact ⟨o, kp b o hb e⟩
    · have e1 := hm'.eq_nsMap
      have e2 := F.ns.eq_nsMap
      rw [e1, ← e2]
      exact F'.ns
    · by_cases hb : b = D
      · subst hb
        rw [upd_same] at e
        cases e
        exact ⟨hlen2, out, c, r3, d1⟩
      · rw [upd_ne hb] at e
        have nL : ∀ c u, H c = some u → c ≠ X.env.locals := fun c u e2 z => by
          rw [z, I.free] at e2
          cases e2
        refine (I.hok b u e).stay (fun c v hc g => ?_) (fun c g => by rw [upd_ne (ne_of_none g hH)]; exact g) fun c g g2 => by rw [upd_ne (ne_of_none g2 hH)]; exact g2
        rcases hc with z | z
        · exact kp c v (by rw [z]; exact nL b u e) g
        · exact kp c v (nL c _ z) g
end G
/-! Dicts that are written; sorted(dict); sorted by day. -/
namespace G
open PySem PySem.Spec PyProof.Rows L2 Evl
open PySem.W (EachIs dataLe AllAlike Sortable)
/-! ### sorted texts -/
theorem leS_trans (a b c : Str) (h1 : leS a b = true) (h2 : leS b c = true) : leS a c = true := by
  unfold leS at *
  simp only [Bool.not_eq_true', decide_eq_false_iff_not, List.not_lt] at *
  exact List.le_trans h1 h2
theorem leS_total (a b : Str) : (leS a b || leS b a) = true := by
  unfold leS
  simp only [Bool.or_eq_true, Bool.not_eq_true', decide_eq_false_iff_not, List.not_lt]
  exact List.le_total _ _
theorem str_ext {a b : Str} (h : a.cps.toList = b.cps.toList) : a = b := by
  cases a with
  | mk a =>
    cases b with
    | mk b =>
      have : a = b := Array.toList_inj.mp h
      rw [this]
theorem leS_anti {a b : Str} (h1 : leS a b = true) (h2 : leS b a = true) : a = b := by
  unfold leS at *
  simp only [Bool.not_eq_true', decide_eq_false_iff_not, List.not_lt] at *
  exact str_ext (List.le_antisymm h1 h2)
theorem rising_pw : ∀ (l : List Str) (p : Str), risingS p l = true → (p :: l).Pairwise fun a b => leS a b = true
  | [], p, _ => by simp
  | x :: r, p, h => by
    have h0 : (!ltCps x.cps.toList p.cps.toList && risingS x r) = true := h
    obtain ⟨h1, h2⟩ := Bool.and_eq_true_iff.mp h0
    have ih := rising_pw r x h2
    have hpx : leS p x = true := by
      unfold leS
      rw [ltCps_eq] at h1
      exact h1
    refine List.pairwise_cons.mpr ⟨fun y hy => ?_, ih⟩
    rcases List.mem_cons.mp hy with q | q
    · rw [q]
      exact hpx
    · exact leS_trans _ _ _ hpx (List.rel_of_pairwise_cons ih q)
theorem sorted_pw {l : List Str} (h : sortedS l = true) : l.Pairwise fun a b => leS a b = true := by
  cases l with
  | nil => exact .nil
  | cons x r => exact rising_pw r x h
theorem sorted_is {ys ks : List Str} (p : ys.Perm ks) (s : sortedS ys = true) : ys = ks.mergeSort leS :=
  List.Perm.eq_of_pairwise (le := fun a b => leS a b = true) (fun _ _ _ _ => leS_anti) (sorted_pw s) (List.pairwise_mergeSort leS_trans leS_total ks) (p.trans (List.mergeSort_perm ks leS).symm)

/-! ### a dict from texts to data -/
section
variable {β : Type}
def getP (kv : List (Str × β)) (n : Str) : Option β := (kv.find? fun p => decide (p.1 = n)).map (·.2)
def putP (kv : List (Str × β)) (n : Str) (b : β) : List (Str × β) := if kv.any (fun p => decide (p.1 = n)) then kv.map (fun p => if p.1 = n then (p.1, b) else p) else kv ++ [(n, b)]
inductive KD (K : PySem.W.Frag) (H : Hp) (enc : β → PyData) : List (Key × V) → List (Str × β) → Prop
  | nil : KD K H enc [] []
  | cons {n : Str} {v : V} {b : β} {kvs : List (Key × V)} {r : List (Str × β)} : TD K H v (enc b) → KD K H enc kvs r → KD K H enc ((.inr n, v) :: kvs) ((n, b) :: r)
variable {K : PySem.W.Frag} {H H' : Hp} {enc : β → PyData}
theorem KD.tm (e : Tm H H') : ∀ {kvs : List (Key × V)} {r : List (Str × β)}, KD K H enc kvs r → KD K H' enc kvs r
  | _, _, .nil => .nil
  | _, _, .cons a b => .cons (a.tm e) (KD.tm e b)
theorem KD.ex (e : Ex H H') {kvs : List (Key × V)} {r : List (Str × β)} (h : KD K H enc kvs r) : KD K H' enc kvs r := h.tm (.ex e)
theorem KD.length : ∀ {kvs : List (Key × V)} {r : List (Str × β)}, KD K H enc kvs r → kvs.length = r.length
  | _, _, .nil => rfl
  | _, _, .cons _ b => congrArg Nat.succ (KD.length b)
theorem KD.keys : ∀ {kvs : List (Key × V)} {r : List (Str × β)}, KD K H enc kvs r → kvs.map (·.1) = (r.map (·.1)).map Sum.inr
  | _, _, .nil => rfl
  | _, _, .cons _ b => congrArg (List.cons _) (KD.keys b)
theorem KD.get (n : Str) : ∀ {kvs : List (Key × V)} {r : List (Str × β)}, KD K H enc kvs r → (match getP r n with
    | some b => ∃ v, valV kvs (.inr n) = some v ∧ TD K H v (enc b)
    | none => valV kvs (.inr n) = none)
  | _, _, .nil => rfl
  | _, _, @KD.cons _ _ _ _ m v b kvs r t h => by
    have ih := KD.get n h
    by_cases e : m = n
    · subst e
      have e1 : getP ((m, b) :: r) m = some b := by simp [getP]
      rw [e1]
      exact ⟨v, valV_pos rfl, t⟩
    · have e1 : getP ((m, b) :: r) n = getP r n := by simp [getP, e]
      have e2 : valV ((Sum.inr m, v) :: kvs) (Sum.inr n : Key) = valV kvs (.inr n) := valV_neg fun z => e (Sum.inr.inj z)
      rw [e1, e2]
      exact ih
theorem KD.some {n : Str} {b : β} {kvs : List (Key × V)} {r : List (Str × β)} (h : KD K H enc kvs r) (e : getP r n = .some b) : ∃ v, valV kvs (.inr n) = .some v ∧ TD K H v (enc b) := by
  have := h.get n
  rw [e] at this
  exact this
theorem KD.is {n : Str} {kvs : List (Key × V)} {r : List (Str × β)} (h : KD K H enc kvs r) : (valV kvs (.inr n)).isSome = (getP r n).isSome := by
  have := h.get n
  cases q : getP r n with
  | none =>
    rw [q] at this
    rw [this] <;> rfl
  | some b =>
    rw [q] at this
    obtain ⟨v, e, _⟩ := this
    rw [e]
    rfl
theorem KD.append : ∀ {kvs kvs' : List (Key × V)} {r r' : List (Str × β)}, KD K H enc kvs r → KD K H enc kvs' r' → KD K H enc (kvs ++ kvs') (r ++ r')
  | _, _, _, _, .nil, s => s
  | _, _, _, _, .cons t h, s => .cons t (KD.append h s)
theorem KD.upd {n : Str} {v : V} {b : β} (t : TD K H v (enc b)) : ∀ {kvs : List (Key × V)} {r : List (Str × β)}, KD K H enc kvs r → KD K H enc (kvs.map fun kv => if kv.1 = .inr n then (kv.1, v) else kv) (r.map fun p => if p.1 = n then (p.1, b) else p)
  | _, _, .nil => .nil
  | _, _, @KD.cons _ _ _ _ m u c kvs r t' h => by
    rw [List.map_cons, List.map_cons]
    by_cases e : m = n
    · subst e
      rw [if_pos rfl, if_pos rfl]
      exact .cons t (KD.upd t h)
    · rw [if_neg (fun z => e (Sum.inr.inj z)), if_neg e]
      exact .cons t' (KD.upd t h)
theorem KD.put {n : Str} {v : V} {b : β} {kvs : List (Key × V)} {r : List (Str × β)} (h : KD K H enc kvs r) (t : TD K H v (enc b)) : KD K H enc (putK kvs (.inr n) v) (putP r n b) := by
  have e : (kvs.any fun kv => decide (kv.1 = (Sum.inr n : Key))) = r.any fun p => decide (p.1 = n) := by
    have : ∀ {kvs : List (Key × V)} {r : List (Str × β)}, KD K H enc kvs r → (kvs.any fun kv => decide (kv.1 = (Sum.inr n : Key))) = r.any fun p => decide (p.1 = n) := by
      intro kvs r h
      induction h with
      | nil => rfl
      | @cons m u c kvs r t h ih =>
        rw [List.any_cons, List.any_cons, ih]
        by_cases e : m = n
        · simp [e]
        · simp [e]
    exact this h
  unfold putK putP
  rw [e]
  by_cases q : (r.any fun p => decide (p.1 = n)) = true
  · rw [if_pos q, if_pos q]
    exact h.upd t
  · rw [if_neg q, if_neg q]
    exact h.append (.cons t .nil)
theorem putP_len (r : List (Str × β)) (n : Str) (b : β) : (putP r n b).length ≤ r.length + 1 := by
  unfold putP
  split
  · rw [List.length_map]
    omega
  · rw [List.length_append]
    exact Nat.le_refl _
end
section
variable {X : Cx} {N : List Str} {sc : Scope} {k : Nat} {a b e o i value : Expr} {σ : L2.St} {H : Hp} {d : PyData} {v : V} {pos p p' : Pos} {Dn : Ends}
/-- o[i] = value, the key a text -/
theorem sput {q : Addr} {x : Str} {kvs : List (Key × V)} {R : Hp → V → Prop} (D : DC X N sc k) (hv : EvR (wE X value) σ H R) (hm : ∀ H1 H2 v, Ex H1 H2 → R H1 v → R H2 v) (ho : EV X o σ H (.ref q)) (hi : ED X i σ H (.str x)) (s : H q = some (.dK kvs)) (hl : kvs.length < 60000)
    (k : ∀ v H1, Ex H H1 → R H1 v → Dn.nx σ (upd H1 q (.dK (putK kvs (.inr x) v)))) (hs : swapsWith value (some (.Subscript o i p')) pos.line X.env = pure false := by rfl) : wS X (.Assign [.Subscript o i p'] value pos) Dn σ H :=
  ps_le (ps_dput D.hu (we o) (we i) (we value) hs) (hv H (Ex.refl H) _ fun v H1 x1 r => ho H1 x1 _ fun H2 x2 => EV.str hi H2 (x1.trans x2) _ fun H3 x3 =>
    ⟨q, _, rfl, DPut.k (k := .inr x) (((x1.trans x2).trans x3) _ _ s) (sz_lt (by omega)), k v H3 ((x1.trans x2).trans x3) (hm _ _ _ (x2.trans x3) r)⟩)
theorem sputD {q : Addr} {x : Str} {kvs : List (Key × V)} (D : DC X N sc k) (hv : ED X value σ H d) (ho : EV X o σ H (.ref q)) (hi : ED X i σ H (.str x)) (s : H q = some (.dK kvs)) (hl : kvs.length < 60000)
    (k : ∀ v H1, Ex H H1 → TD X.K H1 v d → Dn.nx σ (upd H1 q (.dK (putK kvs (.inr x) v)))) (hs : swapsWith value (some (.Subscript o i p')) pos.line X.env = pure false := by rfl) : wS X (.Assign [.Subscript o i p'] value pos) Dn σ H :=
  sput D hv (fun _ _ _ x t => t.ex x) ho hi s hl k hs
/-- the key an int -/
theorem sputI {q : Addr} {x : Int} {kvs : List (Key × V)} (D : DC X N sc k) (hv : ED X value σ H d) (ho : EV X o σ H (.ref q)) (hi : ED X i σ H (.int x)) (s : H q = some (.dK kvs)) (hl : kvs.length < 60000)
    (k : ∀ v H1, Ex H H1 → TD X.K H1 v d → Dn.nx σ (upd H1 q (.dK (putK kvs (.inl x) v)))) (hs : swapsWith value (some (.Subscript o i p')) pos.line X.env = pure false := by rfl) : wS X (.Assign [.Subscript o i p'] value pos) Dn σ H :=
  ps_le (ps_dput D.hu (we o) (we i) (we value) hs) (hv H (Ex.refl H) _ fun v H1 x1 r => ho H1 x1 _ fun H2 x2 => EV.int hi H2 (x1.trans x2) _ fun H3 x3 =>
    ⟨q, _, rfl, DPut.k (k := .inl x) (((x1.trans x2).trans x3) _ _ s) (sz_lt (by omega)), k v H3 ((x1.trans x2).trans x3) (r.ex (x2.trans x3))⟩)
/-- sorted(d), the keys texts -/
theorem lsortedK {q : Addr} {kvs : List (Key × V)} {ks : List Str} (D : DC X N sc k) (hm : X.mg "sorted" = none) (h : EV X e σ H (.ref q)) (s : H q = some (.dK kvs)) (hk : kvs.map (·.1) = ks.map Sum.inr) (hl : ks.length < 64) (hg : glB sc "sorted" = true := by decide +kernel)
    (hs : starEach (e :: []) X.env = (false, eval e X.env) :: starEach [] X.env := by rfl) : EL X (.Call (.Name "sorted" p) [e] [] pos) σ H ((ks.mergeSort leS).map .str) :=
  dB1 (R1 := fun H2 v => v = .ref q ∧ Ex H H2) D (call_sortedD D.calm) hm (by decide +kernel) (fun H1 x Q k => h H1 x Q fun H2 y => k _ _ y ⟨rfl, x.trans y⟩) (fun H1 v x z Q k => by
    obtain ⟨rfl, y⟩ := z
    refine ⟨q, kvs, ks, rfl, .inl (y _ _ s), hk, hl, fun ys p hp hsr hn => k _ _ (Ex.new hn) ⟨p, ys.map .str, rfl, fresh_back y hn, upd_same, ?_⟩⟩
    rw [sorted_is hp hsr]
    exact TDs.of_strs _) hg (by decide +kernel) (by decide +kernel) hs
/-- sorted(l, key=day_of_deed) -/
theorem lsortedDay {bs : List Deed} {k2 : Pos} (T : Txt X.K X.mg) (D : DC X N sc (k + 3)) (hm : X.mg "sorted" = none) (h : EL X e σ H (bs.map Deed.d)) (hg : glB sc "sorted" = true := by decide +kernel) (hg2 : glB sc "day_of_deed" = true := by decide +kernel)
    (hs : starEach (e :: []) X.env = (false, eval e X.env) :: starEach [] X.env := by rfl) :
    EL X (.Call (.Name "sorted" p) [e] [⟨some "key", .Name "day_of_deed" p', k2⟩] pos) σ H ((bs.mergeSort (dataLe false dayD)).map Deed.d) := fun H1 x1 Q q =>
  pe_le (pe_callBK (cr_sortedDay T (D.hr.mono (by omega))) (D.gl hg) hm (by decide +kernel) (pa_cons (we e) pa_nil hs) (pk_cons (pe_glob (D.gl hg2) T.g_day_of_deed (v := .ref (He.ga X.K "day_of_deed")) rfl (by decide +kernel)) pk_nil) (by decide +kernel) (by decide +kernel) (by rw [hs] <;> rfl) (by rw [hs] <;> rfl)) (h H1 x1 _ fun v H2 x2 t => by
    obtain ⟨a, vs, rfl, h0, h1, t⟩ := t
    exact ⟨a, vs, bs, rfl, rfl, .inl (.inl h1), t, fun ys p hp ty => q _ _ (x2.trans (Ex.new hp)) ⟨p, ys, rfl, fresh_back (x1.trans x2) hp, upd_same, ty.ex (Ex.new hp)⟩⟩)
end
end G
namespace G
open PySem PySem.Spec PyProof.Rows L2 Evl
section
variable {X : Cx} {N : List Str} {sc : Scope} {k : Nat} {a b e o i value : Expr} {σ : L2.St} {H : Hp} {d : PyData} {v : V} {pos p p' : Pos} {Dn : Ends} {elt tg iter : Expr} {ifs : List Expr} {scope : Scope}
theorem dneg {i : Int} (h : ED X e σ H (.int i)) : ED X (.UnaryOp .USub e pos) σ H (.int (-i)) :=
  EVd (fun H1 x Q q => pe_le (pe_un un_neg (we e)) (EV.int h H1 x _ fun H2 y => ⟨i, rfl, q H2 y⟩)) fun _ => .int _
/-- e by itself -/
theorem sexpr {R : Hp → V → Prop} (h : EvR (wE X e) σ H R) (q : ∀ H1, Ex H H1 → Dn.nx σ H1) (hs : swapsWith e none pos.line X.env = pure false := by rfl) : wS X (.Expr e pos) Dn σ H := ps_le (ps_expr (we e) hs) (h H (Ex.refl H) _ fun v H1 x _ => q H1 x)
/-- l == [], l a list that stands -/
theorem eqNil {q : Addr} {vs : List V} {xs : List PyData} {p1 : Pos} (D : DC X N sc k) (h : EV X a σ H (.ref q)) (s : H q = some (.lst vs)) (t : TDs X.K H vs xs) (hs : SeqAt.shaped (.list xs) = true) : ET X (.Compare a [.Eq] [.List [] p1] pos) σ H xs.isEmpty := by
  have e : PyData.eqv (.list xs) (.list []) = xs.isEmpty := by cases xs <;> rfl
  rw [← e]
  refine evr_opT (op_eqD D.u64) (nomark _) (R1 := fun H2 v => v = .ref q ∧ Ex H H2) (fun H1 x Q k => h H1 x Q fun H2 y => k _ _ y ⟨rfl, x.trans y⟩) (llst (xs := []) ean) (fun _ _ _ x t => ⟨t.1, t.2.trans x⟩) fun H1 x y _ t1 t2 Q k => ?_
  obtain ⟨rfl, y1⟩ := t1
  obtain ⟨p, us, rfl, _, h1, t2⟩ := t2
  cases t2
  exact ⟨_, _, .lst (.inl (.inl (y1 _ _ s))) (t.ex y1).dp, .lst (.inl (.inl h1)) .nil, hs, rfl, k⟩
/-- a comprehension over a list that stands -/
theorem lcV {α : Type} {A : Addr} {vs : List V} (m : α → PyData) (l : List α) (f : α → Bool) (g : α → PyData) (D : DC X N sc k) (own : List (Str × Nat)) (h : EV X iter σ H (.ref A)) (s : SqL X.K H A vs) (t : TDs X.K H vs (l.map m)) (hz : l.length < 50000)
    (turn : ∀ H1 x v, Ex H H1 → x ∈ l → TD X.K H1 v (m x) → Turn1 X scope tg ifs elt σ (own.map (·.2)) H1 v (f x) (g x)) (hb : blkC N sc scope own = true := by decide +kernel)
    (hs : ∀ x, foldedSetIterable iter X.env x = pure x := by intro _; rfl) : EL X (.ListComp elt [⟨tg, iter, ifs, 0⟩] scope pos) σ H (kept f g l) := by
  intro H1 x1 Q q
  refine pe_le (pe_lc D.calm D.ndX (pi_list (we iter)) (D.blkOk hb) gB_ok (fun s H' C cl fp => ftt_ok ⟨s, H', C, cl, fp⟩ ifs) teB_ok hs) (h H1 x1 _ fun H2 x2 => ?_)
  have s2 := ex_l (x1.trans x2) s
  have t := t.ex (x1.trans x2)
  refine ⟨A, rfl, ⟨_, s2⟩, fun Dl hD => lc_list (K := X.K) (a := A) (xs := vs) (fun i H' => Lw X.K H2 Dl (kept f g (l.take i)) H') ⟨hD, Ex.new hD, [], upd_same, by rw [List.take_zero]; exact .nil⟩ (fun i H' _ p => ex_l p.2.1 s2) (fun i u H' hi p => ?_) fun H' p => ?_⟩
  · obtain ⟨d, e1, e2⟩ := t.get' hi
    rw [List.getElem?_map] at e1
    cases hx : l[i]? with
    | none =>
      rw [hx] at e1
      cases e1
    | some x =>
      rw [hx] at e1
      have ed : m x = d := Option.some.inj e1
      subst ed
      have hlen := kept_len f g (l.take i)
      have hl2 : (l.take i).length ≤ l.length := by rw [List.length_take]; exact Nat.min_le_right _ _
      refine turn1 p (by omega) (turn H' x u ((x1.trans x2).trans p.2.1) (List.mem_of_getElem? hx) (e2.ex p.2.1)) fun H3 p3 => ?_
      rw [kept_more hx]
      exact p3
  · have e : vs.length = l.length := by rw [t.length, List.length_map]
    rw [e, List.take_length] at p
    obtain ⟨p1, p2, acc, p3, p4⟩ := p
    exact q _ H' (x2.trans p2) ⟨Dl, acc, rfl, fresh_back (x1.trans x2) p1, p3, p4⟩
theorem lcV0 {α : Type} {A : Addr} {vs : List V} (m : α → PyData) (l : List α) (g : α → PyData) (D : DC X N sc k) (own : List (Str × Nat)) (h : EV X iter σ H (.ref A)) (s : SqL X.K H A vs) (t : TDs X.K H vs (l.map m)) (hz : l.length < 50000)
    (turn : ∀ H1 x v, Ex H H1 → x ∈ l → TD X.K H1 v (m x) → Turn1 X scope tg [] elt σ (own.map (·.2)) H1 v true (g x)) (hb : blkC N sc scope own = true := by decide +kernel)
    (hs : ∀ x, foldedSetIterable iter X.env x = pure x := by intro _; rfl) : EL X (.ListComp elt [⟨tg, iter, [], 0⟩] scope pos) σ H (l.map g) := kept_all g l ▸ lcV m l (fun _ => true) g D own h s t hz turn hb hs
theorem wS.mono {st : Stmt} {D1 D2 : Ends} (h : wS X st D1 σ H) (n : ∀ σ H, D1.nx σ H → D2.nx σ H) (b : ∀ σ H, D1.bk σ H → D2.bk σ H) (c : ∀ σ H, D1.ct σ H → D2.ct σ H) (r : ∀ v H, D1.rt v H → D2.rt v H) : wS X st D2 σ H := ⟨fun pins s I => thn (h.run pins s I) fun f s' q => by
  cases f with
  | next => obtain ⟨a, c, d, e⟩ := q; exact ⟨a, c, d, n _ _ e⟩
  | brk => obtain ⟨a, c, d, e⟩ := q; exact ⟨a, c, d, b _ _ e⟩
  | cont => obtain ⟨a, d, e, f⟩ := q; exact ⟨a, d, e, c _ _ f⟩
  | ret u => obtain ⟨a, c, d, e, f, g⟩ := q; exact ⟨a, c, d, e, f, r _ _ g⟩⟩
/-- if, with what holds behind both ways -/
theorem sifM {c : Bool} {t u : List Stmt} (M : L2.St → Hp → Prop) (h : ET X e σ H c) (q1 : c = true → ∀ H1, Ex H H1 → wSs X t { Dn with nx := M } σ H1) (q2 : c = false → ∀ H1, Ex H H1 → wSs X u { Dn with nx := M } σ H1) (k : ∀ σ' H', M σ' H' → Dn.nx σ' H') : wS X (.If e t u pos) Dn σ H :=
  wS.mono (sif (Dn := { Dn with nx := M }) h q1 q2) k (fun _ _ h => h) (fun _ _ h => h) (fun _ _ h => h)
end
/-- what stands elsewhere than at q -/
def Eb (q : Addr) (H H' : Hp) : Prop := ∀ a o, a ≠ q → H a = some o → H' a = some o
theorem atI_neg1 {α : Type} {xs : List α} {x : α} (h : xs.getLast? = some x) : atI xs (-1) = some x := by
  obtain ⟨ys, rfl⟩ := List.getLast?_eq_some_iff.mp h
  exact atI_last ys x
end G
namespace G
open PySem PySem.Spec PyProof.Rows L2 Evl
section
variable {X : Cx} {N : List Str} {sc : Scope} {k : Nat} {a b e : Expr} {σ : L2.St} {H : Hp} {d : PyData} {v : V} {pos p p' py sp : Pos} {Dn : Ends} {elt tg iter : Expr} {ifs : List Expr} {scope : Scope} {y : Str}
def plainB (sc : Scope) (x : Str) : Bool := decide (sc.names.lookup x = some .local)
/-- y = [..] on one line, y a plain local -/
theorem asgLcW {wi : TI} {i : Nat} (D : DC X N sc k) (own : List (Str × Nat)) (hi : PI X tg iter wi) (q : ∀ pins s, Inv X pins σ H s → tLc wi (gB X scope tg) (ftt X scope ifs) (teB X scope elt) (own.map (·.2)) σ H (fun x H1 => Dn.nx (σ.set i (some x)) H1))
    (hy : N[i]? = some y) (hl : plainB sc y = true) (hb : blkC N sc scope own = true) (hp : (py.line == pos.line) = true) (ha : (scope.names.any fun (n, k) => n == y && (k == .local || k == .cell)) = false)
    (hs : ∀ x, foldedSetIterable iter X.env x = pure x) : wS X (.Assign [.Name y py] (.ListComp elt [⟨tg, iter, ifs, 0⟩] scope pos) sp) Dn σ H := ⟨fun pins s I => by
  have ly : X.env.scope.names.lookup y = some .local := D.keep y _ (by decide) (of_decide_eq_true hl)
  exact (ps_setLc D.calm D.ndX (D.ix hy) ly (sw_true I.ok.kind ly hp ha) hi (D.blkOk hb) gB_ok (fun s H' C cl fp => ftt_ok ⟨s, H', C, cl, fp⟩ ifs) teB_ok hs).run pins s σ H Dn I (q pins s I)⟩
theorem asgLcL {α : Type} (m : α → PyData) (l : List α) (f : α → Bool) (g : α → PyData) (D : DC X N sc k) (i : Nat) (own : List (Str × Nat)) (h : EL X iter σ H (l.map m)) (hz : l.length < 50000)
    (turn : ∀ H1 x v, Ex H H1 → x ∈ l → TD X.K H1 v (m x) → Turn1 X scope tg ifs elt σ (own.map (·.2)) H1 v (f x) (g x)) (q : ∀ p xs H1, H p = none → Ex H H1 → H1 p = some (.lst xs) → TDs X.K H1 xs (kept f g l) → Dn.nx (σ.set i (some (.ref p))) H1)
    (hy : N[i]? = some y := by rfl) (hl : plainB sc y = true := by decide +kernel) (hb : blkC N sc scope own = true := by decide +kernel) (hp : (py.line == pos.line) = true := by rfl) (ha : (scope.names.any fun (n, k) => n == y && (k == .local || k == .cell)) = false := by decide +kernel)
    (hs : ∀ x, foldedSetIterable iter X.env x = pure x := by intro _; rfl) : wS X (.Assign [.Name y py] (.ListComp elt [⟨tg, iter, ifs, 0⟩] scope pos) sp) Dn σ H := by
  refine asgLcW D own (pi_list (we iter)) (fun _ _ _ => h H (Ex.refl H) _ fun v H2 x2 t => ?_) hy hl hb hp ha hs
  obtain ⟨A, vs, rfl, _, s, t⟩ := t
  refine ⟨A, rfl, ⟨_, .inl (.inl s)⟩, fun Dl hD => lc_list (K := X.K) (a := A) (xs := vs) (fun i H' => Lw X.K H2 Dl (kept f g (l.take i)) H') ⟨hD, Ex.new hD, [], upd_same, by rw [List.take_zero]; exact .nil⟩ (fun i H' _ p => .inl (.inl (p.2.1 _ _ s))) (fun i u H' hi p => ?_) fun H' p => ?_⟩
  · obtain ⟨d, e1, e2⟩ := t.get' hi
    rw [List.getElem?_map] at e1
    cases hx : l[i]? with
    | none =>
      rw [hx] at e1
      cases e1
    | some x =>
      rw [hx] at e1
      have ed : m x = d := Option.some.inj e1
      subst ed
      have hlen := kept_len f g (l.take i)
      have hl2 : (l.take i).length ≤ l.length := by rw [List.length_take]; exact Nat.min_le_right _ _
      refine turn1 p (by omega) (turn H' x u (x2.trans p.2.1) (List.mem_of_getElem? hx) (e2.ex p.2.1)) fun H3 p3 => ?_
      rw [kept_more hx]
      exact p3
  · have e : vs.length = l.length := by rw [t.length, List.length_map]
    rw [e, List.take_length] at p
    obtain ⟨p1, p2, acc, p3, p4⟩ := p
    exact q Dl acc H' (fresh_back x2 p1) (x2.trans p2) p3 p4
theorem asgLcT {α : Type} (m : α → PyData) (l : List α) (f : α → Bool) (g : α → PyData) (D : DC X N sc k) (i : Nat) (own : List (Str × Nat)) (h : ED X iter σ H (.tuple (l.map m))) (hz : l.length < 50000)
    (turn : ∀ H1 x v, Ex H H1 → x ∈ l → TD X.K H1 v (m x) → Turn1 X scope tg ifs elt σ (own.map (·.2)) H1 v (f x) (g x)) (q : ∀ p xs H1, H p = none → Ex H H1 → H1 p = some (.lst xs) → TDs X.K H1 xs (kept f g l) → Dn.nx (σ.set i (some (.ref p))) H1)
    (hy : N[i]? = some y := by rfl) (hl : plainB sc y = true := by decide +kernel) (hb : blkC N sc scope own = true := by decide +kernel) (hp : (py.line == pos.line) = true := by rfl) (ha : (scope.names.any fun (n, k) => n == y && (k == .local || k == .cell)) = false := by decide +kernel)
    (hs : ∀ x, foldedSetIterable iter X.env x = pure x := by intro _; rfl) : wS X (.Assign [.Name y py] (.ListComp elt [⟨tg, iter, ifs, 0⟩] scope pos) sp) Dn σ H := by
  refine asgLcW D own (pi_tup (we iter)) (fun _ _ _ => h H (Ex.refl H) _ fun v H2 x2 t => ?_) hy hl hb hp ha hs
  cases t with
  | @tup A vs _ s t =>
    refine ⟨A, rfl, ⟨_, s⟩, fun Dl hD => lc_tup (K := X.K) (a := A) (xs := vs) (fun i H' => Lw X.K H2 Dl (kept f g (l.take i)) H') ⟨hD, Ex.new hD, [], upd_same, by rw [List.take_zero]; exact .nil⟩ (fun i H' _ p => ex_t p.2.1 s) (fun i u H' hi p => ?_) fun H' p => ?_⟩
    · obtain ⟨d, e1, e2⟩ := t.get' hi
      rw [List.getElem?_map] at e1
      cases hx : l[i]? with
      | none =>
        rw [hx] at e1
        cases e1
      | some x =>
        rw [hx] at e1
        have ed : m x = d := Option.some.inj e1
        subst ed
        have hlen := kept_len f g (l.take i)
        have hl2 : (l.take i).length ≤ l.length := by rw [List.length_take]; exact Nat.min_le_right _ _
        refine turn1 p (by omega) (turn H' x u (x2.trans p.2.1) (List.mem_of_getElem? hx) (e2.ex p.2.1)) fun H3 p3 => ?_
        rw [kept_more hx]
        exact p3
    · have e : vs.length = l.length := by rw [t.length, List.length_map]
      rw [e, List.take_length] at p
      obtain ⟨p1, p2, acc, p3, p4⟩ := p
      exact q Dl acc H' (fresh_back x2 p1) (x2.trans p2) p3 p4
theorem asgLcR {n : Int} (f : Nat → Bool) (g : Nat → PyData) (D : DC X N sc k) (i : Nat) (own : List (Str × Nat)) (hm : X.mg "range" = none) (h : ED X a σ H (.int n)) (hz : 0 ≤ n ∧ n < 50000)
    (turn : ∀ H1 (j : Nat), Ex H H1 → (j : Int) < n → Turn1 X scope tg ifs elt σ (own.map (·.2)) H1 (.int (j : Int)) (f j) (g j)) (q : ∀ p xs H1, H p = none → Ex H H1 → H1 p = some (.lst xs) → TDs X.K H1 xs (kept f g (List.range n.toNat)) → Dn.nx (σ.set i (some (.ref p))) H1)
    (hy : N[i]? = some y := by rfl) (hl : plainB sc y = true := by decide +kernel) (hb : blkC N sc scope own = true := by decide +kernel) (hp : (py.line == pos.line) = true := by rfl) (ha : (scope.names.any fun (n, k) => n == y && (k == .local || k == .cell)) = false := by decide +kernel)
    (hg : glB sc "range" = true := by decide +kernel) (hs0 : starEach (a :: []) X.env = (false, eval a X.env) :: starEach [] X.env := by rfl) (hs : ∀ x, foldedSetIterable (.Call (.Name "range" p) [a] [] p') X.env x = pure x := by intro _; rfl) :
    wS X (.Assign [.Name y py] (.ListComp elt [⟨tg, .Call (.Name "range" p) [a] [] p', ifs, 0⟩] scope pos) sp) Dn σ H := by
  refine asgLcW D own (pi_range1 (D.gl hg) hm (wa [a]) hs0) (fun _ _ _ => (ead h ean hs0) H (Ex.refl H) _ fun vs H2 x2 t => ?_) hy hl hb hp ha hs
  cases t with
  | d t r =>
    cases r
    obtain rfl := t.int_iff
    refine ⟨n, rfl, by omega, by omega, fun Dl hD => lc_range (lo := 0) (n := n.toNat) (fun i H' => Lw X.K H2 Dl (kept f g ((List.range n.toNat).take i)) H') ⟨hD, Ex.new hD, [], upd_same, by rw [List.take_zero]; exact .nil⟩ (fun i H' hi' p => ?_) fun H' p => ?_⟩
    · have hx : (List.range n.toNat)[i]? = some i := by rw [List.getElem?_range hi']
      have hlen := kept_len f g ((List.range n.toNat).take i)
      have hl2 : ((List.range n.toNat).take i).length ≤ n.toNat := by rw [List.length_take, List.length_range]; exact Nat.min_le_right _ _
      refine turn1 p (by omega) (by rw [Int.zero_add]; exact turn H' i (x2.trans p.2.1) (by omega)) fun H3 p3 => ?_
      rw [kept_more hx]
      exact p3
    · have e : (List.range n.toNat).take n.toNat = List.range n.toNat := by rw [List.take_of_length_le]; rw [List.length_range]; exact Nat.le_refl _
      rw [e] at p
      obtain ⟨p1, p2, acc, p3, p4⟩ := p
      exact q Dl acc H' (fresh_back x2 p1) (x2.trans p2) p3 p4
end
end G
/-! min of a list of data. -/
namespace G
open PySem PySem.Spec PyProof.Rows L2 Evl
open PySem.W (AlikeAll minD min_list_data)
theorem cr_minD {X : Cx} (hc : X.calm = true) (hu : X.A.units + 64 < cLine) : CallR X (.builtin "min") (fun xs H Q => ∃ a vs x ds, xs = [.ref a] ∧ SqL X.K H a vs ∧ TDs X.K H vs (x :: ds) ∧ AlikeAll (x :: ds) ∧ PyData.depthAll (x :: ds) ≤ 50 ∧ ∀ v, TD X.K H v (minD x ds) → Q v H) := by
  intro pins s σ H xs us Q I r h
  obtain ⟨a, vs, x, ds, rfl, hs, t, ha, hd, q⟩ := h
  obtain rfl := Vals.ref1 r
  obtain ⟨its, rv, hl, hz⟩ := I.list hs
  obtain ⟨as, ra⟩ := Dp.readsAll I (x :: ds) vs its t.dp rv
  refine min_list_data (vs := its.toArray) (I.ok.hd hc) hl.isList (by simpa using ra) ha (by omega) fun i v h' tk bs hi hr hk => ?_
  have hi' : its[i]? = some v := by simpa using hi
  obtain ⟨y, hy, ry⟩ : ∃ y, vs[i]? = some y ∧ RelV y v := by
    have hlen := rv.length
    have h1 := (List.getElem?_eq_some_iff.mp hi').1
    have h2 : i < vs.length := by omega
    obtain ⟨u, e1, e2⟩ := rv.get (List.getElem?_eq_getElem h2)
    rw [hi'] at e1
    cases e1
    exact ⟨_, List.getElem?_eq_getElem h2, e2⟩
  obtain ⟨d, hd1, hd2⟩ := t.get' hy
  obtain ⟨cs, rd⟩ := Dp.reads I d y v hd2.dp ry
  have e := (Reads.unique (PySem.W.reads_keeps hk rd) _ _ hr).1
  subst e
  exact ⟨y, H, I.kept (t' := tk) hk, ry, q y hd2⟩
section
variable {X : Cx} {N : List Str} {sc : Scope} {k : Nat} {e : Expr} {σ : L2.St} {H : Hp} {pos p : Pos}
/-- min(l), l a list that stands -/
theorem dminL {q : Addr} {vs : List V} {x : PyData} {ds : List PyData} (D : DC X N sc k) (hm : X.mg "min" = none) (h : EV X e σ H (.ref q)) (s : SqL X.K H q vs) (t : TDs X.K H vs (x :: ds)) (ha : AlikeAll (x :: ds)) (hd : PyData.depthAll (x :: ds) ≤ 50) (hg : glB sc "min" = true := by decide +kernel)
    (hs : starEach (e :: []) X.env = (false, eval e X.env) :: starEach [] X.env := by rfl) : ED X (.Call (.Name "min" p) [e] [] pos) σ H (minD x ds) :=
  dB1 (R1 := fun H2 v => v = .ref q ∧ Ex H H2) D (cr_minD D.calm D.u64) hm (by decide +kernel) (fun H1 x Q k => h H1 x Q fun H2 y => k _ _ y ⟨rfl, x.trans y⟩) (fun H1 v x z Q k => by
    obtain ⟨rfl, y⟩ := z
    exact ⟨q, vs, _, ds, rfl, ex_l y s, t.ex y, ha, hd, fun v tv => k v H1 (Ex.refl _) tv⟩) hg (by decide +kernel) (by decide +kernel) hs
end
end G
/-! Calls that move the heap; instances. -/
namespace G
open PySem PySem.Spec PyProof.Rows L2 Evl
/-- only what lies at S is moved, and no tuple -/
structure Mo (S : List Addr) (H H' : Hp) : Prop where
  keep : ∀ a o, a ∉ S → H a = some o → H' a = some o
  tm : Tm H H'
section
variable {S S' : List Addr} {H H1 H2 : Hp} {p : Addr}
theorem Mo.refl (S : List Addr) (H : Hp) : Mo S H H := ⟨fun _ _ _ h => h, Tm.refl H⟩
theorem Mo.ex (x : Ex H H1) : Mo S H H1 := ⟨fun a o _ h => x a o h, .ex x⟩
theorem Mo.trans (a : Mo S H H1) (b : Mo S H1 H2) : Mo S H H2 := ⟨fun c o n h => b.keep c o n (a.keep c o n h), a.tm.trans b.tm⟩
theorem Mo.then (a : Mo S H H1) (b : Ex H1 H2) : Mo S H H2 := a.trans (.ex b)
theorem Mo.sub (a : Mo S H H1) (h : ∀ x ∈ S, x ∈ S') : Mo S' H H1 := ⟨fun c o n e => a.keep c o (fun z => n (h c z)) e, a.tm⟩
/-- no tuple lies there -/
def NoTup (o : HO) : Prop := (∀ xs, o ≠ .tup xs) ∧ ∀ ob xs, o ≠ .frz ob (.tup xs)
theorem nt_lst {xs : List V} : NoTup (.lst xs) := ⟨fun _ z => (nomatch z), fun _ _ z => (nomatch z)⟩
theorem nt_dK {xs : List (Key × V)} : NoTup (.dK xs) := ⟨fun _ z => (nomatch z), fun _ _ z => (nomatch z)⟩
theorem nt_ins {C dx : Addr} {fs : List (Str × V)} : NoTup (.ins C dx fs) := ⟨fun _ z => (nomatch z), fun _ _ z => (nomatch z)⟩
theorem Mo.put {o o' : HO} (a : Mo S H H1) (h : H1 p = some o) (n : NoTup o) (hp : p ∈ S) : Mo S H (upd H1 p o') := a.trans ⟨fun c u z e => by rw [upd_ne (fun q => z (by rw [q]; exact hp))]; exact e, Tm.put h n.1 n.2⟩
/-- at an address that was free -/
theorem Mo.new {o' : HO} (a : Mo S H H1) (h : H p = none) : Mo S H (upd H1 p o') := ⟨fun c u z e => by rw [upd_ne (ne_of_none e h)]; exact a.keep c u z e, fun c xs r => by
  have hc : c ≠ p := by
    rcases r with r | ⟨ob, r⟩
    · exact ne_of_none r h
    · exact ne_of_none r h
  have := a.tm c xs r
  rcases this with r | ⟨ob, r⟩
  · exact .inl (by rw [upd_ne hc]; exact r)
  · exact .inr ⟨ob, by rw [upd_ne hc]; exact r⟩⟩
theorem Mo.to_ex (a : Mo S H H1) (h : ∀ x ∈ S, H x = none) : Ex H H1 := fun c o e => a.keep c o (fun z => by rw [h c z] at e; cases e) e
end
/-- a promise with any move of the heap -/
def SpG {α : Type} (K : PySem.W.Frag) (as : α → List AV) (pre : α → Hp → Prop) (R : α → Hp → Hp → V → Prop) : Sp := fun vs H Q _ => ∃ a, AVs K H vs (as a) ∧ pre a H ∧ ∀ v H', R a H H' v → Q v H'
section
variable {X : Cx} {N : List Str} {sc : Scope} {k j : Nat} {e o value : Expr} {es : List Expr} {σ : L2.St} {H : Hp} {pos p p' : Pos} {x f : Str} {ps : List Str} {α : Type} {as : α → List AV} {pre : α → Hp → Prop} {R : α → Hp → Hp → V → Prop} {Dn : Ends} {v : V}
/-- a def by its body -/
theorem mkFn {P : Program} {w : World} {K : PySem.W.Frag} {mg : Str → Option Value} {base : Heap} {x qual : Str} {st : Stmt} {f : Addr} {fd : FuncData} {N ps : List Str} {sc : Scope} {k : Nat}
    (F : FunD K x qual (defArgs st) (defBody st) (defScope st) [] [] f fd) (S : FnScope N ps sc) (hsc : defScope st = sc)
    (hb : ∀ (kV doc pm : Value) (an : Option Addr) (cdv ct : Value) (us : List Value), us.length = ps.length → bindArgs (PySem.W.fnOf x qual (defArgs st) (defBody st) (defScope st) .none kV doc pm an cdv ct) ⟨us, []⟩ = pure (ps.zip us)) (len : ∀ a, (as a).length = ps.length)
    (body : ∀ X : Cx, X.prog = P → X.w = w → X.K = K → X.mg = mg → X.base = base → DC X N sc k → ∀ a vs H Q, AVs K H vs (as a) → pre a H → (∀ v H', R a H H' v → Q v H') → wSs X (defBody st) { nx := fun _ H' => Q .non H', rt := Q } (start N vs) H) :
    FnOk P w K mg base CX0 (k + 1) f fd ps (SpG K as pre R) ∧ Binds K fd ps [] := by
  refine ⟨?_, F.bindsN hb⟩
  have S' : FnScope N ps (defScope st) := hsc ▸ S
  refine F.ok S' (fun vs H Q E h => ?_) fun cdv A outer s H vs Q E hr h => ?_
  · obtain ⟨a, t, _⟩ := h
    rw [t.length, len a]
  · obtain ⟨a, t, hp, hq⟩ := h
    have D := DC.of (P := P) (w := w) (K := K) (mg := mg) (base := base) (outer := outer) (H := H) (E := E) (CX := CX0) S' hr
    exact ⟨_, PSs.nox (wss _), body _ rfl rfl rfl rfl rfl (hsc ▸ D) a vs H Q t hp hq⟩
theorem mkCalG {P : Program} {w : World} {K : PySem.W.Frag} {mg : Str → Option Value} {base : Heap} {x qual : Str} {st : Stmt} {f : Addr} {fd : FuncData} {N ps : List Str} {sc : Scope} {k : Nat}
    (F : FunD K x qual (defArgs st) (defBody st) (defScope st) [] [] f fd) (hm : mg x = some (.ref f)) (S : FnScope N ps sc) (hsc : defScope st = sc)
    (hb : ∀ (kV doc pm : Value) (an : Option Addr) (cdv ct : Value) (us : List Value), us.length = ps.length → bindArgs (PySem.W.fnOf x qual (defArgs st) (defBody st) (defScope st) .none kV doc pm an cdv ct) ⟨us, []⟩ = pure (ps.zip us)) (len : ∀ a, (as a).length = ps.length)
    (body : ∀ X : Cx, X.prog = P → X.w = w → X.K = K → X.mg = mg → X.base = base → DC X N sc k → ∀ a vs H Q, AVs K H vs (as a) → pre a H → (∀ v H', R a H H' v → Q v H') → wSs X (defBody st) { nx := fun _ H' => Q .non H', rt := Q } (start N vs) H) :
    Cal P w K mg base (k + 1) x ps (SpG K as pre R) := by
  obtain ⟨a, b⟩ := mkFn F S hsc hb len body
  exact ⟨f, fd, hm, F.kp, a, b⟩
/-- a method | a class that may be made -/
structure MetC (P : Program) (w : World) (K : PySem.W.Frag) (mg : Str → Option Value) (base : Heap) (j : Nat) (C : Addr) (m : Str) (ps : List Str) (sp : Sp) : Prop where
  ex : ∃ f fd, Meth K C m f ∧ FnOk P w K mg base CX0 j f fd ps sp ∧ Binds K fd ps []
structure MakC (P : Program) (w : World) (K : PySem.W.Frag) (mg : Str → Option Value) (base : Heap) (j : Nat) (x : Str) (C : Addr) (ps : List Str) (sp : Sp) : Prop where
  ex : ∃ f fd, Mk K C f ∧ FnOk P w K mg base CX0 j f fd ps sp ∧ mg x = some (.ref C) ∧ Binds K fd ps []
/-- f(..), any move -/
theorem gcall {Q : VK} {as' : List AV} (D : DC X N sc k) (c : Cal X.prog X.w X.K X.mg X.base j x ps (SpG X.K as pre R)) (hj : j ≤ k) (ha : EA X (e :: es) σ H as') (hp : ∀ H1, Ex H H1 → ∃ a, as a = as' ∧ pre a H1 ∧ ∀ v H2, R a H1 H2 v → Q v H2)
    (hg : glB sc x = true := by decide +kernel) (hd : (x == ("__debug__" : Str)) = false := by decide +kernel) (hs : starEach (e :: es) X.env = (false, eval e X.env) :: starEach es X.env := by rfl) (hpl : (backTo pos (starEach es X.env)).any (·.1) = false := by rfl) : wE X (.Call (.Name x p) (e :: es) [] pos) σ H Q := by
  obtain ⟨f, fd, hm, hk, F, hb⟩ := c.ex
  exact pe_le (pe_call F (D.hr.mono hj) (D.gl hg) hm hk hb .nil pass0 (wa (e :: es)) hd hs hpl) (ha H (Ex.refl H) _ fun vs H2 x2 t => by
    rw [List.append_nil]
    obtain ⟨a, rfl, h1, h2⟩ := hp H2 x2
    exact ⟨a, t, h1, h2⟩)
/-- C(..): a new instance -/
theorem dmake {C : Addr} {as' : List AV} {R' : Hp → V → Prop} (D : DC X N sc k) (c : MakC X.prog X.w X.K X.mg X.base j x C ps (SpG X.K as pre R)) (hj : j + 1 ≤ k) (ha : EA X (e :: es) σ H as')
    (hp : ∀ H1 q dx, Ex H H1 → H1 q = none → H1 dx = none → dx ≠ q → ∃ a, as a = .v (.ref q) :: as' ∧ pre a (upd (upd H1 dx (.own q)) q (.ins C dx [])) ∧ ∀ v H2, R a (upd (upd H1 dx (.own q)) q (.ins C dx [])) H2 v → v = .non ∧ Ex H1 H2 ∧ R' H2 (.ref q))
    (hg : glB sc x = true := by decide +kernel) (hd : (x == ("__debug__" : Str)) = false := by decide +kernel) (hs : starEach (e :: es) X.env = (false, eval e X.env) :: starEach es X.env := by rfl) (hpl : (backTo pos (starEach es X.env)).any (·.1) = false := by rfl) : EvR (wE X (.Call (.Name x p) (e :: es) [] pos)) σ H R' := by
  obtain ⟨f, fd, M, F, hm, hb⟩ := c.ex
  intro H1 x1 Q q
  exact pe_le (pe_make M F (D.hr.mono hj) (D.gl hg) hm hb .nil pass0 (wa (e :: es)) hd hs hpl) (ha H1 x1 _ fun vs H2 x2 t => fun y dx hy hdx hne => by
    rw [List.append_nil]
    obtain ⟨a, e1, h1, h2⟩ := hp H2 y dx (x1.trans x2) hy hdx hne
    have n1 : Ex H2 (upd H2 dx (.own y)) := Ex.new hdx
    have n2 : Ex (upd H2 dx (.own y)) (upd (upd H2 dx (.own y)) y (.ins C dx [])) := Ex.new (by rw [upd_ne (Ne.symm hne)]; exact hy)
    refine ⟨a, by rw [e1]; exact .v (t.ex (n1.trans n2)), h1, fun v H3 r => ?_⟩
    obtain ⟨e3, x3, r3⟩ := h2 v H3 r
    exact ⟨e3, q _ H3 (x2.trans x3) r3⟩)
/-- o.f -/
theorem efld {a C dx : Addr} {fs : List (Str × V)} (ho : EV X o σ H (.ref a)) (hi : H a = some (.ins C dx fs)) (c : Cls X.K C) (n : NoAttr X.K C f) (hl : fs.lookup f = some v) (hb : attributeBase o f X.env (eval o X.env) = eval o X.env := by rfl) : EV X (.Attribute o f pos) σ H v := fun H1 x1 Q q =>
  pe_le (pe_fld (we o) hb) (ho H1 x1 _ fun H2 x2 => ⟨a, C, dx, fs, v, rfl, (x1.trans x2) _ _ hi, c, n, hl, q H2 x2⟩)
/-- o.f = value -/
theorem sfld {a C dx : Addr} {fs : List (Str × V)} {R : Hp → V → Prop} (ho : EV X o σ H (.ref a)) (hv : EvR (wE X value) σ H R) (hm : ∀ H1 H2 v, Ex H1 H2 → R H1 v → R H2 v) (hi : H a = some (.ins C dx fs)) (c : Cls X.K C) (n : NoAttr X.K C f) (hl : fs.length < 1000)
    (q : ∀ v H1, Ex H H1 → R H1 v → Dn.nx σ (upd H1 a (.ins C dx (putF f v fs)))) (hs : swapsWith value (some (.Attribute o f p')) pos.line X.env = pure false := by rfl) : wS X (.Assign [.Attribute o f p'] value pos) Dn σ H :=
  ps_le (ps_fld (we o) (we value) hs) (hv H (Ex.refl H) _ fun v H1 x1 r => ho H1 x1 _ fun H2 x2 => ⟨a, C, dx, fs, rfl, (x1.trans x2) _ _ hi, c, n, hl, q v H2 (x1.trans x2) (hm _ _ _ x2 r)⟩)
theorem sfldD {a C dx : Addr} {fs : List (Str × V)} {d : PyData} (ho : EV X o σ H (.ref a)) (hv : ED X value σ H d) (hi : H a = some (.ins C dx fs)) (c : Cls X.K C) (n : NoAttr X.K C f) (hl : fs.length < 1000)
    (q : ∀ v H1, Ex H H1 → TD X.K H1 v d → Dn.nx σ (upd H1 a (.ins C dx (putF f v fs)))) (hs : swapsWith value (some (.Attribute o f p')) pos.line X.env = pure false := by rfl) : wS X (.Assign [.Attribute o f p'] value pos) Dn σ H := sfld ho hv (fun _ _ _ x t => t.ex x) hi c n hl q hs
theorem sfldV {a C dx : Addr} {fs : List (Str × V)} (ho : EV X o σ H (.ref a)) (hv : EV X value σ H v) (hi : H a = some (.ins C dx fs)) (c : Cls X.K C) (n : NoAttr X.K C f) (hl : fs.length < 1000)
    (q : ∀ H1, Ex H H1 → Dn.nx σ (upd H1 a (.ins C dx (putF f v fs)))) (hs : swapsWith value (some (.Attribute o f p')) pos.line X.env = pure false := by rfl) : wS X (.Assign [.Attribute o f p'] value pos) Dn σ H :=
  sfld (R := fun _ u => u = v) ho (fun H1 x Q k => hv H1 x Q fun H2 y => k _ _ y rfl) (fun _ _ _ _ h => h) hi c n hl (fun u H1 x e => by rw [e]; exact q H1 x) hs
/-- o.m(), any move -/
theorem gmeth0 {C a dx : Addr} {m : Str} {fs : List (Str × V)} {pl : Sem Bool} {apos : Pos} {Q : VK} (D : DC X N sc k) (c : MetC X.prog X.w X.K X.mg X.base j C m ps (SpG X.K as pre R)) (kc : Cls X.K C) (hj : j ≤ k) (ho : EV X o σ H (.ref a)) (hi : H a = some (.ins C dx fs)) (hn : fs.lookup m = none)
    (hp : ∀ H1, Ex H H1 → ∃ z, as z = [.v (.ref a)] ∧ pre z H1 ∧ ∀ v H2, R z H1 H2 v → Q v H2)
    (ht : eval (.Call (.Attribute o m apos) [] [] pos) X.env = (do
      let ov ← eval o X.env
      standAt apos.atName
      let (f, first) ← holding [ov] (getMethod ov m pl)
      callWith pos f first (backTo pos (starEach [] X.env)) (backToKw pos (keywordEach [] X.env))) := by rfl) : wE X (.Call (.Attribute o m apos) [] [] pos) σ H Q := by
  obtain ⟨f, fd, M, F, hb⟩ := c.ex
  exact pe_le (pe_meth0 (we o) kc M F (D.hr.mono hj) hb .nil pass0 ht) (ho H (Ex.refl H) _ fun H1 x1 => ⟨a, dx, fs, rfl, x1 _ _ hi, hn, by
    obtain ⟨z, e, h1, h2⟩ := hp H1 x1
    exact ⟨z, by rw [e]; exact .v .nil, h1, h2⟩⟩)
/-- o.m(e, ..), any move -/
theorem gmeth {C a dx : Addr} {m : Str} {fs : List (Str × V)} {pl : Sem Bool} {apos : Pos} {Q : VK} {as' : List AV} (D : DC X N sc k) (c : MetC X.prog X.w X.K X.mg X.base j C m ps (SpG X.K as pre R)) (kc : Cls X.K C) (hj : j ≤ k) (ho : EV X o σ H (.ref a)) (hi : H a = some (.ins C dx fs)) (hn : fs.lookup m = none) (ha : EA X (e :: es) σ H as')
    (hp : ∀ H1, Ex H H1 → ∃ z, as z = .v (.ref a) :: as' ∧ pre z H1 ∧ ∀ v H2, R z H1 H2 v → Q v H2)
    (hst : starEach (e :: es) X.env = (false, eval e X.env) :: starEach es X.env := by rfl) (hpl : (backTo pos (starEach es X.env)).any (·.1) = false := by rfl)
    (ht : eval (.Call (.Attribute o m apos) (e :: es) [] pos) X.env = (do
      let ov ← eval o X.env
      standAt apos.atName
      let (f, first) ← holding [ov] (getMethod ov m pl)
      callWith pos f first (backTo pos (starEach (e :: es) X.env)) (backToKw pos (keywordEach [] X.env))) := by rfl) : wE X (.Call (.Attribute o m apos) (e :: es) [] pos) σ H Q := by
  obtain ⟨f, fd, M, F, hb⟩ := c.ex
  exact pe_le (pe_meth (we o) kc M F (D.hr.mono hj) hb .nil pass0 (wa (e :: es)) hst hpl ht) (ho H (Ex.refl H) _ fun H1 x1 => ⟨a, dx, fs, rfl, x1 _ _ hi, hn, ha H1 x1 _ fun vs H2 x2 t => by
    rw [List.append_nil]
    obtain ⟨z, e, h1, h2⟩ := hp H2 (x1.trans x2)
    exact ⟨z, by rw [e]; exact .v t, h1, h2⟩⟩)
/-- statements over any move -/
theorem asgW {x : Str} (D : DC X N sc k) (i : Nat) (h : wE X e σ H fun v H1 => Dn.nx (σ.set i (some v)) H1) (hi : N[i]? = some x := by rfl) (hl : locB sc x = true := by decide +kernel) (hs : swapsWith e (some (.Name x p')) pos.line X.env = pure false := by rfl) : wS X (.Assign [.Name x p'] e pos) Dn σ H :=
  ps_le (ps_set D.ndX (D.ix hi) (D.loc hl).1 (we e) hs (D.loc hl).2) h
theorem exprW (h : wE X e σ H fun _ H1 => Dn.nx σ H1) (hs : swapsWith e none pos.line X.env = pure false := by rfl) : wS X (.Expr e pos) Dn σ H := ps_le (ps_expr (we e) hs) h
theorem retW (h : wE X e σ H Dn.rt) : wS X (.Return (some e) pos) Dn σ H := ps_le (ps_ret (we e)) h
/-- for over a list, any move -/
theorem forW {tg iter : Expr} {body : List Stmt} (D : DC X N sc k) (h : wE X iter σ H fun v H1 => ∃ A vs, v = .ref A ∧ H1 A = some (.lst vs) ∧ ∃ W : Nat → L2.St → Hp → Prop, W 0 σ H1 ∧ (∀ i σ' H', W i σ' H' → H' A = some (.lst vs)) ∧
      (∀ i u σ' H', vs[i]? = some u → W i σ' H' → wG X tg u σ' H' fun σ2 H2 => wSs X body { Dn with nx := W (i + 1), ct := W (i + 1), bk := Dn.nx } σ2 H2) ∧ ∀ σ' H', W vs.length σ' H' → Dn.nx σ' H')
    (hf : ∀ x, foldedSetIterable iter X.env x = pure x := by intro _; rfl) : wS X (.For tg iter body [] pos) Dn σ H := by
  refine ps_le (ps_for D.po D.calm (pi_list (we iter)) (wg tg) (wss body) hf) ⟨fun pins s I => thn (h.run pins s I) fun u s1 ⟨v, H1, I1, r, A, vs, e, hA, W, w0, wk, wst, wd⟩ => ⟨v, H1, I1, r, ?_⟩⟩
  subst e
  exact ⟨A, rfl, ⟨_, .inl (.inl hA)⟩, for_list (K := X.K) (a := A) (xs := vs) W w0 (fun i σ' H' _ w => .inl (.inl (wk i σ' H' w))) (fun i u σ' H' hi w => wst i u σ' H' hi w) fun σ' H' w => wd σ' H' w⟩
/-- what is pure may stand as such -/
theorem wE.of {R : Hp → V → Prop} {Q : VK} (h : EvR (wE X e) σ H R) (q : ∀ v H1, Ex H H1 → R H1 v → Q v H1) : wE X e σ H Q := h H (Ex.refl H) Q q
end
end G
namespace G
open PySem PySem.Spec PyProof.Rows L2 Evl
section
variable {X : Cx} {N : List Str} {sc : Scope} {k j : Nat} {e o value : Expr} {es : List Expr} {σ : L2.St} {H : Hp} {pos p p' : Pos} {x f : Str} {ps : List Str} {α : Type} {as : α → List AV} {pre : α → Hp → Prop} {R : α → Hp → Hp → V → Prop} {Dn : Ends} {v : V}
/-- o.m() that moves nothing -/
theorem dmeth0 {C a dx : Addr} {m : Str} {fs : List (Str × V)} {pl : Sem Bool} {apos : Pos} {R' : Hp → V → Prop} (D : DC X N sc k) (c : MetC X.prog X.w X.K X.mg X.base j C m ps (SpG X.K as pre R)) (kc : Cls X.K C) (hj : j ≤ k) (ho : EV X o σ H (.ref a)) (hi : H a = some (.ins C dx fs)) (hn : fs.lookup m = none)
    (hp : ∀ H1, Ex H H1 → ∃ z, as z = [.v (.ref a)] ∧ pre z H1 ∧ ∀ v H2, R z H1 H2 v → Ex H1 H2 ∧ R' H2 v)
    (ht : eval (.Call (.Attribute o m apos) [] [] pos) X.env = (do
      let ov ← eval o X.env
      standAt apos.atName
      let (f, first) ← holding [ov] (getMethod ov m pl)
      callWith pos f first (backTo pos (starEach [] X.env)) (backToKw pos (keywordEach [] X.env))) := by rfl) : EvR (wE X (.Call (.Attribute o m apos) [] [] pos)) σ H R' := fun H1 x1 Q q =>
  gmeth0 D c kc hj (ho.ex x1) (x1 _ _ hi) hn (fun H2 x2 => by
    obtain ⟨z, a, b, c⟩ := hp H2 (x1.trans x2)
    exact ⟨z, a, b, fun v H3 r => let ⟨e, r'⟩ := c v H3 r; q v H3 (x2.trans e) r'⟩) ht
/-- o.m(e, ..) that moves nothing -/
theorem dmeth {C a dx : Addr} {m : Str} {fs : List (Str × V)} {pl : Sem Bool} {apos : Pos} {R' : Hp → V → Prop} {as' : List AV} (D : DC X N sc k) (c : MetC X.prog X.w X.K X.mg X.base j C m ps (SpG X.K as pre R)) (kc : Cls X.K C) (hj : j ≤ k) (ho : EV X o σ H (.ref a)) (hi : H a = some (.ins C dx fs)) (hn : fs.lookup m = none) (ha : EA X (e :: es) σ H as')
    (hp : ∀ H1, Ex H H1 → ∃ z, as z = .v (.ref a) :: as' ∧ pre z H1 ∧ ∀ v H2, R z H1 H2 v → Ex H1 H2 ∧ R' H2 v)
    (hst : starEach (e :: es) X.env = (false, eval e X.env) :: starEach es X.env := by rfl) (hpl : (backTo pos (starEach es X.env)).any (·.1) = false := by rfl)
    (ht : eval (.Call (.Attribute o m apos) (e :: es) [] pos) X.env = (do
      let ov ← eval o X.env
      standAt apos.atName
      let (f, first) ← holding [ov] (getMethod ov m pl)
      callWith pos f first (backTo pos (starEach (e :: es) X.env)) (backToKw pos (keywordEach [] X.env))) := by rfl) : EvR (wE X (.Call (.Attribute o m apos) (e :: es) [] pos)) σ H R' := fun H1 x1 Q q =>
  gmeth D c kc hj (ho.ex x1) (x1 _ _ hi) hn (ha.ex x1) (fun H2 x2 => by
    obtain ⟨z, a, b, c⟩ := hp H2 (x1.trans x2)
    exact ⟨z, a, b, fun v H3 r => let ⟨e, r'⟩ := c v H3 r; q v H3 (x2.trans e) r'⟩) hst hpl ht
/-- o.m(e, ..), what is given: data -/
abbrev IsBl (b : Bool) : Hp → V → Prop := fun _ v => v = .bl b
theorem ED.ofBl {b : Bool} (h : EvR (wE X e) σ H (IsBl b)) : ED X e σ H (.bool b) := fun H1 x Q q => h H1 x Q fun v H2 y r => by
  have : v = .bl b := r
  subst this
  exact q _ H2 y (.bl b)
end
end G
namespace G
open PySem PySem.Spec PyProof.Rows L2 Evl
section
variable {X : Cx} {N : List Str} {sc : Scope} {k j : Nat} {e o value : Expr} {σ : L2.St} {H : Hp} {pos p p' : Pos} {Dn : Ends} {v : V}
/-- l.append(e), what is given a value -/
theorem sappV {o : Expr} {l : Addr} {vs : List V} {py pz pw : Pos} (ha : EV X o σ H (.ref l)) (hl : H l = some (.lst vs)) (hz : vs.length < 100000) (h : EV X e σ H v) (q : ∀ H1, Ex H H1 → Dn.nx σ (upd H1 l (.lst (vs ++ [v]))))
    (hb : attributeBase o "append" X.env (eval o X.env) = eval o X.env := by rfl) (hs : starEach (e :: []) X.env = (false, eval e X.env) :: starEach [] X.env := by rfl) (hline : (py.endLine == pz.line) = true := by rfl) : wS X (.Expr (.Call (.Attribute o "append" py) [e] [] pz) pw) Dn σ H :=
  ps_le (ps_expr (pe_bm PySem.F.plainAttrs_list PySem.F.slot_list_append PySem.F.type_list_append mt_append (we _) (wa [e]) hb (few1 hs) hline hs)) (ha H (Ex.refl H) _ fun H1 e1 => ⟨.inl ⟨rfl, vs, sq_of (e1 l _ hl)⟩,
    (eav h ean hs) H1 e1 _ fun ws H2 e2 t => by
      obtain ⟨us, rfl, t2⟩ := t.cv
      obtain rfl := t2.n
      exact ⟨l, vs, _, rfl, rfl, e2 l _ (e1 l _ hl), sz_lt hz, q H2 (e1.trans e2)⟩⟩)
end
end G
/-! Days: plain arithmetic. -/
namespace G
open PySem
theorem longs_step (y : Int) : longsM y - longsM (y - 1) = if longB y = true then 1 else 0 := by
  unfold longsM longB
  by_cases h4 : y % 4 = 0 <;> by_cases h100 : y % 100 = 0 <;> by_cases h400 : y % 400 = 0 <;> simp [h4, h100, h400] <;> omega
theorem ahead_step (y : Int) : aheadM (y + 1) = aheadM y + (365 + if longB y = true then 1 else 0) := by
  have h := longs_step y
  unfold aheadM
  rw [show y + 1 - 1 = y by omega]
  omega
theorem ahead_ge : ∀ k : Nat, ∀ y : Int, aheadM y + 365 * (k : Int) ≤ aheadM (y + k)
  | 0, y => by simp
  | k + 1, y => by
    have h := ahead_ge k y
    have h2 := ahead_step (y + k)
    have e : y + ((k + 1 : Nat) : Int) = y + k + 1 := by omega
    rw [e, h2]
    split <;> omega
theorem ahead_le : ∀ k : Nat, ∀ y : Int, aheadM (y + k) ≤ aheadM y + 366 * (k : Int)
  | 0, y => by simp
  | k + 1, y => by
    have h := ahead_le k y
    have h2 := ahead_step (y + k)
    have e : y + ((k + 1 : Nat) : Int) = y + k + 1 := by omega
    rw [e, h2]
    split <;> omega
theorem ahead0 : aheadM 2000 = 0 := by decide
theorem lenM_eq (y : Int) {m : Int} {c : Int} (h : lensM.getD (m - 1).toNat 0 = c) : lenM y m = c + (if decide (m = 2) && longB y then 1 else 0) := by unfold lenM; rw [h]
/-- the days of the months from the (13 - n)-th on -/
def sumL (y : Int) : Nat → Int
  | 0 => 0
  | n + 1 => lenM y (12 - (n : Int)) + sumL y n
theorem sum12 (y : Int) : sumL y 12 = 365 + if longB y = true then 1 else 0 := by
  simp [sumL, lenM, lensM]
  split <;> omega
theorem lenM_pos (y : Int) {m : Int} (h1 : 1 ≤ m) (h2 : m ≤ 12) : 28 ≤ lenM y m ∧ lenM y m ≤ 31 := by
  obtain ⟨j, rfl⟩ : ∃ j : Nat, m = (j : Int) + 1 := ⟨(m - 1).toNat, by omega⟩
  have hj : j < 12 := by omega
  have : ∀ j : Nat, j < 12 → 28 ≤ lensM.getD j 0 ∧ lensM.getD j 0 ≤ 31 ∧ (j = 1 → lensM.getD j 0 = 28) := by decide
  obtain ⟨a, b, c⟩ := this j hj
  unfold lenM
  rw [show ((j : Int) + 1 - 1).toNat = j by omega]
  by_cases e : (j : Int) + 1 = 2
  · have e2 : j = 1 := by omega
    have := c e2
    split <;> omega
  · rw [decide_eq_false e, Bool.false_and, if_neg (by decide)]
    omega
/-- the year's loop: n turns are enough -/
theorem year_end {day : Int} {n : Nat} {y : Int} (h : ¬ aheadM (y + 1) ≤ day) : yearLoop day n y = y := by
  cases n with
  | zero => rfl
  | succ n =>
    unfold yearLoop
    rw [if_neg h]
theorem year_step {day : Int} {n : Nat} {y : Int} (h : aheadM (y + 1) ≤ day) : yearLoop day (n + 1) y = yearLoop day n (y + 1) := by
  conv => lhs; unfold yearLoop
  rw [if_pos h]
theorem year_ok {day : Int} : ∀ {n : Nat} {y : Int}, aheadM y ≤ day → day < aheadM (y + 1 + n) → aheadM (yearLoop day n y) ≤ day ∧ day < aheadM (yearLoop day n y + 1)
  | 0, y, h1, h2 => by
    have e : y + 1 + ((0 : Nat) : Int) = y + 1 := by omega
    rw [e] at h2
    exact ⟨h1, h2⟩
  | n + 1, y, h1, h2 => by
    by_cases h : aheadM (y + 1) ≤ day
    · rw [year_step h]
      refine year_ok h ?_
      rw [show y + 1 + 1 + ((n : Nat) : Int) = y + 1 + ((n + 1 : Nat) : Int) by omega]
      exact h2
    · rw [year_end h]
      exact ⟨h1, by omega⟩
theorem year_start {day : Int} (h : 0 ≤ day) : aheadM (2000 + day / 366) ≤ day ∧ day < aheadM (2000 + day / 366 + 1 + ((day.toNat + 1 : Nat) : Int)) := by
  constructor
  · have h2 := ahead_le (day / 366).toNat 2000
    rw [ahead0, show (((day / 366).toNat : Nat) : Int) = day / 366 by omega] at h2
    omega
  · have h3 : 0 ≤ day / 366 := by omega
    have h2 := ahead_ge ((day / 366).toNat + 1 + (day.toNat + 1)) 2000
    rw [ahead0, show (2000 : Int) + (((day / 366).toNat + 1 + (day.toNat + 1) : Nat) : Int) = 2000 + day / 366 + 1 + ((day.toNat + 1 : Nat) : Int) by omega] at h2
    omega
theorem year_in {day : Int} (h : 0 ≤ day) : aheadM (yearM day) ≤ day ∧ day < aheadM (yearM day + 1) := year_ok (year_start h).1 (year_start h).2
theorem month_end {y : Int} {n : Nat} {left m : Int} (h : ¬ lenM y m ≤ left) : monthLoop y n left m = (left, m) := by
  cases n with
  | zero => rfl
  | succ n =>
    unfold monthLoop
    rw [if_neg h]
theorem month_step {y : Int} {n : Nat} {left m : Int} (h : lenM y m ≤ left) : monthLoop y (n + 1) left m = monthLoop y n (left - lenM y m) (m + 1) := by
  conv => lhs; unfold monthLoop
  rw [if_pos h]
theorem month_ok {y : Int} : ∀ {n : Nat} {left m : Int}, 0 ≤ left → left < sumL y n → (n : Int) + m = 13 → 1 ≤ m → 1 ≤ (monthLoop y n left m).2 ∧ (monthLoop y n left m).2 ≤ 12 ∧ 0 ≤ (monthLoop y n left m).1
  | 0, left, m, h1, h2, _, _ => by
    unfold sumL at h2
    omega
  | n + 1, left, m, h1, h2, h3, h4 => by
    have em : m = 12 - (n : Int) := by omega
    by_cases h : lenM y m ≤ left
    · rw [month_step h]
      unfold sumL at h2
      rw [← em] at h2
      exact month_ok (by omega) (by omega) (by omega) (by omega)
    · rw [month_end h]
      exact ⟨h4, by omega, h1⟩
theorem left_in {day : Int} (h : 0 ≤ day) : 0 ≤ day - aheadM (yearM day) ∧ day - aheadM (yearM day) < sumL (yearM day) 12 := by
  obtain ⟨h1, h2⟩ := year_in h
  rw [ahead_step] at h2
  rw [sum12]
  omega
theorem month_in {day : Int} (h : 0 ≤ day) : 1 ≤ (monthM day).2 ∧ (monthM day).2 ≤ 12 ∧ 0 ≤ (monthM day).1 := month_ok (left_in h).1 (left_in h).2 (by omega) (by omega)
end G
/-! Of what stands: members, forms. Plain Lean. -/
namespace G
open PySem
open PySem.W (dataLe)
theorem putA_vals {l : List Deed} : ∀ {xs : List Deed} {kv : List (Str × Deed)}, (∀ x ∈ xs, x ∈ l) → (∀ p ∈ kv, p.2 ∈ l) → ∀ p ∈ xs.foldl putA kv, p.2 ∈ l
  | [], kv, _, h => h
  | x :: r, kv, h1, h2 => by
    refine putA_vals (xs := r) (fun y hy => h1 y (List.mem_cons_of_mem _ hy)) fun p hp => ?_
    unfold putA at hp
    split at hp
    · obtain ⟨q, hq, e⟩ := List.mem_map.mp hp
      split at e
      · rw [← e]
        exact h1 x List.mem_cons_self
      · rw [← e]
        exact h2 q hq
    · rcases List.mem_append.mp hp with q | q
      · exact h2 p q
      · rw [List.mem_singleton.mp q]
        exact h1 x List.mem_cons_self
theorem getA_in {kv : List (Str × Deed)} {n : Str} {x : Deed} (h : getA kv n = some x) : ∃ p ∈ kv, p.2 = x := by
  unfold getA at h
  cases q : kv.find? fun p => decide (p.1 = n) with
  | none =>
    rw [q] at h
    cases h
  | some p =>
    rw [q] at h
    exact ⟨p, List.mem_of_find?_eq_some q, Option.some.inj h⟩
theorem latest_mem {l : List Deed} {w0 : Str} {x : Deed} (h : x ∈ latestOf l w0) : x ∈ l ∧ isW w0 x = true := by
  unfold latestOf at h
  obtain ⟨n, _, e⟩ := List.mem_filterMap.mp h
  cases q : getA ((l.mergeSort (dataLe false fun x => .int x.day)).foldl putA []) n with
  | none =>
    rw [q] at e
    cases e
  | some y =>
    rw [q] at e
    dsimp only at e
    split at e
    · next hw =>
      cases e
      obtain ⟨p, hp, e2⟩ := getA_in q
      refine ⟨?_, hw⟩
      rw [← e2]
      exact putA_vals (l := l) (fun y hy => List.mem_mergeSort.mp hy) (fun _ h => by simp at h) p hp
    · cases e
theorem rules_mem {l : List Deed} {day : Int} {x : Deed} (h : x ∈ rulesM l day) : (x ∈ l ∧ x.day ≤ day) ∧ isW "rule" x = true := by
  obtain ⟨h1, h2⟩ := latest_mem h
  obtain ⟨h3, h4⟩ := List.mem_filter.mp h1
  exact ⟨⟨h3, of_decide_eq_true (Bool.and_eq_true_iff.mp h4).2⟩, h2⟩
theorem holds_mem {l : List Deed} {day : Int} {x : Deed} (h : x ∈ holdsM l day) : (x ∈ l ∧ x.day ≤ day) ∧ isW "hold" x = true := by
  obtain ⟨h1, h2⟩ := latest_mem h
  obtain ⟨h3, h4⟩ := List.mem_filter.mp h1
  exact ⟨⟨h3, of_decide_eq_true (Bool.and_eq_true_iff.mp h4).2⟩, h2⟩
theorem putA_len (kv : List (Str × Deed)) (x : Deed) : (putA kv x).length ≤ kv.length + 1 := by
  unfold putA
  split
  · rw [List.length_map]
    omega
  · rw [List.length_append]
    exact Nat.le_refl _
theorem foldA_len : ∀ (l : List Deed) (kv : List (Str × Deed)), (l.foldl putA kv).length ≤ kv.length + l.length
  | [], kv => Nat.le_refl _
  | x :: r, kv => by
    have h1 := foldA_len r (putA kv x)
    have h2 := putA_len kv x
    rw [List.foldl_cons, List.length_cons]
    omega
theorem latestOf_len (l : List Deed) (w0 : Str) : (latestOf l w0).length ≤ l.length := by
  unfold latestOf
  refine Nat.le_trans (List.length_filterMap_le _ _) ?_
  rw [List.length_mergeSort, List.length_map]
  have := foldA_len (l.mergeSort (dataLe false fun x => .int x.day)) []
  rw [List.length_mergeSort] at this
  simpa using this
theorem rules_len (l : List Deed) (day : Int) : (rulesM l day).length ≤ l.length := Nat.le_trans (latestOf_len _ _) (List.length_filter_le _ _)
theorem holds_len (l : List Deed) (day : Int) : (holdsM l day).length ≤ l.length := Nat.le_trans (latestOf_len _ _) (List.length_filter_le _ _)
theorem made_len {l : List Deed} (W : WF l) {p : Str} (h : p ∈ papersM l) : (madeFromM l p).length ≤ l.length := Nat.le_trans (made_ok W h).len (papers_len l)
theorem heard_mem {l : List Deed} {p h : Str} {i : Int} (e : i ∈ heardM l p h) : ∃ x ∈ l, x.day = i := by
  unfold heardM at e
  obtain ⟨x, hx, e⟩ := List.mem_map.mp e
  rw [List.mem_mergeSort] at hx
  exact ⟨x, (List.mem_filter.mp hx).1, e⟩
theorem heard_len (l : List Deed) (p h : Str) : (heardM l p h).length ≤ l.length := by
  unfold heardM
  rw [List.length_map, List.length_mergeSort]
  exact List.length_filter_le _ _
theorem come_mem {l : List Deed} {p : Str} (h : p ∈ papersM l) : ∃ x ∈ l, x.day = comeM l p := by
  obtain ⟨d, k, m, e⟩ := row_of_mem h
  refine ⟨_, (row_some e).1, ?_⟩
  unfold comeM
  rw [e]
theorem bases_mem {l : List Deed} {s : Since} {p : Str} {i : Int} (hp : p ∈ papersM l) (e : i ∈ basesM l s p) : ∃ x ∈ l, x.day = i := by
  cases s with
  | coming =>
    rw [show i = comeM l p from List.mem_singleton.mp e]
    exact come_mem hp
  | first h => exact heard_mem (List.mem_of_mem_take e)
  | last h => exact heard_mem e
theorem bases_len (l : List Deed) (s : Since) (p : Str) : (basesM l s p).length ≤ l.length + 1 := by
  cases s with
  | coming => exact Nat.succ_le_succ (Nat.zero_le _)
  | first h =>
    show ((heardM l p h).take 1).length ≤ _
    rw [List.length_take]
    omega
  | last h => exact Nat.le_succ_of_le (heard_len l p h)
theorem base_mem {l : List Deed} {s : Since} {p : Str} {day i : Int} (hp : p ∈ papersM l) (e : baseM l s p day = some i) : ∃ x ∈ l, x.day = i := by
  cases s with
  | coming =>
    cases e
    exact come_mem hp
  | first h => exact bases_mem hp (List.mem_filter.mp (List.mem_of_getLast? e)).1
  | last h => exact bases_mem hp (List.mem_filter.mp (List.mem_of_getLast? e)).1
theorem base_nn {l : List Deed} (W : WF l) {s : Since} {p : Str} {day i : Int} (hp : p ∈ papersM l) (e : baseM l s p day = some i) : 0 ≤ i := by
  obtain ⟨x, hx, rfl⟩ := base_mem hp e
  exact (W.ok x hx).1.1
theorem bases_nn {l : List Deed} (W : WF l) {s : Since} {p : Str} {i : Int} (hp : p ∈ papersM l) (e : i ∈ basesM l s p) : 0 ≤ i := by
  obtain ⟨x, hx, rfl⟩ := bases_mem hp e
  exact (W.ok x hx).1.1
end G
/-! Data that == may read. Plain Lean. -/
namespace G
open PySem PySem.Spec PyProof.Rows
def lowB (ds : List PyData) (n : Nat) : Bool := PyData.canLayAll0 ds && decide (PyData.depthAll ds ≤ n)
theorem shp_strs {a b : Str} (h1 : PyData.strOk a = true) (h2 : PyData.strOk b = true) : SeqAt.shaped (.tuple [.str a, .str b]) = true := by
  simp [SeqAt.shaped, PyData.canLay0, PyData.canLayAll0, PyData.depth, PyData.depthAll, h1, h2]
theorem shp_str1 {a : Str} (h1 : PyData.strOk a = true) : SeqAt.shaped (.tuple [.str a]) = true := by
  simp [SeqAt.shaped, PyData.canLay0, PyData.canLayAll0, PyData.depth, PyData.depthAll, h1]
theorem ok_lit1 : PyData.strOk "coming" = true := by decide +kernel
theorem ok_lit2 : PyData.strOk "first" = true := by decide +kernel
theorem ok_lit3 : PyData.strOk "last" = true := by decide +kernel
theorem ok_lit4 : PyData.strOk "leave" = true := by decide +kernel
theorem Since.lay {s : Since} (h : s.ok) : s.d.canLay0 = true ∧ s.d.depth ≤ 2 := by
  cases s with
  | coming => simp [Since.d, PyData.canLay0, PyData.canLayAll0, PyData.depth, PyData.depthAll, ok_lit1]
  | first x => simp [Since.d, PyData.canLay0, PyData.canLayAll0, PyData.depth, PyData.depthAll, ok_lit2, strOk_name h]
  | last x => simp [Since.d, PyData.canLay0, PyData.canLayAll0, PyData.depth, PyData.depthAll, ok_lit3, strOk_name h]
theorem Since.shp {s : Since} (h : s.ok) : SeqAt.shaped s.d = true := by
  obtain ⟨h1, h2⟩ := Since.lay h
  unfold SeqAt.shaped
  rw [h1]
  exact decide_eq_true (by omega)
theorem strOk_mem {x : Str} {l : List Str} (h : x ∈ l) (hl : l.all PyData.strOk = true) : PyData.strOk x = true := List.all_eq_true.mp hl x h
theorem Parts.wordOk {p : Parts} (h : p.ok) : PyData.strOk p.word = true := by
  cases p with
  | span k =>
    cases k
    · exact (by decide +kernel : PyData.strOk "gone" = true)
    · exact (by decide +kernel : PyData.strOk "keep" = true)
  | one w k => exact strOk_mem h.1 (by decide +kernel)
theorem Parts.kindOk {p : Parts} (h : p.ok) : nameB p.kind = true := by
  cases p with
  | span k => exact h.1
  | one w k => exact h.2
theorem Parts.lay {p : Parts} (h : p.ok) : p.d.canLay0 = true ∧ p.d.depth ≤ 4 := by
  have h1 := Parts.wordOk h
  have h2 := strOk_name (Parts.kindOk h)
  cases p with
  | span k kd s m u =>
    obtain ⟨_, hs, hm, hu⟩ := h
    have hs2 := Since.lay hs
    have hu2 : PyData.strOk u = true := strOk_mem hu (by decide +kernel)
    have hs3 := hs2.2
    simp [Parts.d, Parts.rest, PyData.canLay0, PyData.canLayAll0, PyData.depth, PyData.depthAll, h1, h2, hs2.1, hu2]
    omega
  | one w kd => simp [Parts.d, Parts.rest, PyData.canLay0, PyData.canLayAll0, PyData.depth, PyData.depthAll, h1, h2]
theorem Parts.shp {p : Parts} (h : p.ok) : SeqAt.shaped p.d = true := by
  obtain ⟨h1, h2⟩ := Parts.lay h
  unfold SeqAt.shaped
  rw [h1]
  exact decide_eq_true (by omega)
theorem lay_strs : ∀ {xs : List Str}, (∀ x ∈ xs, nameB x = true) → PyData.canLayAll0 (xs.map .str) = true
  | [], _ => rfl
  | x :: r, h => by
    rw [List.map_cons]
    simp [PyData.canLayAll0, PyData.canLay0, strOk_name (h x List.mem_cons_self), lay_strs (xs := r) fun y hy => h y (List.mem_cons_of_mem _ hy)]
theorem depth_strs : ∀ xs : List Str, PyData.depthAll (xs.map .str) ≤ 1
  | [] => Nat.zero_le _
  | x :: r => by
    rw [List.map_cons]
    have := depth_strs r
    simp [PyData.depthAll, PyData.depth]
    omega
theorem words_ok : (["paper", "happens", "rule", "end", "hold", "lift", "leave"] : List Str).all PyData.strOk = true := by decide +kernel
theorem Deed.wordOk (x : Deed) : PyData.strOk x.word = true := strOk_mem (l := ["paper", "happens", "rule", "end", "hold", "lift", "leave"]) (by cases x <;> simp [Deed.word]) words_ok
theorem Deed.shp {x : Deed} (h : x.ok) : SeqAt.shaped x.d = true := by
  have h1 := x.wordOk
  obtain ⟨_, hn, h'⟩ := h
  have h2 := strOk_name hn
  cases x with
  | paper d n k m =>
    obtain ⟨a, b, c, _⟩ := h'
    have e1 := strOk_name a
    have e2 := lay_strs c
    have e3 := depth_strs m
    simp [SeqAt.shaped, Deed.d, Deed.rest, PyData.canLay0, PyData.canLayAll0, PyData.depth, PyData.depthAll, h1, h2, e1, e2]
    omega
  | happens d n k =>
    have e1 := strOk_name h'
    simp [SeqAt.shaped, Deed.d, Deed.rest, PyData.canLay0, PyData.canLayAll0, PyData.depth, PyData.depthAll, h1, h2, e1]
  | rule d n p =>
    have e1 := Parts.lay h'
    have e2 := e1.2
    simp [SeqAt.shaped, Deed.d, Deed.rest, PyData.canLay0, PyData.canLayAll0, PyData.depth, PyData.depthAll, h1, h2, e1.1]
    omega
  | fin d n => simp [SeqAt.shaped, Deed.d, Deed.rest, PyData.canLay0, PyData.canLayAll0, PyData.depth, PyData.depthAll, h1, h2]
  | hold d n s a b =>
    obtain ⟨e1, e2⟩ := h'
    have e3 : PyData.strOk s = true := strOk_mem e1 (by decide +kernel)
    simp [SeqAt.shaped, Deed.d, Deed.rest, PyData.canLay0, PyData.canLayAll0, PyData.depth, PyData.depthAll, h1, h2, e3, strOk_name e2]
  | lift d n => simp [SeqAt.shaped, Deed.d, Deed.rest, PyData.canLay0, PyData.canLayAll0, PyData.depth, PyData.depthAll, h1, h2]
  | leave d n k =>
    have e1 := strOk_name h'
    simp [SeqAt.shaped, Deed.d, Deed.rest, PyData.canLay0, PyData.canLayAll0, PyData.depth, PyData.depthAll, h1, h2, e1]
theorem papers_name {l : List Deed} (W : WF l) {p : Str} (h : p ∈ papersM l) : nameB p = true := by
  obtain ⟨x, hx, _, e⟩ := mem_papers.mp h
  rw [← e]
  exact (W.ok x hx).2.1
theorem kind_name {l : List Deed} (W : WF l) {p : Str} (h : p ∈ papersM l) : nameB (kindM l p) = true := by
  obtain ⟨d, k, m, e⟩ := row_of_mem h
  have e2 : kindM l p = k := by unfold kindM; rw [e]
  rw [e2]
  exact ((W.ok _ (row_some e).1).2.2).1
theorem rule_parts {l : List Deed} (W : WF l) {x : Deed} (h : x ∈ l) (hw : isW "rule" x = true) : (partsOf x).ok := by
  obtain ⟨d, n, p, rfl⟩ := isW_rule hw
  exact (W.ok _ h).2.2
theorem shp_ints (xs : List Int) : SeqAt.shaped (.list (xs.map .int)) = true := by
  have h : ∀ xs : List Int, PyData.canLayAll0 (xs.map .int) = true ∧ PyData.depthAll (xs.map .int) ≤ 1 := by
    intro xs
    induction xs with
    | nil => exact ⟨rfl, Nat.zero_le _⟩
    | cons x r ih =>
      obtain ⟨a, b⟩ := ih
      rw [List.map_cons]
      simp [PyData.canLayAll0, PyData.canLay0, PyData.depthAll, PyData.depth, a]
      omega
  obtain ⟨a, b⟩ := h xs
  simp [SeqAt.shaped, PyData.canLay0, PyData.depth, a]
  omega
theorem since_eq (s : Since) : PyData.eqv s.d (.tuple [.str "coming"]) = (match s with
    | .coming => true
    | _ => false) := by
  cases s with
  | coming => simp [Since.d, PyData.eqv, PyData.eqvAll]
  | first h => simp [Since.d, PyData.eqv, PyData.eqvAll]
  | last h => simp [Since.d, PyData.eqv, PyData.eqvAll]
end G
/-! The closing of a day, paper by paper. Plain Lean. -/
namespace G
open PySem
def dueB (l : List Deed) (day : Int) (gs : List Going) (p : Str) : Bool := decide (comeM l p ≤ day) && !(getG (goneOf gs) p).isSome
def seeM (l : List Deed) (day : Int) (gs : List Going) (p : Str) : MetM := lookM l day p (goneOf gs) (usedOf gs)
theorem due_iff {l : List Deed} {day : Int} {gs : List Going} {p : Str} : dueB l day gs p = true ↔ comeM l p ≤ day ∧ getG (goneOf gs) p = none := by
  unfold dueB
  rw [Bool.and_eq_true, decide_eq_true_eq]
  cases getG (goneOf gs) p <;> simp
theorem step_eq (l : List Deed) (day : Int) (gs : List Going) (p : Str) : stepM l day gs p = if dueB l day gs p then (if (seeM l day gs p).isLet then gs ++ [⟨p, day, (seeM l day gs p).leave⟩] else gs) else gs := by
  unfold stepM
  by_cases h : dueB l day gs p = true
  · rw [if_pos (due_iff.mp h), if_pos h] <;> rfl
  · rw [if_neg (fun z => h (due_iff.mpr z)), if_neg h]
def step2 (l : List Deed) (day : Int) (s : List Going × List (Str × MetM)) (p : Str) : List Going × List (Str × MetM) := (stepM l day s.1 p, if dueB l day s.1 p then s.2 ++ [(p, seeM l day s.1 p)] else s.2)
def metsM (l : List Deed) (day : Int) (gs : List Going) : List (Str × MetM) := ((papersM l).foldl (step2 l day) (gs, [])).2
theorem step2_fst (l : List Deed) (day : Int) : ∀ (ps : List Str) (s : List Going × List (Str × MetM)), (ps.foldl (step2 l day) s).1 = ps.foldl (stepM l day) s.1
  | [], _ => rfl
  | p :: r, s => by
    rw [List.foldl_cons, List.foldl_cons, step2_fst l day r]
    rfl
theorem step2_goings (l : List Deed) (day : Int) : ∀ (ps : List Str) (s : List Going × List (Str × MetM)) (gs0 : List Going), s.1 = gs0 ++ (s.2.filter fun q => q.2.isLet).map (fun q => ⟨q.1, day, q.2.leave⟩) →
    (ps.foldl (step2 l day) s).1 = gs0 ++ ((ps.foldl (step2 l day) s).2.filter fun q => q.2.isLet).map (fun q => (⟨q.1, day, q.2.leave⟩ : Going))
  | [], _, _, h => h
  | p :: r, s, gs0, h => by
    rw [List.foldl_cons]
    refine step2_goings l day r (step2 l day s p) gs0 ?_
    unfold step2
    dsimp only
    rw [step_eq]
    by_cases h1 : dueB l day s.1 p = true
    · rw [if_pos h1, if_pos h1, List.filter_append, List.map_append, ← List.append_assoc, ← h]
      by_cases h2 : (seeM l day s.1 p).isLet = true
      · rw [if_pos h2, List.filter_cons, if_pos h2] <;> rfl
      · rw [if_neg h2, List.filter_cons, if_neg h2]
        simp
    · rw [if_neg h1, if_neg h1]
      exact h
theorem close_goings (l : List Deed) (day : Int) (gs : List Going) : closeM l day gs = gs ++ ((metsM l day gs).filter fun q => q.2.isLet).map (fun q => (⟨q.1, day, q.2.leave⟩ : Going)) := by
  have := step2_goings l day (papersM l) (gs, []) gs (by simp)
  rw [step2_fst] at this
  exact this
structure GsOk (l : List Deed) (gs : List Going) : Prop where
  nd : (gs.map (·.paper)).Nodup
  sub : ∀ x ∈ gs, x.paper ∈ papersM l
theorem GsOk.nil (l : List Deed) : GsOk l [] := ⟨List.nodup_nil, fun _ h => by simp at h⟩
theorem GsOk.len {l : List Deed} {gs : List Going} (W : WF l) (h : GsOk l gs) : gs.length ≤ 40 := by
  have := List.Nodup.length_le_of_subset h.nd (fun x hx => by
    obtain ⟨y, hy, rfl⟩ := List.mem_map.mp hx
    exact h.sub y hy : ∀ x ∈ gs.map (·.paper), x ∈ papersM l)
  rw [List.length_map] at this
  have h2 := papers_len l
  have h3 := W.len
  omega
theorem getG_mem {gs : List Going} {p : Str} (h : getG (goneOf gs) p = none) : p ∉ gs.map (·.paper) := by
  intro hm
  obtain ⟨x, hx, e⟩ := List.mem_map.mp hm
  unfold getG at h
  rw [Option.map_eq_none_iff, List.find?_eq_none] at h
  have := h (x.paper, x.day) (List.mem_map.mpr ⟨x, hx, rfl⟩)
  simp [e] at this
theorem GsOk.step {l : List Deed} {gs : List Going} {day : Int} {p : Str} (h : GsOk l gs) (hp : p ∈ papersM l) : GsOk l (stepM l day gs p) := by
  rw [step_eq]
  by_cases h1 : dueB l day gs p = true
  · rw [if_pos h1]
    by_cases h2 : (seeM l day gs p).isLet = true
    · rw [if_pos h2]
      refine ⟨?_, fun x hx => ?_⟩
      · rw [List.map_append]
        refine List.nodup_append.mpr ⟨h.nd, by simp, fun a ha b hb e => ?_⟩
        have hb : b = p := by simpa using hb
        subst hb
        subst e
        exact getG_mem (due_iff.mp h1).2 ha
      · rcases List.mem_append.mp hx with q | q
        · exact h.sub x q
        · rw [List.mem_singleton.mp q]
          exact hp
    · rw [if_neg h2]
      exact h
  · rw [if_neg h1]
    exact h
theorem GsOk.steps {l : List Deed} {day : Int} : ∀ {ps : List Str} {gs : List Going}, GsOk l gs → (∀ p ∈ ps, p ∈ papersM l) → GsOk l (ps.foldl (stepM l day) gs)
  | [], _, h, _ => h
  | p :: r, gs, h, hp => by
    rw [List.foldl_cons]
    exact GsOk.steps (h.step (hp p List.mem_cons_self)) fun q hq => hp q (List.mem_cons_of_mem _ hq)
theorem GsOk.close {l : List Deed} {gs : List Going} (h : GsOk l gs) (day : Int) : GsOk l (closeM l day gs) := h.steps fun _ h => h
theorem GsOk.run {l : List Deed} : ∀ {days : List Int} {gs : List Going}, GsOk l gs → GsOk l (runM l days gs)
  | [], _, h => h
  | d :: r, gs, h => by
    show GsOk l (runM l r (closeM l d gs))
    exact GsOk.run (h.close d)
theorem used_len (gs : List Going) : (usedOf gs).length ≤ gs.length := List.length_filterMap_le _ _
theorem goneOf_app (gs : List Going) (x : Going) : goneOf (gs ++ [x]) = goneOf gs ++ [(x.paper, x.day)] := by simp [goneOf]
theorem usedOf_app (gs : List Going) (x : Going) : usedOf (gs ++ [x]) = usedOf gs ++ (match x.leave with
    | some lv => [(lv, x.paper)]
    | none => []) := by
  unfold usedOf
  rw [List.filterMap_append]
  cases h : x.leave <;> simp [h]
theorem unused_new {l : List Deed} {day : Int} {k : Str} {u : List (Str × Str)} {n : Str} (h : unusedM l day k u = some n) : u.find? (fun q => decide (q.1 = n)) = none ∧ ∃ x ∈ l, isW "leave" x = true ∧ x.name = n := by
  unfold unusedM at h
  cases e : leastM (l.filter (leaveOk day k u)) with
  | none =>
    rw [e] at h
    cases h
  | some x =>
    rw [e] at h
    have hn : x.name = n := Option.some.inj h
    have hx : x ∈ l.filter (leaveOk day k u) := by
      cases q : l.filter (leaveOk day k u) with
      | nil =>
        rw [q] at e
        cases e
      | cons y r =>
        rw [q] at e
        have e2 : (r.foldl (fun b y => if PySem.W.dataLt (pairD y) (pairD b) then y else b) y) = x := Option.some.inj e
        rw [← e2]
        have : ∀ (r : List Deed) (y : Deed), (r.foldl (fun b y => if PySem.W.dataLt (pairD y) (pairD b) then y else b) y) ∈ y :: r := by
          intro r
          induction r with
          | nil => intro y; exact List.mem_cons_self
          | cons z r ih =>
            intro y
            rw [List.foldl_cons]
            split
            · exact List.mem_cons_of_mem _ (ih z)
            · rcases List.mem_cons.mp (ih y) with q | q
              · rw [q]
                exact List.mem_cons_self
              · exact List.mem_cons_of_mem _ (List.mem_cons_of_mem _ q)
        exact this r y
    obtain ⟨h1, h2⟩ := List.mem_filter.mp hx
    unfold leaveOk at h2
    simp only [Bool.and_eq_true, Bool.not_eq_true'] at h2
    rw [hn] at h2
    refine ⟨?_, x, h1, h2.1, hn⟩
    rw [List.find?_eq_none]
    intro q hq
    have := List.any_eq_false.mp h2.2.2.2 q hq
    exact this
end G
/-! Sets of days. Plain Lean. -/
namespace G
open PySem
theorem putI_mem {l : List Int} {i k : Int} : k ∈ putI l i ↔ k ∈ l ∨ k = i := by
  unfold putI
  split
  · next h =>
    constructor
    · exact .inl
    · rintro (h2 | rfl)
      · exact h2
      · exact h
  · rw [List.mem_append, List.mem_singleton]
theorem putI_nodup {l : List Int} (h : l.Nodup) (i : Int) : (putI l i).Nodup := by
  unfold putI
  split
  · exact h
  · next hi => exact List.nodup_append.mpr ⟨h, by simp, fun a ha b hb e => by rw [List.mem_singleton.mp hb] at e; exact hi (e ▸ ha)⟩
theorem putI_len (l : List Int) (i : Int) : l.length ≤ (putI l i).length ∧ (putI l i).length ≤ l.length + 1 := by
  unfold putI
  split
  · omega
  · rw [List.length_append]
    exact ⟨by omega, Nat.le_refl _⟩
theorem putsI_mem : ∀ {r l : List Int} {k : Int}, k ∈ r.foldl putI l ↔ k ∈ l ∨ k ∈ r
  | [], l, k => by simp
  | i :: r, l, k => by
    rw [List.foldl_cons, putsI_mem (r := r), putI_mem, List.mem_cons, or_assoc]
theorem putsI_nodup : ∀ {r l : List Int}, l.Nodup → (r.foldl putI l).Nodup
  | [], _, h => h
  | i :: r, l, h => putsI_nodup (r := r) (putI_nodup h i)
theorem putsI_len : ∀ (r l : List Int), l.length ≤ (r.foldl putI l).length ∧ (r.foldl putI l).length ≤ l.length + r.length
  | [], l => ⟨Nat.le_refl _, Nat.le_refl _⟩
  | i :: r, l => by
    have h1 := putsI_len r (putI l i)
    have h2 := putI_len l i
    rw [List.foldl_cons, List.length_cons]
    omega
def leI' (a b : Int) : Bool := decide (a ≤ b)
theorem leI_trans (a b c : Int) (h1 : leI' a b = true) (h2 : leI' b c = true) : leI' a c = true := by
  unfold leI' at *
  simp only [decide_eq_true_eq] at *
  omega
theorem leI_total (a b : Int) : (leI' a b || leI' b a) = true := by
  unfold leI'
  simp only [Bool.or_eq_true, decide_eq_true_eq]
  omega
theorem leI_anti {a b : Int} (h1 : leI' a b = true) (h2 : leI' b a = true) : a = b := by
  unfold leI' at *
  simp only [decide_eq_true_eq] at *
  omega
theorem sortedI_is {ys ks : List Int} (p : ys.Perm ks) (s : ys.Pairwise (· ≤ ·)) : ys = ks.mergeSort fun a b => decide (a ≤ b) :=
  List.Perm.eq_of_pairwise (le := fun a b => leI' a b = true) (fun _ _ _ _ => leI_anti) (s.imp fun h => decide_eq_true h) (List.pairwise_mergeSort (le := leI') leI_trans leI_total ks) (p.trans (List.mergeSort_perm ks leI').symm)
def sortSet (ns : List Int) : List Int := (ns.foldl putI []).mergeSort fun a b => decide (a ≤ b)
theorem sortSet_mem {ns : List Int} {k : Int} : k ∈ sortSet ns ↔ k ∈ ns := by
  unfold sortSet
  rw [List.mem_mergeSort, putsI_mem]
  simp
theorem sortSet_is {ys ns : List Int} (s : ys.Pairwise (· < ·)) (h : ∀ k, k ∈ ys ↔ k ∈ ns) : ys = sortSet ns := by
  refine sortedI_is ?_ (s.imp fun h => by omega)
  refine (List.perm_ext_iff_of_nodup (s.imp fun h => by omega) (putsI_nodup List.nodup_nil)).mpr fun k => ?_
  rw [h, putsI_mem]
  simp
theorem walkDays_eq (l : List Deed) (more : List Int) : walkDays l more = sortSet (turningM l ++ more) := rfl
theorem turning_mem {l : List Deed} {k : Int} : k ∈ turningM l ↔ ∃ x ∈ l, k ∈ turnsOf l x := by
  unfold turningM turnSet
  rw [List.mem_mergeSort, putsI_mem, List.mem_flatMap]
  simp
theorem turning_len (l : List Deed) : (turningM l).length = (turnSet l).length := by
  unfold turningM
  rw [List.length_mergeSort]
theorem sortSet_pw (ns : List Int) : (sortSet ns).Pairwise (· < ·) := by
  have h1 := List.pairwise_mergeSort (le := leI') leI_trans leI_total (ns.foldl putI [])
  have h2 : (sortSet ns).Nodup := (List.mergeSort_perm _ _).nodup_iff.mpr (putsI_nodup List.nodup_nil)
  have h3 : (sortSet ns).Pairwise (fun a b => leI' a b = true) := h1
  refine (h3.and h2).imp fun ⟨a, b⟩ => ?_
  have : _ ≤ _ := of_decide_eq_true a
  omega
/-- spans told by word -/
theorem span_word {x : Deed} (h : (partsOf x).ok) (hw : isW "rule" x = true) : decide ((partsOf x).word ∈ (["keep", "gone"] : List Str)) = isSpan x := by
  obtain ⟨d, n, p, rfl⟩ := isW_rule hw
  cases p with
  | span k kd s m u =>
    cases k
    · exact decide_eq_true (by simp [partsOf, Parts.word])
    · exact decide_eq_true (by simp [partsOf, Parts.word])
  | one w kd =>
    have hw : w ∈ (["while", "follow", "leave"] : List Str) := h.1
    have : (["while", "follow", "leave"] : List Str).all (fun y => decide (y ∉ (["keep", "gone"] : List Str))) = true := by decide +kernel
    exact decide_eq_false (of_decide_eq_true (List.all_eq_true.mp this w hw))
theorem span_rule {x : Deed} (h : isSpan x = true) : isW "rule" x = true ∧ ∃ k kd s m u, partsOf x = .span k kd s m u := by
  cases x with
  | rule d n p =>
    cases p with
    | span k kd s m u => exact ⟨(by decide +kernel : decide (("rule" : Str) = "rule") = true), k, kd, s, m, u, rfl⟩
    | one w kd => cases h
  | _ => cases h
theorem take_flat {α : Type} {f : α → List Int} {l : List α} {i : Nat} {x : α} (h : l[i]? = some x) : (l.take (i + 1)).flatMap f = (l.take i).flatMap f ++ f x := by
  have : l.take (i + 1) = l.take i ++ [x] := by
    rw [List.take_add_one, h] <;> rfl
  rw [this, List.flatMap_append]
  simp
theorem turn_pre {l : List Deed} (i : Nat) : (((l.take i).flatMap (turnsOf l)).foldl putI []).length ≤ (turnSet l).length := by
  unfold turnSet
  conv => rhs; rw [← List.take_append_drop i l]
  rw [List.flatMap_append, List.foldl_append, List.take_append_drop]
  exact (putsI_len _ _).1
end G
namespace G
open PySem PySem.Spec PyProof.Rows L2 Evl
/-- set(t), t a tuple of ints -/
theorem cr_setTI {X : Cx} (hc : X.calm = true) : CallR X (.type "set") (fun xs H Q => ∃ (p : Addr) (ns : List Int), xs = [.ref p] ∧ SqT X.K H p (ns.map V.int) ∧ ns.length ≤ 60 ∧ ∀ q n, H q = none → n ≤ ns.length → Q (.ref q) (upd H q (SetO X.w q (fun j => decide (j ∈ ns)) n))) := by
  intro pins s σ H xs us Q I r h
  obtain ⟨p0, ns, rfl, hq, hl, q⟩ := h
  obtain rfl := Vals.ref1 r
  obtain ⟨its, rv, pt, hz⟩ := I.tuple hq
  have hi : IntsAre its.toArray.toList ns := ints_of_vals rv
  refine call_set_tupI ns (I.ok.hd hc) (show s.heap.IsTuple p0 its.toArray from pt) hi (by unfold scanBound; omega) fun h' tk c R1 hcn k => ?_
  exact ⟨.ref _, upd H s.heap.objs.size (SetO X.w s.heap.objs.size _ c), I.laid (t' := tk) k (Nat.le_refl _) (setO_new R1), rfl, q _ c (I.hok.fresh (Nat.le_refl _)) hcn⟩
def setV (S : List Int) : List (Key × V) := S.map fun i => (.inl i, .bl true)
theorem setV_keys (S : List Int) : (setV S).map (·.1) = S.map Sum.inl := by unfold setV; rw [List.map_map] <;> rfl
theorem setV_put (S : List Int) (i : Int) : putK (setV S) (.inl i) (.bl true) = setV (putI S i) := by
  have e : ((setV S).any fun kv => decide (kv.1 = (Sum.inl i : Key))) = decide (i ∈ S) := by
    induction S with
    | nil => rfl
    | cons a r ih =>
      have ih' : ((r.map fun i => ((.inl i : Key), V.bl true)).any fun kv => decide (kv.1 = (Sum.inl i : Key))) = decide (i ∈ r) := ih
      unfold setV
      rw [List.map_cons, List.any_cons, ih']
      by_cases h : a = i
      · subst h
        simp
      · have h2 : ¬ i = a := fun z => h z.symm
        simp [h, h2]
  unfold putK putI
  rw [e]
  by_cases h : i ∈ S
  · rw [if_pos (decide_eq_true h), if_pos h]
    unfold setV
    rw [List.map_map]
    refine List.map_congr_left fun a _ => ?_
    show (if (Sum.inl a : Key) = Sum.inl i then ((Sum.inl a : Key), V.bl true) else ((Sum.inl a : Key), V.bl true)) = _
    split <;> rfl
  · rw [if_neg (by simpa using h), if_neg h]
    simp [setV]
section
variable {X : Cx} {N : List Str} {sc : Scope} {k j : Nat} {e a b o value : Expr} {es : List Expr} {σ : L2.St} {H : Hp} {pos p p' p2 p3 : Pos} {Dn : Ends} {v : V}
/-- sorted(d), the keys ints -/
theorem lsortedDI {q : Addr} {kvs : List (Key × V)} {ks : List Int} (D : DC X N sc k) (hm : X.mg "sorted" = none) (h : EV X e σ H (.ref q)) (s : H q = some (.dK kvs)) (hk : kvs.map (·.1) = ks.map Sum.inl) (hl : ks.length < 64) (hg : glB sc "sorted" = true := by decide +kernel)
    (hs : starEach (e :: []) X.env = (false, eval e X.env) :: starEach [] X.env := by rfl) : EL X (.Call (.Name "sorted" p) [e] [] pos) σ H ((ks.mergeSort fun a b => decide (a ≤ b)).map .int) :=
  dB1 (R1 := fun H2 v => v = .ref q ∧ Ex H H2) D (call_sortedDI D.calm) hm (by decide +kernel) (fun H1 x Q k => h H1 x Q fun H2 y => k _ _ y ⟨rfl, x.trans y⟩) (fun H1 v x z Q k => by
    obtain ⟨rfl, y⟩ := z
    refine ⟨q, kvs, ks, rfl, .inl (y _ _ s), hk, hl, fun ys p hp hsr hn => k _ _ (Ex.new hn) ⟨p, ys.map .int, rfl, fresh_back y hn, upd_same, ?_⟩⟩
    rw [sortedI_is hp hsr]
    exact TDs.of_ints _) hg (by decide +kernel) (by decide +kernel) hs
/-- sorted(set(t)) -/
theorem lsortedSet {ns : List Int} (D : DC X N sc k) (hm : X.mg "sorted" = none) (hm2 : X.mg "set" = none) (h : ED X e σ H (.tuple (ns.map .int))) (hl : ns.length ≤ 60) (hg : glB sc "sorted" = true := by decide +kernel) (hg2 : glB sc "set" = true := by decide +kernel)
    (hs : starEach (e :: []) X.env = (false, eval e X.env) :: starEach [] X.env := by rfl) : EL X (.Call (.Name "sorted" p) [.Call (.Name "set" p2) [e] [] p3] [] pos) σ H ((sortSet ns).map .int) :=
  dB1 (R1 := fun H2 v => ∃ q n, v = .ref q ∧ H2 q = some (SetO X.w q (fun j => decide (j ∈ ns)) n) ∧ n ≤ ns.length ∧ Ex H H2) D (cr_sortedSet D.calm) hm (by decide +kernel)
    (dTy1 (R1 := fun H2 v => TD X.K H2 v (.tuple (ns.map .int)) ∧ Ex H H2) D (cr_setTI D.calm) hm2 (by decide +kernel) (fun H1 x Q q => h H1 x Q fun v H2 y r => q v H2 y ⟨r, x.trans y⟩) (fun H1 v x t Q q => by
      obtain ⟨t, y⟩ := t
      cases t with
      | tup s t =>
        rw [t.ints] at s
        exact ⟨_, ns, rfl, s, hl, fun r n hr hn => q _ _ (Ex.new hr) ⟨r, n, rfl, upd_same, hn, y.trans (Ex.new hr)⟩⟩) hg2 (by decide +kernel) (by decide +kernel) hs) (fun H1 v x z Q q => by
      obtain ⟨r, n, rfl, hr, hn, y⟩ := z
      refine ⟨r, _, n, rfl, hr, by omega, fun ys p h1 h2 h3 h4 => q _ _ (Ex.new h4) ⟨p, ys.map .int, rfl, fresh_back y h4, upd_same, ?_⟩⟩
      rw [sortSet_is h1 fun k => (h2 k).trans decide_eq_true_iff]
      exact TDs.of_ints _) hg (by decide +kernel) (by decide +kernel) rfl
/-- t + u -/
theorem dcat {xs ys : List PyData} (ha : ED X a σ H (.tuple xs)) (hb : ED X b σ H (.tuple ys)) (hz : xs.length + ys.length ≤ 60000) : ED X (.BinOp a .Add b pos) σ H (.tuple (xs ++ ys)) := fun H1 x1 Q q =>
  pe_le (pe_op op_catA (we a) (we b)) (ha H1 x1 _ fun u H2 x2 t1 => hb H2 (x1.trans x2) _ fun w H3 x3 t2 => by
    cases t1.ex x3 with
    | @tup A us _ s1 r1 =>
      cases t2 with
      | @tup B ws _ s2 r2 =>
        have l1 := r1.length
        have l2 := r2.length
        refine ⟨A, B, us, ws, rfl, rfl, s1, s2, Nat.le_of_lt (sz_lt (by omega)), fun e => ?_, fun _ e => ?_, fun _ _ p hp => q _ _ ((x2.trans x3).trans (Ex.new hp)) (.tup (.inl (.inl upd_same)) ((r1.append r2).ex (Ex.new hp)))⟩
        · subst e
          cases r1
          exact q _ H3 (x2.trans x3) (.tup s2 r2)
        · subst e
          cases r2
          exact q _ H3 (x2.trans x3) (show TD X.K H3 _ (.tuple (xs ++ [])) from (List.append_nil xs).symm ▸ .tup s1 r1))
/-- l.extend(e), any move in e; e a list -/
theorem sextW {l : Addr} {py pz pw : Pos} (ha : EV X o σ H (.ref l)) (hl : ∃ vs, H l = some (.lst vs)) (h : ∀ H1, Ex H H1 → wE X e σ H1 fun v H2 => ∃ p vs us, v = .ref p ∧ H2 l = some (.lst vs) ∧ H2 p = some (.lst us) ∧ vs.length + us.length < 100000 ∧ Dn.nx σ (upd H2 l (.lst (vs ++ us))))
    (hb : attributeBase o "extend" X.env (eval o X.env) = eval o X.env := by rfl) (hs : starEach (e :: []) X.env = (false, eval e X.env) :: starEach [] X.env := by rfl) (hline : (py.endLine == pz.line) = true := by rfl) : wS X (.Expr (.Call (.Attribute o "extend" py) [e] [] pz) pw) Dn σ H :=
  ps_le (ps_expr (pe_bm PySem.F.plainAttrs_list PySem.F.slot_list_extend PySem.F.type_list_extend mt_extend (we _) (pa_cons (we e) pa_nil hs) hb (few1 hs) hline hs)) (ha H (Ex.refl H) _ fun H1 e1 => ⟨.inl ⟨rfl, hl.choose, sq_of (e1 l _ hl.choose_spec)⟩,
    ⟨fun pins s I => thn ((h H1 e1).run pins s I) fun u s1 ⟨v, H2, I2, r, p, vs, us, e, h1, h2, hz, q⟩ => ⟨v, H2, I2, r, by
      subst e
      exact ⟨l, p, vs, us, rfl, rfl, h1, h2, Nat.le_of_lt (sz_lt hz), q⟩⟩⟩⟩)
end
end G
namespace G
open PySem PySem.Spec PyProof.Rows L2 Evl
theorem Mo.fresh {S : List Addr} {H H1 : Hp} {p : Addr} (M : Mo S H H1) (h : H1 p = none) (hs : p ∉ S) : H p = none := by
  cases q : H p with
  | none => rfl
  | some o =>
    rw [M.keep p o hs q] at h
    cases h
/-- what was free may be moved -/
theorem Mo.free {S T : List Addr} {H H1 H2 : Hp} (M : Mo S H H1) (N : Mo T H1 H2) (h : ∀ t ∈ T, t ∈ S ∨ H t = none) : Mo S H H2 := ⟨fun c o n e => N.keep c o (fun z => by
  rcases h c z with q | q
  · exact n q
  · rw [q] at e
    cases e) (M.keep c o n e), M.tm.trans N.tm⟩
section
variable {X : Cx} {N : List Str} {sc : Scope} {k j : Nat} {e a b o value iter tg : Expr} {es : List Expr} {σ : L2.St} {H H0 : Hp} {pos p p' p2 p3 : Pos} {Dn : Ends} {v : V} {f : Str} {S : List Addr} {body : List Stmt}
/-- {} | [] -/
theorem ednew : EvR (wE X (.Dict [] [] pos)) σ H (fun H2 v => ∃ q, v = .ref q ∧ H q = none ∧ H2 q = some (.dK [])) := fun H1 x1 Q q => pe_le pe_dnewK fun p hp => q _ _ (Ex.new hp) ⟨p, rfl, fresh_back x1 hp, upd_same⟩
theorem elnew : EvR (wE X (.List [] pos)) σ H (fun H2 v => ∃ q, v = .ref q ∧ H q = none ∧ H2 q = some (.lst [])) := fun H1 x Q q => (llst (xs := []) ean : EL X (.List [] pos) σ H []) H1 x Q fun v H2 y r => by
  obtain ⟨p, xs, rfl, h0, h1, t⟩ := r
  cases t
  exact q _ H2 y ⟨p, rfl, h0, h1⟩
/-- o.f = value, any reading -/
theorem sfldMR {a C dx : Addr} {fs : List (Str × V)} {R : Hp → V → Prop} (M : Mo S H0 H) (hi : H a = some (.ins C dx fs)) (hs' : a ∈ S ∨ H0 a = none) (ho : EV X o σ H (.ref a)) (hv : EvR (wE X value) σ H R) (hm : ∀ H1 H2 v, Ex H1 H2 → R H1 v → R H2 v) (c : Cls X.K C) (n : NoAttr X.K C f)
    (q : ∀ v H1 H2, Ex H H1 → R H1 v → Mo [a] H1 H2 → Mo S H0 H2 → H2 a = some (.ins C dx (putF f v fs)) → Dn.nx σ H2) (hl : Nat.ble (fs.length + 1) 1000 = true := by kernel_rfl) (hs : swapsWith value (some (.Attribute o f p')) pos.line X.env = pure false := by rfl) : wS X (.Assign [.Attribute o f p'] value pos) Dn σ H :=
  sfld ho hv hm hi c n (Nat.le_of_ble_eq_true hl) (fun v H1 x t => by
    have h1 := x _ _ hi
    have m1 : Mo [a] H1 (upd H1 a (.ins C dx (putF f v fs))) := (Mo.refl [a] H1).put h1 nt_ins (List.mem_singleton.mpr rfl)
    refine q v H1 _ x t m1 ?_ upd_same
    exact (M.then x).free m1 fun t ht => by rw [List.mem_singleton.mp ht]; exact hs') hs
/-- d[k], the dict read as it stands, locked or not -/
theorem dgetR {q : Addr} {x : Str} {kvs : List (Key × V)} (D : DC X N sc k) (hb : EV X b σ H (.ref q)) (ha : ED X a σ H (.str x)) (s : Rd H q (.dK kvs)) (h : valV kvs (.inr x) = some v) (hs : NoSl a := by exact fun _ _ => rfl) : EV X (.Subscript b a pos) σ H v := fun H1 y1 Q k =>
  pe_le (pe_dget D.hu (we b) (we a) hs) (hb H1 y1 _ fun H2 y2 => EV.str ha H2 (y1.trans y2) _ fun H3 y3 => ⟨q, v, rfl, h ▸ .inl ⟨kvs, .inr x, ex_rd ((y1.trans y2).trans y3) s, rfl, rfl⟩, k H3 (y2.trans y3)⟩)
theorem m1_of {m : Str} {apos cpos : Pos} (hb : attributeBase o m X.env (eval o X.env) = eval o X.env) (hs : starEach (e :: []) X.env = (false, eval e X.env) :: starEach [] X.env) (hline : (apos.endLine == cpos.line) = true) : M1 X o m apos e cpos := ⟨hb, few1 hs, hline, by rw [hs] <;> rfl⟩
/-- d.get(k) -/
theorem dget1 {q : Addr} {x : Str} {kvs : List (Key × V)} {apos : Pos} (D : DC X N sc k) (hb : EV X b σ H (.ref q)) (ha : ED X a σ H (.str x)) (s : H q = some (.dK kvs))
    (hbase : attributeBase b "get" X.env (eval b X.env) = eval b X.env := by rfl) (hs : starEach (a :: []) X.env = (false, eval a X.env) :: starEach [] X.env := by rfl) (hline : (apos.endLine == pos.line) = true := by rfl) : EV X (.Call (.Attribute b "get" apos) [a] [] pos) σ H ((valV kvs (.inr x)).getD .non) := fun H1 y1 Q k =>
  pe_le (pe_dget1 D.hu (we b) (we a) (m1_of hbase hs hline)) (hb H1 y1 _ fun H2 y2 => ⟨q, rfl, .inl ⟨kvs, .inl ((y1.trans y2) _ _ s)⟩, EV.str ha H2 (y1.trans y2) _ fun H3 y3 => ⟨_, DGet.k (k := .inr x) (((y1.trans y2).trans y3) _ _ s), k H3 (y2.trans y3)⟩⟩)
/-- d.get(k, z) -/
theorem dget2 {q : Addr} {x : Str} {kvs : List (Key × V)} {apos : Pos} {u : V} {e2 : Expr} (D : DC X N sc k) (hb : EV X b σ H (.ref q)) (ha : ED X a σ H (.str x)) (hz : EV X e2 σ H u) (s : H q = some (.dK kvs))
    (hbase : attributeBase b "get" X.env (eval b X.env) = eval b X.env := by rfl) (hs : starEach [a, e2] X.env = (false, eval a X.env) :: starEach [e2] X.env := by rfl) (hs2 : starEach (e2 :: []) X.env = (false, eval e2 X.env) :: starEach [] X.env := by rfl) (hline : (apos.endLine == pos.line) = true := by rfl) : EV X (.Call (.Attribute b "get" apos) [a, e2] [] pos) σ H ((valV kvs (.inr x)).getD u) := fun H1 y1 Q k =>
  pe_le (pe_dget2 D.hu (we b) (we a) (we e2) ⟨hbase, by rw [hs, hs2] <;> rfl, hline, by rw [hs, hs2] <;> rfl⟩) (hb H1 y1 _ fun H2 y2 => ⟨q, rfl, .inl ⟨kvs, .inl ((y1.trans y2) _ _ s)⟩, EV.str ha H2 (y1.trans y2) _ fun H3 y3 => hz H3 ((y1.trans y2).trans y3) _ fun H4 y4 => ⟨_, DGet.k (k := .inr x) ((((y1.trans y2).trans y3).trans y4) _ _ s), k H4 ((y2.trans y3).trans y4)⟩⟩)
/-- for x in d, the keys texts; the dict is locked within -/
theorem forK {q : Addr} {kvs : List (Key × V)} {ks : List Str} (D : DC X N sc k) (s : H q = some (.dK kvs)) (hk : kvs.map (·.1) = ks.map Sum.inr) (h : ∀ od, EV X iter σ (upd H q (.frz od (.dK kvs))) (.ref q))
    (run : ∀ od, ∃ W : Nat → L2.St → Hp → Prop, (∀ H1, Ex (upd H q (.frz od (.dK kvs))) H1 → W 0 σ H1) ∧ (∀ i σ' H', W i σ' H' → H' q = some (.frz od (.dK kvs))) ∧
      (∀ i n σ' H', ks[i]? = some n → W i σ' H' → wG X tg (.str n) σ' H' fun σ2 H2 => wSs X body ⟨W (i + 1), fun v H' => H' q = some (.frz od (.dK kvs)) ∧ Dn.rt v (upd H' q (.dK kvs)), fun σ' H' => H' q = some (.frz od (.dK kvs)) ∧ Dn.nx σ' (upd H' q (.dK kvs)), W (i + 1)⟩ σ2 H2) ∧
      ∀ σ' H', W ks.length σ' H' → Dn.nx σ' (upd H' q (.dK kvs))) (hf : ∀ x, foldedSetIterable iter X.env x = pure x := by intro _; rfl) : wS X (.For tg iter body [] pos) Dn σ H := by
  refine ps_le (ps_lock (ps_for D.po D.calm (pi_keys (we iter)) (wg tg) (wss body) hf)) ⟨q, _, s, True.intro, fun od => ?_⟩
  obtain ⟨W, w0, wk, wst, wd⟩ := run od
  refine h od _ (Ex.refl _) _ fun H1 x1 => ⟨q, od, rfl, .inl ⟨kvs, x1 _ _ upd_same, ?_⟩⟩
  have hlen : kvs.length = ks.length := by
    have := congrArg List.length hk
    rw [List.length_map, List.length_map] at this
    exact this
  have wl : Walk (Itk q od kvs) kvs.length (fun H => H q = some (.frz od (.dK kvs))) (YAt (kvs.map fun p => kV p.1)) := ⟨fun i H hi g => ⟨g, hi⟩, fun H g => ⟨g, Nat.le_refl _⟩, fun i H x H' hi g y => by
    obtain ⟨e, kk, vv, e1, e2⟩ := y
    exact ⟨e, by rw [List.getElem?_map, e1, e2] <;> rfl⟩⟩
  refine for_it wl W (w0 H1 x1) (fun i σ' H' _ w => wk i σ' H' w) (fun i x σ' H2 H3 hi w y => ?_) fun σ' H' w => ⟨wk _ _ _ w, wd σ' H' (hlen ▸ w)⟩
  obtain ⟨rfl, hy⟩ := y
  have hn : ∃ n, ks[i]? = some n ∧ x = .str n := by
    have e : (kvs.map (·.1))[i]? = (ks.map Sum.inr)[i]? := by rw [hk]
    rw [List.getElem?_map, List.getElem?_map] at e
    rw [List.getElem?_map] at hy
    cases q1 : kvs[i]? with
    | none =>
      rw [q1] at hy
      cases hy
    | some p =>
      rw [q1] at hy e
      cases q2 : ks[i]? with
      | none =>
        rw [q2] at e
        cases e
      | some n =>
        rw [q2] at e
        have e : p.1 = .inr n := Option.some.inj e
        have hy : kV p.1 = x := Option.some.inj hy
        rw [e] at hy
        exact ⟨n, rfl, hy.symm⟩
  obtain ⟨n, hn1, rfl⟩ := hn
  exact wst i n σ' H3 hn1 w
end
end G
namespace G
open PySem PySem.Spec PyProof.Rows L2 Evl
def tyD : PyData → String
  | .none => "NoneType"
  | .bool _ => "bool"
  | .int _ => "int"
  | .str _ => "str"
  | .tuple _ => "tuple"
  | .list _ => "list"
  | .dict _ => "dict"
theorem TD.tyx {K : PySem.W.Frag} {H : Hp} {v : V} {d : PyData} (t : TD K H v d) : TyX K H v (.type (tyD d)) := by
  cases t with
  | non => exact .base .non
  | bl b => exact .base (.bl b)
  | int i => exact .base (.int i)
  | str x => exact .base (.str x)
  | tup s _ =>
    rcases s with (h | ⟨ob, h⟩) | ⟨o, its, n, h1, h2, _⟩
    · exact .base (.tup h)
    · exact .fTuple h
    · exact .kTuple h1 h2
section
variable {X : Cx} {N : List Str} {sc : Scope} {k j : Nat} {e a b c0 elt tg iter : Expr} {es : List Expr} {σ : L2.St} {H : Hp} {pos p p' p2 p3 : Pos} {Dn : Ends} {v : V} {d : PyData} {scope : Scope} {ifs : List Expr}
/-- isinstance(e, T) -/
theorem disi {T : String} {x : Str} {c : Bool} (D : DC X N sc k) (hm : X.mg "isinstance" = none) (hmT : X.mg x = none) (hv : bootBuiltins x = some (.type T)) (h : ED X e σ H d) (hk : kitB (tyD d) T = some c) (hg : glB sc "isinstance" = true := by decide +kernel) (hg2 : glB sc x = true := by decide +kernel) (hn : x ≠ "__name__" := by decide +kernel) (hd : (x == ("__debug__" : Str)) = false := by decide +kernel)
    (hs : starEach [e, .Name x p2] X.env = (false, eval e X.env) :: starEach [.Name x p2] X.env := by rfl) : ED X (.Call (.Name "isinstance" p) [e, .Name x p2] [] pos) σ H (.bool c) := fun H1 x1 Q q =>
  pe_le (pe_callB call_isi (D.gl hg) hm boot_isinstance (pa_cons (we e) (pa_cons (pe_bltn (D.gl hg2) hmT hv (v := .ty T) rfl hn hd) pa_nil rfl) hs) (by decide +kernel) (by decide +kernel) hs rfl) (h H1 x1 _ fun v H2 x2 t => ⟨v, .ty T, _, .type T, c, rfl, .ty T, t.tyx, kit_ty hk, q _ H2 x2 (.bl c)⟩)
/-- i <= x <= j -/
theorem leleI {i x y : Int} (h1 : ED X a σ H (.int i)) (h2 : ED X b σ H (.int x)) (h3 : ED X c0 σ H (.int y)) (hm : lastMarks [.LtE, .LtE] [b, c0] = false := by with_unfolding_all rfl) : ET X (.Compare a [.LtE, .LtE] [b, c0] pos) σ H (decide (i ≤ x) && decide (x ≤ y)) := fun H1 x1 Q q =>
  pt_le (pt_chain op_le op_le (we a) (we b) (we c0) hm) (EV.int h1 H1 x1 _ fun H2 x2 => EV.int h2 H2 (x1.trans x2) _ fun H3 x3 => ⟨i, x, rfl, rfl, _, rfl, by
    by_cases hc : i ≤ x
    · rw [if_pos (decide_eq_true hc)]
      refine EV.int h3 H3 ((x1.trans x2).trans x3) _ fun H4 x4 => ⟨x, y, rfl, rfl, _, rfl, ?_⟩
      have := q H4 ((x2.trans x3).trans x4)
      rw [decide_eq_true hc, Bool.true_and] at this
      exact this
    · rw [if_neg (by rw [decide_eq_false hc]; decide)]
      have := q H3 (x2.trans x3)
      rw [decide_eq_false hc, Bool.false_and] at this
      exact ⟨_, rfl, this⟩⟩)
theorem leleIv {i x y : Int} (h1 : ED X a σ H (.int i)) (h2 : ED X b σ H (.int x)) (h3 : ED X c0 σ H (.int y)) (hm : lastMarks [.LtE, .LtE] [b, c0] = false := by with_unfolding_all rfl) : ED X (.Compare a [.LtE, .LtE] [b, c0] pos) σ H (.bool (decide (i ≤ x) && decide (x ≤ y))) := fun H1 x1 Q q =>
  pe_le (pe_chain op_le op_le (we a) (we b) (we c0) hm) (EV.int h1 H1 x1 _ fun H2 x2 => EV.int h2 H2 (x1.trans x2) _ fun H3 x3 => ⟨i, x, rfl, rfl, _, rfl, by
    by_cases hc : i ≤ x
    · rw [if_pos (decide_eq_true hc)]
      refine EV.int h3 H3 ((x1.trans x2).trans x3) _ fun H4 x4 => ⟨x, y, rfl, rfl, ?_⟩
      have := q (.bl (decide (i ≤ x) && decide (x ≤ y))) H4 ((x2.trans x3).trans x4) (.bl _)
      rw [decide_eq_true hc, Bool.true_and] at this
      exact this
    · rw [if_neg (by rw [decide_eq_false hc]; decide)]
      have := q (.bl (decide (i ≤ x) && decide (x ≤ y))) H3 (x2.trans x3) (.bl _)
      rw [decide_eq_false hc, Bool.false_and] at this
      exact this⟩)
theorem inV_ints {x : Int} : ∀ {xs : List Int}, inV (.int x) (xs.map .int) = decide (x ∈ xs)
  | [] => rfl
  | y :: r => by
    show ((y == x) || inV (.int x) (r.map .int)) = _
    rw [inV_ints (xs := r)]
    by_cases e : y = x
    · subst e; simp
    · have e2 : ¬ x = y := fun z => e z.symm
      simp [e, e2]
theorem flat_ints : ∀ xs : List Int, (xs.map V.int).all flatV = true
  | [] => rfl
  | x :: r => by
    show (flatV (.int x) && (r.map V.int).all flatV) = true
    rw [flat_ints r] <;> rfl
/-- i not in t, ints -/
theorem notInI {x : Int} {xs : List Int} (ha : ED X a σ H (.int x)) (hb : ED X b σ H (.tuple (xs.map .int))) (hm : behindInMarks .NotIn b = false := by rfl) : ET X (.Compare a [.NotIn] [b] pos) σ H (!decide (x ∈ xs)) :=
  evr_opT op_notIn_seq hm ha hb (fun _ _ _ y t => t.ex y) fun H1 u w _ t1 t2 Q q => by
    obtain rfl := t1.int_iff
    cases t2 with
    | tup s t =>
      rw [t.ints] at s
      exact ⟨_, _, rfl, .inr s, rfl, flat_ints xs, by rw [if_pos rfl, inV_ints]; exact q⟩
/-- a sign in a text -/
theorem inSign {c : Nat} {z : Str} (ha : ED X a σ H (.str ⟨#[c]⟩)) (hb : ED X b σ H (.str z)) (hm : behindInMarks .In b = false := by rfl) : ED X (.Compare a [.In] [b] pos) σ H (.bool (decide (c ∈ z.cps.toList))) :=
  evr_opV op_in_sign hm ha hb (fun _ _ _ y t => t.ex y) fun H1 u w _ t1 t2 Q q => by
    obtain rfl := t1.str_iff
    obtain rfl := t2.str_iff
    exact ⟨c, z, rfl, rfl, q⟩
/-- x < y, texts -/
theorem ltSv {x y : Str} (ha : ED X a σ H (.str x)) (hb : ED X b σ H (.str y)) : ED X (.Compare a [.Lt] [b] pos) σ H (.bool (decide (x.cps.toList < y.cps.toList))) :=
  evr_opV op_lt_str (nomark _) ha hb (fun _ _ _ y t => t.ex y) fun H1 u w _ t1 t2 Q q => by
    obtain rfl := t1.str_iff
    obtain rfl := t2.str_iff
    exact ⟨x, y, rfl, rfl, q⟩
/-- a comprehension over the signs of a text -/
theorem lcS {z : Str} (f : Nat → Bool) (g : Nat → PyData) (D : DC X N sc k) (own : List (Str × Nat)) (h : ED X iter σ H (.str z)) (hz : z.cps.toList.length < 50000)
    (turn : ∀ H1 c, Ex H H1 → c ∈ z.cps.toList → Turn1 X scope tg ifs elt σ (own.map (·.2)) H1 (.str ⟨#[c]⟩) (f c) (g c)) (hb : blkC N sc scope own = true := by decide +kernel)
    (hs : ∀ x, foldedSetIterable iter X.env x = pure x := by intro _; rfl) : EL X (.ListComp elt [⟨tg, iter, ifs, 0⟩] scope pos) σ H (kept f g z.cps.toList) := by
  intro H1 x1 Q q
  refine pe_le (pe_lc D.calm D.ndX (pi_str (we iter)) (D.blkOk hb) gB_ok (fun s H' C cl fp => ftt_ok ⟨s, H', C, cl, fp⟩ ifs) teB_ok hs) (EV.str h H1 x1 _ fun H2 x2 => ⟨z, rfl, fun Dl hD => ?_⟩)
  refine lc_it walk_str (fun i H' => Lw X.K H2 Dl (kept f g (z.cps.toList.take i)) H') ⟨hD, Ex.new hD, [], upd_same, by rw [List.take_zero]; exact .nil⟩ (fun _ _ _ _ => True.intro) (fun i x H3 H4 hi p y => ?_) fun H' p => ?_
  · obtain ⟨rfl, c, hc, rfl⟩ := y
    have hx : z.cps.toList[i]? = some c := by simpa using hc
    have hlen := kept_len f g (z.cps.toList.take i)
    have hl2 : (z.cps.toList.take i).length ≤ z.cps.toList.length := by rw [List.length_take]; exact Nat.min_le_right _ _
    refine turn1 p (by omega) (turn H4 c ((x1.trans x2).trans p.2.1) (List.mem_of_getElem? hx)) fun H5 p3 => ?_
    rw [kept_more hx]
    exact p3
  · have e : z.cps.toList.take z.cps.size = z.cps.toList := by rw [← Array.length_toList, List.take_length]
    rw [e] at p
    obtain ⟨p1, p2, acc, p3, p4⟩ := p
    exact q _ H' (x2.trans p2) ⟨Dl, acc, rfl, fresh_back (x1.trans x2) p1, p3, p4⟩
end
end G
namespace G
open PySem PySem.Spec PyProof.Rows L2 Evl
theorem k_ii : kitB "int" "int" = some true := by decide +kernel
theorem k_ib : kitB "int" "bool" = some false := by decide +kernel
theorem k_ss : kitB "str" "str" = some true := by decide +kernel
theorem k_tt : kitB "tuple" "tuple" = some true := by decide +kernel
theorem k_bb : kitB "bool" "bool" = some true := by decide +kernel
theorem b_int : bootBuiltins "int" = some (.type "int") := by decide +kernel
theorem b_bool : bootBuiltins "bool" = some (.type "bool") := by decide +kernel
theorem b_str : bootBuiltins "str" = some (.type "str") := by decide +kernel
theorem b_tuple : bootBuiltins "tuple" = some (.type "tuple") := by decide +kernel
section
variable {X : Cx} {N : List Str} {sc : Scope} {k : Nat} {e : Expr} {σ : L2.St} {H : Hp} {pos p p2 : Pos}
theorem isStrV {x : Str} (D : DC X N sc k) (hm : X.mg "isinstance" = none) (hmT : X.mg "str" = none) (h : ED X e σ H (.str x)) (hg : glB sc "isinstance" = true := by decide +kernel) (hg2 : glB sc "str" = true := by decide +kernel) (hs : starEach [e, .Name "str" p2] X.env = (false, eval e X.env) :: starEach [.Name "str" p2] X.env := by rfl) : ED X (.Call (.Name "isinstance" p) [e, .Name "str" p2] [] pos) σ H (.bool true) := disi D hm hmT b_str h k_ss hg hg2 (by decide +kernel) (by decide +kernel) hs
theorem isTupV {xs : List PyData} (D : DC X N sc k) (hm : X.mg "isinstance" = none) (hmT : X.mg "tuple" = none) (h : ED X e σ H (.tuple xs)) (hg : glB sc "isinstance" = true := by decide +kernel) (hg2 : glB sc "tuple" = true := by decide +kernel) (hs : starEach [e, .Name "tuple" p2] X.env = (false, eval e X.env) :: starEach [.Name "tuple" p2] X.env := by rfl) : ED X (.Call (.Name "isinstance" p) [e, .Name "tuple" p2] [] pos) σ H (.bool true) := disi D hm hmT b_tuple h k_tt hg hg2 (by decide +kernel) (by decide +kernel) hs
theorem isBoolV {b : Bool} (D : DC X N sc k) (hm : X.mg "isinstance" = none) (hmT : X.mg "bool" = none) (h : ED X e σ H (.bool b)) (hg : glB sc "isinstance" = true := by decide +kernel) (hg2 : glB sc "bool" = true := by decide +kernel) (hs : starEach [e, .Name "bool" p2] X.env = (false, eval e X.env) :: starEach [.Name "bool" p2] X.env := by rfl) : ED X (.Call (.Name "isinstance" p) [e, .Name "bool" p2] [] pos) σ H (.bool true) := disi D hm hmT b_bool h k_bb hg hg2 (by decide +kernel) (by decide +kernel) hs
end
end G
namespace G
open PySem PySem.Spec PyProof.Rows L2 Evl
section
variable {X : Cx} {N : List Str} {sc : Scope} {k j : Nat} {e a b elt tg iter : Expr} {es : List Expr} {σ : L2.St} {H : Hp} {pos p p' p2 p3 : Pos} {Dn : Ends} {v : V} {d : PyData} {scope : Scope} {ifs : List Expr} {body : List Stmt}
/-- l.append(e), any reading of e -/
theorem sappR {o : Expr} {l : Addr} {vs : List V} {R : Hp → V → Prop} {py pz pw : Pos} (ha : EV X o σ H (.ref l)) (hl : H l = some (.lst vs)) (hz : vs.length < 100000) (h : EvR (wE X e) σ H R) (q : ∀ v H1, Ex H H1 → R H1 v → Dn.nx σ (upd H1 l (.lst (vs ++ [v]))))
    (hb : attributeBase o "append" X.env (eval o X.env) = eval o X.env := by rfl) (hs : starEach (e :: []) X.env = (false, eval e X.env) :: starEach [] X.env := by rfl) (hline : (py.endLine == pz.line) = true := by rfl) : wS X (.Expr (.Call (.Attribute o "append" py) [e] [] pz) pw) Dn σ H :=
  ps_le (ps_expr (pe_bm PySem.F.plainAttrs_list PySem.F.slot_list_append PySem.F.type_list_append mt_append (we _) (pa_cons (we e) pa_nil hs) hb (few1 hs) hline hs)) (ha H (Ex.refl H) _ fun H1 e1 => ⟨.inl ⟨rfl, vs, sq_of (e1 l _ hl)⟩,
    h H1 e1 _ fun u H2 e2 r => ⟨l, vs, u, rfl, rfl, e2 l _ (e1 l _ hl), sz_lt hz, q u H2 (e1.trans e2) r⟩⟩)
/-- a comprehension over a list of any values, told by places -/
theorem lcN {A : Addr} {vs : List V} (f : Nat → Bool) (g : Nat → PyData) (D : DC X N sc k) (own : List (Str × Nat)) (h : EV X iter σ H (.ref A)) (s : SqL X.K H A vs) (hz : vs.length < 50000)
    (turn : ∀ H1 i u, Ex H H1 → vs[i]? = some u → Turn1 X scope tg ifs elt σ (own.map (·.2)) H1 u (f i) (g i)) (hb : blkC N sc scope own = true := by decide +kernel)
    (hs : ∀ x, foldedSetIterable iter X.env x = pure x := by intro _; rfl) : EL X (.ListComp elt [⟨tg, iter, ifs, 0⟩] scope pos) σ H (kept f g (List.range vs.length)) := by
  intro H1 x1 Q q
  refine pe_le (pe_lc D.calm D.ndX (pi_list (we iter)) (D.blkOk hb) gB_ok (fun s H' C cl fp => ftt_ok ⟨s, H', C, cl, fp⟩ ifs) teB_ok hs) (h H1 x1 _ fun H2 x2 => ?_)
  have s2 := ex_l (x1.trans x2) s
  refine ⟨A, rfl, ⟨_, s2⟩, fun Dl hD => lc_list (K := X.K) (a := A) (xs := vs) (fun i H' => Lw X.K H2 Dl (kept f g ((List.range vs.length).take i)) H') ⟨hD, Ex.new hD, [], upd_same, by rw [List.take_zero]; exact .nil⟩ (fun i H' _ p => ex_l p.2.1 s2) (fun i u H' hi p => ?_) fun H' p => ?_⟩
  · have hi2 : i < vs.length := (List.getElem?_eq_some_iff.mp hi).1
    have hx : (List.range vs.length)[i]? = some i := by rw [List.getElem?_range hi2]
    have hlen := kept_len f g ((List.range vs.length).take i)
    have hl2 : ((List.range vs.length).take i).length ≤ vs.length := by rw [List.length_take, List.length_range]; exact Nat.min_le_right _ _
    refine turn1 p (by omega) (turn H' i u ((x1.trans x2).trans p.2.1) hi) fun H3 p3 => ?_
    rw [kept_more hx]
    exact p3
  · have e : (List.range vs.length).take vs.length = List.range vs.length := by rw [List.take_of_length_le]; rw [List.length_range]; exact Nat.le_refl _
    rw [e] at p
    obtain ⟨p1, p2, acc, p3, p4⟩ := p
    exact q _ H' (x2.trans p2) ⟨Dl, acc, rfl, fresh_back (x1.trans x2) p1, p3, p4⟩
/-- for x in range(n) -/
theorem forR1 {n : Int} (D : DC X N sc k) (hm : X.mg "range" = none) (h : ED X a σ H (.int n)) (hz : -50000 ≤ n ∧ n < 50000) (W : Nat → L2.St → Hp → Prop) (h0 : ∀ H1, Ex H H1 → W 0 σ H1)
    (hs : ∀ (i : Nat) σ' H', (i : Int) < n → W i σ' H' → wG X tg (.int (i : Int)) σ' H' fun σ2 H2 => wSs X body { Dn with nx := W (i + 1), ct := W (i + 1), bk := Dn.nx } σ2 H2) (hd : ∀ σ' H', W n.toNat σ' H' → Dn.nx σ' H')
    (hg : glB sc "range" = true := by decide +kernel) (hs0 : starEach (a :: []) X.env = (false, eval a X.env) :: starEach [] X.env := by rfl) (hf : ∀ x, foldedSetIterable (.Call (.Name "range" p) [a] [] p') X.env x = pure x := by intro _; rfl) : wS X (.For tg (.Call (.Name "range" p) [a] [] p') body [] pos) Dn σ H :=
  ps_le (ps_for D.po D.calm (pi_range1 (D.gl hg) hm (wa [a]) hs0) (wg tg) (wss body) hf) ((ead h ean hs0) H (Ex.refl H) _ fun vs H2 x2 t => by
    obtain ⟨u, rfl, t1⟩ := t.d1
    obtain rfl := t1.int_iff
    refine ⟨n, rfl, by omega, by omega, for_it walk_range W (h0 H2 x2) (fun _ _ _ _ _ => True.intro) (fun i x σ' H3 H4 hi w y => ?_) fun σ' H' w => hd σ' H' w⟩
    obtain ⟨rfl, rfl⟩ := y
    show wG X tg (V.int (0 + (i : Int))) σ' H4 _
    rw [Int.zero_add]
    exact hs i σ' H4 (by omega) w)
/-- for x in range(lo, hi) -/
theorem forR2 {lo hi : Int} (D : DC X N sc k) (hm : X.mg "range" = none) (h1 : ED X a σ H (.int lo)) (h2 : ED X b σ H (.int hi)) (hz : (-50000 ≤ lo ∧ lo ≤ 50000) ∧ -50000 ≤ hi ∧ hi < 50000) (W : Nat → L2.St → Hp → Prop) (h0 : ∀ H1, Ex H H1 → W 0 σ H1)
    (hs : ∀ (i : Nat) σ' H', lo + (i : Int) < hi → W i σ' H' → wG X tg (.int (lo + (i : Int))) σ' H' fun σ2 H2 => wSs X body { Dn with nx := W (i + 1), ct := W (i + 1), bk := Dn.nx } σ2 H2) (hd : ∀ σ' H', W (hi - lo).toNat σ' H' → Dn.nx σ' H')
    (hg : glB sc "range" = true := by decide +kernel) (hs0 : starEach [a, b] X.env = (false, eval a X.env) :: starEach [b] X.env := by rfl) (hs2 : starEach (b :: []) X.env = (false, eval b X.env) :: starEach [] X.env := by rfl) (hf : ∀ x, foldedSetIterable (.Call (.Name "range" p) [a, b] [] p') X.env x = pure x := by intro _; rfl) : wS X (.For tg (.Call (.Name "range" p) [a, b] [] p') body [] pos) Dn σ H :=
  ps_le (ps_for D.po D.calm (pi_range2 (D.gl hg) hm (wa [a, b]) (by rw [hs0, hs2] <;> rfl) (by rw [hs2] <;> rfl)) (wg tg) (wss body) hf) ((ead h1 (ead h2 ean hs2) hs0) H (Ex.refl H) _ fun vs H2 x2 t => by
    obtain ⟨u, w, rfl, t1, t2⟩ := t.d2
    obtain rfl := t1.int_iff
    obtain rfl := t2.int_iff
    refine ⟨lo, hi, rfl, ⟨by omega, by omega, by omega, by omega⟩, for_it walk_range W (h0 H2 x2) (fun _ _ _ _ _ => True.intro) (fun i x σ' H3 H4 hi' w y => ?_) fun σ' H' w => hd σ' H' w⟩
    obtain ⟨rfl, rfl⟩ := y
    exact hs i σ' H4 (by omega) w)
end
end G
/-! zip(tuple, text). -/
namespace G
open PySem PySem.Spec PyProof.Rows L2 Evl
def ItzTS (K : PySem.W.Frag) (a : Addr) (z : Str) : It :=
  ⟨fun i H => ∃ (xs : List V) (x : V) (c : Nat), SqT K H a xs ∧ xs[i]? = some x ∧ z.cps[i]? = some c,
    fun i H v H' => ∃ T x c, v = .ref T ∧ H T = none ∧ H' = upd H T (.tup [x, .str ⟨#[c]⟩]) ∧ (∀ xs, SqT K H a xs → xs[i]? = some x) ∧ z.cps[i]? = some c,
    fun i H => ∃ xs : List V, SqT K H a xs ∧ i ≤ xs.length ∧ i ≤ z.cps.size ∧ (i = xs.length ∨ i = z.cps.size)⟩
theorem turn_zipTS {P : Program} {w : World} {K : PySem.W.Frag} {elts : List Expr} {kk : Nat} {tpos : Pos} {a z TI TO i1 i2 : Addr} {x : Str} {t : Tok} (D : ZipSep2 z TI TO i1 i2 [i1, a] [i2]) :
    Turn P w K (.Tuple elts kk tpos) (ItzTS K a x) [z, TI, TO, i1, i2] z (fun i h => IsZip h z TI TO .none ∧ IsTupOf2 h TI (.ref i1) (.ref i2) ∧ (∃ u v, IsTupOf2 h TO u v) ∧ h.IsTupleIter i1 a i ∧ h.IsStrIter i2 (strIterType x) x t i) where
  mem := by simp
  obj := fun i h st c hc => by
    obtain ⟨hz, hTI, ⟨u, v, hTO⟩, ⟨o1, e1, _, d1⟩, ⟨o2, e2, _, d2⟩⟩ := st
    have e' : c = z ∨ c = TI ∨ c = TO ∨ c = i1 ∨ c = i2 := by simpa using hc
    rcases e' with q | q | q | q | q
    · rw [q]; exact ⟨_, hz, fun v q => nomatch q⟩
    · rw [q]; exact ⟨_, hTI, fun v q => nomatch q⟩
    · rw [q]; exact ⟨_, hTO, fun v q => nomatch q⟩
    · rw [q]; exact ⟨o1, e1, fun v q => by rw [d1] at q; cases q⟩
    · rw [q]; exact ⟨o2, e2, fun v q => by rw [d2] at q; cases q⟩
  keep := fun i h h' st k => by
    obtain ⟨hz, hTI, ⟨u, v, hTO⟩, h1, h2⟩ := st
    exact ⟨k z (by simp) _ hz, k TI (by simp) _ hTI, ⟨u, v, k TO (by simp) _ hTO⟩, h1.at fun o q => k i1 (by simp) o q, let ⟨o, ho, r⟩ := h2; ⟨o, k i2 (by simp) o ho, r⟩⟩
  item := by
    intro X hP hw hK hc i pins s σ H E I hf st hg
    subst hP hw hK
    obtain ⟨hz, hTI, ⟨x0, y0, hTO⟩, h1, h2⟩ := st
    obtain ⟨xs, y, c, hqx, hx, hcx⟩ := hg
    obtain ⟨its, rv, p, _⟩ := I.tuple hqx
    obtain ⟨u, hu, ru⟩ := rv.get hx
    have hzl : z < s.heap.objs.size := Heap.lt_size hz
    have hne : a ≠ i1 := fun e => by
      obtain ⟨o1, e1, c1, _⟩ := h1
      obtain ⟨o2, e2, c2, _⟩ := id p
      rw [e] at e2
      rw [e1] at e2
      cases e2
      rw [c1] at c2
      exact absurd c2 (by decide)
    have D1 := Draws.tuple (prog := X.prog) (w := X.w) (A := X.A.in1) (I.ok.hd hc) i1 a hne its.toArray
    have D2 := Draws.text (prog := X.prog) (w := X.w) (A := X.A.in1) (I.ok.hd hc) i2 x t
    have hi1 : i < its.toArray.size := by
      have := (List.getElem?_eq_some_iff.mp hu).1
      simpa using this
    have hi2 : i < x.cps.size := (Array.getElem?_eq_some_iff.mp hcx).1
    refine wpAny_pyNext_zipD2_item D D1 D2 hz hTI hTO ⟨h1, p⟩ h2 hi1 hi2 fun x1 x2 h' tk p1 p2 z' TO' s1' s2' hT hsz hk => ?_
    have ex1 : x1 = u := by
      have : its[i]? = some x1 := by simpa using p1
      rw [hu] at this
      exact (Option.some.inj this).symm
    subst ex1
    obtain ⟨c', t', hc', rfl⟩ := p2
    have ec : c' = c := Option.some.inj (hc'.symm.trans hcx)
    subst ec
    refine ⟨_, rfl, wpAny_letOwnedTupleGo_zip (s := { s with heap := h', toks := tk }) z' fun h'' z'' sb => ?_⟩
    have hT2 : h''.get? s.heap.objs.size = some { cls := .type "tuple", data := .seq #[x1, .str ⟨#[c']⟩ t'] } := (sb.2 _ (Nat.ne_of_gt hzl)).trans hT
    have new : ObjOk X.prog X.w (upd H s.heap.objs.size (.tup [y, .str ⟨#[c']⟩])) h'' s.heap.objs.size (.tup [y, .str ⟨#[c']⟩]) :=
      ⟨by show 2 ≤ sizeLine; decide, [x1, .str ⟨#[c']⟩ t'], .cons ru (.cons ⟨t', rfl⟩ .nil), ⟨_, hT2, rfl, _, rfl⟩⟩
    have I1 : Inv X pins σ (upd H s.heap.objs.size (.tup [y, .str ⟨#[c']⟩])) { s with heap := h'', toks := tk } :=
      I.turnedNew (t' := tk) (ch := [z, TI, TO, i1, i2]) (fun c o hb q => (sb.2 c (fun q' => hb (by simp [q']))).trans (hk c o (fun q' => hb (by simp [q'])) (fun q' => hb (by simp [q'])) (fun q' => hb (by simp [q'])) (fun q' => hb (by simp [q'])) q)) hf (Nat.le_refl _) new
    refine ⟨.ref s.heap.objs.size, _, I1, rfl, ⟨_, y, c', rfl, I.hok.fresh (Nat.le_refl _), rfl, fun l hl => by rw [I.tuple_inj hl hqx]; exact hx, hcx⟩, ⟨z'', ?_, ⟨x1, .str ⟨#[c']⟩ t', ?_⟩, ?_, ?_⟩, fun c hcm => ?_⟩
    · exact (sb.2 _ D.TIz).trans (hk _ _ D.TIz D.TITO D.TIi1 D.TIi2 hTI)
    · exact (sb.2 _ D.TOz).trans TO'
    · exact s1'.1.at fun o q => (sb.2 _ (Ne.symm D.zi1)).trans q
    · obtain ⟨o, ho, r⟩ := s2'
      exact ⟨o, (sb.2 _ (Ne.symm D.zi2)).trans ho, r⟩
    · have hlt : c < s.heap.objs.size := by
        have e' : c = z ∨ c = TI ∨ c = TO ∨ c = i1 ∨ c = i2 := by simpa using hcm
        rcases e' with q | q | q | q | q
        · rw [q]; exact hzl
        · rw [q]; exact Heap.lt_size hTI
        · rw [q]; exact Heap.lt_size hTO
        · rw [q]; obtain ⟨_, e1, _⟩ := h1; exact Heap.lt_size e1
        · rw [q]; obtain ⟨_, e1, _⟩ := h2; exact Heap.lt_size e1
      rw [upd_ne (Nat.ne_of_lt hlt)]
      exact (hf c hcm).1
  done := by
    intro X hP hw hK hc i pins s σ H E I hf st hg
    subst hP hw hK
    obtain ⟨hz, hTI, ⟨x0, y0, hTO⟩, h1, h2⟩ := st
    obtain ⟨xs, hqx, hl1, hl2, hend⟩ := hg
    obtain ⟨its, rv, p, _⟩ := I.tuple hqx
    have l1 : xs.length = its.toArray.size := by rw [List.size_toArray]; exact rv.length
    have hne : a ≠ i1 := fun e => by
      obtain ⟨o1, e1, c1, _⟩ := h1
      obtain ⟨o2, e2, c2, _⟩ := id p
      rw [e] at e2
      rw [e1] at e2
      cases e2
      rw [c1] at c2
      exact absurd c2 (by decide)
    have D1 := Draws.tuple (prog := X.prog) (w := X.w) (A := X.A.in1) (I.ok.hd hc) i1 a hne its.toArray
    have D2 := Draws.text (prog := X.prog) (w := X.w) (A := X.A.in1) (I.ok.hd hc) i2 x t
    exact wpAny_pyNext_zipD2_end D D1 D2 hz hTI hTO ⟨h1, p⟩ h2 (by omega) hl2 (by omega) fun h' tk hk => ⟨rfl, I.turnedL (t' := tk) (ch := [z, TI, TO, i1, i2]) (fun c o hb q =>
      hk c o (fun q' => hb (by simp [q'])) (fun q' => hb (by simp [q'])) (fun q' => hb (by simp [q'])) (fun q' => hb (by simp [q'])) q) hf⟩
  self := fun A i s Q E st h => wpAny_pyIter_zip st.1 h
end G
namespace G
open PySem PySem.Spec PyProof.Rows L2 Evl
def iZipTS (K : PySem.W.Frag) (ta : TA) : L2.TI := fun σ H R => ta σ H fun vs H1 => ∃ a xs z, vs = [.ref a, .str z] ∧ SqT K H1 a xs ∧ R (ItzTS K a z) H1
theorem pi_zipTS {X : Cx} {e e2 : Expr} {ta : TA} {p pos tpos : Pos} {elts : List Expr} {kk : Nat} (hg : Gl X "zip") (hm : X.mg "zip" = none) (ha : PA X [e, e2] ta)
    (hs : starEach [e, e2] X.env = (false, eval e X.env) :: starEach [e2] X.env := by rfl) (hpl : (backTo pos (starEach [e2] X.env)).any (·.1) = false := by rfl) :
    PI X (.Tuple elts kk tpos) (.Call (.Name "zip" p) [e, e2] [] pos) (iZipTS X.K ta) := by
  refine ⟨fun pins s σ H R I h => ?_⟩
  refine Call_ (ld_blt I hg hm PyProof.Rows.boot_zip (PyProof.Rows.callWith_type1 (thn (ha.run pos pins s σ H _ I h) fun us s1 ⟨vs, H1, I1, r1, q1⟩ => ?_) hs hpl))
  obtain ⟨a, xs, z, ex, hqx, q⟩ := q1
  subst ex
  cases r1 with
  | cons r rr =>
    cases rr with
    | cons r' rr =>
      cases rr
      cases r
      obtain ⟨t, rfl⟩ := r'
      obtain ⟨its, rv, p1, _⟩ := I1.tuple hqx
      have la : a < s1.heap.objs.size := by
        obtain ⟨o, ho, _⟩ := id p1
        exact Heap.lt_size ho
      refine zip_begins2 (begins_tuple a its.toArray) (begins_text z t) p1 True.intro fun h' hz hTI hTO h1 h2 hsz hk => wpAny_pyIter_zip hz ?_
      have I2 : Inv X pins σ H1 { s1 with heap := h' } := I1.kept (t' := s1.toks) hk
      refine ⟨s1.heap.objs.size + 4, [s1.heap.objs.size + 4, s1.heap.objs.size + 2, s1.heap.objs.size + 3, s1.heap.objs.size, s1.heap.objs.size + 1], _, _, H1, rfl, I2, turn_zipTS (x := z) (t := t) (zip_sep2 (N := s1.heap.objs.size) (fp1 := [a]) (fp2 := []) (by simpa using la) (by simp)), ⟨hz, hTI, ⟨_, _, hTO⟩, ⟨_, h1, rfl, rfl⟩, ⟨_, h2, rfl, rfl⟩⟩, fun c hcm => ?_, q⟩
      have e' : c = s1.heap.objs.size + 4 ∨ c = s1.heap.objs.size + 2 ∨ c = s1.heap.objs.size + 3 ∨ c = s1.heap.objs.size ∨ c = s1.heap.objs.size + 1 := by simpa using hcm
      have hle : s1.heap.objs.size ≤ c := by
        rcases e' with z | z | z | z | z
        · rw [z]; exact Nat.le_add_right _ _
        · rw [z]; exact Nat.le_add_right _ _
        · rw [z]; exact Nat.le_add_right _ _
        · rw [z]; exact Nat.le_refl _
        · rw [z]; exact Nat.le_add_right _ _
      exact I1.fpOk hle (I1.hok.fresh hle)
section
variable {X : Cx} {N : List Str} {sc : Scope} {k j : Nat} {e e2 elt : Expr} {elts : List Expr} {kk : Nat} {σ : L2.St} {H : Hp} {pos p p' tpos : Pos} {scope : Scope} {ifs : List Expr}
/-- a comprehension over zip(t, text) -/
theorem lcZ {ds : List PyData} {z : Str} (n : Nat) (hn : ds.length = n) (hz : z.cps.size = n) (f : Nat → Bool) (g : Nat → PyData) (D : DC X N sc k) (own : List (Str × Nat)) (hm : X.mg "zip" = none) (h1 : ED X e σ H (.tuple ds)) (h2 : ED X e2 σ H (.str z)) (hlim : n < 50000)
    (turn : ∀ H1 i d c v, Ex H H1 → ds[i]? = some d → z.cps[i]? = some c → TD X.K H1 v (.tuple [d, .str ⟨#[c]⟩]) → Turn1 X scope (.Tuple elts kk tpos) ifs elt σ (own.map (·.2)) H1 v (f i) (g i)) (hb : blkC N sc scope own = true := by decide +kernel) (hg : glB sc "zip" = true := by decide +kernel)
    (hs0 : starEach [e, e2] X.env = (false, eval e X.env) :: starEach [e2] X.env := by rfl) (hs2 : starEach (e2 :: []) X.env = (false, eval e2 X.env) :: starEach [] X.env := by rfl) (hs : ∀ x, foldedSetIterable (.Call (.Name "zip" p) [e, e2] [] p') X.env x = pure x := by intro _; rfl) :
    EL X (.ListComp elt [⟨.Tuple elts kk tpos, .Call (.Name "zip" p) [e, e2] [] p', ifs, 0⟩] scope pos) σ H (kept f g (List.range n)) := by
  intro H1 x1 Q q
  refine pe_le (pe_lc D.calm D.ndX (pi_zipTS (D.gl hg) hm (wa [e, e2]) hs0 (by rw [hs2] <;> rfl)) (D.blkOk hb) gB_ok (fun s H' C cl fp => ftt_ok ⟨s, H', C, cl, fp⟩ ifs) teB_ok hs) ((ead h1 (ead h2 ean hs2) hs0) H1 x1 _ fun vs H2 x2 t => ?_)
  obtain ⟨u, w, rfl, tu, tw⟩ := t.d2
  obtain rfl := tw.str_iff
  cases tu with
  | @tup A xs _ s t =>
    have xl := t.length
    refine ⟨A, xs, z, rfl, s, fun Dl hD => ?_⟩
    have wk : Walk (ItzTS X.K A z) n (fun H => SqT X.K H A xs) (fun i H v H' => ∃ T x c, v = .ref T ∧ H T = none ∧ H' = upd H T (.tup [x, .str ⟨#[c]⟩]) ∧ xs[i]? = some x ∧ z.cps[i]? = some c) := ⟨fun i H hi g => ⟨xs, xs[i], z.cps[i], g, List.getElem?_eq_getElem (by omega), Array.getElem?_eq_getElem (by omega)⟩, fun H g => ⟨xs, g, by omega, by omega, by omega⟩, fun i H v H' hi g y => by
      obtain ⟨T, x, c, e1, e2, e3, e4, e5⟩ := y
      exact ⟨T, x, c, e1, e2, e3, e4 xs g, e5⟩⟩
    refine lc_it wk (fun i H' => Lw X.K H2 Dl (kept f g ((List.range n).take i)) H') ⟨hD, Ex.new hD, [], upd_same, by rw [List.take_zero]; exact .nil⟩ (fun i H' _ p => ex_t p.2.1 s) (fun i v H3 H4 hi p y => ?_) fun H' p => ?_
    · obtain ⟨T, x, c, rfl, hT, rfl, hx, hc⟩ := y
      have xn : Ex H3 (upd H3 T (.tup [x, .str ⟨#[c]⟩])) := Ex.new hT
      obtain ⟨d, hd, td⟩ := t.get' hx
      have hr : (List.range n)[i]? = some i := by rw [List.getElem?_range hi]
      have hlen := kept_len f g ((List.range n).take i)
      have hl2 : ((List.range n).take i).length ≤ n := by rw [List.length_take, List.length_range]; exact Nat.min_le_right _ _
      obtain ⟨q1, q2, acc, q3, q4⟩ := p
      have p' : Lw X.K H2 Dl (kept f g ((List.range n).take i)) (upd H3 T (.tup [x, .str ⟨#[c]⟩])) := ⟨q1, q2.trans xn, acc, xn _ _ q3, q4.ex xn⟩
      refine turn1 p' (by omega) (turn _ i d c (.ref T) ((x1.trans x2).trans (q2.trans xn)) hd hc (.tup (.inl (.inl upd_same)) (.cons (td.ex (q2.trans xn)) (.cons (.str _) .nil)))) fun H5 p3 => ?_
      rw [kept_more hr]
      exact p3
    · have e : (List.range n).take n = List.range n := by rw [List.take_of_length_le]; rw [List.length_range]; exact Nat.le_refl _
      rw [e] at p
      obtain ⟨p1, p2, acc, p3, p4⟩ := p
      exact q _ H' (x2.trans p2) ⟨Dl, acc, rfl, fresh_back (x1.trans x2) p1, p3, p4⟩
/-- d.get(key), d a dict of the module with text keys -/
def tKGet (K : PySem.W.Frag) (d : Addr) (ty : TE) : TE := fun σ H Q => ty σ H fun y H1 => ∃ (z : Str) (r : Option Value) (v0 : V), y = .str z ∧ PySem.W.nsIn K d z = some r ∧ RelV v0 (r.getD .none) ∧ Q v0 H1
theorem pe_kget {d : Addr} {es : Array DictEntry} {n : Nat} {o : Expr} {apos : Pos} {ty : TE} (F : KDict X.K X.w d es n) (hd : PE X o (tC (.ref d))) (he : PE X e ty) (m : M1 X o "get" apos e p) : PE X (.Call (.Attribute o "get" apos) [e] [] p) (tKGet X.K d ty) := by
  refine ⟨fun pins s σ H Q I h => ?_⟩
  refine wpAny_Call_method m.base m.few m.line PySem.F.plainAttrs_dict PySem.F.slot_dict_get PySem.F.type_dict_get (thn (hd.run pins s σ H (fun x H1 => x = .ref d ∧ tKGet X.K d ty σ H1 Q) I ⟨rfl, h⟩) fun u s1 ⟨x, H1, I1, rx, ex, q1⟩ => ?_)
  subst ex
  cases rx
  have M1 := PySem.W.mapOf_K (prog := X.prog) (w := X.w) I1.kIn F.at_ F.lit
  refine ⟨M1.typeIs, M1.noDict, ?_⟩
  rw [m.trees]
  refine Calls.callWith_builtin rfl (Calls.evalArgs_plain (Calls.spliced_cons (thn (he.run pins s1 σ H1 _ I1 q1) fun iv s2 ⟨y, H2, I2, ry, z, r, v0, ey, e1, e2, q2⟩ => Calls.spliced_nil ?_)))
  subst ey
  obtain ⟨t, rfl⟩ := ry
  have M2 := PySem.W.mapOf_K (prog := X.prog) (w := X.w) I2.kIn F.at_ F.lit
  refine call_meetsIn PySem.F.slot_dict_get M2.typeIs PySem.F.entry_dict_get (PySem.F.args_dict_get_2 _ _) (meets_dict_get (PySem.strKind X.prog X.w) d (PySem.strKind_is X.prog X.w z t) F.low) ⟨_, M2, ?_⟩
  rw [PySem.W.find_K F.at_ e1]
  exact ⟨v0, H2, I2.tok _, e2, q2⟩
end
end G
/-! Leaves that are used up: each once. Plan rows. Plain Lean. -/
namespace G
open PySem
def leaveOfM (u : List (Str × Str)) (p : Str) : Option Str := (u.find? fun q => decide (q.2 = p)).map (·.1)
def rowD (gs : List Going) (p : Str) : PyData := .tuple [.str p, oI (getG (goneOf gs) p), oS (leaveOfM (usedOf gs) p)]
def thereM (l : List Deed) (day : Int) (g : Gone) : List Str := (papersM l).filter fun p => decide (comeM l p ≤ day) && (match getG g p with
  | none => true
  | some d => decide (day < d))
def UsOk (gs : List Going) : Prop := ((usedOf gs).map (·.1)).Nodup
theorem UsOk.nil : UsOk [] := List.nodup_nil
theorem UsOk.step {l : List Deed} {gs : List Going} {day : Int} {p : Str} (h : UsOk gs) : UsOk (stepM l day gs p) := by
  rw [step_eq]
  split
  · split
    · unfold UsOk
      rw [usedOf_app]
      cases e : (seeM l day gs p).leave with
      | none =>
        show ((usedOf gs ++ ([] : List (Str × Str))).map (fun q : Str × Str => q.1)).Nodup
        rw [List.append_nil]
        exact h
      | some lv =>
        have hnew : (usedOf gs).find? (fun q => decide (q.1 = lv)) = none := by
          have : (if needsM l day p then unusedM l day (kindM l p) (usedOf gs) else none) = some lv := e
          split at this
          · exact (unused_new this).1
          · cases this
        rw [List.map_append]
        refine List.nodup_append.mpr ⟨h, by simp, fun a ha b hb eab => ?_⟩
        have hb : b = lv := by simpa using hb
        rw [hb] at eab
        obtain ⟨q, hq, e3⟩ := List.mem_map.mp ha
        have := List.find?_eq_none.mp hnew q hq
        simp [e3, eab] at this
    · exact h
  · exact h
theorem UsOk.steps {l : List Deed} {day : Int} : ∀ {ps : List Str} {gs : List Going}, UsOk gs → UsOk (ps.foldl (stepM l day) gs)
  | [], _, h => h
  | p :: r, gs, h => by
    rw [List.foldl_cons]
    exact UsOk.steps h.step
theorem UsOk.run {l : List Deed} : ∀ {days : List Int} {gs : List Going}, UsOk gs → UsOk (runM l days gs)
  | [], _, h => h
  | d :: r, gs, h => by
    show UsOk (runM l r (closeM l d gs))
    exact UsOk.run (UsOk.steps h)
end G
namespace G
open PySem PySem.Spec PyProof.Rows L2 Evl
open PySem.W (EachIs dataLe AllAlike Sortable alike)
section
variable {P : Program} {w : World} {K : PySem.W.Frag} {mg : Str → Option Value} {base : Heap}

theorem alike_pair (x y : Deed) : alike (pairD x) (pairD y) = true := by simp [pairD, alike, PySem.W.alikeAll]
theorem depth_pair (x : Deed) : (pairD x).depth ≤ 50 := by simp [pairD, PyData.depth, PyData.depthAll]
theorem perm_len (l : List Deed) : (paperDeeds l).length ≤ l.length := by
  unfold paperDeeds
  rw [List.length_mergeSort]
  exact List.length_filter_le _ _

theorem c_papers (T : Txt K mg) : Cal P w K mg base 1 "papers" ["deeds"] (SpF K (fun l : List Deed => [.d (dd l)]) (fun l _ => l.length ≤ 40) (fun l _ H' v => TDF K H' v ((papersM l).map .str))) := by
  obtain ⟨fd, F⟩ := T.f_papers
  refine mkCal F T.g_papers S_papers H_papers (fun _ _ _ _ _ _ us hl => match us, hl with | [_], _ => rfl) (fun _ => rfl) ?_
  rintro X rfl rfl rfl rfl rfl D l vs H Q hv hp hq
  cases hv with
  | d t r =>
    cases r
    refine ss1 (retR (R := fun H2 v => TDF X.K H2 v ((paperDeeds l).map fun x => .str x.name)) ?_ fun v H1 x r => hq v H1 x ?_)
    · refine dtupleF D T.m_tuple ?_
      refine lcL0 pairD (paperDeeds l) (fun x => .str x.name) D [("day", 1), ("name", 2)] ?_ (by have := perm_len l; omega) fun H1 x v e1 hx tv => t2 D 1 2 tv fun u w tu tw => ⟨fun b => rfl, fun _ b => dn (D.b b) 2 tw⟩
      refine lsorted D T.m_sorted (bs := l.filter (isW "paper")) (enc := pairD) ?_ (.of alike_pair) (.tuples fun x => ⟨_, _, rfl⟩) fun x _ => depth_pair x
      exact lcT Deed.d l (isW "paper") pairD D [("deed", 3)] (dn D 0 t) (by omega) fun H1 x v e1 hx tv =>
        t1 D 3 (fun b => eqS (dix (dn (D.b b) 3 tv) di at0) ds) (fun _ b => dtup (xs := [.int x.day, .str x.name]) (ead (dix (dn (D.b b) 3 tv) di at1) (ead (dix (dn (D.b b) 3 tv) di at2) ean)))
    · show TDF X.K H1 v ((papersM l).map PyData.str)
      rw [show (papersM l).map PyData.str = (paperDeeds l).map fun x => PyData.str x.name by unfold papersM; rw [List.map_map] <;> rfl]
      exact r

/-! ### row_of, kind_of, makers -/
def isP (p : Str) (x : Deed) : Bool := isW "paper" x && decide (x.name = p)
theorem find_take {α : Type} {f : α → Bool} {l : List α} {i : Nat} {x : α} (h : ∀ y ∈ l.take i, f y = false) (e : l[i]? = some x) (hx : f x = false) : ∀ y ∈ l.take (i + 1), f y = false := by
  rw [take_more e]
  intro y hy
  rcases List.mem_append.mp hy with q | q
  · exact h y q
  · rw [List.mem_singleton.mp q]
    exact hx
theorem find_here {α : Type} {f : α → Bool} : ∀ {l : List α} {i : Nat} {x : α}, (∀ y ∈ l.take i, f y = false) → l[i]? = some x → f x = true → l.find? f = some x
  | [], i, x, _, e, _ => by simp at e
  | a :: l, 0, x, _, e, hx => by
    have q : a = x := Option.some.inj e
    subst q
    exact List.find?_cons_of_pos hx
  | a :: l, i + 1, x, h, e, hx => by
    have ha : f a = false := h a (by simp)
    rw [List.find?_cons_of_neg (by rw [ha]; decide)]
    exact find_here (i := i) (fun y hy => h y (by simp [hy])) e hx
theorem find_no {α : Type} {f : α → Bool} {l : List α} (h : ∀ y ∈ l.take l.length, f y = false) : l.find? f = none := by
  rw [List.take_length] at h
  exact List.find?_eq_none.mpr fun y hy => by rw [h y hy]; decide
theorem map_at {α β : Type} {m : α → β} {l : List α} {i : Nat} {d : β} (e : (l.map m)[i]? = some d) : ∃ x, l[i]? = some x ∧ d = m x := by
  rw [List.getElem?_map] at e
  cases hx : l[i]? with
  | none =>
    rw [hx] at e
    cases e
  | some x =>
    rw [hx] at e
    exact ⟨x, rfl, (Option.some.inj e).symm⟩

theorem c_row_of (T : Txt K mg) : Cal P w K mg base 1 "row_of" ["deeds", "paper"] (SpD K (fun a : List Deed × Str × Deed => [.d (dd a.1), .d (.str a.2.1)]) (fun a _ => rowM a.1 a.2.1 = some a.2.2) (fun a => a.2.2.d)) := by
  obtain ⟨fd, F⟩ := T.f_row_of
  refine mkCal F T.g_row_of S_row_of H_row_of (fun _ _ _ _ _ _ us hl => match us, hl with | [_, _], _ => rfl) (fun _ => rfl) ?_
  rintro X rfl rfl rfl rfl rfl D ⟨l, p, x0⟩ vs H Q hv hp hq
  cases hv with
  | @d v1 _ _ _ t r =>
    cases r with
    | @d v2 _ _ _ t2 r =>
      cases r
      obtain rfl := t2.str_iff
      refine ssc (forT D (dn D 0 t) (fun H1 i σ' H' => ∃ v, σ' = [some v1, some (.str p), v] ∧ Ex H1 H' ∧ ∀ y ∈ l.take i, isP p y = false) (fun H1 e => ⟨none, rfl, Ex.refl _, by simp⟩) (fun H1 i σ' H' ⟨_, _, e, _⟩ => .ex e) ?_ ?_)
      · rintro H1 i d v σ' H' e hi ⟨v3, rfl, e2, hf⟩ tv
        obtain ⟨x, hx, rfl⟩ := map_at hi
        refine g1 D 2 (ss1 (sif (EW.et (tandc (eqS (dix (dn D 2 tv) di at0) ds) fun _ => tand1 (eqS (dix (dn D 2 tv) di at2) (dns D 1)))) (fun h H3 e3 => ?_) fun h H3 e3 => ss0 ?_))
        · have h1 : rowM l p = some x := find_here (f := isP p) hf hx h
          refine ss1 (retD (dn D 2 (tv.ex e3)) fun u H4 e4 tu => hq u H4 ((e.trans e2).trans (e3.trans e4)) ?_)
          have h2 : some x = some x0 := h1.symm.trans hp
          cases h2
          exact tu
        · exact ⟨_, rfl, e2.trans e3, find_take hf hx h⟩
      · rintro H1 σ' H' e ⟨v3, rfl, e2, hf⟩
        have h1 : rowM l p = none := find_no (f := isP p) (by rw [List.length_map] at hf; exact hf)
        rw [show rowM l p = some x0 from hp] at h1
        cases h1
theorem c_kind_of (T : Txt K mg) : Cal P w K mg base 2 "kind_of" ["deeds", "paper"] (SpD K (fun a : List Deed × Str => [.d (dd a.1), .d (.str a.2)]) (fun a _ => a.2 ∈ papersM a.1) (fun a => .str (kindM a.1 a.2))) := by
  obtain ⟨fd, F⟩ := T.f_kind_of
  refine mkCal F T.g_kind_of S_kind_of H_kind_of (fun _ _ _ _ _ _ us hl => match us, hl with | [_, _], _ => rfl) (fun _ => rfl) ?_
  rintro X rfl rfl rfl rfl rfl D ⟨l, p⟩ vs H Q hv hp hq
  dsimp only at hv hp hq
  obtain ⟨v1, v2, rfl, t1, t2⟩ := hv.d2
  obtain ⟨d, k, m, hr⟩ := row_of_mem hp
  have e : kindM l p = k := by unfold kindM; rw [hr]
  refine ss1 (retD (dix (dcall D (c_row_of T) (l, p, .paper d p k m) (ead (dn D 0 t1) (ead (dn D 1 t2) ean)) fun _ _ => hr) di at3) fun v H1 x r => hq v H1 x ?_)
  show TD X.K H1 v (.str (kindM l p))
  rw [e]
  exact r
theorem c_makers (T : Txt K mg) : Cal P w K mg base 2 "makers" ["deeds", "paper"] (SpD K (fun a : List Deed × Str => [.d (dd a.1), .d (.str a.2)]) (fun a _ => a.2 ∈ papersM a.1 ∧ a.1.length ≤ 40) (fun a => .tuple ((makersM a.1 a.2).map .str))) := by
  obtain ⟨fd, F⟩ := T.f_makers
  refine mkCal F T.g_makers S_makers H_makers (fun _ _ _ _ _ _ us hl => match us, hl with | [_, _], _ => rfl) (fun _ => rfl) ?_
  rintro X rfl rfl rfl rfl rfl D ⟨l, p⟩ vs H Q hv ⟨hp, hl⟩ hq
  dsimp only at hv hp hl hq
  obtain ⟨v1, v2, rfl, a1, a2⟩ := hv.d2
  obtain rfl := a2.str_iff
  obtain ⟨d, k, m, hr⟩ := row_of_mem hp
  have e : toldM l p = m := by unfold toldM; rw [hr]
  refine ssc (asgD D 2 (dix (dcall D (c_row_of T) (l, p, .paper d p k m) (ead (dn D 0 a1) (ead (dns D 1) ean)) fun _ _ => hr) di at4) fun u H1 x1 tu => ?_)
  refine ssc (asgR D 3 (rcall D (c_papers T) (by decide) l (ead (dn D 0 (a1.ex x1)) ean) (fun _ _ => hl) (hR := fun _ _ _ _ _ r => r)) fun o H2 x2 to => ?_)
  have tu2 : TD X.K H2 u (.tuple (m.map .str)) := tu.ex x2
  have hl' : l.length ≤ 40 := hl
  have hz : ((papersM l).take ((papersM l).idxOf p)).length < 50000 := by
    have := papers_len l
    rw [List.length_take]
    omega
  refine ss1 (retD (d := .tuple (kept (fun n => decide (n ∈ m)) .str ((papersM l).take ((papersM l).idxOf p)))) ?_ fun v H3 x3 r => hq v H3 ((x1.trans x2).trans x3) ?_)
  · refine dtuple D T.m_tuple ?_
    refine lcT .str _ _ .str D [("name", 4)] (ED.to (dslice (dn D 3 to.td) on (os (didx (en D 3) to (dns D 1) hp))) (by rw [cut_take, List.map_take])) hz fun H3 x v x3 hx tv => t1 D 4 (fun b => inT (dn (D.b b) 4 tv) (dn (D.b b) 2 (tu2.ex x3))) fun _ b => dn (D.b b) 4 tv
  · show TD X.K H3 v (.tuple ((makersM l p).map .str))
    unfold makersM
    rw [e]
    exact r
theorem map_get {α β : Type} {m : α → β} {l : List α} {i : Nat} {x : α} (e : l[i]? = some x) : (l.map m)[i]? = some (m x) := by rw [List.getElem?_map, e] <;> rfl
theorem c_made_from (T : Txt K mg) : Cal P w K mg base 3 "made_from" ["deeds", "paper"] (SpL K (fun a : List Deed × Str => [.d (dd a.1), .d (.str a.2)]) (fun a _ => WF a.1 ∧ a.2 ∈ papersM a.1) (fun a => (madeFromM a.1 a.2).map .str)) := by
  obtain ⟨fd, F⟩ := T.f_made_from
  refine mkCal F T.g_made_from S_made_from H_made_from (fun _ _ _ _ _ _ us hl => match us, hl with | [_, _], _ => rfl) (fun _ => rfl) ?_
  rintro X rfl rfl rfl rfl rfl D ⟨l, p⟩ vs H Q hv ⟨W, hp⟩ hq
  dsimp only at hv W hp hq
  obtain ⟨v1, v2, rfl, a1, a2⟩ := hv.d2
  obtain rfl := a2.str_iff
  refine ssc (asgL (ds := [.str p]) D 2 (llst (ead (dns D 1) ean)) fun q xs H1 hq0 x1 hq1 tx => ?_)
  refine ssc (asgD D 3 di fun u H2 x2 tu => ?_)
  obtain rfl := tu.int_iff
  have plen := papers_len l
  have l40 := W.len
  refine ssc (swhile D (fun m σ' H' => ∃ (i n : Nat) (found : List Str) (v : Option V), σ' = [some v1, some (.str p), some (.ref q), some (.int i), v] ∧ Ex H H' ∧ H' q = some (.lst (found.map .str)) ∧ MadeOk l found ∧ i ≤ found.length ∧ madeLoop l n found i = madeFromM l p ∧ n + i = (papersM l).length + 1 ∧ m = n) _ ⟨0, (papersM l).length + 1, [p], none, rfl, x1.trans x2, ?_, ⟨by simp, fun x hx => by rw [List.mem_singleton.mp hx]; exact hp⟩, by simp, rfl, rfl, rfl⟩ ?_)
  · have e := tx.strs (xs := [p])
    rw [e] at hq1
    exact x2 _ _ hq1
  · rintro m σ' H' ⟨i, n, found, v, rfl, x3, hf, mk, hi, hL, hn, rfl⟩
    have sq : SqL X.K H' q (found.map .str) := .inl (.inl hf)
    refine ⟨_, ltI (dni D 3) (dlenV D T.m_len (en D 2) sq), fun hb H3 x4 => ?_, fun hb H3 x4 => ?_⟩
    · have hb' : (i : Int) < ((found.map V.str).length : Int) := of_decide_eq_true hb
      rw [List.length_map] at hb'
      have hi2 : i < found.length := by omega
      have hx : found[i]? = some found[i] := List.getElem?_eq_getElem hi2
      have hin : found[i] ∈ papersM l := mk.sub _ (List.getElem_mem hi2)
      have hf3 := x4 _ _ hf
      have sq3 : SqL X.K H3 q (found.map .str) := .inl (.inl hf3)
      obtain ⟨n', rfl⟩ : ∃ n', m = n' + 1 := ⟨m - 1, by have := mk.len; omega⟩
      have ml := makers_len l found[i]
      refine ssc (sext (vs := found.map .str) (ds := kept (fun m => !decide (m ∈ found)) .str (makersM l found[i])) (en D 2) hf3 ?_ ?_ fun us H4 x5 tus => ?_)
      · have := kept_len (fun m => !decide (m ∈ found)) PyData.str (makersM l found[i])
        have := mk.len
        rw [List.length_map]
        omega
      · refine lcT .str _ _ .str D [("maker", 4)] (dcall D (c_makers T) (l, found[i]) (ead (dn D 0 (a1.ex (x3.trans x4))) (ead (dixV (en D 2) sq3 (TDs.of_strs found) (dni D 3) (atI_nat (map_get hx))) ean)) fun _ _ => ⟨hin, l40⟩) (by omega) fun H4 x v x5 hx tv => t1 D 4 (fun b => notInL (dn (D.b b) 4 tv) (en (D.b b) 2) (.inl (.inl (x5 _ _ hf3)))) fun _ b => dn (D.b b) 4 tv
      · refine ss1 (asgD D 3 (dadd (dni D 3) di) fun w H5 x6 tw => ?_)
        obtain rfl := tw.int_iff
        refine ⟨n', Nat.lt_succ_self _, i + 1, n', found ++ (makersM l found[i]).filter (fun m => !decide (m ∈ found)), v, rfl, (Ex.mut (x3.trans (x4.trans x5)) hq0).trans x6, ?_, mk.next W _, ?_, ?_, by omega, rfl⟩
        · have e : us = ((makersM l found[i]).filter fun m => !decide (m ∈ found)).map .str := tus.strs
          rw [e] at x6
          rw [List.map_append]
          exact x6 _ _ upd_same
        · rw [List.length_append]
          omega
        · rw [← hL]
          exact (made_step hx).symm
    · have hb' : ¬ (i : Int) < ((found.map V.str).length : Int) := of_decide_eq_false hb
      rw [List.length_map] at hb'
      have e : madeFromM l p = found := by rw [← hL]; exact made_end (by omega)
      refine ss1 (retV (en D 2) fun H4 x5 => hq _ H4 ((x3.trans x4).trans x5) ⟨q, found.map .str, rfl, hq0, x5 _ _ (x4 _ _ hf), ?_⟩)
      rw [e]
      exact TDs.of_strs found
end
end G
namespace G
open PySem PySem.Spec PyProof.Rows L2 Evl
section
variable {P : Program} {w : World} {K : PySem.W.Frag} {mg : Str → Option Value} {base : Heap}
theorem c_is_long (T : Txt K mg) : Cal P w K mg base 1 "is_long" ["year"] (SpD K (fun y : Int => [.d (.int y)]) (fun _ _ => True) (fun y => .bool (longB y))) := by
  obtain ⟨fd, F⟩ := T.f_is_long
  refine mkCal F T.g_is_long S_is_long H_is_long (fun _ _ _ _ _ _ us hl => match us, hl with | [_], _ => rfl) (fun _ => rfl) ?_
  rintro X rfl rfl rfl rfl rfl D y vs H Q hv hp hq
  dsimp only at hv hp hq
  obtain ⟨v1, rfl, a1⟩ := hv.d1
  obtain rfl := a1.int_iff
  exact ss1 (retD (vor (eqIv (dmod (by decide) (dni D 0) di) di) fun _ => vone (vand (eqIv (dmod (by decide) (dni D 0) di) di) fun _ => vone (neIv (dmod (by decide) (dni D 0) di) di))) hq)
theorem td_lens (T : Txt K mg) (H : Hp) : TD K H (.ref (He.ga K "LENGTHS")) (.tuple (lensM.map .int)) := .tup (T.t_LENGTHS H) (TDs.of_ints lensM)
theorem lens_at {m : Int} (h1 : 1 ≤ m) (h2 : m ≤ 12) : atI (lensM.map PyData.int) (m - 1) = some (.int (lensM.getD (m - 1).toNat 0)) := by
  obtain ⟨j, rfl⟩ : ∃ j : Nat, m = (j : Int) + 1 := ⟨(m - 1).toNat, by omega⟩
  have hj : j < 12 := by omega
  rw [show (j : Int) + 1 - 1 = (j : Int) by omega]
  refine atI_nat ?_
  have : ∀ j : Nat, j < 12 → lensM[j]? = some (lensM.getD ((j : Int)).toNat 0) := by decide
  rw [List.getElem?_map, this j hj] <;> rfl
theorem c_length_of (T : Txt K mg) : Cal P w K mg base 2 "length_of" ["year", "month"] (SpD K (fun a : Int × Int => [.d (.int a.1), .d (.int a.2)]) (fun a _ => 1 ≤ a.2 ∧ a.2 ≤ 12) (fun a => .int (lenM a.1 a.2))) := by
  obtain ⟨fd, F⟩ := T.f_length_of
  refine mkCal F T.g_length_of S_length_of H_length_of (fun _ _ _ _ _ _ us hl => match us, hl with | [_, _], _ => rfl) (fun _ => rfl) ?_
  rintro X rfl rfl rfl rfl rfl D ⟨y, m⟩ vs H Q hv ⟨h1, h2⟩ hq
  dsimp only at hv h1 h2 hq
  obtain ⟨v1, v2, rfl, a1, a2⟩ := hv.d2
  obtain rfl := a1.int_iff
  obtain rfl := a2.int_iff
  exact ss1 (retD (dadd (dix (dg (v := .ref (He.ga X.K "LENGTHS")) D T.g_LENGTHS rfl (td_lens T)) (dsub (dni D 1) di) (lens_at h1 h2)) (dint D T.m_int (vand (eqIv (dni D 1) di) fun _ => vone (dcall D (c_is_long T) y (ead (dni D 0) ean) fun _ _ => trivial)))) hq)
theorem c_long_years (T : Txt K mg) : Cal P w K mg base 1 "long_years" ["year"] (SpD K (fun y : Int => [.d (.int y)]) (fun _ _ => True) (fun y => .int (longsM y))) := by
  obtain ⟨fd, F⟩ := T.f_long_years
  refine mkCal F T.g_long_years S_long_years H_long_years (fun _ _ _ _ _ _ us hl => match us, hl with | [_], _ => rfl) (fun _ => rfl) ?_
  rintro X rfl rfl rfl rfl rfl D y vs H Q hv hp hq
  dsimp only at hv hp hq
  obtain ⟨v1, rfl, a1⟩ := hv.d1
  obtain rfl := a1.int_iff
  exact ss1 (retD (dadd (dsub (ddiv (by constructor <;> decide) (dni D 0) di) (ddiv (by constructor <;> decide) (dni D 0) di)) (ddiv (by constructor <;> decide) (dni D 0) di)) hq)
theorem dgi {X : Cx} {N : List Str} {sc : Scope} {k : Nat} {σ : L2.St} {H : Hp} {pos : Pos} {x : Str} {i : Int} (D : DC X N sc k) (hm : ∃ t, X.mg x = some (.int i t)) (hg : glB sc x = true := by decide +kernel) (hd : (x == ("__debug__" : Str)) = false := by decide +kernel) : ED X (.Name x pos) σ H (.int i) := by
  obtain ⟨t, hm⟩ := hm
  exact dg (v := .int i) D hm ⟨t, rfl⟩ (fun _ => .int i) hg hd
theorem c_days_ahead (T : Txt K mg) : Cal P w K mg base 2 "days_ahead" ["year"] (SpD K (fun y : Int => [.d (.int y)]) (fun _ _ => True) (fun y => .int (aheadM y))) := by
  obtain ⟨fd, F⟩ := T.f_days_ahead
  refine mkCal F T.g_days_ahead S_days_ahead H_days_ahead (fun _ _ _ _ _ _ us hl => match us, hl with | [_], _ => rfl) (fun _ => rfl) ?_
  rintro X rfl rfl rfl rfl rfl D y vs H Q hv hp hq
  dsimp only at hv hp hq
  obtain ⟨v1, rfl, a1⟩ := hv.d1
  obtain rfl := a1.int_iff
  exact ss1 (retD (dsub (dadd (dmul (.inl ⟨by decide, by decide⟩) di (dsub (dni D 0) (dgi D T.i_FIRST_YEAR))) (dcall D (c_long_years T) (y - 1) (ead (dsub (dni D 0) di) ean) fun _ _ => trivial)) (dcall D (c_long_years T) (2000 - 1) (ead (dsub (dgi D T.i_FIRST_YEAR) di) ean) fun _ _ => trivial)) hq)
theorem c_day_at (T : Txt K mg) : Cal P w K mg base 3 "day_at" ["year", "month", "day"] (SpD K (fun a : Int × Int × Int => [.d (.int a.1), .d (.int a.2.1), .d (.int a.2.2)]) (fun a _ => 1 ≤ a.2.1 ∧ a.2.1 ≤ 12) (fun a => .int (dayAtM a.1 a.2.1 a.2.2))) := by
  obtain ⟨fd, F⟩ := T.f_day_at
  refine mkCal F T.g_day_at S_day_at H_day_at (fun _ _ _ _ _ _ us hl => match us, hl with | [_, _, _], _ => rfl) (fun _ => rfl) ?_
  rintro X rfl rfl rfl rfl rfl D ⟨y, m, d⟩ vs H Q hv ⟨h1, h2⟩ hq
  dsimp only at hv h1 h2 hq
  obtain ⟨v1, v2, v3, rfl, a1, a2, a3⟩ := hv.d3
  obtain rfl := a1.int_iff
  obtain rfl := a2.int_iff
  obtain rfl := a3.int_iff
  refine ss1 (retD (dsub (dadd (dadd (dcall D (c_days_ahead T) y (ead (dni D 0) ean) fun _ _ => trivial) (dsum D T.m_sum (ns := (List.range (m - 1).toNat).map fun i : Nat => lenM y (1 + (i : Int))) ?_)) (dni D 2)) di) hq)
  have e : ((List.range (m - 1).toNat).map fun i : Nat => lenM y (1 + (i : Int))).map PyData.int = kept (fun _ => true) (fun i : Nat => .int (lenM y (1 + (i : Int)))) (List.range (m - 1).toNat) := by
    rw [kept_all, List.map_map] <;> rfl
  rw [e]
  exact lcR2 (lo := 1) (hi := m) (fun _ => true) (fun i : Nat => .int (lenM y (1 + (i : Int)))) D [("ahead", 3)] T.m_range di (dni D 1) (by omega) fun H1 j x1 hj => t1 D 3 (fun b => rfl) fun _ b => dcall (D.b b) (c_length_of T) (y, 1 + (j : Int)) (ead (dni (D.b b) 0) (ead (dni (D.b b) 3) ean)) fun _ _ => by
    dsimp only
    omega
theorem c_date_of (T : Txt K mg) : Cal P w K mg base 3 "date_of" ["day"] (SpD K (fun d : Int => [.d (.int d)]) (fun d _ => 0 ≤ d) (fun d => .tuple [.int (yearM d), .int (monthM d).2, .int ((monthM d).1 + 1)])) := by
  obtain ⟨fd, F⟩ := T.f_date_of
  refine mkCal F T.g_date_of S_date_of H_date_of (fun _ _ _ _ _ _ us hl => match us, hl with | [_], _ => rfl) (fun _ => rfl) ?_
  rintro X rfl rfl rfl rfl rfl D d vs H Q hv hp hq
  dsimp only at hv hp hq
  obtain ⟨v1, rfl, a1⟩ := hv.d1
  obtain rfl := a1.int_iff
  refine ssc (asgD D 1 (dadd (dgi D T.i_FIRST_YEAR) (ddiv (by constructor <;> decide) (dni D 0) di)) fun u H1 x1 tu => ?_)
  obtain rfl := tu.int_iff
  refine ssc (swhile D (fun m σ' H' => ∃ (n : Nat) (y : Int), σ' = [some (.int d), some (.int y), none, none] ∧ Ex H H' ∧ yearLoop d n y = yearM d ∧ d < aheadM (y + 1 + (n : Int)) ∧ n = m) (d.toNat + 1) ⟨d.toNat + 1, _, rfl, x1, rfl, (year_start hp).2, rfl⟩ ?_)
  rintro m σ' H' ⟨n, y, rfl, x2, hL, hn, rfl⟩
  refine ⟨_, leI (dcall D (c_days_ahead T) (y + 1) (ead (dadd (dni D 1) di) ean) fun _ _ => trivial) (dni D 0), fun hb H2 x3 => ?_, fun hb H2 x3 => ?_⟩
  · have hb' : aheadM (y + 1) ≤ d := of_decide_eq_true hb
    cases n with
    | zero =>
      rw [show y + 1 + ((0 : Nat) : Int) = y + 1 by omega] at hn
      omega
    | succ n =>
      refine ss1 (asgD D 1 (dadd (dni D 1) di) fun u H3 x4 tu => ?_)
      obtain rfl := tu.int_iff
      exact ⟨n, Nat.lt_succ_self _, n, y + 1, rfl, (x2.trans x3).trans x4, by rw [← hL]; exact (year_step hb').symm, by rw [show y + 1 + 1 + ((n : Nat) : Int) = y + 1 + ((n + 1 : Nat) : Int) by omega]; exact hn, rfl⟩
  · have hb' : ¬ aheadM (y + 1) ≤ d := of_decide_eq_false hb
    have ey : yearM d = y := by rw [← hL]; exact year_end hb'
    have hl := left_in hp
    have hm := month_in hp
    rw [ey] at hl
    refine ssc (asgD D 2 (dsub (dni D 0) (dcall D (c_days_ahead T) y (ead (dni D 1) ean) fun _ _ => trivial)) fun u H3 x4 tu => ?_)
    obtain rfl := tu.int_iff
    refine ssc (asgD D 3 di fun u H4 x5 tu => ?_)
    obtain rfl := tu.int_iff
    refine ssc (swhile D (fun m σ' H' => ∃ (n : Nat) (left mo : Int), σ' = [some (.int d), some (.int y), some (.int left), some (.int mo)] ∧ Ex H H' ∧ monthLoop y n left mo = monthM d ∧ 0 ≤ left ∧ left < sumL y n ∧ (n : Int) + mo = 13 ∧ 1 ≤ mo ∧ n = m) 12 ⟨12, _, _, rfl, ((x2.trans x3).trans x4).trans x5, by unfold monthM; rw [ey], hl.1, hl.2, by omega, by omega, rfl⟩ ?_)
    rintro m σ' H' ⟨n, left, mo, rfl, x6, hL2, hl0, hl1, hnm, hm1, rfl⟩
    have hn0 : n ≠ 0 := fun e => by
      subst e
      unfold sumL at hl1
      omega
    obtain ⟨n, rfl⟩ : ∃ n', n = n' + 1 := ⟨n - 1, by omega⟩
    have em : mo = 12 - (n : Int) := by omega
    refine ⟨_, geI (dni D 2) (dcall D (c_length_of T) (y, mo) (ead (dni D 1) (ead (dni D 3) ean)) fun _ _ => by dsimp only; omega), fun hb H5 x7 => ?_, fun hb H5 x7 => ?_⟩
    · have hb' : lenM y mo ≤ left := of_decide_eq_true hb
      refine ssc (asgD D 2 (dsub (dni D 2) (dcall D (c_length_of T) (y, mo) (ead (dni D 1) (ead (dni D 3) ean)) fun _ _ => by dsimp only; omega)) fun u H6 x8 tu => ?_)
      obtain rfl := tu.int_iff
      refine ss1 (asgD D 3 (dadd (dni D 3) di) fun u H7 x9 tu => ?_)
      obtain rfl := tu.int_iff
      unfold sumL at hl1
      rw [← em] at hl1
      refine ⟨n, Nat.lt_succ_self _, n, left - lenM y mo, mo + 1, rfl, ((x6.trans x7).trans x8).trans x9, by rw [← hL2]; exact (month_step hb').symm, by omega, by omega, by omega, by omega, rfl⟩
    · have hb' : ¬ lenM y mo ≤ left := of_decide_eq_false hb
      have e2 : monthM d = (left, mo) := by rw [← hL2]; exact month_end hb'
      refine ss1 (retD (dtup (xs := [.int y, .int mo, .int (left + 1)]) (ead (dni D 1) (ead (dni D 3) (ead (dadd (dni D 2) di) ean)))) fun v H6 x8 r => hq v H6 ((x6.trans x7).trans x8) ?_)
      rw [ey, e2]
      exact r
theorem c_later (T : Txt K mg) : Cal P w K mg base 4 "later" ["day", "many", "unit"] (SpD K (fun a : Int × Int × Str => [.d (.int a.1), .d (.int a.2.1), .d (.str a.2.2)]) (fun a _ => 0 ≤ a.1 ∧ (0 ≤ a.2.1 ∧ a.2.1 ≤ 999) ∧ a.2.2 ∈ (["days", "months", "years"] : List Str)) (fun a => .int (laterM a.1 a.2.1 a.2.2))) := by
  obtain ⟨fd, F⟩ := T.f_later
  refine mkCal F T.g_later S_later H_later (fun _ _ _ _ _ _ us hl => match us, hl with | [_, _, _], _ => rfl) (fun _ => rfl) ?_
  rintro X rfl rfl rfl rfl rfl D ⟨d, m, u⟩ vs H Q hv ⟨h0, hm, hu⟩ hq
  dsimp only at hv h0 hm hu hq
  obtain ⟨v1, v2, v3, rfl, a1, a2, a3⟩ := hv.d3
  obtain rfl := a1.int_iff
  obtain rfl := a2.int_iff
  obtain rfl := a3.str_iff
  refine ssc (sif (eqS (dns D 2) ds) (fun hb H1 x1 => ?_) fun hb H1 x1 => ss0 ?_)
  · have hb' : u = "days" := of_decide_eq_true hb
    refine ss1 (retD (dadd (dni D 0) (dni D 1)) fun v H2 x2 r => hq v H2 (x1.trans x2) ?_)
    unfold laterM
    rw [if_pos hb']
    exact r
  · have hb' : ¬ u = "days" := of_decide_eq_false hb
    have hu2 : u = "months" ∨ u = "years" := by
      simp only [List.mem_cons, List.not_mem_nil, or_false] at hu
      exact hu.resolve_left hb'
    obtain ⟨hm1, hm2, hm3⟩ := month_in h0
    refine ssc (sasg (dcall D (c_date_of T) d (ead (dni D 0) ean) fun _ _ => h0) fun v H2 x2 tv => g3 D 3 4 5 tv fun u1 u2 u3 t1 t2 t3 => ?_)
    obtain rfl := t1.int_iff
    obtain rfl := t2.int_iff
    obtain rfl := t3.int_iff
    have hunit : (if u = "months" then (1 : Int) else 12) = unitM u := rfl
    refine ssc (asgD D 6 (dadd (dsub (dadd (dmul (.inl ⟨by decide, by decide⟩) di (dni D 3)) (dni D 4)) di) (dmul (i := m) (.inl ⟨by omega, by omega⟩) (dni D 1) (dpick D (dns D 2) hu2 (by decide +kernel)))) fun w1 H3 x3 tw => ?_)
    obtain rfl := tw.int_iff
    rw [hunit]
    refine ssc (spar (i := 3) (j := 4) D (by decide) (ddiv (by constructor <;> decide) (dni D 6) di) (dadd (dmod (by decide) (dni D 6) di) di) (fun p1 p2 H4 x4 tp1 tp2 => ?_) ?_)
    · obtain rfl := tp1.int_iff
      obtain rfl := tp2.int_iff
      have hmo : 1 ≤ (12 * yearM d + (monthM d).2 - 1 + m * unitM u) % 12 + 1 ∧ (12 * yearM d + (monthM d).2 - 1 + m * unitM u) % 12 + 1 ≤ 12 := by omega
      refine ss1 (retD (dcall D (c_day_at T) (_, _, _) (ead (dni D 3) (ead (dni D 4) (ead (dmin2 D T.m_min (dni D 5) (dcall D (c_length_of T) (_, _) (ead (dni D 3) (ead (dni D 4) ean)) fun _ _ => hmo)) ean))) fun _ _ => hmo) fun v H5 x5 r => hq v H5 (((x1.trans x2).trans x3).trans (x4.trans x5)) ?_)
      unfold laterM
      rw [if_neg hb']
      exact r
    · intro env h1 h2 h3
      simp only [swappedStores, h1, h2, h3, Expr.pos, List.filterMap_cons, List.filterMap_nil]
      rfl
end
end G
namespace G
open PySem PySem.Spec PyProof.Rows L2 Evl
open PySem.W (EachIs dataLe AllAlike Sortable alike)
section
variable {P : Program} {w : World} {K : PySem.W.Frag} {mg : Str → Option Value} {base : Heap}

/-! ### latest -/
def byDay (l : List Deed) : List Deed := l.mergeSort (dataLe false dayD)
def inD (day : Int) (w0 w1 : Str) (x : Deed) : Bool := inW w0 w1 x && decide (x.day ≤ day)
theorem foldP_len : ∀ (l : List Deed) (kv : List (Str × Deed)), (l.foldl putA kv).length ≤ kv.length + l.length
  | [], kv => Nat.le_refl _
  | x :: r, kv => by
    have h1 := foldP_len r (putA kv x)
    have h2 : (putA kv x).length ≤ kv.length + 1 := putP_len kv x.name x
    rw [List.foldl_cons, List.length_cons]
    omega
def fL (kv : List (Str × Deed)) (w0 : Str) (n : Str) : Bool := match getP kv n with
  | some x => isW w0 x
  | none => false
def gL (kv : List (Str × Deed)) (n : Str) : PyData := match getP kv n with
  | some x => x.d
  | none => .none
theorem kept_latest (kv : List (Str × Deed)) (w0 : Str) : ∀ ns : List Str, kept (fL kv w0) (gL kv) ns = (ns.filterMap fun n => match getA kv n with
    | some x => if isW w0 x then some x else none
    | none => none).map Deed.d
  | [] => rfl
  | n :: r => by
    have ih := kept_latest kv w0 r
    unfold kept at *
    rw [List.filter_cons, List.filterMap_cons]
    have e : getA kv n = getP kv n := rfl
    rw [e]
    cases q : getP kv n with
    | none =>
      have e1 : fL kv w0 n = false := by unfold fL; rw [q]
      rw [e1]
      exact ih
    | some x =>
      cases q2 : isW w0 x with
      | false =>
        have e1 : fL kv w0 n = false := by unfold fL; rw [q]; exact q2
        rw [e1]
        simp only [q2]
        exact ih
      | true =>
        have e1 : fL kv w0 n = true := by unfold fL; rw [q]; exact q2
        have e2 : gL kv n = x.d := by unfold gL; rw [q]
        rw [e1]
        simp only [q2, if_true, List.map_cons, e2]
        rw [ih]
theorem getP_mem {β : Type} {n : Str} : ∀ {kv : List (Str × β)}, n ∈ kv.map (·.1) → ∃ b, getP kv n = some b
  | [], h => by simp at h
  | (m, b) :: r, h => by
    by_cases e : m = n
    · subst e
      exact ⟨b, by simp [getP]⟩
    · have h2 : n ∈ r.map (·.1) := by
        rcases List.mem_cons.mp h with q | q
        · exact absurd q.symm e
        · exact q
      obtain ⟨c, hc⟩ := getP_mem h2
      exact ⟨c, by simpa [getP, e] using hc⟩
theorem c_latest (T : Txt K mg) : Cal P w K mg base 4 "latest" ["deeds", "day", "words"] (SpL K (fun a : List Deed × Int × Str × Str => [.d (dd a.1), .d (.int a.2.1), .d (.tuple [.str a.2.2.1, .str a.2.2.2])]) (fun a _ => a.1.length ≤ 40) (fun a => (latestM a.1 a.2.1 a.2.2.1 a.2.2.2).map Deed.d)) := by
  obtain ⟨fd, F⟩ := T.f_latest
  refine mkCal F T.g_latest S_latest H_latest (fun _ _ _ _ _ _ us hl => match us, hl with | [_, _, _], _ => rfl) (fun _ => rfl) ?_
  rintro X rfl rfl rfl rfl rfl D ⟨l, day, w0, w1⟩ vs H Q hv hl hq
  dsimp only at hv hl hq
  obtain ⟨v1, v2, v3, rfl, a1, a2, a3⟩ := hv.d3
  obtain rfl := a2.int_iff
  have flen : (l.filter (inD day w0 w1)).length ≤ 40 := Nat.le_trans (List.length_filter_le _ _) hl
  have blen : (byDay (l.filter (inD day w0 w1))).length ≤ 40 := by unfold byDay; rw [List.length_mergeSort]; exact flen
  refine ssc (asgN D 3 fun q hq0 => ?_)
  have x0 : Ex H (upd H q (.dK [])) := Ex.new hq0
  refine ssc (forL (xs := (byDay (l.filter (inD day w0 w1))).map Deed.d) D (lsortedDay (k := 0) T D T.m_sorted (lcT Deed.d l (inD day w0 w1) Deed.d D [("deed", 4)] (dn D 0 (a1.ex x0)) (by omega) fun H1 x v e1 hx tv =>
      t1 D 4 (fun b => EW.et (tandc (inT (xs := [w0, w1]) (dix (dn (D.b b) 4 tv) di at0) (dn (D.b b) 2 (a3.ex (x0.trans e1)))) fun _ => tand1 (leI (dix (dn (D.b b) 4 tv) di at1) (dni (D.b b) 1)))) fun _ b => dn (D.b b) 4 tv))
    (fun p H1 i σ' H' => (∃ v kvs, σ' = [some v1, some (.int day), some v3, some (.ref q), v, none] ∧ Ex H H' ∧ H' q = some (.dK kvs) ∧ KD X.K H' Deed.d kvs (((byDay (l.filter (inD day w0 w1))).take i).foldl putA [])) ∧ Tm H1 H' ∧ p ≠ q ∧ ∀ vs, H1 p = some (.lst vs) → H' p = some (.lst vs))
    (fun p H1 hp x => ⟨⟨none, [], rfl, x0.trans x, x _ _ upd_same, .nil⟩, Tm.refl _, fun e => (by rw [e, upd_same] at hp; cases hp), fun _ h => h⟩) (fun p H1 i σ' H' h => h.2.1) (fun p H1 vs i σ' H' x hp h1 h => h.2.2.2 vs h1) ?_ ?_)
  · rintro p H1 i d v σ' H' x1 hi ⟨⟨v4, kvs, rfl, x2, hk, kd⟩, tm, hne, hp⟩ tv
    obtain ⟨x, hx, rfl⟩ := map_at hi
    have kl := kd.length
    have kl2 := foldP_len ((byDay (l.filter (inD day w0 w1))).take i) []
    rw [List.length_take] at kl2
    refine g1 D 4 (ss1 (sputD D (dn D 4 tv) (en D 3) (dix (dn D 4 tv) di at2) hk (by simp only [List.length_nil] at kl2; omega) fun u H2 x3 tu => ?_))
    refine ⟨⟨_, _, rfl, Ex.mut (x2.trans x3) hq0, upd_same, ?_⟩, (tm.trans (.ex x3)).trans (Tm.dK (x3 _ _ hk)), hne, fun vs h => ?_⟩
    · rw [take_more hx, List.foldl_append]
      exact ((kd.ex x3).put tu).tm (Tm.dK (x3 _ _ hk))
    · rw [upd_ne hne]
      exact x3 _ _ (hp vs h)
  · rintro p H1 σ' H' x1 ⟨⟨v4, kvs, rfl, x2, hk, kd⟩, _⟩
    rw [List.length_map, List.take_length] at kd
    have kl := foldP_len (byDay (l.filter (inD day w0 w1))) []
    refine ss1 (retL (ds := kept (fL ((byDay (l.filter (inD day w0 w1))).foldl putA []) w0) (gL ((byDay (l.filter (inD day w0 w1))).foldl putA [])) ((((byDay (l.filter (inD day w0 w1))).foldl putA []).map (·.1)).mergeSort leS)) ?_ fun v H2 x3 r => hq v H2 (x2.trans x3) ?_)
    · refine lcL .str _ _ _ D [("name", 5)] (lsortedK D T.m_sorted (en D 3) hk kd.keys (by rw [List.length_map]; simp only [List.length_nil] at kl; omega)) (by rw [List.length_mergeSort, List.length_map]; simp only [List.length_nil] at kl; omega) fun H2 n v x3 hn tv => ?_
      obtain rfl := tv.str_iff
      rw [List.mem_mergeSort] at hn
      obtain ⟨b, hb⟩ := getP_mem hn
      obtain ⟨u, hu, tu⟩ := kd.some hb
      have ef : fL ((byDay (l.filter (inD day w0 w1))).foldl putA []) w0 n = isW w0 b := by unfold fL; rw [hb]
      have eg : gL ((byDay (l.filter (inD day w0 w1))).foldl putA []) n = b.d := by unfold gL; rw [hb]
      rw [ef, eg]
      exact t1 D 5 (fun bk => eqS (dix (ED.ev (dget (D.b bk) (en (D.b bk) 3) (dns (D.b bk) 5) (x3 _ _ hk) hu) (tu.ex x3)) di at0) (dix (dn (D.b bk) 2 (a3.ex (x2.trans x3))) di at0)) fun _ bk => ED.ev (dget (D.b bk) (en (D.b bk) 3) (dns (D.b bk) 5) (x3 _ _ hk) hu) (tu.ex x3)
    · obtain ⟨p, xs, rfl, h0, h1, t⟩ := r
      refine ⟨p, xs, rfl, fresh_back x2 h0, h1, ?_⟩
      rw [kept_latest] at t
      exact t
end
end G
namespace G
open PySem PySem.Spec PyProof.Rows L2 Evl
open PySem.W (EachIs dataLe AllAlike Sortable alike)
section
variable {P : Program} {w : World} {K : PySem.W.Frag} {mg : Str → Option Value} {base : Heap}

theorem c_rules_on (T : Txt K mg) : Cal P w K mg base 5 "rules_on" ["deeds", "day"] (SpD K (fun a : List Deed × Int => [.d (dd a.1), .d (.int a.2)]) (fun a _ => a.1.length ≤ 40) (fun a => .tuple ((rulesM a.1 a.2).map ruleD))) := by
  obtain ⟨fd, F⟩ := T.f_rules_on
  refine mkCal F T.g_rules_on S_rules_on H_rules_on (fun _ _ _ _ _ _ us hl => match us, hl with | [_, _], _ => rfl) (fun _ => rfl) ?_
  rintro X rfl rfl rfl rfl rfl D ⟨l, day⟩ vs H Q hv hl hq
  dsimp only at hv hl hq
  obtain ⟨v1, v2, rfl, a1, a2⟩ := hv.d2
  have rl := rules_len l day
  refine ss1 (retD (dtuple D T.m_tuple (lcL0 Deed.d (rulesM l day) ruleD D [("deed", 2)] (lcall D (c_latest T) (l, day, "rule", "end") (ead (dn D 0 a1) (ead (dn D 1 a2) (ead (dtup (xs := [.str "rule", .str "end"]) (ead ds (ead ds ean))) ean))) fun _ _ => hl) (by omega) fun H1 x v x1 hx tv => ?_)) hq)
  obtain ⟨d, n, p, rfl⟩ := isW_rule (rules_mem hx).2
  exact t1 D 2 (fun b => rfl) fun _ b => dtup (xs := [.str n, p.d]) (ead (dix (dn (D.b b) 2 tv) di at2) (ead (dix (dn (D.b b) 2 tv) di at3) ean))
theorem c_holds_on (T : Txt K mg) : Cal P w K mg base 5 "holds_on" ["deeds", "day"] (SpD K (fun a : List Deed × Int => [.d (dd a.1), .d (.int a.2)]) (fun a _ => a.1.length ≤ 40) (fun a => .tuple ((holdsM a.1 a.2).map holdD))) := by
  obtain ⟨fd, F⟩ := T.f_holds_on
  refine mkCal F T.g_holds_on S_holds_on H_holds_on (fun _ _ _ _ _ _ us hl => match us, hl with | [_, _], _ => rfl) (fun _ => rfl) ?_
  rintro X rfl rfl rfl rfl rfl D ⟨l, day⟩ vs H Q hv hl hq
  dsimp only at hv hl hq
  obtain ⟨v1, v2, rfl, a1, a2⟩ := hv.d2
  have rl := holds_len l day
  refine ss1 (retD (dtuple D T.m_tuple (lcL0 Deed.d (holdsM l day) holdD D [("deed", 2)] (lcall D (c_latest T) (l, day, "hold", "lift") (ead (dn D 0 a1) (ead (dn D 1 a2) (ead (dtup (xs := [.str "hold", .str "lift"]) (ead ds (ead ds ean))) ean))) fun _ _ => hl) (by omega) fun H1 x v x1 hx tv => ?_)) hq)
  obtain ⟨d, n, s, a, b, rfl⟩ := isW_hold (holds_mem hx).2
  exact t1 D 2 (fun b => rfl) fun _ bk => dtup (xs := [.str n, .tuple [.str s, .str a], .bool b]) (ead (dix (dn (D.b bk) 2 tv) di at2) (ead (dix (dn (D.b bk) 2 tv) di at3) (ead (dix (dn (D.b bk) 2 tv) di at4) ean)))
theorem c_is_target (T : Txt K mg) : Cal P w K mg base 3 "is_target" ["deeds", "paper", "target"] (SpD K (fun a : List Deed × Str × Str × Str => [.d (dd a.1), .d (.str a.2.1), .d (.tuple [.str a.2.2.1, .str a.2.2.2])]) (fun a _ => a.2.1 ∈ papersM a.1) (fun a => .bool (targetM a.1 a.2.1 a.2.2.1 a.2.2.2))) := by
  obtain ⟨fd, F⟩ := T.f_is_target
  refine mkCal F T.g_is_target S_is_target H_is_target (fun _ _ _ _ _ _ us hl => match us, hl with | [_, _, _], _ => rfl) (fun _ => rfl) ?_
  rintro X rfl rfl rfl rfl rfl D ⟨l, p, s, n⟩ vs H Q hv hp hq
  dsimp only at hv hp hq
  obtain ⟨v1, v2, v3, rfl, a1, a2, a3⟩ := hv.d3
  obtain rfl := a2.str_iff
  refine ssc (sasg (dn D 2 a3) fun v H1 x1 tv => g2 D 3 4 tv fun u w tu tw => ?_)
  obtain rfl := tu.str_iff
  obtain rfl := tw.str_iff
  refine ssc (sif (eqS (dns D 3) ds) (fun hb H2 x2 => ?_) fun hb H2 x2 => ss0 ?_)
  · have hb' : s = "paper" := of_decide_eq_true hb
    refine ss1 (retD (eqSv (dns D 4) (dns D 1)) fun v H3 x3 r => hq v H3 ((x1.trans x2).trans x3) ?_)
    unfold targetM
    rw [if_pos hb']
    exact r
  · have hb' : ¬ s = "paper" := of_decide_eq_false hb
    refine ss1 (retD (eqSv (dns D 4) (dcall D (c_kind_of T) (l, p) (ead (dn D 0 (a1.ex (x1.trans x2))) (ead (dns D 1) ean)) fun _ _ => hp)) fun v H3 x3 r => hq v H3 ((x1.trans x2).trans x3) ?_)
    unfold targetM
    rw [if_neg hb']
    exact r
theorem any_map {α : Type} (f : α → Bool) (l : List α) : (l.map f).any id = l.any f := by rw [List.any_map] <;> rfl
theorem map_bool {α : Type} (f : α → Bool) (l : List α) : (l.map f).map PyData.bool = l.map fun x => .bool (f x) := by rw [List.map_map] <;> rfl
theorem c_covering (T : Txt K mg) : Cal P w K mg base 6 "covering" ["deeds", "day", "paper"] (SpD K (fun a : List Deed × Int × Str => [.d (dd a.1), .d (.int a.2.1), .d (.str a.2.2)]) (fun a _ => WF a.1 ∧ a.2.2 ∈ papersM a.1) (fun a => .tuple ((coveringM a.1 a.2.1 a.2.2).map .str))) := by
  obtain ⟨fd, F⟩ := T.f_covering
  refine mkCal F T.g_covering S_covering H_covering (fun _ _ _ _ _ _ us hl => match us, hl with | [_, _, _], _ => rfl) (fun _ => rfl) ?_
  rintro X rfl rfl rfl rfl rfl D ⟨l, day, p⟩ vs H Q hv ⟨W, hp⟩ hq
  dsimp only at hv W hp hq
  obtain ⟨v1, v2, v3, rfl, a1, a2, a3⟩ := hv.d3
  obtain rfl := a2.int_iff
  obtain rfl := a3.str_iff
  have l40 := W.len
  have hl := holds_len l day
  have ml := made_len W hp
  refine ssc (asgL D 3 (lcall D (c_made_from T) (l, p) (ead (dn D 0 a1) (ead (dns D 2) ean)) fun _ _ => ⟨W, hp⟩) fun pa xa H1 hpa0 x1 hpa ta => ?_)
  obtain rfl := ta.strs
  refine ssc (asg0 D 4 fun q hq0 => ?_)
  have x2 : Ex H1 (upd H1 q (.lst [])) := Ex.new hq0
  have hq00 : H q = none := fresh_back x1 hq0
  have hne : pa ≠ q := fun e => by rw [e, hq0] at hpa; cases hpa
  refine ssc (forT D (dcall D (c_holds_on T) (l, day) (ead (dn D 0 (a1.ex (x1.trans x2))) (ead (dni D 1) ean)) fun _ _ => l40)
    (fun H2 i σ' H' => (∃ w5 w6 w7 w8, σ' = [some v1, some (.int day), some (.str p), some (.ref pa), some (.ref q), w5, w6, w7, w8, none] ∧ Ex H H' ∧ H' pa = some (.lst ((madeFromM l p).map .str)) ∧ H' q = some (.lst ((((holdsM l day).take i).filter (coversB l p)).map fun x => .str x.name))) ∧ Tm H2 H')
    (fun H2 x3 => ⟨⟨none, none, none, none, rfl, (x1.trans x2).trans x3, (x2.trans x3) _ _ hpa, x3 _ _ upd_same⟩, Tm.refl _⟩) (fun _ _ _ _ h => h.2) ?_ ?_)
  · rintro H2 i d v σ' H' x3 hi ⟨⟨w5, w6, w7, w8, rfl, xH, hpa', hq'⟩, tm⟩ tv
    obtain ⟨x, hx, rfl⟩ := map_at hi
    have hxm := holds_mem (List.mem_of_getElem? hx)
    obtain ⟨dd', n, s, a, b, rfl⟩ := isW_hold hxm.2
    refine g3 D 5 6 7 tv fun u w r tu tw tr => ?_
    obtain rfl := tu.str_iff
    obtain rfl := tr.bl_iff
    refine ssc (asgL (ds := [.str p]) D 8 (llst (ead (dns D 2) ean)) fun po xo H3 _ x4 hpo to => ?_)
    obtain rfl := to.strs (xs := [p])
    refine ssc (sifM (fun σ' H4 => ∃ (pq : Addr) (os : List Str), σ' = [some v1, some (.int day), some (.str p), some (.ref pa), some (.ref q), some (.str n), some w, some (.bl b), some (.ref pq), none] ∧ Ex H' H4 ∧ H4 pq = some (.lst (os.map .str)) ∧ (∀ o ∈ os, o ∈ papersM l) ∧ os.length ≤ 40 ∧ (os.any fun o => targetM l o s a) = coversB l p (.hold dd' n s a b))
      (tval (dn D 7 (tr.ex x4))) (fun hb H4 x5 => ?_) (fun hb H4 x5 => ss0 ?_) ?_)
    · cases hb
      refine ss1 (asgV D 8 (en D 3) fun H5 x6 => ⟨pa, madeFromM l p, rfl, (x4.trans x5).trans x6, (x4.trans (x5.trans x6)) _ _ hpa', (made_ok W hp).sub, by omega, rfl⟩)
    · cases hb
      exact ⟨po, [p], rfl, x4.trans x5, x5 _ _ hpo, fun o ho => by rw [List.mem_singleton.mp ho]; exact hp, by simp, rfl⟩
    · rintro σ' H4 ⟨pq, os, rfl, x5, hpq, hos, ho40, hc⟩
      have tm4 : Tm H2 H4 := tm.trans (.ex x5)
      refine ss1 (sif (c := coversB l p (.hold dd' n s a b)) (tval (ED.to (dany (bs := os.map fun o => targetM l o s a) D T.m_any (by
        rw [map_bool]
        exact lcV0 .str os (fun o => .bool (targetM l o s a)) D [("one", 9)] (en D 8) (.inl (.inl hpq)) (TDs.of_strs os) (by omega) fun H5 o v x6 ho tv => by
          obtain rfl := tv.str_iff
          exact t1 D 9 (fun b => rfl) fun _ bk => dcall (D.b bk) (c_is_target T) (l, o, s, a) (ead (dn (D.b bk) 0 (a1.ex ((xH.trans x5).trans x6))) (ead (dns (D.b bk) 9) (ead (dn (D.b bk) 6 (tw.ex (x5.trans x6))) ean))) fun _ _ => hos o ho)) (by rw [any_map, hc]))) (fun hb H5 x6 => ?_) fun hb H5 x6 => ss0 ?_)
      · have hq5 := (x5.trans x6) _ _ hq'
        refine ss1 (sapp (en D 4) hq5 (by
          rw [List.length_map]
          have := List.length_filter_le (coversB l p) ((holdsM l day).take i)
          rw [List.length_take] at this
          omega) (dns D 5) fun v5 H6 x7 t5 => ⟨⟨_, _, _, _, rfl, Ex.mut (xH.trans (x5.trans (x6.trans x7))) hq00, ?_, ?_⟩, ((tm4.trans (.ex x6)).trans (.ex x7)).trans (Tm.lst (x7 _ _ hq5))⟩)
        · rw [upd_ne hne]
          exact (x5.trans (x6.trans x7)) _ _ hpa'
        · obtain rfl := t5.str_iff
          rw [upd_same, take_more hx, List.filter_append, List.map_append]
          rw [List.filter_cons, if_pos hb]
          rfl
      · refine ⟨⟨_, _, _, _, rfl, xH.trans (x5.trans x6), (x5.trans x6) _ _ hpa', ?_⟩, tm4.trans (.ex x6)⟩
        rw [take_more hx, List.filter_append, List.map_append, List.filter_cons, if_neg (by rw [hb]; decide)]
        rw [List.filter_nil, List.map_nil, List.append_nil]
        exact (x5.trans x6) _ _ hq'
  · rintro H2 σ' H' x3 ⟨⟨w5, w6, w7, w8, rfl, xH, hpa', hq'⟩, tm⟩
    rw [List.length_map, List.take_length] at hq'
    have e : ((holdsM l day).filter (coversB l p)).map (fun x => V.str x.name) = (coveringM l day p).map V.str := by unfold coveringM; rw [List.map_map] <;> rfl
    rw [e] at hq'
    exact ss1 (retD (dtupleV D T.m_tuple (en D 4) (.inl (.inl hq')) (TDs.of_strs _)) fun v H4 x4 r => hq v H4 (xH.trans x4) r)
end
end G
namespace G
open PySem PySem.Spec PyProof.Rows L2 Evl
open PySem.W (EachIs dataLe AllAlike Sortable alike)
section
variable {P : Program} {w : World} {K : PySem.W.Frag} {mg : Str → Option Value} {base : Heap}

theorem c_heard (T : Txt K mg) : Cal P w K mg base 1 "heard" ["deeds", "paper", "happening"] (SpL K (fun a : List Deed × Str × Str => [.d (dd a.1), .d (.str a.2.1), .d (.str a.2.2)]) (fun a _ => WF a.1 ∧ PyData.strOk a.2.1 = true ∧ PyData.strOk a.2.2 = true) (fun a => (heardM a.1 a.2.1 a.2.2).map .int)) := by
  obtain ⟨fd, F⟩ := T.f_heard
  refine mkCal F T.g_heard S_heard H_heard (fun _ _ _ _ _ _ us hl => match us, hl with | [_, _, _], _ => rfl) (fun _ => rfl) ?_
  rintro X rfl rfl rfl rfl rfl D ⟨l, p, h⟩ vs H Q hv ⟨W, hp, hh⟩ hq
  dsimp only at hv W hp hh hq
  have hl := W.len
  obtain ⟨v1, v2, v3, rfl, a1, a2, a3⟩ := hv.d3
  refine ss1 (retL (ds := ((l.filter (hapB p h)).mergeSort (dataLe false dayD)).map dayD) (lsorted D T.m_sorted (bs := l.filter (hapB p h)) (enc := dayD)
    (lcT Deed.d l (hapB p h) dayD D [("deed", 3)] (dn D 0 a1) (by omega) fun H1 x v x1 hx tv => t1 D 3 (fun b => EW.et (tandc (eqS (dix (dn (D.b b) 3 tv) di at0) ds) fun hc => tand1 ?_)) fun _ b => dix (dn (D.b b) 3 tv) di at1)
    (.of fun x y => by simp [dayD, alike]) (.others fun x => ⟨(fun z => nomatch z), fun _ z => nomatch z⟩) fun x _ => by simp [dayD, PyData.depth]) fun v H1 x1 r => hq v H1 x1 ?_)
  · obtain ⟨d, n, k, rfl⟩ := isW_happens hc
    exact eqDt (d1 := .tuple [.str n, .str k]) (D.b b) (ED.to (dslice (dn (D.b b) 3 tv) (os di) on) (congrArg PyData.tuple (cut_drop _ 2))) (dtup (xs := [.str p, .str h]) (ead (dn (D.b b) 1 (a2.ex x1)) (ead (dn (D.b b) 2 (a3.ex x1)) ean))) (shp_strs (strOk_name (W.ok _ hx).2.1) (strOk_name (W.ok _ hx).2.2)) (shp_strs hp hh)
  · unfold heardM
    rw [List.map_map]
    exact r
theorem c_bases (T : Txt K mg) : Cal P w K mg base 2 "bases" ["deeds", "since", "paper"] (SpL K (fun a : List Deed × Since × Str => [.d (dd a.1), .d a.2.1.d, .d (.str a.2.2)]) (fun a _ => WF a.1 ∧ a.2.2 ∈ papersM a.1 ∧ a.2.1.ok) (fun a => (basesM a.1 a.2.1 a.2.2).map .int)) := by
  obtain ⟨fd, F⟩ := T.f_bases
  refine mkCal F T.g_bases S_bases H_bases (fun _ _ _ _ _ _ us hl => match us, hl with | [_, _, _], _ => rfl) (fun _ => rfl) ?_
  rintro X rfl rfl rfl rfl rfl D ⟨l, s, p⟩ vs H Q hv ⟨W, hp, hs⟩ hq
  dsimp only at hv W hp hs hq
  have hl := W.len
  obtain ⟨v1, v2, v3, rfl, a1, a2, a3⟩ := hv.d3
  obtain ⟨d, k, m, hr⟩ := row_of_mem hp
  have ec : comeM l p = d := by unfold comeM; rw [hr] <;> rfl
  refine ssc (sif (eqDt D (dn D 1 a2) (dtup (xs := [.str "coming"]) (ead ds ean)) (Since.shp hs) (shp_str1 ok_lit1)) (fun hb H1 x1 => ?_) fun hb H1 x1 => ss0 ?_)
  · rw [since_eq] at hb
    cases s with
    | coming =>
      refine ss1 (retL (llst (xs := [.int d]) (ead (dix (dcall D (c_row_of T) (l, p, .paper d p k m) (ead (dn D 0 (a1.ex x1)) (ead (dn D 2 (a3.ex x1)) ean)) fun _ _ => hr) di at1) ean)) fun v H2 x2 r => hq v H2 (x1.trans x2) ?_)
      obtain ⟨q, xs, rfl, h0, h1, t⟩ := r
      refine ⟨q, xs, rfl, fresh_back x1 h0, h1, ?_⟩
      show TDs X.K H2 xs [.int (comeM l p)]
      rw [ec]
      exact t
    | first h => cases hb
    | last h => cases hb
  · rw [since_eq] at hb
    have hok : ∀ (h wd : Str), (wd = "first" ∧ s = .first h ∨ wd ≠ "first" ∧ s = .last h) → PyData.strOk h = true := by
      intro h wd hw
      rcases hw with ⟨_, rfl⟩ | ⟨_, rfl⟩ <;> exact strOk_name hs
    have go : ∀ (h wd : Str), s.d = .tuple [.str wd, .str h] → (wd = "first" ∧ s = .first h ∨ wd ≠ "first" ∧ s = .last h) → wSs X ((defBody s_bases).drop 1) { nx := fun _ H' => Q .non H', rt := Q } [some v1, some v2, some v3, none] H1 := by
      intro h wd e hw
      rw [e] at a2
      have hh := heard_len l p h
      refine ssc (asgL D 3 (lcall D (c_heard T) (l, p, h) (ead (dn D 0 (a1.ex x1)) (ead (dn D 2 (a3.ex x1)) (ead (dix (dn D 1 (a2.ex x1)) di at1) ean))) fun _ _ => ⟨W, strOk_name (papers_name W hp), hok h wd hw⟩) fun q xs H2 hq0 x2 hqs tx => ?_)
      refine ssc (sif (eqS (dix (dn D 1 (a2.ex (x1.trans x2))) di at0) ds) (fun hb H3 x3 => ?_) fun hb H3 x3 => ss0 ?_)
      · have hb' : wd = "first" := of_decide_eq_true hb
        have es : s = .first h := by
          rcases hw with q | q
          · exact q.2
          · exact absurd hb' q.1
        subst es
        refine ss1 (retL (lsliceV (en D 3) (.inl (.inl (x3 _ _ hqs))) (tx.ex x3) on (os di)) fun v H4 x4 r => hq v H4 (((x1.trans x2).trans x3).trans x4) ?_)
        obtain ⟨q2, ys, rfl, h0, h1, t⟩ := r
        refine ⟨q2, ys, rfl, fresh_back ((x1.trans x2).trans x3) h0, h1, ?_⟩
        have e : cutD ((heardM l p h).map PyData.int) none (some 1) = ((heardM l p h).take 1).map .int := (cut_take _ 1).trans List.map_take.symm
        exact e ▸ t
      · have hb' : ¬ wd = "first" := of_decide_eq_false hb
        have es : s = .last h := by
          rcases hw with q | q
          · exact absurd q.1 hb'
          · exact q.2
        subst es
        exact ss1 (retV (en D 3) fun H4 x4 => hq _ H4 (((x1.trans x2).trans x3).trans x4) ⟨q, xs, rfl, fresh_back x1 hq0, (x3.trans x4) _ _ hqs, tx.ex (x3.trans x4)⟩)
    cases s with
    | coming => cases hb
    | first h => exact go h "first" rfl (.inl ⟨rfl, rfl⟩)
    | last h => exact go h "last" rfl (.inr ⟨by decide +kernel, rfl⟩)
theorem c_base_on (T : Txt K mg) : Cal P w K mg base 3 "base_on" ["deeds", "since", "paper", "day"] (SpD K (fun a : List Deed × Since × Str × Int => [.d (dd a.1), .d a.2.1.d, .d (.str a.2.2.1), .d (.int a.2.2.2)]) (fun a _ => WF a.1 ∧ a.2.2.1 ∈ papersM a.1 ∧ a.2.1.ok) (fun a => oI (baseM a.1 a.2.1 a.2.2.1 a.2.2.2))) := by
  obtain ⟨fd, F⟩ := T.f_base_on
  refine mkCal F T.g_base_on S_base_on H_base_on (fun _ _ _ _ _ _ us hl => match us, hl with | [_, _, _, _], _ => rfl) (fun _ => rfl) ?_
  rintro X rfl rfl rfl rfl rfl D ⟨l, s, p, day⟩ vs H Q hv ⟨W, hp, hs⟩ hq
  dsimp only at hv W hp hs hq
  have hl := W.len
  obtain ⟨v1, v2, v3, v4, rfl, a1, a2, a3, a4⟩ := hv.d4
  obtain rfl := a4.int_iff
  obtain ⟨d, k, m, hr⟩ := row_of_mem hp
  have ec : comeM l p = d := by unfold comeM; rw [hr] <;> rfl
  refine ssc (sif (eqDt D (dn D 1 a2) (dtup (xs := [.str "coming"]) (ead ds ean)) (Since.shp hs) (shp_str1 ok_lit1)) (fun hb H1 x1 => ?_) fun hb H1 x1 => ss0 ?_)
  · rw [since_eq] at hb
    cases s with
    | coming =>
      refine ss1 (retD (dix (dcall D (c_row_of T) (l, p, .paper d p k m) (ead (dn D 0 (a1.ex x1)) (ead (dn D 2 (a3.ex x1)) ean)) fun _ _ => hr) di at1) fun v H2 x2 r => hq v H2 (x1.trans x2) ?_)
      show TD X.K H2 v (.int (comeM l p))
      rw [ec]
      exact r
    | first h => cases hb
    | last h => cases hb
  · rw [since_eq] at hb
    have bl := bases_len l s p
    have eb : baseM l s p day = ((basesM l s p).filter fun o => decide (o ≤ day)).getLast? := by
      cases s with
      | coming => cases hb
      | first h => rfl
      | last h => rfl
    refine ssc (asgLcL .int (basesM l s p) (fun o => decide (o ≤ day)) .int D 4 [("one", 5)] (lcall D (c_bases T) (l, s, p) (ead (dn D 0 (a1.ex x1)) (ead (dn D 1 (a2.ex x1)) (ead (dn D 2 (a3.ex x1)) ean))) fun _ _ => ⟨W, hp, hs⟩) (by omega) (fun H2 x v x2 hx tv => by
      obtain rfl := tv.int_iff
      exact t1 D 5 (fun b => leI (dni (D.b b) 5) (dni (D.b b) 3)) fun _ b => dni (D.b b) 5) (fun q xs H2 hq0 x2 hqs tx => ?_))
    unfold kept at tx
    refine ssc (sif (eqNil D (en D 4) hqs tx (shp_ints _)) (fun hb H3 x3 => ?_) fun hb H3 x3 => ss0 ?_)
    · refine ss1 (retD dnon fun v H4 x4 r => hq v H4 (((x1.trans x2).trans x3).trans x4) ?_)
      have e : (basesM l s p).filter (fun o => decide (o ≤ day)) = [] := by simpa using hb
      rw [eb, e]
      exact r
    · have e : (basesM l s p).filter (fun o => decide (o ≤ day)) ≠ [] := by
        intro z
        rw [z] at hb
        cases hb
      obtain ⟨y, hy⟩ : ∃ y, ((basesM l s p).filter fun o => decide (o ≤ day)).getLast? = some y := by
        cases q : ((basesM l s p).filter fun o => decide (o ≤ day)).getLast? with
        | none => exact absurd (List.getLast?_eq_none_iff.mp q) e
        | some y => exact ⟨y, rfl⟩
      refine ss1 (retD (dixV (d := .int y) (en D 4) (.inl (.inl (x3 _ _ hqs))) (tx.ex x3) (dneg di) (atI_neg1 (by rw [List.getLast?_map, hy] <;> rfl))) fun v H4 x4 r => hq v H4 (((x1.trans x2).trans x3).trans x4) ?_)
      rw [eb, hy]
      exact r
theorem c_reckoning (T : Txt K mg) : Cal P w K mg base 5 "reckoning" ["deeds", "parts", "paper", "day"] (SpD K (fun a : List Deed × (Bool × Str × Since × Int × Str) × Str × Int => [.d (dd a.1), .d (Parts.span a.2.1.1 a.2.1.2.1 a.2.1.2.2.1 a.2.1.2.2.2.1 a.2.1.2.2.2.2).d, .d (.str a.2.2.1), .d (.int a.2.2.2)])
    (fun a _ => WF a.1 ∧ a.2.2.1 ∈ papersM a.1 ∧ (Parts.span a.2.1.1 a.2.1.2.1 a.2.1.2.2.1 a.2.1.2.2.2.1 a.2.1.2.2.2.2).ok) (fun a => oI (reckM a.1 a.2.1.2.2.1 a.2.1.2.2.2.1 a.2.1.2.2.2.2 a.2.2.1 a.2.2.2))) := by
  obtain ⟨fd, F⟩ := T.f_reckoning
  refine mkCal F T.g_reckoning S_reckoning H_reckoning (fun _ _ _ _ _ _ us hl => match us, hl with | [_, _, _, _], _ => rfl) (fun _ => rfl) ?_
  rintro X rfl rfl rfl rfl rfl D ⟨l, ⟨keep, kd, s, m, u⟩, p, day⟩ vs H Q hv ⟨W, hp, ok⟩ hq
  dsimp only at hv W hp ok hq
  obtain ⟨v1, v2, v3, v4, rfl, a1, a2, a3, a4⟩ := hv.d4
  obtain ⟨d, k, mk, hr⟩ := row_of_mem hp
  obtain ⟨_, hs, hm, hu⟩ := ok
  refine ssc (sexpr (dcall D (c_row_of T) (l, p, .paper d p k mk) (ead (dn D 0 a1) (ead (dn D 2 a3) ean)) fun _ _ => hr) fun H1 x1 => ?_)
  refine ssc (asgD D 4 (dcall D (c_base_on T) (l, s, p, day) (ead (dn D 0 (a1.ex x1)) (ead (dix (dn D 1 (a2.ex x1)) di at2) (ead (dn D 2 (a3.ex x1)) (ead (dn D 3 (a4.ex x1)) ean)))) fun _ _ => ⟨W, hp, hs⟩) fun b H2 x2 tb => ?_)
  dsimp only at tb
  refine ssc (sif (isN (dn D 4 tb)) (fun hb H3 x3 => ?_) fun hb H3 x3 => ss0 ?_)
  · cases e : baseM l s p day with
    | some y =>
      rw [e] at hb
      cases hb
    | none =>
      refine ss1 (retD dnon fun v H4 x4 r => hq v H4 (((x1.trans x2).trans x3).trans x4) ?_)
      unfold reckM
      rw [e]
      exact r
  · cases e : baseM l s p day with
    | none =>
      rw [e] at hb
      cases hb
    | some y =>
      rw [e] at tb
      refine ss1 (retD (dcall D (c_later T) (y, m, u) (ead (dn D 4 (tb.ex x3)) (ead (dix (dn D 1 (a2.ex ((x1.trans x2).trans x3))) di at3) (ead (dix (dn D 1 (a2.ex ((x1.trans x2).trans x3))) di at4) ean))) fun _ _ => ⟨base_nn W hp e, hm, hu⟩) fun v H4 x4 r => hq v H4 (((x1.trans x2).trans x3).trans x4) ?_)
      unfold reckM
      rw [e]
      exact r
end
end G
namespace G
open PySem PySem.Spec PyProof.Rows L2 Evl
open PySem.W (EachIs dataLe AllAlike Sortable alike)
def goneV (g : Gone) : List (Key × V) := g.map fun q => (.inr q.1, .int q.2)
def usedV (u : List (Str × Str)) : List (Key × V) := u.map fun q => (.inr q.1, .str q.2)
theorem kd_gone {K : PySem.W.Frag} {H : Hp} : ∀ g : Gone, KD K H PyData.int (goneV g) g
  | [] => .nil
  | (_, i) :: r => .cons (.int i) (kd_gone r)
theorem kd_used {K : PySem.W.Frag} {H : Hp} : ∀ g : List (Str × Str), KD K H PyData.str (usedV g) g
  | [] => .nil
  | (_, i) :: r => .cons (.str i) (kd_used r)
theorem goneV_is (g : Gone) (n : Str) : (valV (goneV g) (.inr n)).isSome = (getG g n).isSome := (kd_gone (K := default) (H := fun _ => none) g).is
theorem goneV_some {g : Gone} {n : Str} {i : Int} (h : getG g n = some i) : valV (goneV g) (.inr n) = some (.int i) := by
  obtain ⟨v, e, t⟩ := (kd_gone (K := default) (H := fun _ => none) g).some (n := n) h
  rw [e, t.int_iff]
theorem AVs.dddv {K : PySem.W.Frag} {H : Hp} {vs : List V} {a b c : PyData} {x : V} (h : AVs K H vs [.d a, .d b, .d c, .v x]) : ∃ u v w, vs = [u, v, w, x] ∧ TD K H u a ∧ TD K H v b ∧ TD K H w c := by
  obtain ⟨u, ws, rfl, t, r⟩ := h.cd
  obtain ⟨v, ws, rfl, t2, r⟩ := r.cd
  obtain ⟨w, ws, rfl, t3, r⟩ := r.cd
  obtain ⟨ws, rfl, r2⟩ := r.cv
  obtain rfl := r2.n
  exact ⟨u, v, w, rfl, t, t2, t3⟩
theorem AVs.dddvd {K : PySem.W.Frag} {H : Hp} {vs : List V} {a b c d : PyData} {x : V} (h : AVs K H vs [.d a, .d b, .d c, .v x, .d d]) : ∃ u v w z, vs = [u, v, w, x, z] ∧ TD K H u a ∧ TD K H v b ∧ TD K H w c ∧ TD K H z d := by
  obtain ⟨u, ws, rfl, t, r⟩ := h.cd
  obtain ⟨v, ws, rfl, t2, r⟩ := r.cd
  obtain ⟨w, ws, rfl, t3, r⟩ := r.cd
  obtain ⟨ws, rfl, r2⟩ := r.cv
  obtain ⟨z, rfl, t4⟩ := r2.d1
  exact ⟨u, v, w, z, rfl, t, t2, t3, t4⟩
section
variable {P : Program} {w : World} {K : PySem.W.Frag} {mg : Str → Option Value} {base : Heap}
theorem c_has_gone (T : Txt K mg) : Cal P w K mg base 1 "has_gone" ["gone", "paper", "day"] (SpD K (fun a : Addr × Gone × Str × Int => [.v (.ref a.1), .d (.str a.2.2.1), .d (.int a.2.2.2)]) (fun a H => H a.1 = some (.dK (goneV a.2.1))) (fun a => .bool (hasGoneM a.2.1 a.2.2.1 a.2.2.2))) := by
  obtain ⟨fd, F⟩ := T.f_has_gone
  refine mkCal F T.g_has_gone S_has_gone H_has_gone (fun _ _ _ _ _ _ us hl => match us, hl with | [_, _, _], _ => rfl) (fun _ => rfl) ?_
  rintro X rfl rfl rfl rfl rfl D ⟨ga, g, p, day⟩ vs H Q hv hg hq
  dsimp only at hv hg hq
  obtain ⟨ws, rfl, hv2⟩ := hv.cv
  obtain ⟨v1, v2, rfl, a1, a2⟩ := hv2.d2
  obtain rfl := a1.str_iff
  obtain rfl := a2.int_iff
  cases e : getG g p with
  | none =>
    refine ss1 (retD (vand (c2 := false) (tinv D (dns D 1) (en D 0) hg) fun h => ?_) fun v H1 x r => hq v H1 x ?_)
    · rw [goneV_is, e] at h
      cases h
    · rw [goneV_is, e] at r
      unfold hasGoneM
      rw [e]
      exact r
  | some i =>
    refine ss1 (retD (vand (tinv D (dns D 1) (en D 0) hg) fun h => vone (leIv (ED.ev (dget D (en D 0) (dns D 1) hg (goneV_some e)) (.int i)) (dni D 2))) fun v H1 x r => hq v H1 x ?_)
    rw [goneV_is, e] at r
    unfold hasGoneM
    rw [e]
    exact r
theorem c_first_maker (T : Txt K mg) : Cal P w K mg base 3 "first_maker" ["deeds", "day", "paper", "gone", "away"] (SpD K (fun a : (Addr × Gone × Bool) × List Deed × Int × Str => [.d (dd a.2.1), .d (.int a.2.2.1), .d (.str a.2.2.2), .v (.ref a.1.1), .d (.bool a.1.2.2)])
    (fun a H => H a.1.1 = some (.dK (goneV a.1.2.1)) ∧ a.2.2.2 ∈ papersM a.2.1 ∧ a.2.1.length ≤ 40) (fun a => oS (firstMakerM a.2.1 a.2.2.1 a.2.2.2 a.1.2.1 a.1.2.2))) := by
  obtain ⟨fd, F⟩ := T.f_first_maker
  refine mkCal F T.g_first_maker S_first_maker H_first_maker (fun _ _ _ _ _ _ us hl => match us, hl with | [_, _, _, _, _], _ => rfl) (fun _ => rfl) ?_
  rintro X rfl rfl rfl rfl rfl D ⟨⟨ga, g, away⟩, l, day, p⟩ vs H Q hv ⟨hg, hp, hl⟩ hq
  dsimp only at hv hg hp hl hq
  obtain ⟨v1, v2, v3, v5, rfl, a1, a2, a3, a5⟩ := hv.dddvd
  refine ssc (forT D (dcall D (c_makers T) (l, p) (ead (dn D 0 a1) (ead (dn D 2 a3) ean)) fun _ _ => ⟨hp, hl⟩) (fun H1 i σ' H' => ∃ v, σ' = [some v1, some v2, some v3, some (.ref ga), some v5, v] ∧ Ex H1 H' ∧ ∀ y ∈ (makersM l p).take i, (hasGoneM g y day == away) = false) (fun H1 e => ⟨none, rfl, Ex.refl _, by simp⟩) (fun H1 i σ' H' ⟨_, _, e, _⟩ => .ex e) ?_ ?_)
  · rintro H1 i d v σ' H' e hi ⟨v6, rfl, e2, hf⟩ tv
    obtain ⟨x, hx, rfl⟩ := map_at hi
    have y := e.trans e2
    refine g1 D 5 (ss1 (sif (eqB (dcall D (c_has_gone T) (ga, g, x, day) (eav (en D 3) (ead (dn D 5 tv) (ead (dn D 1 (a2.ex y)) ean))) fun H4 x4 => (y.trans x4) _ _ hg) (dn D 4 (a5.ex y))) (fun h H3 e3 => ?_) fun h H3 e3 => ss0 ?_))
    · have h1 : firstMakerM l day p g away = some x := find_here (f := fun m => hasGoneM g m day == away) hf hx h
      refine ss1 (retD (dn D 5 (tv.ex e3)) fun u H4 e4 tu => hq u H4 ((e.trans e2).trans (e3.trans e4)) ?_)
      rw [h1]
      exact tu
    · exact ⟨_, rfl, e2.trans e3, find_take hf hx h⟩
  · rintro H1 σ' H' e ⟨v3, rfl, e2, hf⟩
    have h1 : firstMakerM l day p g away = none := find_no (f := fun m => hasGoneM g m day == away) (by rw [List.length_map] at hf; exact hf)
    refine ss1 (retD dnon fun u H4 e4 tu => hq u H4 ((e.trans e2).trans e4) ?_)
    rw [h1]
    exact tu
theorem over_sub {l : List Deed} {day : Int} {p : Str} {x : Deed} (h : x ∈ overM l day p) : x ∈ rulesM l day := by
  unfold overM at h
  split at h
  · exact (List.mem_filter.mp h).1
  · simp at h
theorem over_len (l : List Deed) (day : Int) (p : Str) : (overM l day p).length ≤ l.length := by
  unfold overM
  split
  · exact Nat.le_trans (List.length_filter_le _ _) (rules_len l day)
  · exact Nat.zero_le _
theorem c_rules_over (T : Txt K mg) : Cal P w K mg base 6 "rules_over" ["deeds", "day", "paper"] (SpL K (fun a : List Deed × Int × Str => [.d (dd a.1), .d (.int a.2.1), .d (.str a.2.2)]) (fun a _ => a.1.length ≤ 40 ∧ a.2.2 ∈ papersM a.1) (fun a => (overM a.1 a.2.1 a.2.2).map ruleD)) := by
  obtain ⟨fd, F⟩ := T.f_rules_over
  refine mkCal F T.g_rules_over S_rules_over H_rules_over (fun _ _ _ _ _ _ us hl => match us, hl with | [_, _, _], _ => rfl) (fun _ => rfl) ?_
  rintro X rfl rfl rfl rfl rfl D ⟨l, day, p⟩ vs H Q hv ⟨hl, hp⟩ hq
  dsimp only at hv hl hp hq
  obtain ⟨v1, v2, v3, rfl, a1, a2, a3⟩ := hv.d3
  obtain ⟨d, k, mk, hr⟩ := row_of_mem hp
  have ec : comeM l p = d := by unfold comeM; rw [hr] <;> rfl
  have rl := rules_len l day
  refine ssc (sif (gtI (dix (dcall D (c_row_of T) (l, p, .paper d p k mk) (ead (dn D 0 a1) (ead (dn D 2 a3) ean)) fun _ _ => hr) di at1) (dn D 1 a2)) (fun hb H1 x1 => ?_) fun hb H1 x1 => ss0 ?_)
  · have hb' : day < d := of_decide_eq_true hb
    refine ss1 (retL (llst (xs := []) ean) fun v H2 x2 r => hq v H2 (x1.trans x2) ?_)
    obtain ⟨q, xs, rfl, h0, h1, t⟩ := r
    refine ⟨q, xs, rfl, fresh_back x1 h0, h1, ?_⟩
    unfold overM
    rw [if_neg (by rw [ec]; omega)]
    exact t
  · have hb' : ¬ day < d := of_decide_eq_false hb
    refine ssc (asgD D 3 (dcall D (c_kind_of T) (l, p) (ead (dn D 0 (a1.ex x1)) (ead (dn D 2 (a3.ex x1)) ean)) fun _ _ => hp) fun u H2 x2 tu => ?_)
    refine ss1 (retL (lcT ruleD (rulesM l day) (fun x => decide ((partsOf x).kind = kindM l p)) ruleD D [("rule", 4), ("parts", 5)] (dcall D (c_rules_on T) (l, day) (ead (dn D 0 (a1.ex (x1.trans x2))) (ead (dn D 1 (a2.ex (x1.trans x2))) ean)) fun _ _ => hl) (by omega) fun H3 x v x3 hx tv => ?_) fun v H3 x3 r => hq v H3 ((x1.trans x2).trans x3) ?_)
    · exact t2 D 4 5 tv fun u1 w1 tu1 tw1 => ⟨fun b => eqS (dix (dn (D.b b) 5 tw1) di at1) (dn (D.b b) 3 (tu.ex x3)), fun _ b => dtup (xs := [.str x.name, (partsOf x).d]) (ead (dn (D.b b) 4 tu1) (ead (dn (D.b b) 5 tw1) ean))⟩
    · obtain ⟨q, xs, rfl, h0, h1, t⟩ := r
      refine ⟨q, xs, rfl, fresh_back (x1.trans x2) h0, h1, ?_⟩
      unfold overM
      rw [if_pos (by rw [ec]; omega)]
      exact t
end
end G
namespace G
open PySem PySem.Spec PyProof.Rows L2 Evl
open PySem.W (EachIs dataLe AllAlike Sortable alike)
section
variable {P : Program} {w : World} {K : PySem.W.Frag} {mg : Str → Option Value} {base : Heap}
/-- a new list given behind a heap is new behind an older one -/
theorem LD.old {K : PySem.W.Frag} {H H1 H2 : Hp} {ds : List PyData} {v : V} (x : Ex H H1) (r : LD K H1 ds H2 v) : LD K H ds H2 v := by
  obtain ⟨q, xs, rfl, h0, h1, t⟩ := r
  exact ⟨q, xs, rfl, fresh_back x h0, h1, t⟩
theorem wd_kw : ¬ ("keep" : Str) = "while" := by decide +kernel
theorem wd_gk : ¬ ("gone" : Str) = "keep" := by decide +kernel
theorem wd_gw : ¬ ("gone" : Str) = "while" := by decide +kernel
theorem wd_gf : ¬ ("gone" : Str) = "follow" := by decide +kernel
theorem wd_kg : ¬ ("keep" : Str) = "gone" := by decide +kernel
theorem wd_kf : ¬ ("keep" : Str) = "follow" := by decide +kernel
abbrev callArgs (a : (Addr × Gone) × List Deed × Int × Str) : List AV := [.d (dd a.2.1), .d (.int a.2.2.1), .d (.str a.2.2.2), .v (.ref a.1.1)]
abbrev callPre (a : (Addr × Gone) × List Deed × Int × Str) (H : Hp) : Prop := H a.1.1 = some (.dK (goneV a.1.2)) ∧ WF a.2.1 ∧ a.2.2.2 ∈ papersM a.2.1
theorem ne_wd {w : Str} {l : List Str} {x : Str} (h : w ∈ l) (hx : l.all (fun y => decide (y ≠ x)) = true) : ¬ w = x := of_decide_eq_true (List.all_eq_true.mp hx w h)
theorem c_stay_by (T : Txt K mg) : Cal P w K mg base 6 "stay_by" ["deeds", "day", "paper", "gone", "parts"] (SpL K (fun a : Parts × (Addr × Gone) × List Deed × Int × Str => callArgs a.2 ++ [.d a.1.d]) (fun a H => callPre a.2 H ∧ a.1.ok) (fun a => stayBy a.2.2.1 a.2.2.2.1 a.2.2.2.2 a.2.1.2 a.1)) := by
  obtain ⟨fd, F⟩ := T.f_stay_by
  refine mkCal F T.g_stay_by S_stay_by H_stay_by (fun _ _ _ _ _ _ us hl => match us, hl with | [_, _, _, _, _], _ => rfl) (fun _ => rfl) ?_
  rintro X rfl rfl rfl rfl rfl D ⟨pt, ⟨ga, g⟩, l, day, p⟩ vs H Q hv ⟨⟨hg, W, hp⟩, ok⟩ hq
  dsimp only [callArgs] at hv hg W hp ok hq
  obtain ⟨v1, v2, v3, v5, rfl, a1, a2, a3, a5⟩ := AVs.dddvd hv
  obtain rfl := a2.int_iff
  have fin : ∀ H1 (σ' : L2.St), Ex H H1 → stayBy l day p g pt = [] → wSs X ((defBody s_stay_by).drop 2) { nx := fun _ H' => Q .non H', rt := Q } σ' H1 := fun H1 σ' x1 e => ss1 (retL (llst (xs := []) ean) fun v H2 x2 r => hq v H2 (x1.trans x2) (by rw [e]; exact r.old x1))
  cases pt with
  | span keep kd s m u =>
    cases keep with
    | true =>
      refine ssc (sif (c := true) (ET.to (eqS (dix (dn D 4 a5) di at0) ds) (decide_eq_true rfl)) (fun _ H1 x1 => ?_) fun h => nomatch h)
      refine ssc (asgD D 5 (dcall D (c_reckoning T) (l, (true, kd, s, m, u), p, day) (ead (dn D 0 (a1.ex x1)) (ead (dn D 4 (a5.ex x1)) (ead (dn D 2 (a3.ex x1)) (ead (dni D 1) ean)))) fun _ _ => ⟨W, hp, ok⟩) fun tl H2 x2 tt => ?_)
      dsimp only at tt
      cases e : reckM l s m u p day with
      | none =>
        rw [e] at tt
        refine ss1 (sif (EW.et (torc (c2 := true) (isN (dn D 5 tt)) fun h => nomatch h)) (fun _ H3 x3 => ?_) fun h => nomatch h)
        refine ss1 (retL (llst (xs := [.none]) (ead (dn D 5 (tt.ex x3)) ean)) fun v H4 x4 r => hq v H4 (((x1.trans x2).trans x3).trans x4) ?_)
        simp only [stayBy, e]
        exact r.old ((x1.trans x2).trans x3)
      | some t =>
        rw [e] at tt
        refine ss1 (sif (EW.et (torc (isN (dn D 5 tt)) fun _ => tor1 (gtI (dn D 5 tt) (dni D 1)))) (fun h H3 x3 => ?_) fun h H3 x3 => ss0 ?_)
        · have h' : day < t := by
            have : (false || decide (day < t)) = true := h
            rw [Bool.false_or] at this
            exact of_decide_eq_true this
          refine ss1 (retL (llst (xs := [.int t]) (ead (dn D 5 (tt.ex x3)) ean)) fun v H4 x4 r => hq v H4 (((x1.trans x2).trans x3).trans x4) ?_)
          simp only [stayBy, e]
          rw [if_pos h']
          exact r.old ((x1.trans x2).trans x3)
        · have h' : ¬ day < t := by
            have : (false || decide (day < t)) = false := h
            rw [Bool.false_or] at this
            exact of_decide_eq_false this
          refine ssc (sif (c := false) (ET.to (eqS (dix (dn D 4 (a5.ex ((x1.trans x2).trans x3))) di at0) ds) (decide_eq_false wd_kw)) (fun h => nomatch h) fun _ H4 x4 => ss0 ?_)
          refine fin H4 _ (((x1.trans x2).trans x3).trans x4) ?_
          simp only [stayBy, e]
          rw [if_neg h']
    | false =>
      refine ssc (sif (c := false) (ET.to (eqS (dix (dn D 4 a5) di at0) ds) (decide_eq_false wd_gk)) (fun h => nomatch h) fun _ H1 x1 => ss0 ?_)
      refine ssc (sif (c := false) (ET.to (eqS (dix (dn D 4 (a5.ex x1)) di at0) ds) (decide_eq_false wd_gw)) (fun h => nomatch h) fun _ H2 x2 => ss0 ?_)
      exact fin H2 _ (x1.trans x2) rfl
  | one wd kd =>
    refine ssc (sif (c := false) (ET.to (eqS (dix (dn D 4 a5) di at0) ds) (decide_eq_false (ne_wd ok.1 (by decide +kernel)))) (fun h => nomatch h) fun _ H1 x1 => ss0 ?_)
    refine ssc (sif (eqS (dix (dn D 4 (a5.ex x1)) di at0) ds) (fun h H2 x2 => ?_) fun h H2 x2 => ss0 ?_)
    · have hw : wd = "while" := of_decide_eq_true h
      have y := x1.trans x2
      refine ssc (asgD D 6 (dcall D (c_first_maker T) ((ga, g, false), l, day, p) (ead (dn D 0 (a1.ex y)) (ead (dni D 1) (ead (dn D 2 (a3.ex y)) (eav (en D 3) (ead db ean))))) fun H3 x3 => ⟨(y.trans x3) _ _ hg, hp, W.len⟩) fun mv H3 x3 tm => ?_)
      dsimp only at tm
      cases e : firstMakerM l day p g false with
      | none =>
        rw [e] at tm
        refine ss1 (sif (c := false) (notN (dn D 6 tm)) (fun h => nomatch h) fun _ H4 x4 => ss0 ?_)
        refine fin H4 _ ((y.trans x3).trans x4) ?_
        simp only [stayBy]
        rw [if_pos hw, e]
      | some mk =>
        rw [e] at tm
        refine ss1 (sif (c := true) (notN (dn D 6 tm)) (fun _ H4 x4 => ?_) fun h => nomatch h)
        refine ss1 (retL (llst (xs := [.str mk]) (ead (dn D 6 (tm.ex x4)) ean)) fun v H5 x5 r => hq v H5 (((y.trans x3).trans x4).trans x5) ?_)
        simp only [stayBy]
        rw [if_pos hw, e]
        exact r.old ((y.trans x3).trans x4)
    · have hw : ¬ wd = "while" := of_decide_eq_false h
      refine fin H2 _ (x1.trans x2) ?_
      simp only [stayBy]
      rw [if_neg hw]
theorem c_go_by (T : Txt K mg) : Cal P w K mg base 6 "go_by" ["deeds", "day", "paper", "gone", "parts"] (SpL K (fun a : Parts × (Addr × Gone) × List Deed × Int × Str => callArgs a.2 ++ [.d a.1.d]) (fun a H => callPre a.2 H ∧ a.1.ok) (fun a => goBy a.2.2.1 a.2.2.2.1 a.2.2.2.2 a.2.1.2 a.1)) := by
  obtain ⟨fd, F⟩ := T.f_go_by
  refine mkCal F T.g_go_by S_go_by H_go_by (fun _ _ _ _ _ _ us hl => match us, hl with | [_, _, _, _, _], _ => rfl) (fun _ => rfl) ?_
  rintro X rfl rfl rfl rfl rfl D ⟨pt, ⟨ga, g⟩, l, day, p⟩ vs H Q hv ⟨⟨hg, W, hp⟩, ok⟩ hq
  dsimp only [callArgs] at hv hg W hp ok hq
  obtain ⟨v1, v2, v3, v5, rfl, a1, a2, a3, a5⟩ := AVs.dddvd hv
  obtain rfl := a2.int_iff
  have fin : ∀ H1 (σ' : L2.St), Ex H H1 → goBy l day p g pt = [] → wSs X ((defBody s_go_by).drop 2) { nx := fun _ H' => Q .non H', rt := Q } σ' H1 := fun H1 σ' x1 e => ss1 (retL (llst (xs := []) ean) fun v H2 x2 r => hq v H2 (x1.trans x2) (by rw [e]; exact r.old x1))
  cases pt with
  | span keep kd s m u =>
    cases keep with
    | false =>
      refine ssc (sif (c := true) (ET.to (eqS (dix (dn D 4 a5) di at0) ds) (decide_eq_true rfl)) (fun _ H1 x1 => ?_) fun h => nomatch h)
      refine ssc (asgD D 5 (dcall D (c_reckoning T) (l, (false, kd, s, m, u), p, day) (ead (dn D 0 (a1.ex x1)) (ead (dn D 4 (a5.ex x1)) (ead (dn D 2 (a3.ex x1)) (ead (dni D 1) ean)))) fun _ _ => ⟨W, hp, ok⟩) fun tl H2 x2 tt => ?_)
      dsimp only at tt
      have rest : ∀ H3, Ex H2 H3 → goBy l day p g (.span false kd s m u) = [] → wSs X ((defBody s_go_by).drop 1) { nx := fun _ H' => Q .non H', rt := Q } [some v1, some (.int day), some v3, some (.ref ga), some v5, some tl, none] H3 := fun H3 x3 e => by
        refine ssc (sif (c := false) (ET.to (eqS (dix (dn D 4 (a5.ex ((x1.trans x2).trans x3))) di at0) ds) (decide_eq_false wd_gf)) (fun h => nomatch h) fun _ H4 x4 => ss0 ?_)
        exact fin H4 _ (((x1.trans x2).trans x3).trans x4) e
      cases e : reckM l s m u p day with
      | none =>
        rw [e] at tt
        refine ss1 (sif (c := false) (ET.to (EW.et (tandc (c2 := false) (notN (dn D 5 tt)) fun h => nomatch h)) rfl) (fun h => nomatch h) fun _ H3 x3 => ss0 ?_)
        refine rest H3 x3 ?_
        simp only [goBy, e]
      | some t =>
        rw [e] at tt
        refine ss1 (sif (EW.et (tandc (notN (dn D 5 tt)) fun _ => tand1 (leI (dn D 5 tt) (dni D 1)))) (fun h H3 x3 => ?_) fun h H3 x3 => ss0 ?_)
        · have h' : t ≤ day := by
            have : (true && decide (t ≤ day)) = true := h
            rw [Bool.true_and] at this
            exact of_decide_eq_true this
          refine ss1 (retL (llst (xs := [.int t]) (ead (dn D 5 (tt.ex x3)) ean)) fun v H4 x4 r => hq v H4 (((x1.trans x2).trans x3).trans x4) ?_)
          simp only [goBy, e]
          rw [if_pos h']
          exact r.old ((x1.trans x2).trans x3)
        · have h' : ¬ t ≤ day := by
            have : (true && decide (t ≤ day)) = false := h
            rw [Bool.true_and] at this
            exact of_decide_eq_false this
          refine rest H3 x3 ?_
          simp only [goBy, e]
          rw [if_neg h']
    | true =>
      refine ssc (sif (c := false) (ET.to (eqS (dix (dn D 4 a5) di at0) ds) (decide_eq_false wd_kg)) (fun h => nomatch h) fun _ H1 x1 => ss0 ?_)
      refine ssc (sif (c := false) (ET.to (eqS (dix (dn D 4 (a5.ex x1)) di at0) ds) (decide_eq_false wd_kf)) (fun h => nomatch h) fun _ H2 x2 => ss0 ?_)
      exact fin H2 _ (x1.trans x2) rfl
  | one wd kd =>
    refine ssc (sif (c := false) (ET.to (eqS (dix (dn D 4 a5) di at0) ds) (decide_eq_false (ne_wd ok.1 (by decide +kernel)))) (fun h => nomatch h) fun _ H1 x1 => ss0 ?_)
    refine ssc (sif (eqS (dix (dn D 4 (a5.ex x1)) di at0) ds) (fun h H2 x2 => ?_) fun h H2 x2 => ss0 ?_)
    · have hw : wd = "follow" := of_decide_eq_true h
      have y := x1.trans x2
      refine ssc (asgD D 6 (dcall D (c_first_maker T) ((ga, g, true), l, day, p) (ead (dn D 0 (a1.ex y)) (ead (dni D 1) (ead (dn D 2 (a3.ex y)) (eav (en D 3) (ead db ean))))) fun H3 x3 => ⟨(y.trans x3) _ _ hg, hp, W.len⟩) fun mv H3 x3 tm => ?_)
      dsimp only at tm
      cases e : firstMakerM l day p g true with
      | none =>
        rw [e] at tm
        refine ss1 (sif (c := false) (notN (dn D 6 tm)) (fun h => nomatch h) fun _ H4 x4 => ss0 ?_)
        refine fin H4 _ ((y.trans x3).trans x4) ?_
        simp only [goBy]
        rw [if_pos hw, e]
      | some mk =>
        rw [e] at tm
        refine ss1 (sif (c := true) (notN (dn D 6 tm)) (fun _ H4 x4 => ?_) fun h => nomatch h)
        refine ss1 (retL (llst (xs := [.str mk]) (ead (dn D 6 (tm.ex x4)) ean)) fun v H5 x5 r => hq v H5 (((y.trans x3).trans x4).trans x5) ?_)
        simp only [goBy]
        rw [if_pos hw, e]
        exact r.old ((y.trans x3).trans x4)
    · have hw : ¬ wd = "follow" := of_decide_eq_false h
      refine fin H2 _ (x1.trans x2) ?_
      simp only [goBy]
      rw [if_neg hw]
end
end G
namespace G
open PySem PySem.Spec PyProof.Rows L2 Evl
open PySem.W (EachIs dataLe AllAlike Sortable alike)
section
variable {P : Program} {w : World} {K : PySem.W.Frag} {mg : Str → Option Value} {base : Heap}
theorem stayBy_len (l : List Deed) (day : Int) (p : Str) (g : Gone) (pt : Parts) : (stayBy l day p g pt).length ≤ 1 := by
  unfold stayBy
  repeat' split
  all_goals simp
theorem goBy_len (l : List Deed) (day : Int) (p : Str) (g : Gone) (pt : Parts) : (goBy l day p g pt).length ≤ 1 := by
  unfold goBy
  repeat' split
  all_goals simp
theorem callsD_len {f : Parts → List PyData} (h : ∀ pt, (f pt).length ≤ 1) : ∀ l : List Deed, (callsD f l).length ≤ l.length
  | [] => Nat.le_refl _
  | x :: r => by
    have ih := callsD_len h r
    unfold callsD at *
    rw [List.flatMap_cons, List.length_append, List.length_map, List.length_cons]
    have := h (partsOf x)
    omega
theorem callsD_more {f : Parts → List PyData} {l : List Deed} {i : Nat} {x : Deed} (h : l[i]? = some x) : callsD f (l.take (i + 1)) = callsD f (l.take i) ++ (f (partsOf x)).map fun b => .tuple [.str x.name, b] := by
  rw [take_more h]
  unfold callsD
  rw [List.flatMap_append]
  simp
theorem c_stays (T : Txt K mg) : Cal P w K mg base 7 "stays" ["deeds", "day", "paper", "gone"] (SpD K callArgs callPre (fun a => .tuple (staysM a.2.1 a.2.2.1 a.2.2.2 a.1.2))) := by
  obtain ⟨fd, F⟩ := T.f_stays
  refine mkCal F T.g_stays S_stays H_stays (fun _ _ _ _ _ _ us hl => match us, hl with | [_, _, _, _], _ => rfl) (fun _ => rfl) ?_
  rintro X rfl rfl rfl rfl rfl D ⟨⟨ga, g⟩, l, day, p⟩ vs H Q hv ⟨hg, W, hp⟩ hq
  dsimp only [callArgs] at hv hg W hp hq
  obtain ⟨v1, v2, v3, rfl, a1, a2, a3⟩ := AVs.dddv hv
  have l40 := W.len
  have ol := over_len l day p
  refine ssc (asg0 D 4 fun q hq0 => ?_)
  have x0 : Ex H (upd H q (.lst [])) := Ex.new hq0
  refine ssc (forL (xs := (overM l day p).map ruleD) D (lcall D (c_rules_over T) (l, day, p) (ead (dn D 0 (a1.ex x0)) (ead (dn D 1 (a2.ex x0)) (ead (dn D 2 (a3.ex x0)) ean))) fun _ _ => ⟨l40, hp⟩)
    (fun r H1 i σ' H' => (∃ w5 w6 xs, σ' = [some v1, some v2, some v3, some (.ref ga), some (.ref q), w5, w6, none] ∧ Ex H H' ∧ H' q = some (.lst xs) ∧ TDs X.K H' xs (callsD (stayBy l day p g) ((overM l day p).take i))) ∧ Tm H1 H' ∧ r ≠ q ∧ ∀ vs, H1 r = some (.lst vs) → H' r = some (.lst vs))
    (fun r H1 hr x => ⟨⟨none, none, [], rfl, x0.trans x, x _ _ upd_same, .nil⟩, Tm.refl _, fun e => (by rw [e, upd_same] at hr; cases hr), fun _ h => h⟩) (fun r H1 i σ' H' h => h.2.1) (fun r H1 vs i σ' H' x hr h1 h => h.2.2.2 vs h1) ?_ ?_)
  · rintro r H1 i d v σ' H' x1 hi ⟨⟨w5, w6, xs, rfl, x2, hk, kd⟩, tm, hne, hr⟩ tv
    obtain ⟨x, hx, rfl⟩ := map_at hi
    have hrm := rules_mem (over_sub (List.mem_of_getElem? hx))
    have kl := kd.length
    have kl2 := callsD_len (stayBy_len l day p g) ((overM l day p).take i)
    rw [List.length_take] at kl2
    have sl := stayBy_len l day p g (partsOf x)
    refine g2 D 5 6 tv fun u1 u2 tu1 tu2 => ?_
    refine ss1 (sext (ds := (stayBy l day p g (partsOf x)).map fun b => .tuple [.str x.name, b]) (en D 4) hk (by rw [List.length_map]; omega) (lcL0 (fun d => d) (stayBy l day p g (partsOf x)) (fun b => .tuple [.str x.name, b]) D [("by", 7)] (by
        rw [List.map_id']
        exact lcall D (c_stay_by T) (partsOf x, (ga, g), l, day, p) (ead (dn D 0 (a1.ex x2)) (ead (dn D 1 (a2.ex x2)) (ead (dn D 2 (a3.ex x2)) (eav (en D 3) (ead (dn D 6 tu2) ean))))) fun H3 x3 => ⟨⟨(x2.trans x3) _ _ hg, W, hp⟩, rule_parts W hrm.1.1 hrm.2⟩) (by omega) fun H3 b v x3 hb tv =>
      t1 D 7 (fun _ => rfl) fun _ bk => dtup (xs := [.str x.name, b]) (ead (dn (D.b bk) 5 (tu1.ex x3)) (ead (dn (D.b bk) 7 tv) ean))) fun us H3 x3 tus => ?_)
    refine ⟨⟨_, _, _, rfl, Ex.mut (x2.trans x3) hq0, upd_same, ?_⟩, (tm.trans (.ex x3)).trans (Tm.lst (x3 _ _ hk)), hne, fun vs h => ?_⟩
    · rw [callsD_more hx]
      exact ((kd.ex x3).append tus).tm (Tm.lst (x3 _ _ hk))
    · rw [upd_ne hne]
      exact x3 _ _ (hr vs h)
  · rintro r H1 σ' H' x1 ⟨⟨w5, w6, xs, rfl, x2, hk, kd⟩, _⟩
    rw [List.length_map, List.take_length] at kd
    exact ss1 (retD (dtupleV D T.m_tuple (en D 4) (.inl (.inl hk)) kd) fun v H2 x3 r => hq v H2 (x2.trans x3) r)
theorem c_goes (T : Txt K mg) : Cal P w K mg base 7 "goes" ["deeds", "day", "paper", "gone"] (SpD K callArgs callPre (fun a => .tuple (goesM a.2.1 a.2.2.1 a.2.2.2 a.1.2))) := by
  obtain ⟨fd, F⟩ := T.f_goes
  refine mkCal F T.g_goes S_goes H_goes (fun _ _ _ _ _ _ us hl => match us, hl with | [_, _, _, _], _ => rfl) (fun _ => rfl) ?_
  rintro X rfl rfl rfl rfl rfl D ⟨⟨ga, g⟩, l, day, p⟩ vs H Q hv ⟨hg, W, hp⟩ hq
  dsimp only [callArgs] at hv hg W hp hq
  obtain ⟨v1, v2, v3, rfl, a1, a2, a3⟩ := AVs.dddv hv
  have l40 := W.len
  have ol := over_len l day p
  refine ssc (asg0 D 4 fun q hq0 => ?_)
  have x0 : Ex H (upd H q (.lst [])) := Ex.new hq0
  refine ssc (forL (xs := (overM l day p).map ruleD) D (lcall D (c_rules_over T) (l, day, p) (ead (dn D 0 (a1.ex x0)) (ead (dn D 1 (a2.ex x0)) (ead (dn D 2 (a3.ex x0)) ean))) fun _ _ => ⟨l40, hp⟩)
    (fun r H1 i σ' H' => (∃ w5 w6 xs, σ' = [some v1, some v2, some v3, some (.ref ga), some (.ref q), w5, w6, none] ∧ Ex H H' ∧ H' q = some (.lst xs) ∧ TDs X.K H' xs (callsD (goBy l day p g) ((overM l day p).take i))) ∧ Tm H1 H' ∧ r ≠ q ∧ ∀ vs, H1 r = some (.lst vs) → H' r = some (.lst vs))
    (fun r H1 hr x => ⟨⟨none, none, [], rfl, x0.trans x, x _ _ upd_same, .nil⟩, Tm.refl _, fun e => (by rw [e, upd_same] at hr; cases hr), fun _ h => h⟩) (fun r H1 i σ' H' h => h.2.1) (fun r H1 vs i σ' H' x hr h1 h => h.2.2.2 vs h1) ?_ ?_)
  · rintro r H1 i d v σ' H' x1 hi ⟨⟨w5, w6, xs, rfl, x2, hk, kd⟩, tm, hne, hr⟩ tv
    obtain ⟨x, hx, rfl⟩ := map_at hi
    have hrm := rules_mem (over_sub (List.mem_of_getElem? hx))
    have kl := kd.length
    have kl2 := callsD_len (goBy_len l day p g) ((overM l day p).take i)
    rw [List.length_take] at kl2
    have sl := goBy_len l day p g (partsOf x)
    refine g2 D 5 6 tv fun u1 u2 tu1 tu2 => ?_
    refine ss1 (sext (ds := (goBy l day p g (partsOf x)).map fun b => .tuple [.str x.name, b]) (en D 4) hk (by rw [List.length_map]; omega) (lcL0 (fun d => d) (goBy l day p g (partsOf x)) (fun b => .tuple [.str x.name, b]) D [("by", 7)] (by
        rw [List.map_id']
        exact lcall D (c_go_by T) (partsOf x, (ga, g), l, day, p) (ead (dn D 0 (a1.ex x2)) (ead (dn D 1 (a2.ex x2)) (ead (dn D 2 (a3.ex x2)) (eav (en D 3) (ead (dn D 6 tu2) ean))))) fun H3 x3 => ⟨⟨(x2.trans x3) _ _ hg, W, hp⟩, rule_parts W hrm.1.1 hrm.2⟩) (by omega) fun H3 b v x3 hb tv =>
      t1 D 7 (fun _ => rfl) fun _ bk => dtup (xs := [.str x.name, b]) (ead (dn (D.b bk) 5 (tu1.ex x3)) (ead (dn (D.b bk) 7 tv) ean))) fun us H3 x3 tus => ?_)
    refine ⟨⟨_, _, _, rfl, Ex.mut (x2.trans x3) hq0, upd_same, ?_⟩, (tm.trans (.ex x3)).trans (Tm.lst (x3 _ _ hk)), hne, fun vs h => ?_⟩
    · rw [callsD_more hx]
      exact ((kd.ex x3).append tus).tm (Tm.lst (x3 _ _ hk))
    · rw [upd_ne hne]
      exact x3 _ _ (hr vs h)
  · rintro r H1 σ' H' x1 ⟨⟨w5, w6, xs, rfl, x2, hk, kd⟩, _⟩
    rw [List.length_map, List.take_length] at kd
    exact ss1 (retD (dtupleV D T.m_tuple (en D 4) (.inl (.inl hk)) kd) fun v H2 x3 r => hq v H2 (x2.trans x3) r)
theorem c_needs_leave (T : Txt K mg) : Cal P w K mg base 6 "needs_leave" ["deeds", "day", "paper"] (SpD K (fun a : List Deed × Int × Str => [.d (dd a.1), .d (.int a.2.1), .d (.str a.2.2)]) (fun a _ => WF a.1 ∧ a.2.2 ∈ papersM a.1) (fun a => .bool (needsM a.1 a.2.1 a.2.2))) := by
  obtain ⟨fd, F⟩ := T.f_needs_leave
  refine mkCal F T.g_needs_leave S_needs_leave H_needs_leave (fun _ _ _ _ _ _ us hl => match us, hl with | [_, _, _], _ => rfl) (fun _ => rfl) ?_
  rintro X rfl rfl rfl rfl rfl D ⟨l, day, p⟩ vs H Q hv ⟨W, hp⟩ hq
  dsimp only at hv W hp hq
  obtain ⟨v1, v2, v3, rfl, a1, a2, a3⟩ := hv.d3
  have l40 := W.len
  have rl := rules_len l day
  refine ssc (asgD D 3 (dcall D (c_kind_of T) (l, p) (ead (dn D 0 a1) (ead (dn D 2 a3) ean)) fun _ _ => hp) fun u H1 x1 tu => ?_)
  refine ss1 (retD (dany (bs := (rulesM l day).map fun x => PyData.eqv (partsOf x).d (.tuple [.str "leave", .str (kindM l p)])) D T.m_any (by
    rw [map_bool]
    exact lcT0 ruleD (rulesM l day) _ D [("rule", 4), ("parts", 5)] (dcall D (c_rules_on T) (l, day) (ead (dn D 0 (a1.ex x1)) (ead (dn D 1 (a2.ex x1)) ean)) fun _ _ => l40) (by omega) fun H2 x v x2 hx tv =>
      t2 D 4 5 tv fun u1 w1 tu1 tw1 => ⟨fun _ => rfl, fun _ b => eqD (D.b b) (dn (D.b b) 5 tw1) (dtup (xs := [.str "leave", .str (kindM l p)]) (ead ds (ead (dn (D.b b) 3 (tu.ex x2)) ean))) (Parts.shp (rule_parts W (rules_mem hx).1.1 (rules_mem hx).2)) (shp_strs ok_lit4 (strOk_name (kind_name W hp)))⟩)) fun v H2 x2 r => hq v H2 (x1.trans x2) ?_)
  rw [any_map] at r
  exact r
end
end G
namespace G
open PySem PySem.Spec PyProof.Rows L2 Evl
open PySem.W (EachIs dataLe AllAlike Sortable alike AlikeAll minD)
theorem find_any {α : Type} (f : α → Bool) : ∀ l : List α, (l.find? f).isSome = l.any f
  | [] => rfl
  | x :: r => by
    rw [List.any_cons]
    cases h : f x with
    | true => rw [List.find?_cons_of_pos h] <;> rfl
    | false => rw [List.find?_cons_of_neg (by rw [h]; decide), find_any f r, Bool.false_or]
theorem least_min (x : Deed) : ∀ r : List Deed, minD (pairD x) (r.map pairD) = pairD (r.foldl (fun b y => if PySem.W.dataLt (pairD y) (pairD b) then y else b) x) := fun r => by
  unfold minD
  induction r generalizing x with
  | nil => rfl
  | cons y r ih =>
    rw [List.map_cons, List.foldl_cons, List.foldl_cons, ← ih]
    by_cases h : PySem.W.dataLt (pairD y) (pairD x) = true
    · rw [if_pos h, if_pos h]
    · rw [if_neg h, if_neg h]
theorem pair_depth : ∀ l : List Deed, PyData.depthAll (l.map pairD) ≤ 2
  | [] => Nat.zero_le _
  | x :: r => by
    have := pair_depth r
    rw [List.map_cons]
    simp [PyData.depthAll, pairD, PyData.depth] at *
    omega
theorem pair_alike (l : List Deed) : AlikeAll (l.map pairD) := by
  refine ⟨fun a ha b hb => ?_, fun a ha => ?_⟩
  · obtain ⟨x, _, rfl⟩ := List.mem_map.mp ha
    obtain ⟨y, _, rfl⟩ := List.mem_map.mp hb
    exact alike_pair x y
  · obtain ⟨x, _, rfl⟩ := List.mem_map.mp ha
    exact fun h => nomatch h
theorem shp_pairs {l : List Deed} (h : ∀ x ∈ l, PyData.strOk x.name = true) : SeqAt.shaped (.list (l.map pairD)) = true := by
  have h2 : PyData.canLayAll0 (l.map pairD) = true := by
    induction l with
    | nil => rfl
    | cons x r ih =>
      rw [List.map_cons]
      simp [PyData.canLayAll0, PyData.canLay0, pairD, h x List.mem_cons_self]
      exact ih fun y hy => h y (List.mem_cons_of_mem _ hy)
  have h3 := pair_depth l
  simp [SeqAt.shaped, PyData.canLay0, PyData.depth, h2]
  omega
section
variable {P : Program} {w : World} {K : PySem.W.Frag} {mg : Str → Option Value} {base : Heap}
theorem c_unused_leave (T : Txt K mg) : Cal P w K mg base 1 "unused_leave" ["deeds", "day", "kind", "used"] (SpD K (fun a : (Addr × List (Str × Str)) × List Deed × Int × Str => [.d (dd a.2.1), .d (.int a.2.2.1), .d (.str a.2.2.2), .v (.ref a.1.1)])
    (fun a H => H a.1.1 = some (.dK (usedV a.1.2)) ∧ WF a.2.1) (fun a => oS (unusedM a.2.1 a.2.2.1 a.2.2.2 a.1.2))) := by
  obtain ⟨fd, F⟩ := T.f_unused_leave
  refine mkCal F T.g_unused_leave S_unused_leave H_unused_leave (fun _ _ _ _ _ _ us hl => match us, hl with | [_, _, _, _], _ => rfl) (fun _ => rfl) ?_
  rintro X rfl rfl rfl rfl rfl D ⟨⟨ua, u⟩, l, day, k⟩ vs H Q hv ⟨hu, W⟩ hq
  dsimp only at hv hu W hq
  obtain ⟨v1, v2, v3, rfl, a1, a2, a3⟩ := AVs.dddv hv
  have l40 := W.len
  refine ssc (asg0 D 4 fun q hq0 => ?_)
  have x0 : Ex H (upd H q (.lst [])) := Ex.new hq0
  refine ssc (forT D (dn D 0 (a1.ex x0)) (fun H1 i σ' H' => (∃ w5 xs, σ' = [some v1, some v2, some v3, some (.ref ua), some (.ref q), w5] ∧ Ex H H' ∧ H' q = some (.lst xs) ∧ TDs X.K H' xs (((l.take i).filter (leaveOk day k u)).map pairD)) ∧ Tm H1 H')
    (fun H1 x => ⟨⟨none, [], rfl, x0.trans x, x _ _ upd_same, .nil⟩, Tm.refl _⟩) (fun _ _ _ _ h => h.2) ?_ ?_)
  · rintro H1 i d v σ' H' x1 hi ⟨⟨w5, xs, rfl, x2, hk, kd⟩, tm⟩ tv
    obtain ⟨x, hx, rfl⟩ := map_at hi
    have kl := kd.length
    rw [List.length_map] at kl
    have kl2 := List.length_filter_le (leaveOk day k u) (l.take i)
    rw [List.length_take] at kl2
    have huH := x2 _ _ hu
    refine g1 D 5 (ss1 (sif (c := leaveOk day k u x) (EW.et (tandc (eqS (dix (dn D 5 tv) di at0) ds) fun hw => ?_)) (fun hb H3 x3 => ?_) fun hb H3 x3 => ss0 ?_))
    · obtain ⟨d, n, kd', rfl⟩ := isW_leave hw
      refine tandc (eqS (dix (dn D 5 tv) di at3) (dn D 2 (a3.ex x2))) fun _ => tandc (leI (dix (dn D 5 tv) di at1) (dn D 1 (a2.ex x2))) fun _ => tand1 (ET.to (tnotin D (dix (dn D 5 tv) di at2) (en D 3) huH) ?_)
      rw [(kd_used (K := X.K) (H := H) u).is]
      unfold getP
      rw [Option.isSome_map, find_any]
    · refine ss1 (sapp (d := pairD x) (en D 4) (x3 _ _ hk) (by omega) (dtup (xs := [.int x.day, .str x.name]) (ead (dix (dn D 5 (tv.ex x3)) di at1) (ead (dix (dn D 5 (tv.ex x3)) di at2) ean))) fun v4 H4 x4 t4 => ⟨⟨_, _, rfl, Ex.mut ((x2.trans x3).trans x4) hq0, upd_same, ?_⟩, ((tm.trans (.ex x3)).trans (.ex x4)).trans (Tm.lst (x4 _ _ (x3 _ _ hk)))⟩)
      rw [take_more hx, List.filter_append, List.map_append, List.filter_cons, if_pos hb]
      exact ((kd.ex (x3.trans x4)).append (.cons t4 .nil)).tm (Tm.lst (x4 _ _ (x3 _ _ hk)))
    · refine ⟨⟨_, _, rfl, x2.trans x3, x3 _ _ hk, ?_⟩, tm.trans (.ex x3)⟩
      rw [take_more hx, List.filter_append, List.map_append, List.filter_cons, if_neg (by rw [hb]; decide), List.filter_nil, List.map_nil, List.append_nil]
      exact kd.ex x3
  · rintro H1 σ' H' x1 ⟨⟨w5, xs, rfl, x2, hk, kd⟩, _⟩
    rw [List.length_map, List.take_length] at kd
    refine ssc (sif (eqNil D (en D 4) hk kd (shp_pairs fun x hx => strOk_name (W.ok x (List.mem_filter.mp hx).1).2.1)) (fun hb H3 x3 => ?_) fun hb H3 x3 => ss0 ?_)
    · have e : l.filter (leaveOk day k u) = [] := by simpa using hb
      refine ss1 (retD dnon fun v H4 x4 r => hq v H4 ((x2.trans x3).trans x4) ?_)
      unfold unusedM
      rw [e]
      exact r
    · cases e : l.filter (leaveOk day k u) with
      | nil =>
        rw [e] at hb
        cases hb
      | cons y ys =>
        rw [e] at kd
        have hpd : PyData.depthAll (pairD y :: ys.map pairD) ≤ 2 := pair_depth (y :: ys)
        refine ss1 (retD (dix (ED.to (dminL D T.m_min (en D 4) (.inl (.inl (x3 _ _ hk))) (kd.ex x3) (pair_alike (y :: ys)) (by omega)) (least_min y ys)) di at1) fun v H4 x4 r => hq v H4 ((x2.trans x3).trans x4) ?_)
        unfold unusedM
        rw [e]
        exact r
end
end G
namespace G
open PySem PySem.Spec PyProof.Rows L2 Evl
section
variable {X : Cx} {N : List Str} {sc : Scope} {k : Nat} {o value : Expr} {σ : L2.St} {H H0 : Hp} {pos p' : Pos} {f : Str} {Dn : Ends} {S : List Addr}
/-- o.f = value, what moved kept in view -/
theorem sfldM {a C dx : Addr} {fs : List (Str × V)} {d : PyData} (M : Mo S H0 H) (hi : H a = some (.ins C dx fs)) (hs' : a ∈ S ∨ H0 a = none) (ho : EV X o σ H (.ref a)) (hv : ED X value σ H d) (c : Cls X.K C) (n : NoAttr X.K C f)
    (q : ∀ v H1, Mo S H0 H1 → Mo [a] H H1 → H1 a = some (.ins C dx (putF f v fs)) → TD X.K H1 v d → Dn.nx σ H1) (hl : Nat.ble (fs.length + 1) 1000 = true := by kernel_rfl) (hs : swapsWith value (some (.Attribute o f p')) pos.line X.env = pure false := by rfl) : wS X (.Assign [.Attribute o f p'] value pos) Dn σ H :=
  sfldD ho hv hi c n (Nat.le_of_ble_eq_true hl) (fun v H1 x t => by
    have h1 := x _ _ hi
    have m1 : Mo [a] H (upd H1 a (.ins C dx (putF f v fs))) := (Mo.ex x).put h1 nt_ins (List.mem_singleton.mpr rfl)
    refine q v _ ?_ m1 upd_same (t.tm (Tm.ins h1))
    rcases hs' with z | z
    · exact M.trans (m1.sub fun y hy => by rw [List.mem_singleton.mp hy]; exact z)
    · exact (M.then x).new z) hs
end
abbrev metF (day : Int) (p : Str) (v1 v2 v3 : V) (b : Bool) (v4 : V) : List (Str × V) := [("day", .int day), ("paper", .str p), ("stay", v1), ("leaving", v2), ("covers", v3), ("lacks", .bl b), ("leave", v4)]
def MetI (K : PySem.W.Frag) (H : Hp) (v : V) (day : Int) (p : Str) (m : MetM) : Prop := ∃ a dx v1 v2 v3 v4, v = .ref a ∧ H a = some (.ins (He.ga K "Met") dx (metF day p v1 v2 v3 m.lacks v4)) ∧
  TD K H v1 (.tuple m.stay) ∧ TD K H v2 (.tuple m.leaving) ∧ TD K H v3 (.tuple (m.covers.map .str)) ∧ TD K H v4 (oS m.leave)
structure MetM.shp (m : MetM) : Prop where
  s1 : SeqAt.shaped (.tuple m.stay) = true
  s2 : SeqAt.shaped (.tuple m.leaving) = true
  s3 : SeqAt.shaped (.tuple (m.covers.map .str)) = true
theorem MetI.mo {K : PySem.W.Frag} {S : List Addr} {H H' : Hp} {v : V} {day : Int} {p : Str} {m : MetM} (M : Mo S H H') (h : MetI K H v day p m) (hs : ∀ a, v = .ref a → a ∉ S) : MetI K H' v day p m := by
  obtain ⟨a, dx, v1, v2, v3, v4, rfl, h0, h1, h2, h3, h4⟩ := h
  exact ⟨a, dx, v1, v2, v3, v4, rfl, M.keep _ _ (hs a rfl) h0, h1.tm M.tm, h2.tm M.tm, h3.tm M.tm, h4.tm M.tm⟩
theorem lay_by {d : PyData} (h : d = .none ∨ (∃ i, d = .int i) ∨ ∃ m, d = .str m ∧ nameB m = true) : d.canLay0 = true ∧ d.depth ≤ 1 := by
  rcases h with rfl | ⟨i, rfl⟩ | ⟨m, rfl, hm⟩
  · simp [PyData.canLay0, PyData.depth]
  · simp [PyData.canLay0, PyData.depth]
  · simp [PyData.canLay0, PyData.depth, strOk_name hm]
theorem lay_calls {f : Parts → List PyData} {l : List Deed} (h1 : ∀ pt, ∀ d ∈ f pt, d = .none ∨ (∃ i, d = .int i) ∨ ∃ m, d = .str m ∧ nameB m = true) (h2 : ∀ x ∈ l, nameB x.name = true) : PyData.canLayAll0 (callsD f l) = true ∧ PyData.depthAll (callsD f l) ≤ 4 := by
  have h : ∀ d ∈ callsD f l, d.canLay0 = true ∧ d.depth ≤ 4 := by
    intro d hd
    unfold callsD at hd
    obtain ⟨x, hx, hd⟩ := List.mem_flatMap.mp hd
    obtain ⟨b, hb, rfl⟩ := List.mem_map.mp hd
    obtain ⟨e1, e2⟩ := lay_by (h1 _ b hb)
    simp [PyData.canLay0, PyData.canLayAll0, PyData.depth, PyData.depthAll, strOk_name (h2 x hx), e1]
    omega
  generalize callsD f l = ds at h
  induction ds with
  | nil => exact ⟨rfl, Nat.zero_le _⟩
  | cons d r ih =>
    obtain ⟨a, b⟩ := ih fun y hy => h y (List.mem_cons_of_mem _ hy)
    obtain ⟨c, e⟩ := h d List.mem_cons_self
    simp [PyData.canLayAll0, PyData.depthAll, a, c]
    omega
theorem shp_calls {f : Parts → List PyData} {l : List Deed} (h1 : ∀ pt, ∀ d ∈ f pt, d = .none ∨ (∃ i, d = .int i) ∨ ∃ m, d = .str m ∧ nameB m = true) (h2 : ∀ x ∈ l, nameB x.name = true) : SeqAt.shaped (.tuple (callsD f l)) = true := by
  obtain ⟨a, b⟩ := lay_calls h1 h2
  simp [SeqAt.shaped, PyData.canLay0, PyData.depth, a]
  omega
theorem first_in {l : List Deed} {day : Int} {p : Str} {g : Gone} {b : Bool} {m : Str} (h : firstMakerM l day p g b = some m) : m ∈ papersM l := makers_sub (List.mem_of_find?_eq_some h)
theorem stayBy_in {l : List Deed} (W : WF l) (day : Int) (p : Str) (g : Gone) (pt : Parts) : ∀ d ∈ stayBy l day p g pt, d = .none ∨ (∃ i, d = .int i) ∨ ∃ m, d = .str m ∧ nameB m = true := by
  intro d hd
  cases pt with
  | span k kd s m u =>
    cases k with
    | false => simp [stayBy] at hd
    | true =>
      simp only [stayBy] at hd
      split at hd
      · simp at hd
        exact .inl hd
      · split at hd
        · simp at hd
          exact .inr (.inl ⟨_, hd⟩)
        · simp at hd
  | one w kd =>
    simp only [stayBy] at hd
    split at hd
    · split at hd
      · next m e =>
        simp at hd
        exact .inr (.inr ⟨m, hd, papers_name W (first_in e)⟩)
      · simp at hd
    · simp at hd
theorem goBy_in {l : List Deed} (W : WF l) (day : Int) (p : Str) (g : Gone) (pt : Parts) : ∀ d ∈ goBy l day p g pt, d = .none ∨ (∃ i, d = .int i) ∨ ∃ m, d = .str m ∧ nameB m = true := by
  intro d hd
  cases pt with
  | span k kd s m u =>
    cases k with
    | true => simp [goBy] at hd
    | false =>
      simp only [goBy] at hd
      split at hd
      · simp at hd
      · split at hd
        · simp at hd
          exact .inr (.inl ⟨_, hd⟩)
        · simp at hd
  | one w kd =>
    simp only [goBy] at hd
    split at hd
    · split at hd
      · next m e =>
        simp at hd
        exact .inr (.inr ⟨m, hd, papers_name W (first_in e)⟩)
      · simp at hd
    · simp at hd
theorem look_shp {l : List Deed} (W : WF l) (day : Int) (p : Str) (g : Gone) (u : List (Str × Str)) : (lookM l day p g u).shp := by
  have hn : ∀ x ∈ overM l day p, nameB x.name = true := fun x hx => (W.ok x (rules_mem (over_sub hx)).1.1).2.1
  refine ⟨shp_calls (stayBy_in W day p g) hn, shp_calls (goBy_in W day p g) hn, ?_⟩
  have h : ∀ x ∈ coveringM l day p, nameB x = true := by
    intro x hx
    unfold coveringM at hx
    obtain ⟨y, hy, rfl⟩ := List.mem_map.mp hx
    exact (W.ok y (holds_mem (List.mem_filter.mp hy).1).1.1).2.1
  have e1 := lay_strs h
  have e2 := depth_strs (coveringM l day p)
  show SeqAt.shaped (.tuple ((coveringM l day p).map .str)) = true
  simp [SeqAt.shaped, PyData.canLay0, PyData.depth, e1]
  omega
theorem eqv_nil (xs : List PyData) : PyData.eqv (.tuple xs) (.tuple []) = xs.isEmpty := by cases xs <;> simp [PyData.eqv, PyData.eqvAll]
section
variable {P : Program} {w : World} {K : PySem.W.Frag} {mg : Str → Option Value} {base : Heap}
theorem c_Met_init (T : Txt K mg) : MakC P w K mg base 1 "Met" (He.ga K "Met") ["self", "day", "paper"] (SpG K (fun a : (Addr × Addr) × Int × Str => [.v (.ref a.1.1), .d (.int a.2.1), .d (.str a.2.2)]) (fun a H => H a.1.1 = some (.ins (He.ga K "Met") a.1.2 []))
    (fun a H H' v => v = .non ∧ Mo [a.1.1] H H' ∧ MetI K H' (.ref a.1.1) a.2.1 a.2.2 ⟨[], [], [], false, none⟩)) := by
  obtain ⟨f, fd, F, hk⟩ : ∃ f fd, FunD K "__init__" "Met.__init__" (defArgs s_Met_init) (defBody s_Met_init) (defScope s_Met_init) [] [] f fd ∧ Mk K (He.ga K "Met") f := by
    obtain ⟨fd, F⟩ := T.f_Met_init
    exact ⟨_, fd, F, T.mk_Met⟩
  obtain ⟨h1, h2⟩ := mkFn (P := P) (w := w) (mg := mg) (base := base) (as := fun a : (Addr × Addr) × Int × Str => [.v (.ref a.1.1), .d (.int a.2.1), .d (.str a.2.2)]) (pre := fun a H => H a.1.1 = some (.ins (He.ga K "Met") a.1.2 []))
    (R := fun a H H' v => v = .non ∧ Mo [a.1.1] H H' ∧ MetI K H' (.ref a.1.1) a.2.1 a.2.2 ⟨[], [], [], false, none⟩) (k := 0) F S_Met_init H_Met_init (fun _ _ _ _ _ _ us hl => match us, hl with | [_, _, _], _ => rfl) (fun _ => rfl) (by
    rintro X rfl rfl rfl rfl rfl D ⟨⟨a, dx⟩, day, p⟩ vs H Q hv hi hq
    dsimp only at hv hi hq
    obtain ⟨ws, rfl, hv2⟩ := hv.cv
    obtain ⟨v1, v2, rfl, a1, a2⟩ := hv2.d2
    have z : a ∈ [a] ∨ H a = none := .inl (List.mem_singleton.mpr rfl)
    refine ssc (sfldM (Mo.refl [a] H) hi z (en D 0) (dn D 1 a1) T.k_Met T.n_Met_day fun u1 H1 M1 m1 i1 t1 => ?_)
    refine ssc (sfldM M1 i1 z (en D 0) (dn D 2 (a2.tm M1.tm)) T.k_Met T.n_Met_paper fun u2 H2 M2 m2 i2 t2 => ?_)
    refine ssc (sfldM M2 i2 z (en D 0) (dtup (xs := []) ean) T.k_Met T.n_Met_stay fun u3 H3 M3 m3 i3 t3 => ?_)
    refine ssc (sfldM M3 i3 z (en D 0) (dtup (xs := []) ean) T.k_Met T.n_Met_leaving fun u4 H4 M4 m4 i4 t4 => ?_)
    refine ssc (sfldM M4 i4 z (en D 0) (dtup (xs := []) ean) T.k_Met T.n_Met_covers fun u5 H5 M5 m5 i5 t5 => ?_)
    refine ssc (sfldM M5 i5 z (en D 0) db T.k_Met T.n_Met_lacks fun u6 H6 M6 m6 i6 t6 => ?_)
    refine ss1 (sfldM M6 i6 z (en D 0) dnon T.k_Met T.n_Met_leave fun u7 H7 M7 m7 i7 t7 => ?_)
    obtain rfl := t1.int_iff
    obtain rfl := t2.str_iff
    obtain rfl := t6.bl_iff
    obtain rfl := t7.non_iff
    have tm37 : Tm H3 H7 := ((m4.tm.trans m5.tm).trans m6.tm).trans m7.tm
    exact hq .non H7 ⟨rfl, M7, a, dx, u3, u4, u5, .non, rfl, i7, t3.tm tm37, t4.tm ((m5.tm.trans m6.tm).trans m7.tm), t5.tm (m6.tm.trans m7.tm), .non⟩)
  exact ⟨f, fd, hk, h1, T.g_Met, h2⟩
end
end G
namespace G
open PySem PySem.Spec PyProof.Rows L2 Evl
section
variable {P : Program} {w : World} {K : PySem.W.Frag} {mg : Str → Option Value} {base : Heap}
abbrev SpMet (K : PySem.W.Frag) (b : MetM → Bool) : Sp := SpG K (fun a : V × Int × Str × MetM => [.v a.1]) (fun a H => MetI K H a.1 a.2.1 a.2.2.1 a.2.2.2 ∧ a.2.2.2.shp) (fun a H H' v => Ex H H' ∧ IsBl (b a.2.2.2) H' v)
theorem c_is_barred (T : Txt K mg) : MetC P w K mg base 1 (He.ga K "Met") "is_barred" ["self"] (SpMet K MetM.barred) := by
  obtain ⟨fd, F⟩ := T.f_Met_is_barred
  obtain ⟨h1, h2⟩ := mkFn (P := P) (w := w) (mg := mg) (base := base) (as := fun a : V × Int × Str × MetM => [.v a.1]) (pre := fun a H => MetI K H a.1 a.2.1 a.2.2.1 a.2.2.2 ∧ a.2.2.2.shp)
    (R := fun a H H' v => Ex H H' ∧ IsBl a.2.2.2.barred H' v) (k := 0) F S_Met_is_barred H_Met_is_barred (fun _ _ _ _ _ _ us hl => match us, hl with | [_], _ => rfl) (fun _ => rfl) (by
    rintro X rfl rfl rfl rfl rfl D ⟨v, day, p, m⟩ vs H Q hv ⟨hi, hs⟩ hq
    dsimp only at hv hi hs hq
    obtain ⟨ws, rfl, hv2⟩ := hv.cv
    obtain rfl := hv2.n
    obtain ⟨a, dx, v1, v2, v3, v4, rfl, i0, t1, t2, t3, t4⟩ := hi
    refine ss1 (retD (d := .bool m.barred) (ED.to (vor (neD D (ED.ev (efld (en D 0) i0 T.k_Met T.n_Met_stay rfl) t1) (dtup (xs := []) ean) hs.s1 rfl) fun _ => vor (neD D (ED.ev (efld (en D 0) i0 T.k_Met T.n_Met_covers rfl) t3) (dtup (xs := []) ean) hs.s3 rfl) fun _ => vone (ED.ev (efld (en D 0) i0 T.k_Met T.n_Met_lacks rfl) (.bl m.lacks))) ?_) fun v H1 x r => hq v H1 ⟨x, r.bl_iff⟩)
    rw [eqv_nil, eqv_nil]
    unfold MetM.barred
    cases m.covers <;> rfl)
  exact ⟨_, fd, T.mt_Met_is_barred, h1, h2⟩
theorem c_is_let (T : Txt K mg) : MetC P w K mg base 2 (He.ga K "Met") "is_let" ["self"] (SpMet K MetM.isLet) := by
  obtain ⟨fd, F⟩ := T.f_Met_is_let
  obtain ⟨h1, h2⟩ := mkFn (P := P) (w := w) (mg := mg) (base := base) (as := fun a : V × Int × Str × MetM => [.v a.1]) (pre := fun a H => MetI K H a.1 a.2.1 a.2.2.1 a.2.2.2 ∧ a.2.2.2.shp)
    (R := fun a H H' v => Ex H H' ∧ IsBl a.2.2.2.isLet H' v) (k := 1) F S_Met_is_let H_Met_is_let (fun _ _ _ _ _ _ us hl => match us, hl with | [_], _ => rfl) (fun _ => rfl) (by
    rintro X rfl rfl rfl rfl rfl D ⟨v, day, p, m⟩ vs H Q hv ⟨hi, hs⟩ hq
    dsimp only at hv hi hs hq
    obtain ⟨ws, rfl, hv2⟩ := hv.cv
    obtain rfl := hv2.n
    have hi' := hi
    obtain ⟨a, dx, v1, v2, v3, v4, rfl, i0, t1, t2, t3, t4⟩ := hi
    refine ss1 (retD (d := .bool m.isLet) (ED.to (vand (neD D (ED.ev (efld (en D 0) i0 T.k_Met T.n_Met_leaving rfl) t2) (dtup (xs := []) ean) hs.s2 rfl) fun _ => vone (vnot (ED.ofBl (dmeth0 D (c_is_barred T) T.k_Met (by decide) (en D 0) i0 rfl fun H1 x1 => ⟨(.ref a, day, p, m), rfl, ⟨hi'.mo (.ex x1 (S := [])) (fun _ _ => List.not_mem_nil), hs⟩, fun v H2 r => r⟩)))) ?_) fun v H1 x r => hq v H1 ⟨x, r.bl_iff⟩)
    rw [eqv_nil] <;> rfl)
  exact ⟨_, fd, T.mt_Met_is_let, h1, h2⟩
end
end G
namespace G
open PySem PySem.Spec PyProof.Rows L2 Evl
theorem AVs.dddvv {K : PySem.W.Frag} {H : Hp} {vs : List V} {a b c : PyData} {x y : V} (h : AVs K H vs [.d a, .d b, .d c, .v x, .v y]) : ∃ u v w, vs = [u, v, w, x, y] ∧ TD K H u a ∧ TD K H v b ∧ TD K H w c := by
  obtain ⟨u, ws, rfl, t, r⟩ := h.cd
  obtain ⟨v, ws, rfl, t2, r⟩ := r.cd
  obtain ⟨w, ws, rfl, t3, r⟩ := r.cd
  obtain ⟨ws, rfl, r2⟩ := r.cv
  obtain ⟨ws, rfl, r3⟩ := r2.cv
  obtain rfl := r3.n
  exact ⟨u, v, w, rfl, t, t2, t3⟩
theorem AVs.ddvv {K : PySem.W.Frag} {H : Hp} {vs : List V} {a b : PyData} {x y : V} (h : AVs K H vs [.d a, .d b, .v x, .v y]) : ∃ u v, vs = [u, v, x, y] ∧ TD K H u a ∧ TD K H v b := by
  obtain ⟨u, ws, rfl, t, r⟩ := h.cd
  obtain ⟨v, ws, rfl, t2, r⟩ := r.cd
  obtain ⟨ws, rfl, r2⟩ := r.cv
  obtain ⟨ws, rfl, r3⟩ := r2.cv
  obtain rfl := r3.n
  exact ⟨u, v, rfl, t, t2⟩
section
variable {P : Program} {w : World} {K : PySem.W.Frag} {mg : Str → Option Value} {base : Heap}
theorem not_mem1 {H : Hp} {a b : Addr} {o : HO} (h : H a = none) (e : H b = some o) : b ∉ [a] := fun z => by
  rw [List.mem_singleton.mp z, h] at e
  cases e
theorem c_look (T : Txt K mg) : Cal P w K mg base 8 "look" ["deeds", "day", "paper", "gone", "used"] (SpG K (fun a : (Addr × Addr × Gone × List (Str × Str)) × List Deed × Int × Str => [.d (dd a.2.1), .d (.int a.2.2.1), .d (.str a.2.2.2), .v (.ref a.1.1), .v (.ref a.1.2.1)])
    (fun a H => H a.1.1 = some (.dK (goneV a.1.2.2.1)) ∧ H a.1.2.1 = some (.dK (usedV a.1.2.2.2)) ∧ WF a.2.1 ∧ a.2.2.2 ∈ papersM a.2.1)
    (fun a H H' v => Ex H H' ∧ ∃ m, v = .ref m ∧ H m = none ∧ MetI K H' v a.2.2.1 a.2.2.2 (lookM a.2.1 a.2.2.1 a.2.2.2 a.1.2.2.1 a.1.2.2.2))) := by
  obtain ⟨fd, F⟩ := T.f_look
  refine mkCalG F T.g_look S_look H_look (fun _ _ _ _ _ _ us hl => match us, hl with | [_, _, _, _, _], _ => rfl) (fun _ => rfl) ?_
  rintro X rfl rfl rfl rfl rfl D ⟨⟨ga, ua, g, u⟩, l, day, p⟩ vs H Q hv ⟨hg, hu, W, hp⟩ hq
  dsimp only at hv hg hu W hp hq
  obtain ⟨v1, v2, v3, rfl, a1, a2, a3⟩ := hv.dddvv
  refine ssc (asgR D 5 (dmake (R' := fun H2 v => MetI X.K H2 v day p ⟨[], [], [], false, none⟩ ∧ ∃ a, v = .ref a ∧ H a = none) D (c_Met_init T) (by decide) (ead (dn D 1 a2) (ead (dn D 2 a3) ean)) fun H1 q dx x1 hq0 hdx hne => ⟨((q, dx), day, p), rfl, upd_same, fun v H2 ⟨r1, r2, r3⟩ => ⟨r1, fun b o e => r2.keep b o (not_mem1 hq0 e) (by
      rw [upd_ne (ne_of_none e hq0), upd_ne (ne_of_none e hdx)]
      exact e), r3, q, rfl, fresh_back x1 hq0⟩⟩) fun v H1 x1 hv1 => ?_)
  obtain ⟨⟨a, dx, w1, w2, w3, w4, rfl, i1, t1, t2, t3, t4⟩, a', e, h0⟩ := hv1
  cases e
  have z : a ∈ [a] ∨ H a = none := .inr h0
  have nga : ga ∉ [a] := not_mem1 h0 hg
  have nua : ua ∉ [a] := not_mem1 h0 hu
  have G : ∀ {H2}, Mo [a] H H2 → ∀ H3, Ex H2 H3 → H3 ga = some (.dK (goneV g)) := fun M H3 x => x _ _ (M.keep _ _ nga hg)
  have U : ∀ {H2}, Mo [a] H H2 → ∀ H3, Ex H2 H3 → H3 ua = some (.dK (usedV u)) := fun M H3 x => x _ _ (M.keep _ _ nua hu)
  have M1 : Mo [a] H H1 := .ex x1
  refine ssc (sfldM M1 i1 z (en D 5) (dcall D (c_stays T) ((ga, g), l, day, p) (ead (dn D 0 (a1.tm M1.tm)) (ead (dn D 1 (a2.tm M1.tm)) (ead (dn D 2 (a3.tm M1.tm)) (eav (en D 3) ean)))) fun H2 x2 => ⟨G M1 H2 x2, W, hp⟩) T.k_Met T.n_Met_stay fun u2 H2 M2 m2 i2 s2 => ?_)
  refine ssc (sfldM M2 i2 z (en D 5) (dcall D (c_goes T) ((ga, g), l, day, p) (ead (dn D 0 (a1.tm M2.tm)) (ead (dn D 1 (a2.tm M2.tm)) (ead (dn D 2 (a3.tm M2.tm)) (eav (en D 3) ean)))) fun H3 x3 => ⟨G M2 H3 x3, W, hp⟩) T.k_Met T.n_Met_leaving fun u3 H3 M3 m3 i3 s3 => ?_)
  refine ssc (sfldM M3 i3 z (en D 5) (dcall D (c_covering T) (l, day, p) (ead (dn D 0 (a1.tm M3.tm)) (ead (dn D 1 (a2.tm M3.tm)) (ead (dn D 2 (a3.tm M3.tm)) ean))) fun _ _ => ⟨W, hp⟩) T.k_Met T.n_Met_covers fun u4 H4 M4 m4 i4 s4 => ?_)
  have e4 : putF "covers" u4 (putF "leaving" u3 (putF "stay" u2 (metF day p w1 w2 w3 false w4))) = (metF day p u2 u3 u4 false w4) := by kernel_rfl
  have i4 : H4 a = some (.ins (He.ga X.K "Met") dx (metF day p u2 u3 u4 false w4)) := e4 ▸ i4
  have tmA : Tm H1 H4 := (m2.tm.trans m3.tm).trans m4.tm
  refine ssc (sifM (fun σ' H' => σ' = [some v1, some v2, some v3, some (.ref ga), some (.ref ua), some (.ref a)] ∧ Mo [a] H H' ∧ MetI X.K H' (.ref a) day p (lookM l day p g u)) (tval (dcall D (c_needs_leave T) (l, day, p) (ead (dn D 0 (a1.tm M4.tm)) (ead (dn D 1 (a2.tm M4.tm)) (ead (dn D 2 (a3.tm M4.tm)) ean))) fun _ _ => ⟨W, hp⟩)) (fun hb H5 x5 => ?_) (fun hb H5 x5 => ss0 ?_) ?_)
  · dsimp only at hb
    have M5 := M4.then x5
    have i5 := x5 _ _ i4
    refine ssc (sfldM M5 i5 z (en D 5) (dcall D (c_unused_leave T) ((ua, u), l, day, kindM l p) (ead (dn D 0 (a1.tm M5.tm)) (ead (dn D 1 (a2.tm M5.tm)) (ead (dcall D (c_kind_of T) (l, p) (ead (dn D 0 (a1.tm M5.tm)) (ead (dn D 2 (a3.tm M5.tm)) ean)) fun _ _ => hp) (eav (en D 4) ean)))) fun H6 x6 => ⟨U M5 H6 x6, W⟩) T.k_Met T.n_Met_leave fun u6 H6 M6 m6 i6 s6 => ?_)
    dsimp only at s6
    have e6 : putF "leave" u6 (metF day p u2 u3 u4 false w4) = (metF day p u2 u3 u4 false u6) := by kernel_rfl
    have i6 : H6 a = some (.ins (He.ga X.K "Met") dx (metF day p u2 u3 u4 false u6)) := e6 ▸ i6
    refine ss1 (sfldM M6 i6 z (en D 5) (isNv (ED.ev (efld (en D 5) i6 T.k_Met T.n_Met_leave (by kernel_rfl)) s6)) T.k_Met T.n_Met_lacks fun u7 H7 M7 m7 i7 s7 => ⟨rfl, M7, ?_⟩)
    obtain rfl := s7.bl_iff
    have tm57 : Tm H5 H7 := m6.tm.trans m7.tm
    have e7 : putF "lacks" (V.bl (isNone (oS (unusedM l day (kindM l p) u)))) (metF day p u2 u3 u4 false u6) = (metF day p u2 u3 u4 (isNone (oS (unusedM l day (kindM l p) u))) u6) := by kernel_rfl
    have i7 := e7 ▸ i7
    refine ⟨a, dx, u2, u3, u4, u6, rfl, ?_, s2.tm (((m3.tm.trans m4.tm).trans (.ex x5)).trans tm57), s3.tm ((m4.tm.trans (.ex x5)).trans tm57), s4.tm ((Tm.ex x5).trans tm57), ?_⟩
    · rw [i7]
      unfold lookM
      rw [hb]
      cases unusedM l day (kindM l p) u <;> rfl
    · unfold lookM
      rw [hb]
      exact s6.tm m7.tm
  · dsimp only at hb
    refine ⟨rfl, M4.then x5, a, dx, u2, u3, u4, w4, rfl, ?_, (s2.tm (m3.tm.trans m4.tm)).ex x5, (s3.tm m4.tm).ex x5, s4.ex x5, ?_⟩
    · rw [x5 _ _ i4]
      unfold lookM
      rw [hb] <;> rfl
    · unfold lookM
      rw [hb]
      exact (t4.tm tmA).ex x5
  · rintro σ' H5 ⟨rfl, M5, mi⟩
    refine ss1 (retV (en D 5) fun H6 x6 => hq _ H6 ⟨(M5.then x6).to_ex fun y hy => by rw [List.mem_singleton.mp hy]; exact h0, a, rfl, h0, mi.mo (.ex x6 (S := [])) (fun _ _ => List.not_mem_nil)⟩)
end
end G
namespace G
open PySem PySem.Spec PyProof.Rows L2 Evl
/-- the met: instances that were not there in H0 -/
inductive MetsI (K : PySem.W.Frag) (H0 H : Hp) (day : Int) : List V → List (Str × MetM) → Prop
  | nil : MetsI K H0 H day [] []
  | cons {a : Addr} {p : Str} {m : MetM} {vs : List V} {ms : List (Str × MetM)} : H0 a = none → MetI K H (.ref a) day p m → MetsI K H0 H day vs ms → MetsI K H0 H day (.ref a :: vs) ((p, m) :: ms)
section
variable {K : PySem.W.Frag} {H0 H H' : Hp} {day : Int} {S : List Addr}
theorem MetI.at {v : V} {p : Str} {m : MetM} (h : MetI K H v day p m) : ∃ a C dx fs, v = .ref a ∧ H a = some (.ins C dx fs) := by
  obtain ⟨a, dx, v1, v2, v3, v4, rfl, h0, _⟩ := h
  exact ⟨a, _, dx, _, rfl, h0⟩
theorem MetI.moS {v : V} {p : Str} {m : MetM} (M : Mo S H H') (hs : ∀ a ∈ S, ∀ C dx fs, H a ≠ some (.ins C dx fs)) (h : MetI K H v day p m) : MetI K H' v day p m := h.mo M fun a e ha => by
  obtain ⟨b, C, dx, fs, e2, hb⟩ := h.at
  rw [e] at e2
  cases e2
  exact hs a ha C dx fs hb
theorem MetsI.mo (M : Mo S H H') (hs : ∀ a ∈ S, ∀ C dx fs, H a ≠ some (.ins C dx fs)) : ∀ {vs : List V} {ms : List (Str × MetM)}, MetsI K H0 H day vs ms → MetsI K H0 H' day vs ms
  | _, _, .nil => .nil
  | _, _, .cons a b c => .cons a (b.moS M hs) (MetsI.mo M hs c)
theorem MetsI.app : ∀ {vs us : List V} {ms ns : List (Str × MetM)}, MetsI K H0 H day vs ms → MetsI K H0 H day us ns → MetsI K H0 H day (vs ++ us) (ms ++ ns)
  | _, _, _, _, .nil, h => h
  | _, _, _, _, .cons a b c, h => .cons a b (MetsI.app c h)
theorem MetsI.length : ∀ {vs : List V} {ms : List (Str × MetM)}, MetsI K H0 H day vs ms → vs.length = ms.length
  | _, _, .nil => rfl
  | _, _, .cons _ _ c => congrArg Nat.succ (MetsI.length c)
theorem MetsI.old {H1 : Hp} (x : ∀ a, H0 a = none → H1 a = none) : ∀ {vs : List V} {ms : List (Str × MetM)}, MetsI K H0 H day vs ms → MetsI K H1 H day vs ms
  | _, _, .nil => .nil
  | _, _, .cons a b c => .cons (x _ a) b (MetsI.old x c)
theorem MetsI.get {i : Nat} {u : V} : ∀ {i : Nat} {vs : List V} {ms : List (Str × MetM)}, MetsI K H0 H day vs ms → vs[i]? = some u → ∃ q, ms[i]? = some q ∧ MetI K H u day q.1 q.2
  | _, _, _, .nil, e => by simp at e
  | 0, _, _, .cons a b c, e => by simp at e; subst e; exact ⟨_, rfl, b⟩
  | i + 1, _, _, .cons a b c, e => by
    obtain ⟨q, h1, h2⟩ := MetsI.get (i := i) (u := u) c (by simpa using e)
    exact ⟨q, by simpa using h1, h2⟩
end
theorem step2_len (l : List Deed) (day : Int) : ∀ (ps : List Str) (s : List Going × List (Str × MetM)), (ps.foldl (step2 l day) s).2.length ≤ s.2.length + ps.length
  | [], _ => Nat.le_refl _
  | p :: r, s => by
    have h1 := step2_len l day r (step2 l day s p)
    have h2 : (step2 l day s p).2.length ≤ s.2.length + 1 := by
      unfold step2
      dsimp only
      split
      · rw [List.length_append]
        exact Nat.le_refl _
      · omega
    rw [List.foldl_cons, List.length_cons]
    omega
theorem goneV_put {g : Gone} {p : Str} {d : Int} (h : getG g p = none) : putK (goneV g) (.inr p) (.int d) = goneV (g ++ [(p, d)]) := by
  have e : valV (goneV g) (.inr p) = none := by
    have := goneV_is g p
    rw [h] at this
    exact Option.isSome_eq_false_iff.mp this |> Option.isNone_iff_eq_none.mp
  rw [putK_new _ e]
  simp [goneV]
theorem usedV_put {u : List (Str × Str)} {n p : Str} (h : u.find? (fun q => decide (q.1 = n)) = none) : putK (usedV u) (.inr n) (.str p) = usedV (u ++ [(n, p)]) := by
  have e : valV (usedV u) (.inr n) = none := by
    have := (kd_used (K := default) (H := fun _ => none) u).is (n := n)
    unfold getP at this
    rw [h] at this
    exact Option.isSome_eq_false_iff.mp this |> Option.isNone_iff_eq_none.mp
  rw [putK_new _ e]
  simp [usedV]
section
variable {P : Program} {w : World} {K : PySem.W.Frag} {mg : Str → Option Value} {base : Heap}
abbrev closeArgs (a : (Addr × Addr × List Going) × List Deed × Int) : List AV := [.d (dd a.2.1), .d (.int a.2.2), .v (.ref a.1.1), .v (.ref a.1.2.1)]
structure closePre (a : (Addr × Addr × List Going) × List Deed × Int) (H : Hp) : Prop where
  g : H a.1.1 = some (.dK (goneV (goneOf a.1.2.2)))
  u : H a.1.2.1 = some (.dK (usedV (usedOf a.1.2.2)))
  W : WF a.2.1
  ok : GsOk a.2.1 a.1.2.2
structure closeRes (K : PySem.W.Frag) (a : (Addr × Addr × List Going) × List Deed × Int) (H H' : Hp) (v : V) : Prop where
  mo : Mo [a.1.1, a.1.2.1] H H'
  g : H' a.1.1 = some (.dK (goneV (goneOf (closeM a.2.1 a.2.2 a.1.2.2))))
  u : H' a.1.2.1 = some (.dK (usedV (usedOf (closeM a.2.1 a.2.2 a.1.2.2))))
  met : ∃ q vs, v = .ref q ∧ H q = none ∧ H' q = some (.lst vs) ∧ MetsI K H H' a.2.2 vs (metsM a.2.1 a.2.2 a.1.2.2)
theorem c_close_day (T : Txt K mg) : Cal P w K mg base 9 "close_day" ["deeds", "day", "gone", "used"] (SpG K closeArgs (fun a H => closePre a H ∧ a.1.1 ≠ a.1.2.1) (closeRes K)) := by
  obtain ⟨fd, F⟩ := T.f_close_day
  refine mkCalG F T.g_close_day S_close_day H_close_day (fun _ _ _ _ _ _ us hl => match us, hl with | [_, _, _, _], _ => rfl) (fun _ => rfl) ?_
  rintro X rfl rfl rfl rfl rfl D ⟨⟨ga, ua, gs⟩, l, day⟩ vs H Q hv ⟨⟨hg, hu, W, ok⟩, hne⟩ hq
  dsimp only [closeArgs] at hv hg hu W ok hne hq
  obtain ⟨v1, v2, rfl, a1, a2⟩ := hv.ddvv
  obtain rfl := a2.int_iff
  have l40 := W.len
  have pl := papers_len l
  refine ssc (asg0 D 4 fun q hq0 => ?_)
  have x0 : Ex H (upd H q (.lst [])) := Ex.new hq0
  refine ssc (forT (xs := (papersM l).map .str) D (rcall D (c_papers T) (by decide) l (ead (dn D 0 (a1.ex x0)) ean) (fun _ _ => l40) (hR := fun _ _ _ _ _ r => r.td)) (fun H1 i σ' H' => (∃ w5 w6 vs, σ' = [some v1, some (.int day), some (.ref ga), some (.ref ua), some (.ref q), w5, w6] ∧ Mo [ga, ua] H H' ∧
      H' ga = some (.dK (goneV (goneOf (((papersM l).take i).foldl (step2 l day) (gs, [])).1))) ∧ H' ua = some (.dK (usedV (usedOf (((papersM l).take i).foldl (step2 l day) (gs, [])).1))) ∧ H' q = some (.lst vs) ∧ MetsI X.K H H' day vs (((papersM l).take i).foldl (step2 l day) (gs, [])).2) ∧ Tm H1 H')
    (fun H1 x => ⟨⟨none, none, [], rfl, .ex (x0.trans x), (x0.trans x) _ _ hg, (x0.trans x) _ _ hu, x _ _ upd_same, .nil⟩, Tm.refl _⟩) (fun _ _ _ _ h => h.2) ?_ ?_)
  · rintro H1 i d v σ' H' x1 hi ⟨⟨w5, w6, vs, rfl, M, hg', hu', hk, ms⟩, tm⟩ tv
    obtain ⟨p, hx, rfl⟩ := map_at hi
    obtain rfl := tv.str_iff
    have hp : p ∈ papersM l := List.mem_of_getElem? hx
    have ok' : GsOk l (((papersM l).take i).foldl (step2 l day) (gs, [])).1 := by
      rw [step2_fst]
      exact ok.steps fun y hy => List.mem_of_mem_take hy
    have ml := step2_len l day ((papersM l).take i) (gs, [])
    rw [List.length_take, List.length_nil, Nat.zero_add] at ml
    have enx : ((papersM l).take (i + 1)).foldl (step2 l day) (gs, []) = step2 l day (((papersM l).take i).foldl (step2 l day) (gs, [])) p := by
      rw [take_more hx, List.foldl_append] <;> rfl
    rw [enx]
    generalize ((papersM l).take i).foldl (step2 l day) (gs, []) = s at hg' hu' ms ok' ml
    obtain ⟨g, mt⟩ := s
    dsimp only at hg' hu' ms ok' ml
    have vl := ms.length
    obtain ⟨dd', kk, mm, hr⟩ := row_of_mem hp
    have ec : comeM l p = dd' := by unfold comeM; rw [hr] <;> rfl
    have es : step2 l day (g, mt) p = (stepM l day g p, if dueB l day g p then mt ++ [(p, seeM l day g p)] else mt) := rfl
    rw [es]
    dsimp only
    have gl := ok'.len W
    refine g1 D 5 (ss1 (sif (c := dueB l day g p) (EW.et (tandc (ET.to (leI (dix (dcall D (c_row_of T) (l, p, .paper dd' p kk mm) (ead (dn D 0 (a1.tm M.tm)) (ead (dns D 5) ean)) fun _ _ => hr) di at1) (dni D 1)) (by rw [ec] <;> rfl)) fun _ => tand1 (ET.to (tnotin D (dns D 5) (en D 2) hg') (by rw [goneV_is])))) (fun hb H3 x3 => ?_) fun hb H3 x3 => ss0 ?_))
    · obtain ⟨h1, h2⟩ := due_iff.mp hb
      have M3 := M.then x3
      rw [if_pos hb]
      refine ssc (asgW D 6 (gcall D (c_look T) (by decide) (ead (dn D 0 (a1.tm M3.tm)) (ead (dni D 1) (ead (dns D 5) (eav (en D 2) (eav (en D 3) ean))))) fun H4 x4 => ⟨((ga, ua, goneOf g, usedOf g), l, day, p), rfl, ⟨(x3.trans x4) _ _ hg', (x3.trans x4) _ _ hu', W, hp⟩, fun v H5 ⟨x5, m, e, hm0, mi⟩ => ?_⟩))
      subst e
      have y5 := (x3.trans x4).trans x5
      have M5 := M.then y5
      have hm0H : H m = none := by
        cases q' : H m with
        | none => rfl
        | some o =>
          have : m ≠ ga ∧ m ≠ ua := by
            constructor
            · rintro rfl
              rw [(x3.trans x4) _ _ hg'] at hm0
              cases hm0
            · rintro rfl
              rw [(x3.trans x4) _ _ hu'] at hm0
              cases hm0
          have := (M.then (x3.trans x4)).keep m o (by simp [this.1, this.2]) q'
          rw [this] at hm0
          cases hm0
      have hkq : ∀ C dx fs, H5 q ≠ some (.ins C dx fs) := fun C dx fs z => by rw [y5 _ _ hk] at z; cases z
      refine ssc (sappV (en D 4) (y5 _ _ hk) (by omega) (en D 6) fun H6 x6 => ?_)
      have y6 := y5.trans x6
      have M6 : Mo [ga, ua] H (upd H6 q (.lst (vs ++ [.ref m]))) := (M.then y6).new hq0
      have N6 : Mo [q] H6 (upd H6 q (.lst (vs ++ [.ref m]))) := (Mo.refl [q] H6).put (y6 _ _ hk) nt_lst (List.mem_singleton.mpr rfl)
      have nq : ∀ a ∈ [q], ∀ C dx fs, H6 a ≠ some (.ins C dx fs) := fun a ha C dx fs z => by
        rw [List.mem_singleton.mp ha, y6 _ _ hk] at z
        cases z
      have mi6 : MetI X.K (upd H6 q (.lst (vs ++ [.ref m]))) (.ref m) day p (seeM l day g p) := (mi.mo (.ex x6 (S := [])) (fun _ _ => List.not_mem_nil)).moS N6 nq
      have ms6 : MetsI X.K H (upd H6 q (.lst (vs ++ [.ref m]))) day (vs ++ [.ref m]) (mt ++ [(p, seeM l day g p)]) := ((ms.mo (.ex y6 (S := [])) (fun _ h => by simp at h)).mo N6 nq).app (.cons hm0H mi6 .nil)
      have nga : ga ≠ q := fun e => by rw [e, hq0] at hg; cases hg
      have nua : ua ≠ q := fun e => by rw [e, hq0] at hu; cases hu
      have g6 : upd H6 q (.lst (vs ++ [.ref m])) ga = some (.dK (goneV (goneOf g))) := by rw [upd_ne nga]; exact y6 _ _ hg'
      have u6 : upd H6 q (.lst (vs ++ [.ref m])) ua = some (.dK (usedV (usedOf g))) := by rw [upd_ne nua]; exact y6 _ _ hu'
      have q6 : upd H6 q (.lst (vs ++ [.ref m])) q = some (.lst (vs ++ [.ref m])) := upd_same
      have t6 : Tm H1 (upd H6 q (.lst (vs ++ [.ref m]))) := (tm.trans (.ex y6)).trans (Tm.lst (y6 _ _ hk))
      generalize upd H6 q (.lst (vs ++ [.ref m])) = H7 at M6 mi6 ms6 g6 u6 q6 t6
      have mi7 := mi6
      obtain ⟨am, dx, u1, u2, u3, u4, e, i6, t1', t2', t3', t4'⟩ := mi6
      cases e
      refine ss1 (sif (tval (ED.ofBl (dmeth0 D (c_is_let T) T.k_Met (by decide) (en D 6) i6 (by kernel_rfl) fun H8 x8 => ⟨(.ref m, day, p, seeM l day g p), rfl, ⟨mi7.mo (.ex x8 (S := [])) (fun _ _ => List.not_mem_nil), look_shp W _ _ _ _⟩, fun v H9 r => r⟩))) (fun hlet H8 x8 => ?_) fun hlet H8 x8 => ss0 ?_)
      · refine ssc (sputD D (dni D 1) (en D 2) (dns D 5) (x8 _ _ g6) (by rw [show (goneV (goneOf g)).length = g.length by simp [goneV, goneOf]]; omega) fun v9 H9 x9 t9 => ?_)
        obtain rfl := t9.int_iff
        rw [goneV_put h2]
        have y9 := x8.trans x9
        have N9 : Mo [ga, ua] H7 (upd H9 ga (.dK (goneV (goneOf g ++ [(p, day)])))) := (Mo.ex y9).put (y9 _ _ g6) nt_dK (by simp)
        have nS : ∀ a ∈ [ga, ua], ∀ C dx fs, H7 a ≠ some (.ins C dx fs) := fun a ha C dx fs z => by
          rcases List.mem_cons.mp ha with rfl | ha
          · rw [g6] at z
            cases z
          · rw [List.mem_singleton.mp ha, u6] at z
            cases z
        have g9 : upd H9 ga (.dK (goneV (goneOf g ++ [(p, day)]))) ga = some (.dK (goneV (goneOf g ++ [(p, day)]))) := upd_same
        have u9 : upd H9 ga (.dK (goneV (goneOf g ++ [(p, day)]))) ua = some (.dK (usedV (usedOf g))) := by rw [upd_ne (Ne.symm hne)]; exact y9 _ _ u6
        have q9 : upd H9 ga (.dK (goneV (goneOf g ++ [(p, day)]))) q = some (.lst (vs ++ [.ref m])) := by rw [upd_ne (Ne.symm nga)]; exact y9 _ _ q6
        have i9 := N9.keep _ _ (by
          intro z
          exact nS _ z _ _ _ i6) i6
        have t49 := t4'.tm N9.tm
        have ms9 := ms6.mo N9 nS
        have M9 := M6.trans N9
        have t9 : Tm H1 (upd H9 ga (.dK (goneV (goneOf g ++ [(p, day)])))) := t6.trans N9.tm
        generalize upd H9 ga (.dK (goneV (goneOf g ++ [(p, day)]))) = HA at N9 g9 u9 q9 i9 t49 ms9 M9 t9
        have eg : stepM l day g p = g ++ [⟨p, day, (seeM l day g p).leave⟩] := by rw [step_eq, if_pos hb, if_pos hlet]
        refine ss1 (sif (notN (ED.ev (efld (en D 6) i9 T.k_Met T.n_Met_leave (by kernel_rfl)) t49)) (fun hn HB xB => ?_) fun hn HB xB => ss0 ?_)
        · cases elv : (seeM l day g p).leave with
          | none =>
            rw [elv] at hn
            cases hn
          | some lv =>
            rw [elv] at t49
            have hnew : (usedOf g).find? (fun q => decide (q.1 = lv)) = none := by
              have : (if needsM l day p then unusedM l day (kindM l p) (usedOf g) else none) = some lv := elv
              split at this
              · exact (unused_new this).1
              · cases this
            refine ss1 (sputD D (dns D 5) (en D 3) (ED.ev (efld (en D 6) (xB _ _ i9) T.k_Met T.n_Met_leave (by kernel_rfl)) (t49.ex xB)) (xB _ _ u9) (by
              have := used_len g
              rw [show (usedV (usedOf g)).length = (usedOf g).length by simp [usedV]]
              omega) fun vC HC xC tC => ⟨⟨_, _, vs ++ [.ref m], rfl, (M9.then (xB.trans xC)).put ((xB.trans xC) _ _ u9) nt_dK (by simp), ?_, ?_, ?_, ?_⟩, (t9.trans (.ex (xB.trans xC))).trans (Tm.dK ((xB.trans xC) _ _ u9))⟩)
            · rw [upd_ne hne, eg, goneOf_app]
              exact (xB.trans xC) _ _ g9
            · obtain rfl := tC.str_iff
              rw [upd_same, usedV_put hnew, eg, usedOf_app, elv]
            · rw [upd_ne (Ne.symm nua)]
              exact (xB.trans xC) _ _ q9
            · refine (ms9.mo (.ex (xB.trans xC) (S := [])) (fun _ h => by simp at h)).mo ((Mo.refl [ua] HC).put ((xB.trans xC) _ _ u9) nt_dK (List.mem_singleton.mpr rfl)) fun a ha C dx fs z => ?_
              rw [List.mem_singleton.mp ha, (xB.trans xC) _ _ u9] at z
              cases z
        · have elv : (seeM l day g p).leave = none := by
            cases elv : (seeM l day g p).leave with
            | none => rfl
            | some lv =>
              rw [elv] at hn
              cases hn
          refine ⟨⟨_, _, _, rfl, M9.then xB, ?_, ?_, xB _ _ q9, ms9.mo (.ex xB (S := [])) (fun _ h => by simp at h)⟩, t9.trans (.ex xB)⟩
          · rw [eg, goneOf_app]
            exact xB _ _ g9
          · rw [eg, usedOf_app, elv, List.append_nil]
            exact xB _ _ u9
      · have eg : stepM l day g p = g := by rw [step_eq, if_pos hb, if_neg (by rw [hlet]; decide)]
        rw [eg]
        exact ⟨⟨_, _, _, rfl, M6.then x8, x8 _ _ g6, x8 _ _ u6, x8 _ _ q6, ms6.mo (.ex x8 (S := [])) (fun _ h => by simp at h)⟩, t6.trans (.ex x8)⟩
    · have eg : stepM l day g p = g := by rw [step_eq, if_neg (by rw [hb]; decide)]
      rw [eg, if_neg (by rw [hb]; decide)]
      exact ⟨⟨_, _, _, rfl, M.then x3, x3 _ _ hg', x3 _ _ hu', x3 _ _ hk, ms.mo (.ex x3 (S := [])) (fun _ h => by simp at h)⟩, tm.trans (.ex x3)⟩
  · rintro H1 σ' H' x1 ⟨⟨w5, w6, vs, rfl, M, hg', hu', hk, ms⟩, tm⟩
    rw [List.length_map, List.take_length] at hg' hu' ms
    rw [step2_fst] at hg' hu'
    exact ss1 (retV (en D 4) fun H2 x2 => hq _ H2 ⟨M.then x2, x2 _ _ hg', x2 _ _ hu', q, vs, rfl, hq0, x2 _ _ hk, ms.mo (.ex x2 (S := [])) (fun _ h => by simp at h)⟩)
end
end G
namespace G
open PySem PySem.Spec PyProof.Rows L2 Evl
section
variable {P : Program} {w : World} {K : PySem.W.Frag} {mg : Str → Option Value} {base : Heap}
abbrev Sp5 := Bool × Str × Since × Int × Str
abbrev spanOf (a : Sp5) : Parts := .span a.1 a.2.1 a.2.2.1 a.2.2.2.1 a.2.2.2.2
theorem sumLen {α : Type} {f : α → List Int} {n : Nat} (h : ∀ x, (f x).length ≤ n) : ∀ l : List α, (l.flatMap f).length ≤ l.length * n
  | [] => Nat.zero_le _
  | x :: r => by
    have ih := sumLen h r
    have := h x
    rw [List.flatMap_cons, List.length_append, List.length_cons, Nat.succ_mul]
    omega
theorem c_reckonings (T : Txt K mg) : Cal P w K mg base 5 "reckonings" ["deeds", "parts"] (SpL K (fun a : List Deed × Sp5 => [.d (dd a.1), .d (spanOf a.2).d]) (fun a _ => WF a.1 ∧ (spanOf a.2).ok) (fun a => (reckonsM a.1 (spanOf a.2)).map .int)) := by
  obtain ⟨fd, F⟩ := T.f_reckonings
  refine mkCal F T.g_reckonings S_reckonings H_reckonings (fun _ _ _ _ _ _ us hl => match us, hl with | [_, _], _ => rfl) (fun _ => rfl) ?_
  rintro X rfl rfl rfl rfl rfl D ⟨l, keep, kd, s, m, u⟩ vs H Q hv ⟨W, ok⟩ hq
  dsimp only [spanOf] at hv W ok hq
  obtain ⟨v1, v2, rfl, a1, a2⟩ := hv.d2
  have l40 := W.len
  have pl := papers_len l
  obtain ⟨_, hs, hm, hu⟩ := ok
  refine ssc (asg0 D 2 fun q hq0 => ?_)
  have x0 : Ex H (upd H q (.lst [])) := Ex.new hq0
  refine ssc (forT (xs := (papersM l).map .str) D (rcall D (c_papers T) (by decide) l (ead (dn D 0 (a1.ex x0)) ean) (fun _ _ => l40) (hR := fun _ _ _ _ _ r => r.td)) (fun H1 i σ' H' => (∃ w3 xs, σ' = [some v1, some v2, some (.ref q), w3, none] ∧ Ex H H' ∧ H' q = some (.lst xs) ∧
      TDs X.K H' xs (((((papersM l).take i).filter fun p => decide (kindM l p = kd)).flatMap fun p => (basesM l s p).map fun b => laterM b m u).map .int)) ∧ Tm H1 H')
    (fun H1 x => ⟨⟨none, [], rfl, x0.trans x, x _ _ upd_same, .nil⟩, Tm.refl _⟩) (fun _ _ _ _ h => h.2) ?_ ?_)
  · rintro H1 i d v σ' H' x1 hi ⟨⟨w3, xs, rfl, x2, hk, kd'⟩, tm⟩ tv
    obtain ⟨p, hx, rfl⟩ := map_at hi
    have hp : p ∈ papersM l := List.mem_of_getElem? hx
    have kl := kd'.length
    rw [List.length_map] at kl
    have bl : ∀ p, ((basesM l s p).map fun b => laterM b m u).length ≤ 41 := fun p => by
      rw [List.length_map]
      have := bases_len l s p
      omega
    have kl2 := sumLen bl (((papersM l).take i).filter fun p => decide (kindM l p = kd))
    have kl3 : (((papersM l).take i).filter fun p => decide (kindM l p = kd)).length ≤ 40 := by
      have := List.length_filter_le (fun p => decide (kindM l p = kd)) ((papersM l).take i)
      rw [List.length_take] at this
      omega
    refine g1 D 3 (ss1 (sif (eqS (dcall D (c_kind_of T) (l, p) (ead (dn D 0 (a1.ex x2)) (ead (dn D 3 tv) ean)) fun _ _ => hp) (dix (dn D 1 (a2.ex x2)) di at1)) (fun hb H3 x3 => ?_) fun hb H3 x3 => ss0 ?_))
    · have hb : decide (kindM l p = kd) = true := hb
      have blp := bases_len l s p
      refine ss1 (sext (ds := (basesM l s p).map fun b => .int (laterM b m u)) (en D 2) (x3 _ _ hk) (by rw [List.length_map]; omega) (lcL0 .int (basesM l s p) (fun b => .int (laterM b m u)) D [("base", 4)] (lcall D (c_bases T) (l, s, p) (ead (dn D 0 (a1.ex (x2.trans x3))) (ead (dix (dn D 1 (a2.ex (x2.trans x3))) di at2) (ead (dn D 3 (tv.ex x3)) ean))) fun _ _ => ⟨W, hp, hs⟩) (by omega) fun H4 b v x4 hb' tb =>
        t1 D 4 (fun _ => rfl) fun _ bk => dcall (D.b bk) (c_later T) (b, m, u) (ead (dn (D.b bk) 4 tb) (ead (dix (dn (D.b bk) 1 (a2.ex ((x2.trans x3).trans x4))) di at3) (ead (dix (dn (D.b bk) 1 (a2.ex ((x2.trans x3).trans x4))) di at4) ean))) fun _ _ => ⟨bases_nn W hp hb', hm, hu⟩) fun us H4 x4 tus => ?_)
      refine ⟨⟨_, _, rfl, Ex.mut ((x2.trans x3).trans x4) hq0, upd_same, ?_⟩, ((tm.trans (.ex x3)).trans (.ex x4)).trans (Tm.lst (x4 _ _ (x3 _ _ hk)))⟩
      rw [take_more hx, List.filter_append, List.flatMap_append, List.map_append, List.filter_cons, if_pos hb]
      refine ((kd'.ex (x3.trans x4)).append ?_).tm (Tm.lst (x4 _ _ (x3 _ _ hk)))
      simp only [List.filter_nil, List.flatMap_cons, List.flatMap_nil, List.append_nil, List.map_map]
      exact tus
    · have hb : decide (kindM l p = kd) = false := hb
      refine ⟨⟨_, _, rfl, x2.trans x3, x3 _ _ hk, ?_⟩, tm.trans (.ex x3)⟩
      rw [take_more hx, List.filter_append, List.flatMap_append, List.map_append, List.filter_cons, if_neg (by rw [hb]; decide), List.filter_nil, List.flatMap_nil, List.map_nil, List.append_nil]
      exact kd'.ex x3
  · rintro H1 σ' H' x1 ⟨⟨w3, xs, rfl, x2, hk, kd'⟩, _⟩
    rw [List.length_map, List.take_length] at kd'
    exact ss1 (retV (en D 2) fun H3 x3 => hq _ H3 (x2.trans x3) ⟨q, xs, rfl, hq0, x3 _ _ hk, kd'.ex x3⟩)
theorem c_turning_days (T : Txt K mg) : Cal P w K mg base 6 "turning_days" ["deeds"] (SpD K (fun l : List Deed => [.d (dd l)]) (fun l _ => WF l ∧ (turnSet l).length ≤ 59) (fun l => .tuple ((turningM l).map .int))) := by
  obtain ⟨fd, F⟩ := T.f_turning_days
  refine mkCal F T.g_turning_days S_turning_days H_turning_days (fun _ _ _ _ _ _ us hl => match us, hl with | [_], _ => rfl) (fun _ => rfl) ?_
  rintro X rfl rfl rfl rfl rfl D l vs H Q hv ⟨W, few⟩ hq
  dsimp only at hv W few hq
  obtain ⟨v1, rfl, a1⟩ := hv.d1
  have l40 := W.len
  refine ssc (asgN D 1 fun q hq0 => ?_)
  have x0 : Ex H (upd H q (.dK [])) := Ex.new hq0
  refine ssc (forT D (dn D 0 (a1.ex x0)) (fun H1 i σ' H' => (∃ w2 w3, σ' = [some v1, some (.ref q), w2, w3] ∧ Ex H H' ∧ H' q = some (.dK (setV (((l.take i).flatMap (turnsOf l)).foldl putI [])))) ∧ Tm H1 H')
    (fun H1 x => ⟨⟨none, none, rfl, x0.trans x, x _ _ upd_same⟩, Tm.refl _⟩) (fun _ _ _ _ h => h.2) ?_ ?_)
  · rintro H1 i d v σ' H' x1 hi ⟨⟨w2, w3, rfl, x2, hk⟩, tm⟩ tv
    obtain ⟨x, hx, rfl⟩ := map_at hi
    have hxl : x ∈ l := List.mem_of_getElem? hx
    have hpre := turn_pre (l := l) i
    have hpre2 := turn_pre (l := l) (i + 1)
    rw [take_flat hx, List.foldl_append] at hpre2
    rw [take_flat hx, List.foldl_append]
    generalize ((l.take i).flatMap (turnsOf l)).foldl putI [] = S at hk hpre hpre2
    refine g1 D 2 (ssc (sputI D db (en D 1) (dix (dn D 2 tv) di at1) hk (by unfold setV; rw [List.length_map]; omega) fun u H3 x3 tu => ?_))
    obtain rfl := tu.bl_iff
    rw [setV_put]
    have tm3 : Tm H' (upd H3 q (.dK (setV (putI S x.day)))) := (Tm.ex x3).trans (Tm.dK (x3 _ _ hk))
    have tv3 := tv.tm tm3
    have y3 : Ex H (upd H3 q (.dK (setV (putI S x.day)))) := Ex.mut (x2.trans x3) hq0
    have k3 : upd H3 q (.dK (setV (putI S x.day))) q = some (.dK (setV (putI S x.day))) := upd_same
    generalize upd H3 q (.dK (setV (putI S x.day))) = H4 at tm3 tv3 y3 k3
    refine ss1 (sif (c := isSpan x) (ET.to (EW.et (tandc (c2 := isSpan x) (eqS (dix (dn D 2 tv3) di at0) ds) fun hw => tand1 (ET.to ?_ (span_word (rule_parts W hxl hw) hw)))) ?_) (fun hb H5 x5 => ?_) fun hb H5 x5 => ss0 ?_)
    · obtain ⟨dy, n, p, rfl⟩ := isW_rule hw
      exact inT (xs := ["keep", "gone"]) (dix (dix (dn D 2 tv3) di at3) di at0) (dtup (xs := [.str "keep", .str "gone"]) (ead ds (ead ds ean)))
    · cases e : isSpan x with
      | false => simp
      | true =>
        have : decide (x.word = "rule") = true := (span_rule e).1
        rw [this] <;> rfl
    · obtain ⟨hw, kp, kd, s, m, u, ep⟩ := span_rule hb
      have okp := rule_parts W hxl hw
      obtain ⟨dy, n, p, rfl⟩ := isW_rule hw
      have ep : p = .span kp kd s m u := ep
      subst ep
      have hrest : turnsOf l (.rule dy n (.span kp kd s m u)) = dy :: reckonsM l (.span kp kd s m u) := rfl
      rw [hrest, List.foldl_cons] at hpre2 ⊢
      have hpl := (putsI_len (reckonsM l (.span kp kd s m u)) (putI S dy)).1
      refine ss1 (forL (xs := (reckonsM l (.span kp kd s m u)).map .int) D (lcall D (c_reckonings T) (l, kp, kd, s, m, u) (ead (dn D 0 (a1.ex (y3.trans x5))) (ead (dix (dn D 2 (tv3.ex x5)) di at3) ean)) fun _ _ => ⟨W, okp⟩)
        (fun r H6 j σ' H' => (∃ w3, σ' = [some v1, some (.ref q), some v, w3] ∧ Ex H H' ∧ H' q = some (.dK (setV (((reckonsM l (.span kp kd s m u)).take j).foldl putI (putI S dy))))) ∧ Tm H6 H' ∧ Tm H4 H' ∧ r ≠ q ∧ ∀ vs, H6 r = some (.lst vs) → H' r = some (.lst vs))
        (fun r H6 hr x6 => ⟨⟨w3, rfl, (y3.trans x5).trans x6, (x5.trans x6) _ _ k3⟩, Tm.refl _, .ex (x5.trans x6), fun e => (by rw [e, x5 _ _ k3] at hr; cases hr), fun _ h => h⟩) (fun r H6 j σ' H' h => h.2.1) (fun r H6 vs j σ' H' x hr h1 h => h.2.2.2.2 vs h1) ?_ ?_)
      · rintro r H6 j d v' σ' H7 x6 hj ⟨⟨w3', rfl, x7, hk7⟩, tm7, tm47, hne, hr⟩ tv'
        obtain ⟨y, hy, rfl⟩ := map_at hj
        obtain rfl := tv'.int_iff
        have hb1 := putsI_len ((reckonsM l (.span kp kd s m u)).take j) (putI S dy)
        have hb2 : (((reckonsM l (.span kp kd s m u)).take j).foldl putI (putI S dy)).length ≤ ((reckonsM l (.span kp kd s m u)).foldl putI (putI S dy)).length := by
          conv => rhs; rw [← List.take_append_drop j (reckonsM l (.span kp kd s m u))]
          rw [List.foldl_append]
          exact (putsI_len _ _).1
        refine g1 D 3 (ss1 (sputI D db (en D 1) (dni D 3) hk7 (by unfold setV; rw [List.length_map]; omega) fun u8 H8 x8 t8 => ?_))
        obtain rfl := t8.bl_iff
        rw [setV_put]
        have tm8 : Tm H7 (upd H8 q (.dK (setV (putI (((reckonsM l (.span kp kd s m u)).take j).foldl putI (putI S dy)) y)))) := (Tm.ex x8).trans (Tm.dK (x8 _ _ hk7))
        refine ⟨⟨_, rfl, Ex.mut (x7.trans x8) hq0, ?_⟩, tm7.trans tm8, tm47.trans tm8, hne, fun vs h => ?_⟩
        · rw [upd_same, take_more hy, List.foldl_append] <;> rfl
        · rw [upd_ne hne]
          exact x8 _ _ (hr vs h)
      · rintro r H6 σ' H7 x6 ⟨⟨w3', rfl, x7, hk7⟩, tm7, tm47, _⟩
        rw [List.length_map, List.take_length] at hk7
        exact ⟨⟨_, _, rfl, x7, hk7⟩, (tm.trans tm3).trans tm47⟩
    · have hrest : turnsOf l x = [x.day] := by unfold turnsOf; rw [hb] <;> rfl
      rw [hrest]
      exact ⟨⟨_, _, rfl, y3.trans x5, x5 _ _ k3⟩, (tm.trans tm3).trans (.ex x5)⟩
  · rintro H1 σ' H' x1 ⟨⟨w2, w3, rfl, x2, hk⟩, _⟩
    rw [List.length_map, List.take_length] at hk
    have hk : H' q = some (.dK (setV (turnSet l))) := hk
    exact ss1 (retD (dtuple D T.m_tuple (lsortedDI D T.m_sorted (en D 1) hk (setV_keys _) (by omega))) fun v H2 x3 r => hq v H2 (x2.trans x3) r)
end
end G
namespace G
open PySem PySem.Spec PyProof.Rows L2 Evl
/-- instances of Met, each as some day met some paper -/
def AllMet (K : PySem.W.Frag) (H : Hp) (vs : List V) : Prop := ∀ u ∈ vs, ∃ day p m, MetI K H u day p m ∧ m.shp
abbrev walkF (vd : V) (ga ua qa : Addr) : List (Str × V) := [("deeds", vd), ("gone", .ref ga), ("used", .ref ua), ("met", .ref qa)]
structure WalkI (K : PySem.W.Frag) (H0 H : Hp) (a : Addr) (l : List Deed) (gs : List Going) : Prop where
  ex : ∃ dx vd ga ua qa vs, H a = some (.ins (He.ga K "Walk") dx (walkF vd ga ua qa)) ∧ (H0 a = none ∧ H0 ga = none ∧ H0 ua = none ∧ H0 qa = none) ∧ TD K H vd (dd l) ∧ H ga = some (.dK (goneV (goneOf gs))) ∧ H ua = some (.dK (usedV (usedOf gs))) ∧ H qa = some (.lst vs) ∧ AllMet K H vs ∧ ga ≠ ua ∧ vs.length ≤ 2400
theorem AllMet.mo {K : PySem.W.Frag} {S : List Addr} {H H' : Hp} {vs : List V} (M : Mo S H H') (hs : ∀ a ∈ S, ∀ C dx fs, H a ≠ some (.ins C dx fs)) (h : AllMet K H vs) : AllMet K H' vs := fun u hu => by
  obtain ⟨day, p, m, mi, ms⟩ := h u hu
  exact ⟨day, p, m, mi.moS M hs, ms⟩
theorem AllMet.ex {K : PySem.W.Frag} {H H' : Hp} {vs : List V} (x : Ex H H') (h : AllMet K H vs) : AllMet K H' vs := h.mo (.ex x (S := [])) fun _ h => by simp at h
theorem AllMet.app {K : PySem.W.Frag} {H : Hp} {vs us : List V} (h : AllMet K H vs) (h2 : AllMet K H us) : AllMet K H (vs ++ us) := fun u hu => by
  rcases List.mem_append.mp hu with q | q
  · exact h u q
  · exact h2 u q
theorem step2_shp {l : List Deed} (W : WF l) (day : Int) : ∀ (ps : List Str) (s : List Going × List (Str × MetM)), (∀ q ∈ s.2, q.2.shp) → ∀ q ∈ (ps.foldl (step2 l day) s).2, q.2.shp
  | [], _, h => h
  | p :: r, s, h => by
    rw [List.foldl_cons]
    refine step2_shp W day r (step2 l day s p) fun q hq => ?_
    unfold step2 at hq
    dsimp only at hq
    split at hq
    · rcases List.mem_append.mp hq with z | z
      · exact h q z
      · rw [List.mem_singleton.mp z]
        exact look_shp W _ _ _ _
    · exact h q hq
theorem MetsI.all {K : PySem.W.Frag} {H0 H : Hp} {day : Int} : ∀ {vs : List V} {ms : List (Str × MetM)}, (∀ q ∈ ms, q.2.shp) → MetsI K H0 H day vs ms → AllMet K H vs
  | _, _, _, .nil => fun u hu => by simp at hu
  | _, _, h, .cons a b c => fun u hu => by
    rcases List.mem_cons.mp hu with rfl | hu
    · exact ⟨_, _, _, b, h _ List.mem_cons_self⟩
    · exact MetsI.all (fun q hq => h q (List.mem_cons_of_mem _ hq)) c u hu
theorem mets_len (l : List Deed) (day : Int) (gs : List Going) : (metsM l day gs).length ≤ l.length := by
  have := step2_len l day (papersM l) (gs, [])
  have h2 := papers_len l
  unfold metsM
  simp only [List.length_nil] at this
  omega
section
variable {P : Program} {w : World} {K : PySem.W.Frag} {mg : Str → Option Value} {base : Heap}
theorem not_in2 {a b c : Addr} (h1 : c ≠ a) (h2 : c ≠ b) : c ∉ [a, b] := by simp [h1, h2]
theorem c_Walk_init (T : Txt K mg) : MakC P w K mg base 10 "Walk" (He.ga K "Walk") ["self", "deeds", "more"] (SpG K (fun a : (Addr × Addr) × List Deed × List Int => [.v (.ref a.1.1), .d (dd a.2.1), .d (.tuple (a.2.2.map .int))])
    (fun a H => H a.1.1 = some (.ins (He.ga K "Walk") a.1.2 []) ∧ WF a.2.1 ∧ (turnSet a.2.1).length ≤ 59 ∧ a.2.2.length ≤ 1)
    (fun a H H' v => v = .non ∧ Mo [a.1.1] H H' ∧ ∃ dx vd ga ua qa vs, H' a.1.1 = some (.ins (He.ga K "Walk") dx (walkF vd ga ua qa)) ∧ (H ga = none ∧ H ua = none ∧ H qa = none) ∧ TD K H' vd (dd a.2.1) ∧ H' ga = some (.dK (goneV (goneOf (runM a.2.1 (walkDays a.2.1 a.2.2) [])))) ∧ H' ua = some (.dK (usedV (usedOf (runM a.2.1 (walkDays a.2.1 a.2.2) [])))) ∧ H' qa = some (.lst vs) ∧ AllMet K H' vs ∧ ga ≠ ua ∧ vs.length ≤ 2400)) := by
  obtain ⟨f, fd, F, hk⟩ : ∃ f fd, FunD K "__init__" "Walk.__init__" (defArgs s_Walk_init) (defBody s_Walk_init) (defScope s_Walk_init) [] [] f fd ∧ Mk K (He.ga K "Walk") f := by
    obtain ⟨fd, F⟩ := T.f_Walk_init
    exact ⟨_, fd, F, T.mk_Walk⟩
  obtain ⟨h1, h2⟩ := mkFn (P := P) (w := w) (mg := mg) (base := base) (as := fun a : (Addr × Addr) × List Deed × List Int => [.v (.ref a.1.1), .d (dd a.2.1), .d (.tuple (a.2.2.map .int))])
    (pre := fun a H => H a.1.1 = some (.ins (He.ga K "Walk") a.1.2 []) ∧ WF a.2.1 ∧ (turnSet a.2.1).length ≤ 59 ∧ a.2.2.length ≤ 1)
    (R := fun a H H' v => v = .non ∧ Mo [a.1.1] H H' ∧ ∃ dx vd ga ua qa vs, H' a.1.1 = some (.ins (He.ga K "Walk") dx (walkF vd ga ua qa)) ∧ (H ga = none ∧ H ua = none ∧ H qa = none) ∧ TD K H' vd (dd a.2.1) ∧ H' ga = some (.dK (goneV (goneOf (runM a.2.1 (walkDays a.2.1 a.2.2) [])))) ∧ H' ua = some (.dK (usedV (usedOf (runM a.2.1 (walkDays a.2.1 a.2.2) [])))) ∧ H' qa = some (.lst vs) ∧ AllMet K H' vs ∧ ga ≠ ua ∧ vs.length ≤ 2400)
    (k := 9) F S_Walk_init H_Walk_init (fun _ _ _ _ _ _ us hl => match us, hl with | [_, _, _], _ => rfl) (fun _ => rfl) (by
    rintro X rfl rfl rfl rfl rfl D ⟨⟨a, dx⟩, l, more⟩ vs H Q hv ⟨hi, W, few, hmore⟩ hq
    dsimp only at hv hi W few hmore hq
    obtain ⟨ws, rfl, hv2⟩ := hv.cv
    obtain ⟨v1, v2, rfl, a1, a2⟩ := hv2.d2
    have l40 := W.len
    have z : a ∈ [a] ∨ H a = none := .inl (List.mem_singleton.mpr rfl)
    refine ssc (sfldM (Mo.refl [a] H) hi z (en D 0) (dn D 1 a1) T.k_Walk T.n_Walk_deeds fun vd H1 M1 m1 i1 t1 => ?_)
    refine ssc (sfldMR M1 i1 z (en D 0) ednew (fun H1 H2 v x r => by
      obtain ⟨q, e, h0, h1⟩ := r
      exact ⟨q, e, h0, x _ _ h1⟩) T.k_Walk T.n_Walk_gone fun v H2 H3 x2 r2 m3 M3 i3 => ?_)
    obtain ⟨ga, rfl, hg0, hg2⟩ := r2
    have nga : ga ≠ a := fun e => by rw [e, i1] at hg0; cases hg0
    have hg3 := m3.keep _ _ (by simpa using nga) hg2
    have t3 := (t1.ex x2).tm m3.tm
    refine ssc (sfldMR M3 i3 z (en D 0) ednew (fun H1 H2 v x r => by
      obtain ⟨q, e, h0, h1⟩ := r
      exact ⟨q, e, h0, x _ _ h1⟩) T.k_Walk T.n_Walk_used fun v H4 H5 x4 r4 m5 M5 i5 => ?_)
    obtain ⟨ua, rfl, hu0, hu4⟩ := r4
    have nua : ua ≠ a := fun e => by rw [e, i3] at hu0; cases hu0
    have ngu : ga ≠ ua := fun e => by rw [← e, hg3] at hu0; cases hu0
    have hu5 := m5.keep _ _ (by simpa using nua) hu4
    have hg5 := m5.keep _ _ (by simpa using nga) (x4 _ _ hg3)
    have t5 := (t3.ex x4).tm m5.tm
    refine ssc (sfldMR M5 i5 z (en D 0) elnew (fun H1 H2 v x r => by
      obtain ⟨q, e, h0, h1⟩ := r
      exact ⟨q, e, h0, x _ _ h1⟩) T.k_Walk T.n_Walk_met fun v H6 H7 x6 r6 m7 M7 i7 => ?_)
    obtain ⟨qa, rfl, hq0, hq6⟩ := r6
    have nqa : qa ≠ a := fun e => by rw [e, i5] at hq0; cases hq0
    have ngq : ga ≠ qa := fun e => by rw [← e, hg5] at hq0; cases hq0
    have nuq : ua ≠ qa := fun e => by rw [← e, hu5] at hq0; cases hq0
    have hq7 := m7.keep _ _ (by simpa using nqa) hq6
    have hg7 := m7.keep _ _ (by simpa using nga) (x6 _ _ hg5)
    have hu7 := m7.keep _ _ (by simpa using nua) (x6 _ _ hu5)
    have t7 := (t5.ex x6).tm m7.tm
    have i7 : H7 a = some (.ins (He.ga X.K "Walk") dx (walkF vd ga ua qa)) := i7
    have fga : H ga = none := M1.fresh hg0 (by simpa using nga)
    have fua : H ua = none := M3.fresh hu0 (by simpa using nua)
    have fqa : H qa = none := M5.fresh hq0 (by simpa using nqa)
    clear x2 x4 x6 m1 m3 m5 m7 M1 M3 M5 i1 i3 i5 t1 t3 t5 hg0 hg2 hg3 hg5 hu0 hu4 hu5 hq0 hq6
    have tlen := turning_len l
    have dlen : (walkDays l more).length ≤ 60 := by
      rw [walkDays_eq]
      unfold sortSet
      rw [List.length_mergeSort]
      have := (putsI_len (turningM l ++ more) []).2
      rw [List.length_append, List.length_nil] at this
      omega
    refine ss1 (forL (xs := (walkDays l more).map .int) D (ED.to (d' := .tuple ((turningM l ++ more).map .int)) (dcat (dcall D (c_turning_days T) l (ead (dn D 1 (a1.tm M7.tm)) ean) fun _ _ => ⟨W, few⟩) (dn D 2 (a2.tm M7.tm)) (by rw [List.length_map, List.length_map]; omega)) (by rw [List.map_append]) |> fun h => lsortedSet D T.m_sorted T.m_set h (by rw [List.length_append]; omega))
      (fun r H8 i σ' H' => (∃ w3 vs, σ' = [some (.ref a), some v1, some v2, w3] ∧ Mo [a] H H' ∧ H' a = some (.ins (He.ga X.K "Walk") dx (walkF vd ga ua qa)) ∧ TD X.K H' vd (dd l) ∧ H' ga = some (.dK (goneV (goneOf (runM l ((walkDays l more).take i) [])))) ∧ H' ua = some (.dK (usedV (usedOf (runM l ((walkDays l more).take i) [])))) ∧ H' qa = some (.lst vs) ∧ AllMet X.K H' vs ∧ vs.length ≤ 40 * i) ∧ Tm H8 H' ∧ (r ≠ ga ∧ r ≠ ua ∧ r ≠ qa) ∧ ∀ vs, H8 r = some (.lst vs) → H' r = some (.lst vs))
      (fun r H8 hr x8 => ⟨⟨none, [], rfl, M7.then x8, x8 _ _ i7, t7.ex x8, x8 _ _ hg7, x8 _ _ hu7, x8 _ _ hq7, (fun _ h => by simp at h), Nat.zero_le _⟩, Tm.refl _, ⟨fun e => (by rw [e, hg7] at hr; cases hr), fun e => (by rw [e, hu7] at hr; cases hr), fun e => (by rw [e, hq7] at hr; cases hr)⟩, fun _ h => h⟩)
      (fun r H8 j σ' H' h => h.2.1) (fun r H8 vs j σ' H' x hr h1 h => h.2.2.2 vs h1) ?_ ?_)
    · rintro r H8 i d v σ' H' x8 hi' ⟨⟨w3, vs, rfl, M, ia, td, hg, hu, hqa, am, hlen⟩, tm, ⟨nr1, nr2, nr3⟩, hr⟩ tv
      obtain ⟨day, hx, rfl⟩ := map_at hi'
      obtain rfl := tv.int_iff
      have hi60 := (List.getElem?_eq_some_iff.mp hx).1
      refine g1 D 3 (ss1 (sextW (l := qa) (efld (en D 0) ia T.k_Walk T.n_Walk_met (by kernel_rfl)) ⟨vs, hqa⟩ fun H9 x9 => gcall D (c_close_day T) (by decide) (ead (dn D 1 (a1.tm (M.then x9).tm)) (ead (dni D 3) (eav (efld (en D 0) (x9 _ _ ia) T.k_Walk T.n_Walk_gone (by kernel_rfl)) (eav (efld (en D 0) (x9 _ _ ia) T.k_Walk T.n_Walk_used (by kernel_rfl)) ean)))) fun HA xA => ⟨((ga, ua, runM l ((walkDays l more).take i) []), l, day), rfl, ⟨⟨(x9.trans xA) _ _ hg, (x9.trans xA) _ _ hu, W, (GsOk.nil l).run⟩, ngu⟩, fun v HB rB => ?_⟩))
      obtain ⟨mo, rg, ru, p, us, rfl, hp0, hp1, ms⟩ := rB
      dsimp only at mo rg ru ms
      have yA := x9.trans xA
      have MB : Mo [a] H HB := (M.then yA).free mo (by simp [fga, fua])
      have kB : ∀ c o, c ≠ ga → c ≠ ua → H' c = some o → HB c = some o := fun c o n1 n2 e => mo.keep c o (not_in2 n1 n2) (yA _ _ e)
      have nS : ∀ c ∈ [ga, ua], ∀ C dx fs, HA c ≠ some (.ins C dx fs) := fun c hc C dx fs z => by
        rcases List.mem_cons.mp hc with rfl | hc
        · rw [yA _ _ hg] at z
          cases z
        · rw [List.mem_singleton.mp hc, yA _ _ hu] at z
          cases z
      have amB := (am.ex yA).mo mo nS
      have usA : AllMet X.K HB us := ms.all (step2_shp W day (papersM l) _ fun q hq => by simp at hq)
      have uslen := ms.length
      have mlen := mets_len l day (runM l ((walkDays l more).take i) [])
      have hqB := kB _ _ (Ne.symm ngq) (Ne.symm nuq) hqa
      have nq : ∀ c ∈ [qa], ∀ C dx fs, HB c ≠ some (.ins C dx fs) := fun c hc C dx fs z => by
        rw [List.mem_singleton.mp hc, hqB] at z
        cases z
      have NB : Mo [qa] HB (upd HB qa (.lst (vs ++ us))) := (Mo.refl [qa] HB).put hqB nt_lst (List.mem_singleton.mpr rfl)
      have e1 : runM l ((walkDays l more).take (i + 1)) [] = closeM l day (runM l ((walkDays l more).take i) []) := by
        rw [take_more hx]
        unfold runM
        rw [List.foldl_append] <;> rfl
      refine ⟨p, vs, us, rfl, hqB, hp1, by omega, ⟨_, _, rfl, MB.free NB (by simp [fqa]), ?_, ?_, ?_, ?_, upd_same, (amB.app usA).mo NB nq, by rw [List.length_append]; omega⟩, ((tm.trans (.ex yA)).trans mo.tm).trans NB.tm, ⟨nr1, nr2, nr3⟩, fun xs hxs => ?_⟩
      · rw [upd_ne (Ne.symm nqa)]
        exact kB _ _ (Ne.symm nga) (Ne.symm nua) ia
      · exact ((td.ex yA).tm mo.tm).tm NB.tm
      · rw [upd_ne ngq, e1]
        exact rg
      · rw [upd_ne nuq, e1]
        exact ru
      · rw [upd_ne nr3]
        exact kB _ _ nr1 nr2 (hr xs hxs)
    · rintro r H8 σ' H' x8 ⟨⟨w3, vs, rfl, M, ia, td, hg, hu, hqa, am, hlen⟩, _⟩
      rw [List.length_map, List.take_length] at hg hu
      rw [List.length_map] at hlen
      exact hq .non H' ⟨rfl, M, dx, vd, ga, ua, qa, vs, ia, ⟨fga, fua, fqa⟩, td, hg, hu, hqa, am, ngu, by omega⟩)
  exact ⟨f, fd, hk, h1, T.g_Walk, h2⟩
end
end G
namespace G
open PySem PySem.Spec PyProof.Rows L2 Evl
section
variable {X : Cx} {N : List Str} {sc : Scope} {k j : Nat} {o : Expr} {σ : L2.St} {H : Hp} {pos : Pos} {f : Str}
/-- o.f, o any reading -/
theorem efldR {R1 R' : Hp → V → Prop} (ho : EvR (wE X o) σ H R1) (hr : ∀ H2 v, Ex H H2 → R1 H2 v → ∃ a C dx fs u, v = .ref a ∧ H2 a = some (.ins C dx fs) ∧ Cls X.K C ∧ NoAttr X.K C f ∧ fs.lookup f = some u ∧ R' H2 u) (hb : attributeBase o f X.env (eval o X.env) = eval o X.env := by rfl) : EvR (wE X (.Attribute o f pos)) σ H R' := fun H1 x1 Q q =>
  pe_le (pe_fld (we o) hb) (ho H1 x1 _ fun v H2 x2 r => by
    obtain ⟨a, C, dx, fs, u, rfl, h1, h2, h3, h4, h5⟩ := hr H2 v (x1.trans x2) r
    exact ⟨a, C, dx, fs, u, rfl, h1, h2, h3, h4, q u H2 x2 h5⟩)
end
theorem usedV_at {u : List (Str × Str)} (h : (u.map (·.1)).Nodup) {i : Nat} {x : Str × Str} (hx : u[i]? = some x) : valV (usedV u) (.inr x.1) = some (.str x.2) := by
  have e : getP u x.1 = some x.2 := by
    induction u generalizing i with
    | nil => simp at hx
    | cons y r ih =>
      cases i with
      | zero =>
        have : y = x := by simpa using hx
        subst this
        simp [getP]
      | succ i =>
        have hx' : r[i]? = some x := by simpa using hx
        have hn : y.1 ≠ x.1 := fun e => by
          rw [List.map_cons, List.nodup_cons] at h
          exact h.1 (List.mem_map.mpr ⟨x, List.mem_of_getElem? hx', e.symm⟩)
        rw [List.map_cons, List.nodup_cons] at h
        have := ih h.2 hx'
        unfold getP at this ⊢
        rw [List.find?_cons_of_neg (by simpa using hn)]
        exact this
  obtain ⟨v, e1, e2⟩ := (kd_used (K := default) (H := fun _ => none) u).some e
  rw [e1, e2.str_iff]
section
variable {P : Program} {w : World} {K : PySem.W.Frag} {mg : Str → Option Value} {base : Heap}
abbrev SpLv (K : PySem.W.Frag) : Sp := SpG K (fun a : (Addr × Addr × V × Addr × Addr × Addr) × List (Str × Str) × Str => [.v (.ref a.1.1), .d (.str a.2.2)])
    (fun a H => H a.1.1 = some (.ins (He.ga K "Walk") a.1.2.1 (walkF a.1.2.2.1 a.1.2.2.2.1 a.1.2.2.2.2.1 a.1.2.2.2.2.2)) ∧ H a.1.2.2.2.2.1 = some (.dK (usedV a.2.1)) ∧ (a.2.1.map (·.1)).Nodup)
    (fun a H H' v => Ex H H' ∧ TD K H' v (oS (leaveOfM a.2.1 a.2.2)))
theorem c_leave_of (T : Txt K mg) : MetC P w K mg base 1 (He.ga K "Walk") "leave_of" ["self", "paper"] (SpLv K) := by
  obtain ⟨fd, F⟩ := T.f_Walk_leave_of
  obtain ⟨h1, h2⟩ := mkFn (P := P) (w := w) (mg := mg) (base := base) (as := fun a : (Addr × Addr × V × Addr × Addr × Addr) × List (Str × Str) × Str => [.v (.ref a.1.1), .d (.str a.2.2)])
    (pre := fun a H => H a.1.1 = some (.ins (He.ga K "Walk") a.1.2.1 (walkF a.1.2.2.1 a.1.2.2.2.1 a.1.2.2.2.2.1 a.1.2.2.2.2.2)) ∧ H a.1.2.2.2.2.1 = some (.dK (usedV a.2.1)) ∧ (a.2.1.map (·.1)).Nodup)
    (R := fun a H H' v => Ex H H' ∧ TD K H' v (oS (leaveOfM a.2.1 a.2.2))) (k := 0) F S_Walk_leave_of H_Walk_leave_of (fun _ _ _ _ _ _ us hl => match us, hl with | [_, _], _ => rfl) (fun _ => rfl) (by
    rintro X rfl rfl rfl rfl rfl D ⟨⟨a, dx, vd, ga, ua, qa⟩, u, p⟩ vs H Q hv ⟨hi, hu, nd⟩ hq
    dsimp only at hv hi hu nd hq
    obtain ⟨ws, rfl, hv2⟩ := hv.cv
    obtain ⟨v1, rfl, a1⟩ := hv2.d1
    obtain rfl := a1.str_iff
    have hne : a ≠ ua := fun e => by rw [e, hu] at hi; cases hi
    have il : ∀ od, (upd H ua (.frz od (.dK (usedV u)))) a = some (.ins (He.ga X.K "Walk") dx (walkF vd ga ua qa)) := fun od => by rw [upd_ne hne]; exact hi
    have back : ∀ od H', Ex (upd H ua (.frz od (.dK (usedV u)))) H' → Ex H (upd H' ua (.dK (usedV u))) := fun od H' x c o e => by
      by_cases hc : c = ua
      · subst hc
        rw [hu] at e
        rw [upd_same]
        exact e
      · rw [upd_ne hc]
        exact x _ _ (by rw [upd_ne hc]; exact e)
    refine ssc (forK (ks := u.map (·.1)) D hu (by unfold usedV; rw [List.map_map, List.map_map] <;> rfl) (fun od => efld (en D 0) (il od) T.k_Walk T.n_Walk_used (by kernel_rfl)) fun od => ⟨fun i σ' H' => ∃ w2, σ' = [some (.ref a), some (.str p), w2] ∧ Ex (upd H ua (.frz od (.dK (usedV u)))) H' ∧ ∀ y ∈ u.take i, decide (y.2 = p) = false,
      fun H1 x => ⟨none, rfl, x, by simp⟩, fun i σ' H' ⟨_, _, x, _⟩ => x _ _ upd_same, ?_, ?_⟩)
    · rintro i n σ' H' hn ⟨w2, rfl, x2, hf⟩
      obtain ⟨x, hx, rfl⟩ := map_at hn
      refine g1 D 2 (ss1 (sif (eqS (ED.ev (dgetR D (efld (en D 0) (x2 _ _ (il od)) T.k_Walk T.n_Walk_used (by kernel_rfl)) (dns D 2) (.inr ⟨od, x2 _ _ upd_same⟩) (usedV_at nd hx)) (.str x.2)) (dns D 1)) (fun h H3 x3 => ?_) fun h H3 x3 => ss0 ?_))
      · have h0 : u.find? (fun q => decide (q.2 = p)) = some x := find_here (f := fun q : Str × Str => decide (q.2 = p)) hf hx h
        refine ss1 (retD (dns D 2) fun v H4 x4 t => ⟨(x2.trans (x3.trans x4)) _ _ upd_same, hq v _ ⟨back od H4 (x2.trans (x3.trans x4)), ?_⟩⟩)
        obtain rfl := t.str_iff
        unfold leaveOfM
        rw [h0]
        exact .str _
      · exact ⟨_, rfl, x2.trans x3, find_take hf hx h⟩
    · rintro σ' H' ⟨w2, rfl, x2, hf⟩
      rw [List.length_map] at hf
      have h0 : u.find? (fun q => decide (q.2 = p)) = none := find_no (f := fun q : Str × Str => decide (q.2 = p)) hf
      refine ss1 (retD dnon fun v H4 x4 t => hq v H4 ⟨(back od H' x2).trans x4, ?_⟩)
      unfold leaveOfM
      rw [h0]
      exact t)
  exact ⟨_, fd, T.mt_Walk_leave_of, h1, h2⟩
theorem make_fr {H H1 : Hp} {q dx c : Addr} {o1 o2 : HO} (x1 : Ex H H1) (h : (upd (upd H1 dx o1) q o2) c = none) : H c = none := by
  refine fresh_back x1 ?_
  by_cases h1 : c = q
  · rw [h1, upd_same] at h
    cases h
  · rw [upd_ne h1] at h
    by_cases h2 : c = dx
    · rw [h2, upd_same] at h
      cases h
    · rw [upd_ne h2] at h
      exact h
abbrev Few (l : List Deed) : Prop := (turnSet l).length ≤ 59
/-- Walk(deeds, more) as what is given -/
theorem walk_make {X : Cx} {N : List Str} {sc : Scope} {k : Nat} {σ : L2.St} {H : Hp} {pos p : Pos} {e1 e2 : Expr} {l : List Deed} {more : List Int} (T : Txt X.K X.mg) (D : DC X N sc k) (hk : 11 ≤ k) (W : WF l) (few : Few l) (hm : more.length ≤ 1) (h1 : ED X e1 σ H (dd l)) (h2 : ED X e2 σ H (.tuple (more.map .int)))
    (hg : glB sc "Walk" = true := by decide +kernel) (hs : starEach [e1, e2] X.env = (false, eval e1 X.env) :: starEach [e2] X.env := by rfl) (hs2 : starEach (e2 :: []) X.env = (false, eval e2 X.env) :: starEach [] X.env := by rfl) :
    EvR (wE X (.Call (.Name "Walk" p) [e1, e2] [] pos)) σ H fun H2 v => ∃ a, v = .ref a ∧ WalkI X.K H H2 a l (runM l (walkDays l more) []) :=
  dmake D (c_Walk_init T) (by omega) (ead h1 (ead h2 ean hs2) hs) (fun H1 q dx x1 hq0 hdx hne => ⟨((q, dx), l, more), rfl, ⟨upd_same, W, few, hm⟩, fun v H2 ⟨r1, r2, dx', vd, ga, ua, qa, vs, i1, ⟨f1, f2, f3⟩, i2, i3, i4, i5, i6, i7⟩ => ⟨r1, fun b o e => r2.keep b o (not_mem1 hq0 e) (by
    rw [upd_ne (ne_of_none e hq0), upd_ne (ne_of_none e hdx)]
    exact e), q, rfl, ⟨⟨dx', vd, ga, ua, qa, vs, i1, ⟨fresh_back x1 hq0, make_fr x1 f1, make_fr x1 f2, make_fr x1 f3⟩, i2, i3, i4, i5, i6, i7⟩⟩⟩⟩) hg (by decide +kernel) hs (by rw [hs2] <;> rfl)
end
end G
namespace G
open PySem PySem.Spec PyProof.Rows L2 Evl
section
variable {P : Program} {w : World} {K : PySem.W.Frag} {mg : Str → Option Value} {base : Heap}
theorem gone_get (g : Gone) (p : Str) (K : PySem.W.Frag) (H : Hp) : TD K H ((valV (goneV g) (.inr p)).getD .non) (oI (getG g p)) := by
  have h := (kd_gone (K := K) (H := H) g).get p
  have e : getP g p = getG g p := rfl
  rw [e] at h
  cases q : getG g p with
  | none =>
    rw [q] at h
    rw [h]
    exact .non
  | some i =>
    rw [q] at h
    obtain ⟨v, e1, e2⟩ := h
    rw [e1]
    exact e2
theorem c_plan (T : Txt K mg) : Cal P w K mg base 12 "plan" ["deeds"] (SpD K (fun l : List Deed => [.d (dd l)]) (fun l _ => WF l ∧ Few l) (fun l => .tuple ((papersM l).map (rowD (planM l))))) := by
  obtain ⟨fd, F⟩ := T.f_plan
  refine mkCal F T.g_plan S_plan H_plan (fun _ _ _ _ _ _ us hl => match us, hl with | [_], _ => rfl) (fun _ => rfl) ?_
  rintro X rfl rfl rfl rfl rfl D l vs H Q hv ⟨W, few⟩ hq
  dsimp only at hv W few hq
  obtain ⟨v1, rfl, a1⟩ := hv.d1
  have l40 := W.len
  have pl := papers_len l
  refine ssc (asgR D 1 (walk_make (more := []) T D (by decide) W few (by decide) (dn D 0 a1) (dtup (xs := []) ean)) fun v H1 x1 r => ?_)
  obtain ⟨a, rfl, ⟨dx, vd, ga, ua, qa, ms, i1, _, i2, i3, i4, _⟩⟩ := r
  have nd : UsOk (planM l) := UsOk.nil.run
  refine ss1 (retD (dtuple D T.m_tuple (lcT0 .str (papersM l) (rowD (planM l)) D [("paper", 2)] (rcall D (c_papers T) (by decide) l (ead (dn D 0 (a1.ex x1)) ean) (fun _ _ => l40) (hR := fun _ _ _ _ _ r => r.td)) (by omega) fun H2 p v x2 hp tv => ?_)) fun v H2 x2 r => hq v H2 (x1.trans x2) r)
  obtain rfl := tv.str_iff
  have j1 := x2 _ _ i1
  have j3 := x2 _ _ i3
  have j4 := x2 _ _ i4
  exact t1 D 2 (fun _ => rfl) fun _ b => dtup (xs := [.str p, oI (getG (goneOf (planM l)) p), oS (leaveOfM (usedOf (planM l)) p)]) (ead (dns (D.b b) 2) (ead (ED.ev (dget1 (D.b b) (efld (en (D.b b) 1) j1 T.k_Walk T.n_Walk_gone (by kernel_rfl)) (dns (D.b b) 2) j3) (gone_get _ _ _ _))
    (ead (dmeth (D.b b) (c_leave_of T) T.k_Walk (by decide) (en (D.b b) 1) j1 (by kernel_rfl) (ead (dns (D.b b) 2) ean) fun H3 x3 => ⟨((a, dx, vd, ga, ua, qa), usedOf (planM l), p), rfl, ⟨x3 _ _ j1, x3 _ _ j4, nd⟩, fun v H4 r => r⟩) ean)))
theorem c_there (T : Txt K mg) : Cal P w K mg base 12 "there" ["deeds", "day"] (SpD K (fun a : List Deed × Int => [.d (dd a.1), .d (.int a.2)]) (fun a _ => WF a.1 ∧ Few a.1) (fun a => .tuple ((thereM a.1 a.2 (goneOf (planM a.1))).map .str))) := by
  obtain ⟨fd, F⟩ := T.f_there
  refine mkCal F T.g_there S_there H_there (fun _ _ _ _ _ _ us hl => match us, hl with | [_, _], _ => rfl) (fun _ => rfl) ?_
  rintro X rfl rfl rfl rfl rfl D ⟨l, day⟩ vs H Q hv ⟨W, few⟩ hq
  dsimp only at hv W few hq
  obtain ⟨v1, v2, rfl, a1, a2⟩ := hv.d2
  obtain rfl := a2.int_iff
  have l40 := W.len
  have pl := papers_len l
  refine ssc (asgR D 2 (efldR (R' := fun H2 v => ∃ ga, v = .ref ga ∧ H2 ga = some (.dK (goneV (goneOf (planM l))))) (walk_make (more := []) T D (by decide) W few (by decide) (dn D 0 a1) (dtup (xs := []) ean)) fun H2 v x2 r => by
    obtain ⟨a, rfl, ⟨dx, vd, ga, ua, qa, ms, i1, _, i2, i3, i4, _⟩⟩ := r
    exact ⟨a, _, dx, _, .ref ga, rfl, i1, T.k_Walk, T.n_Walk_gone, (by kernel_rfl), ga, rfl, i3⟩) fun v H1 x1 r => ?_)
  obtain ⟨ga, rfl, hg⟩ := r
  refine ssc (asg0 D 3 fun q hq0 => ?_)
  have x2 : Ex H1 (upd H1 q (.lst [])) := Ex.new hq0
  have hq00 := fresh_back x1 hq0
  refine ssc (forT (xs := (papersM l).map .str) D (rcall D (c_papers T) (by decide) l (ead (dn D 0 (a1.ex (x1.trans x2))) ean) (fun _ _ => l40) (hR := fun _ _ _ _ _ r => r.td)) (fun H3 i σ' H' => (∃ w4, σ' = [some v1, some (.int day), some (.ref ga), some (.ref q), w4] ∧ Ex H1 H' ∧ H' q = some (.lst ((((papersM l).take i).filter fun p => decide (comeM l p ≤ day) && (match getG (goneOf (planM l)) p with
      | none => true
      | some d => decide (day < d))).map .str))) ∧ Tm H3 H')
    (fun H3 x => ⟨⟨none, rfl, x2.trans x, x _ _ upd_same⟩, Tm.refl _⟩) (fun _ _ _ _ h => h.2) ?_ ?_)
  · rintro H3 i d v σ' H' x3 hi ⟨⟨w4, rfl, x4, hk⟩, tm⟩ tv
    obtain ⟨p, hx, rfl⟩ := map_at hi
    obtain rfl := tv.str_iff
    have hp : p ∈ papersM l := List.mem_of_getElem? hx
    obtain ⟨dd', kk, mm, hr⟩ := row_of_mem hp
    have ec : comeM l p = dd' := by unfold comeM; rw [hr] <;> rfl
    have hg' := x4 _ _ hg
    have fl := List.length_filter_le (fun p => decide (comeM l p ≤ day) && (match getG (goneOf (planM l)) p with
      | none => true
      | some d => decide (day < d))) ((papersM l).take i)
    rw [List.length_take] at fl
    refine g1 D 4 (ss1 (sif (c := decide (comeM l p ≤ day) && (match getG (goneOf (planM l)) p with
      | none => true
      | some d => decide (day < d))) (EW.et (tandc (ET.to (leI (dix (dcall D (c_row_of T) (l, p, .paper dd' p kk mm) (ead (dn D 0 (a1.ex (x1.trans x4))) (ead (dns D 4) ean)) fun _ _ => hr) di at1) (dni D 1)) (by rw [ec] <;> rfl)) fun _ => tand1 (EW.et ?_))) (fun hb H5 x5 => ?_) fun hb H5 x5 => ss0 ?_))
    · cases e : getG (goneOf (planM l)) p with
      | none =>
        refine torc (c1 := true) (c2 := true) (ET.to (tnotin D (dns D 4) (en D 2) hg') (by rw [goneV_is, e] <;> rfl)) fun h => nomatch h
      | some d =>
        exact torc (c1 := false) (ET.to (tnotin D (dns D 4) (en D 2) hg') (by rw [goneV_is, e] <;> rfl)) fun _ => tor1 (gtI (ED.ev (dget D (en D 2) (dns D 4) hg' (goneV_some e)) (.int d)) (dni D 1))
    · refine ss1 (sapp (en D 3) (x5 _ _ hk) (by rw [List.length_map]; omega) (dns D 4) fun v6 H6 x6 t6 => ⟨⟨_, rfl, Ex.mut ((x4.trans x5).trans x6) hq0, ?_⟩, ((tm.trans (.ex x5)).trans (.ex x6)).trans (Tm.lst (x6 _ _ (x5 _ _ hk)))⟩)
      obtain rfl := t6.str_iff
      rw [upd_same, take_more hx, List.filter_append, List.map_append, List.filter_cons, if_pos hb] <;> rfl
    · refine ⟨⟨_, rfl, x4.trans x5, ?_⟩, tm.trans (.ex x5)⟩
      rw [take_more hx, List.filter_append, List.map_append, List.filter_cons, if_neg (by rw [hb]; decide), List.filter_nil, List.map_nil, List.append_nil]
      exact x5 _ _ hk
  · rintro H3 σ' H' x3 ⟨⟨w4, rfl, x4, hk⟩, _⟩
    rw [List.length_map, List.take_length] at hk
    exact ss1 (retD (dtupleV D T.m_tuple (en D 3) (.inl (.inl hk)) (TDs.of_strs _)) fun v H4 x5 r => hq v H4 ((x1.trans x4).trans x5) r)
end
end G
namespace G
open PySem PySem.Spec PyProof.Rows L2 Evl
theorem letters_in {c : Nat} (h1 : 97 ≤ c) (h2 : c ≤ 122) : c ∈ ("abcdefghijklmnopqrstuvwxyz" : Str).cps.toList := by
  have e : ("abcdefghijklmnopqrstuvwxyz" : Str).cps.toList = List.range' 97 26 := by decide +kernel
  rw [e, List.mem_range'_1]
  omega
theorem ne_tup {x : PyData} {r : List PyData} : PyData.eqv (.tuple (x :: r)) (.tuple []) = false := by rw [eqv_nil] <;> rfl
theorem shp_nil : SeqAt.shaped (.tuple []) = true := rfl
section
variable {P : Program} {w : World} {K : PySem.W.Frag} {mg : Str → Option Value} {base : Heap}
theorem c_is_whole (T : Txt K mg) : Cal P w K mg base 1 "is_whole" ["thing"] (SpD K (fun i : Int => [.d (.int i)]) (fun _ _ => True) (fun _ => .bool true)) := by
  obtain ⟨fd, F⟩ := T.f_is_whole
  refine mkCal F T.g_is_whole S_is_whole H_is_whole (fun _ _ _ _ _ _ us hl => match us, hl with | [_], _ => rfl) (fun _ => rfl) ?_
  rintro X rfl rfl rfl rfl rfl D i vs H Q hv _ hq
  dsimp only at hv hq
  obtain ⟨v1, rfl, a1⟩ := hv.d1
  exact ss1 (retD (vand (c1 := true) (c2 := true) (disi D T.m_isinstance T.m_int b_int (dn D 0 a1) k_ii) fun _ => vone (vnot (c := false) (disi D T.m_isinstance T.m_bool b_bool (dn D 0 a1) k_ib))) hq)
theorem c_is_day (T : Txt K mg) : Cal P w K mg base 2 "is_day" ["thing"] (SpD K (fun i : Int => [.d (.int i)]) (fun _ _ => True) (fun i => .bool (decide (0 ≤ i) && decide (i ≤ 99999)))) := by
  obtain ⟨fd, F⟩ := T.f_is_day
  refine mkCal F T.g_is_day S_is_day H_is_day (fun _ _ _ _ _ _ us hl => match us, hl with | [_], _ => rfl) (fun _ => rfl) ?_
  rintro X rfl rfl rfl rfl rfl D i vs H Q hv _ hq
  dsimp only at hv hq
  obtain ⟨v1, rfl, a1⟩ := hv.d1
  exact ss1 (retD (vand (c1 := true) (dcall D (c_is_whole T) i (ead (dn D 0 a1) ean) fun _ _ => trivial) fun _ => vone (leleIv di (dn D 0 a1) (dgi D T.i_LAST_DAY))) hq)
theorem c_is_name (T : Txt K mg) : Cal P w K mg base 1 "is_name" ["thing"] (SpD K (fun x : Str => [.d (.str x)]) (fun x _ => nameB x = true) (fun _ => .bool true)) := by
  obtain ⟨fd, F⟩ := T.f_is_name
  refine mkCal F T.g_is_name S_is_name H_is_name (fun _ _ _ _ _ _ us hl => match us, hl with | [_], _ => rfl) (fun _ => rfl) ?_
  rintro X rfl rfl rfl rfl rfl D x vs H Q hv hx hq
  dsimp only at hv hx hq
  obtain ⟨v1, rfl, a1⟩ := hv.d1
  unfold nameB at hx
  simp only [Bool.and_eq_true, decide_eq_true_eq, List.all_eq_true] at hx
  obtain ⟨h1, h2, h3⟩ := hx
  obtain ⟨tl, hl⟩ := T.i_LETTERS
  have hlen : x.cps.toList.length = x.length := by rw [Array.length_toList] <;> rfl
  refine ssc (sif (c := false) (ET.to (EW.et (torc (tnot (tval (c := true) (isStrV D T.m_isinstance T.m_str (dn D 0 a1)))) fun _ => tor1 (tnot (leleI di (dlenS D T.m_len (dn D 0 a1) (by omega)) (dgi D T.i_MOST_LETTERS))))) ?_) (fun h => nomatch h) fun _ H1 x1 => ss0 ?_)
  · have e1 : (1 : Int) ≤ (x.length : Int) := by omega
    have e2 : (x.length : Int) ≤ 8 := by omega
    rw [decide_eq_true e1, decide_eq_true e2] <;> rfl
  · refine ss1 (retD (dall (bs := x.cps.toList.map fun c => decide (c ∈ ("abcdefghijklmnopqrstuvwxyz" : Str).cps.toList)) D T.m_all (by
      rw [map_bool, ← kept_all]
      exact lcS (fun _ => true) _ D [("sign", 1)] (dn D 0 (a1.ex x1)) (by omega) fun H2 c x2 hc => t1 D 1 (fun _ => rfl) fun _ b => inSign (dns (D.b b) 1) (dg (v := .str "abcdefghijklmnopqrstuvwxyz") (D.b b) hl ⟨tl, rfl⟩ fun _ => .str _))) fun v H2 x2 r => hq v H2 (x1.trans x2) ?_)
    have e : ((x.cps.toList.map fun c => decide (c ∈ ("abcdefghijklmnopqrstuvwxyz" : Str).cps.toList)).all id) = true := by
      rw [List.all_eq_true]
      intro b hb
      obtain ⟨c, hc, rfl⟩ := List.mem_map.mp hb
      have hc' := h3 c hc
      exact decide_eq_true (letters_in hc'.1 hc'.2)
    rw [e] at r
    exact r
theorem c_is_since (T : Txt K mg) : Cal P w K mg base 2 "is_since" ["thing"] (SpD K (fun s : Since => [.d s.d]) (fun s _ => s.ok) (fun _ => .bool true)) := by
  obtain ⟨fd, F⟩ := T.f_is_since
  refine mkCal F T.g_is_since S_is_since H_is_since (fun _ _ _ _ _ _ us hl => match us, hl with | [_], _ => rfl) (fun _ => rfl) ?_
  rintro X rfl rfl rfl rfl rfl D s vs H Q hv hs hq
  dsimp only at hv hs hq
  obtain ⟨v1, rfl, a1⟩ := hv.d1
  have hsh := Since.shp hs
  have two : ∀ (wd h : Str), s.d = .tuple [.str wd, .str h] → wd ≠ "coming" → wd ∈ (["first", "last"] : List Str) → nameB h = true → wSs X (defBody s_is_since) { nx := fun _ H' => Q .non H', rt := Q } [some v1] H := by
    intro wd h e hw hw2 hn
    rw [e] at a1 hsh
    refine ssc (sif (c := false) (ET.to (EW.et (torc (tnot (tval (c := true) (isTupV D T.m_isinstance T.m_tuple (dn D 0 a1)))) fun _ => torc (eqDt D (dn D 0 a1) (dtup (xs := []) ean) hsh shp_nil) fun _ => tor1 (tnot (tval (c := true) (isStrV D T.m_isinstance T.m_str (dix (dn D 0 a1) di at0)))))) (by rw [ne_tup] <;> rfl)) (fun h => nomatch h) fun _ H1 x1 => ss0 ?_)
    refine ssc (sif (c := false) (ET.to (eqS (dix (dn D 0 (a1.ex x1)) di at0) ds) (decide_eq_false hw)) (fun h => nomatch h) fun _ H2 x2 => ss0 ?_)
    refine ss1 (retD (vand (c1 := true) (c2 := true) (eqIv (x := 2) (y := 2) (dlenT D T.m_len (dn D 0 (a1.ex (x1.trans x2)))) di) fun _ => vand (c1 := true) (ED.to (inTv (xs := ["first", "last"]) (dix (dn D 0 (a1.ex (x1.trans x2))) di at0) (dtup (xs := [.str "first", .str "last"]) (ead ds (ead ds ean)))) (by rw [decide_eq_true hw2])) fun _ => vone (dcall D (c_is_name T) h (ead (dix (dn D 0 (a1.ex (x1.trans x2))) di at1) ean) fun _ _ => hn)) fun v H3 x3 r => hq v H3 ((x1.trans x2).trans x3) r)
  cases s with
  | coming =>
    refine ssc (sif (c := false) (ET.to (EW.et (torc (tnot (tval (c := true) (isTupV D T.m_isinstance T.m_tuple (dn D 0 a1)))) fun _ => torc (eqDt D (dn D 0 a1) (dtup (xs := []) ean) hsh shp_nil) fun _ => tor1 (tnot (tval (c := true) (isStrV D T.m_isinstance T.m_str (dix (dn D 0 a1) di at0)))))) (by rw [show PyData.eqv Since.coming.d (.tuple []) = false from ne_tup] <;> rfl)) (fun h => nomatch h) fun _ H1 x1 => ss0 ?_)
    refine ssc (sif (c := true) (ET.to (eqS (dix (dn D 0 (a1.ex x1)) di at0) ds) (decide_eq_true rfl)) (fun _ H2 x2 => ?_) fun h => nomatch h)
    exact ss1 (retD (d := .bool true) (ED.to (eqIv (x := 1) (y := 1) (dlenT D T.m_len (dn D 0 (a1.ex (x1.trans x2)))) di) rfl) fun v H3 x3 r => hq v H3 ((x1.trans x2).trans x3) r)
  | first h => exact two "first" h rfl (by decide +kernel) (by decide +kernel) hs
  | last h => exact two "last" h rfl (by decide +kernel) (by decide +kernel) hs
theorem td_units (T : Txt K mg) (H : Hp) : TD K H (.ref (He.ga K "UNITS")) (.tuple ((["days", "months", "years"] : List Str).map .str)) := .tup (T.t_UNITS H) (TDs.of_strs ["days", "months", "years"])
theorem c_is_span_told (T : Txt K mg) : Cal P w K mg base 2 "is_span_told" ["many", "unit"] (SpD K (fun a : Int × Str => [.d (.int a.1), .d (.str a.2)]) (fun a _ => (0 ≤ a.1 ∧ a.1 ≤ 999) ∧ a.2 ∈ (["days", "months", "years"] : List Str)) (fun _ => .bool true)) := by
  obtain ⟨fd, F⟩ := T.f_is_span_told
  refine mkCal F T.g_is_span_told S_is_span_told H_is_span_told (fun _ _ _ _ _ _ us hl => match us, hl with | [_, _], _ => rfl) (fun _ => rfl) ?_
  rintro X rfl rfl rfl rfl rfl D ⟨m, u⟩ vs H Q hv ⟨⟨h1, h2⟩, hu⟩ hq
  dsimp only at hv h1 h2 hu hq
  obtain ⟨v1, v2, rfl, a1, a2⟩ := hv.d2
  refine ssc (sif (c := false) (ET.to (EW.et (torc (tnot (tval (c := true) (dcall D (c_is_whole T) m (ead (dn D 0 a1) ean) fun _ _ => trivial))) fun _ => tor1 (tnot (leleI di (dn D 0 a1) (dgi D T.i_MOST_MANY))))) (by rw [decide_eq_true h1, decide_eq_true h2] <;> rfl)) (fun h => nomatch h) fun _ H1 x1 => ss0 ?_)
  exact ss1 (retD (vand (c1 := true) (c2 := true) (isStrV D T.m_isinstance T.m_str (dn D 1 (a2.ex x1))) fun _ => vone (ED.to (inTv (xs := ["days", "months", "years"]) (dn D 1 (a2.ex x1)) (dg (v := .ref (He.ga X.K "UNITS")) D T.g_UNITS rfl (td_units T))) (by rw [decide_eq_true hu]))) fun v H3 x3 r => hq v H3 (x1.trans x3) r)
end
end G
namespace G
open PySem PySem.Spec PyProof.Rows L2 Evl
section
variable {X : Cx} {N : List Str} {sc : Scope} {k : Nat} {a elt tg : Expr} {ifs : List Expr} {scope : Scope} {σ : L2.St} {H : Hp} {pos p p' : Pos}
/-- .. range(n), n below 0 too -/
theorem lcR1n {i : Int} (f : Nat → Bool) (g : Nat → PyData) (D : DC X N sc k) (own : List (Str × Nat)) (hm : X.mg "range" = none) (h : ED X a σ H (.int i)) (hz : -50000 ≤ i ∧ i < 50000)
    (turn : ∀ H1 (j : Nat), Ex H H1 → (j : Int) < i → Turn1 X scope tg ifs elt σ (own.map (·.2)) H1 (.int (j : Int)) (f j) (g j)) (hb : blkC N sc scope own = true := by decide +kernel) (hg : glB sc "range" = true := by decide +kernel)
    (hs : starEach (a :: []) X.env = (false, eval a X.env) :: starEach [] X.env := by rfl) (hf : ∀ x, foldedSetIterable (.Call (.Name "range" p) [a] [] p') X.env x = pure x := by intro _; rfl) :
    EL X (.ListComp elt [⟨tg, .Call (.Name "range" p) [a] [] p', ifs, 0⟩] scope pos) σ H (kept f g (List.range i.toNat)) :=
  lcW D own (pi_range1 (D.gl hg) hm (wa [a]) hs) 0 i.toNat f g (by omega) (fun H1 x1 Q q => (ead h ean hs) H1 x1 _ fun vs H2 x2 t => by
    cases t with
    | d t r =>
      cases r
      obtain rfl := t.int_iff
      exact ⟨i, rfl, by omega, by omega, q H2 x2⟩) (fun H1 j x1 hj => by rw [Int.zero_add]; exact turn H1 j x1 (by omega)) hb hf
end
section
variable {P : Program} {w : World} {K : PySem.W.Frag} {mg : Str → Option Value} {base : Heap}
theorem c_is_rule (T : Txt K mg) : Cal P w K mg base 3 "is_rule" ["thing"] (SpD K (fun p : Parts => [.d p.d]) (fun p _ => p.ok) (fun _ => .bool true)) := by
  obtain ⟨fd, F⟩ := T.f_is_rule
  refine mkCal F T.g_is_rule S_is_rule H_is_rule (fun _ _ _ _ _ _ us hl => match us, hl with | [_], _ => rfl) (fun _ => rfl) ?_
  rintro X rfl rfl rfl rfl rfl D p vs H Q hv ok hq
  dsimp only at hv ok hq
  obtain ⟨v1, rfl, a1⟩ := hv.d1
  cases p with
  | span k kd s m u =>
    obtain ⟨hk, hs, hm, hu⟩ := ok
    refine ssc (sif (c := false) (ET.to (EW.et (torc (tnot (tval (c := true) (isTupV D T.m_isinstance T.m_tuple (dn D 0 a1)))) fun _ => torc (notInI (x := 5) (xs := [2, 5]) (dlenT D T.m_len (dn D 0 a1)) (dtup (xs := [.int 2, .int 5]) (ead di (ead di ean)))) fun _ => tor1 (tnot (tval (c := true) (isStrV D T.m_isinstance T.m_str (dix (dn D 0 a1) di at0)))))) rfl) (fun h => nomatch h) fun _ H1 x1 => ss0 ?_)
    refine ssc (sif (c := false) (tnot (tval (c := true) (dcall D (c_is_name T) kd (ead (dix (dn D 0 (a1.ex x1)) di at1) ean) fun _ _ => hk))) (fun h => nomatch h) fun _ H2 x2 => ss0 ?_)
    refine ssc (sif (c := false) (ET.to (eqI (x := 5) (y := 2) (dlenT D T.m_len (dn D 0 (a1.ex (x1.trans x2)))) di) rfl) (fun h => nomatch h) fun _ H3 x3 => ss0 ?_)
    have y := (x1.trans x2).trans x3
    have hw : (Parts.span k kd s m u).word ∈ (["keep", "gone"] : List Str) := by cases k <;> simp [Parts.word]
    exact ss1 (retD (vand (c1 := true) (c2 := true) (ED.to (inTv (xs := ["keep", "gone"]) (dix (dn D 0 (a1.ex y)) di at0) (dtup (xs := [.str "keep", .str "gone"]) (ead ds (ead ds ean)))) (by rw [decide_eq_true hw])) fun _ => vand (c1 := true) (dcall D (c_is_since T) s (ead (dix (dn D 0 (a1.ex y)) di at2) ean) fun _ _ => hs) fun _ => vone (dcall D (c_is_span_told T) (m, u) (ead (dix (dn D 0 (a1.ex y)) di at3) (ead (dix (dn D 0 (a1.ex y)) di at4) ean)) fun _ _ => ⟨hm, hu⟩)) fun v H4 x4 r => hq v H4 (y.trans x4) r)
  | one wd kd =>
    obtain ⟨hw, hk⟩ := ok
    refine ssc (sif (c := false) (ET.to (EW.et (torc (tnot (tval (c := true) (isTupV D T.m_isinstance T.m_tuple (dn D 0 a1)))) fun _ => torc (notInI (x := 2) (xs := [2, 5]) (dlenT D T.m_len (dn D 0 a1)) (dtup (xs := [.int 2, .int 5]) (ead di (ead di ean)))) fun _ => tor1 (tnot (tval (c := true) (isStrV D T.m_isinstance T.m_str (dix (dn D 0 a1) di at0)))))) rfl) (fun h => nomatch h) fun _ H1 x1 => ss0 ?_)
    refine ssc (sif (c := false) (tnot (tval (c := true) (dcall D (c_is_name T) kd (ead (dix (dn D 0 (a1.ex x1)) di at1) ean) fun _ _ => hk))) (fun h => nomatch h) fun _ H2 x2 => ss0 ?_)
    refine ssc (sif (c := true) (ET.to (eqI (x := 2) (y := 2) (dlenT D T.m_len (dn D 0 (a1.ex (x1.trans x2)))) di) rfl) (fun _ H3 x3 => ?_) fun h => nomatch h)
    have y := (x1.trans x2).trans x3
    exact ss1 (retD (d := .bool true) (ED.to (inTv (xs := ["while", "follow", "leave"]) (dix (dn D 0 (a1.ex y)) di at0) (dtup (xs := [.str "while", .str "follow", .str "leave"]) (ead ds (ead ds (ead ds ean))))) (congrArg PyData.bool (decide_eq_true hw))) fun v H4 x4 r => hq v H4 (y.trans x4) r)
theorem c_are_makers (T : Txt K mg) : Cal P w K mg base 2 "are_makers" ["thing"] (SpD K (fun m : List Str => [.d (.tuple (m.map .str))]) (fun m _ => m.length ≤ 4 ∧ (∀ x ∈ m, nameB x = true) ∧ m.Pairwise fun a b => a.cps.toList < b.cps.toList) (fun _ => .bool true)) := by
  obtain ⟨fd, F⟩ := T.f_are_makers
  refine mkCal F T.g_are_makers S_are_makers H_are_makers (fun _ _ _ _ _ _ us hl => match us, hl with | [_], _ => rfl) (fun _ => rfl) ?_
  rintro X rfl rfl rfl rfl rfl D m vs H Q hv ⟨h1, h2, h3⟩ hq
  dsimp only at hv h1 h2 h3 hq
  obtain ⟨v1, rfl, a1⟩ := hv.d1
  have e1 : decide ((4 : Int) < ((m.map PyData.str).length : Int)) = false := decide_eq_false (by rw [List.length_map]; omega)
  refine ssc (sif (c := false) (ET.to (EW.et (torc (tnot (tval (c := true) (isTupV D T.m_isinstance T.m_tuple (dn D 0 a1)))) fun _ => torc (gtI (dlenT D T.m_len (dn D 0 a1)) (dgi D T.i_MOST_MAKERS)) fun _ => tor1 (tnot (tval (c := true) (ED.to (dall (bs := m.map fun _ => true) D T.m_all (by
    rw [map_bool]
    exact lcT0 .str m _ D [("one", 1)] (dn D 0 a1) (by omega) fun H2 x v x2 hx tv => t1 D 1 (fun _ => rfl) fun _ b => dcall (D.b b) (c_is_name T) x (ead (dn (D.b b) 1 tv) ean) fun _ _ => h2 x hx)) (by simp)))))) (by rw [e1] <;> rfl)) (fun h => nomatch h) fun _ H1 x1 => ss0 ?_)
  refine ss1 (retD (d := .bool true) (ED.to (dall (bs := (List.range (((m.map PyData.str).length : Int) - 1).toNat).map fun _ => true) D T.m_all (by
    rw [map_bool, ← kept_all]
    refine lcR1n (i := ((m.map PyData.str).length : Int) - 1) (fun _ => true) (fun _ => .bool true) D [("k", 2)] T.m_range (dsub (dlenT D T.m_len (dn D 0 (a1.ex x1))) di) (by rw [List.length_map]; omega) fun H2 j x2 hj => ?_
    rw [List.length_map] at hj
    have hj1 : j < m.length := by omega
    have hj2 : j + 1 < m.length := by omega
    have hlt : m[j].cps.toList < m[j + 1].cps.toList := List.pairwise_iff_getElem.mp h3 j (j + 1) hj1 hj2 (Nat.lt_succ_self j)
    have g1 : atI (m.map PyData.str) (j : Int) = some (.str m[j]) := atI_nat (map_get (List.getElem?_eq_getElem hj1))
    have g2 : atI (m.map PyData.str) ((j : Int) + 1) = some (.str m[j + 1]) := atI_nat (j := j + 1) (map_get (List.getElem?_eq_getElem hj2))
    exact t1 D 2 (fun _ => rfl) fun _ b => ED.to (ltSv (dix (dn (D.b b) 0 (a1.ex (x1.trans x2))) (dni (D.b b) 2) g1) (dix (dn (D.b b) 0 (a1.ex (x1.trans x2))) (dadd (dni (D.b b) 2) di) g2)) (congrArg PyData.bool (decide_eq_true hlt)))) (by simp)) fun v H4 x4 r => hq v H4 (x1.trans x4) r)
theorem c_is_aim (T : Txt K mg) : Cal P w K mg base 2 "is_aim" ["thing"] (SpD K (fun a : Str × Str => [.d (.tuple [.str a.1, .str a.2])]) (fun a _ => a.1 ∈ (["paper", "kind"] : List Str) ∧ nameB a.2 = true) (fun _ => .bool true)) := by
  obtain ⟨fd, F⟩ := T.f_is_aim
  refine mkCal F T.g_is_aim S_is_aim H_is_aim (fun _ _ _ _ _ _ us hl => match us, hl with | [_], _ => rfl) (fun _ => rfl) ?_
  rintro X rfl rfl rfl rfl rfl D ⟨s, n⟩ vs H Q hv ⟨h1, h2⟩ hq
  dsimp only at hv h1 h2 hq
  obtain ⟨v1, rfl, a1⟩ := hv.d1
  refine ssc (sif (c := false) (ET.to (EW.et (torc (tnot (tval (c := true) (isTupV D T.m_isinstance T.m_tuple (dn D 0 a1)))) fun _ => torc (neI (x := 2) (y := 2) (dlenT D T.m_len (dn D 0 a1)) di) fun _ => tor1 (tnot (tval (c := true) (isStrV D T.m_isinstance T.m_str (dix (dn D 0 a1) di at0)))))) rfl) (fun h => nomatch h) fun _ H1 x1 => ss0 ?_)
  exact ss1 (retD (vand (c1 := true) (c2 := true) (ED.to (inTv (xs := ["paper", "kind"]) (dix (dn D 0 (a1.ex x1)) di at0) (dtup (xs := [.str "paper", .str "kind"]) (ead ds (ead ds ean)))) (by rw [decide_eq_true h1])) fun _ => vone (dcall D (c_is_name T) n (ead (dix (dn D 0 (a1.ex x1)) di at1) ean) fun _ _ => h2)) fun v H4 x4 r => hq v H4 (x1.trans x4) r)
/-- what fits a letter of a form -/
inductive Fit : PyData → Str → Prop
  | n {x : Str} : nameB x = true → Fit (.str x) "n"
  | m {mk : List Str} : mk.length ≤ 4 → (∀ x ∈ mk, nameB x = true) → (mk.Pairwise fun a b => a.cps.toList < b.cps.toList) → Fit (.tuple (mk.map .str)) "m"
  | r {p : Parts} : p.ok → Fit p.d "r"
  | t {s a : Str} : s ∈ (["paper", "kind"] : List Str) → nameB a = true → Fit (.tuple [.str s, .str a]) "t"
  | b {x : Bool} : Fit (.bool x) "b"
theorem c_fits_form (T : Txt K mg) : Cal P w K mg base 4 "fits_form" ["thing", "letter"] (SpD K (fun a : PyData × Str => [.d a.1, .d (.str a.2)]) (fun a _ => Fit a.1 a.2) (fun _ => .bool true)) := by
  obtain ⟨fd, F⟩ := T.f_fits_form
  refine mkCal F T.g_fits_form S_fits_form H_fits_form (fun _ _ _ _ _ _ us hl => match us, hl with | [_, _], _ => rfl) (fun _ => rfl) ?_
  rintro X rfl rfl rfl rfl rfl D ⟨d, lt⟩ vs H Q hv fit hq
  dsimp only at hv fit hq
  obtain ⟨v1, v2, rfl, a1, a2⟩ := hv.d2
  have no : ∀ {x y : Str}, decide (x = y) = false → ∀ {e1 e2 : Expr} {H1 : Hp} {p : Pos}, ED X e1 [some v1, some v2] H1 (.str x) → ED X e2 [some v1, some v2] H1 (.str y) → ET X (.Compare e1 [.Eq] [e2] p) [some v1, some v2] H1 false := fun h _ _ _ _ h1 h2 => (eqS h1 h2).to h
  cases fit with
  | n h => exact ssc (sif (c := true) (ET.to (eqS (dn D 1 a2) ds) (decide_eq_true rfl)) (fun _ H1 x1 => ss1 (retD (dcall D (c_is_name T) _ (ead (dn D 0 (a1.ex x1)) ean) fun _ _ => h) fun v H4 x4 r => hq v H4 (x1.trans x4) r)) fun h => nomatch h)
  | m h1 h2 h3 =>
    refine ssc (sif (c := false) (no (by decide +kernel) (dn D 1 a2) ds) (fun h => nomatch h) fun _ H1 x1 => ss0 ?_)
    exact ssc (sif (c := true) (ET.to (eqS (dn D 1 (a2.ex x1)) ds) (decide_eq_true rfl)) (fun _ H2 x2 => ss1 (retD (dcall D (c_are_makers T) _ (ead (dn D 0 (a1.ex (x1.trans x2))) ean) fun _ _ => ⟨h1, h2, h3⟩) fun v H4 x4 r => hq v H4 ((x1.trans x2).trans x4) r)) fun h => nomatch h)
  | r h =>
    refine ssc (sif (c := false) (no (by decide +kernel) (dn D 1 a2) ds) (fun h => nomatch h) fun _ H1 x1 => ss0 ?_)
    refine ssc (sif (c := false) (no (by decide +kernel) (dn D 1 (a2.ex x1)) ds) (fun h => nomatch h) fun _ H2 x2 => ss0 ?_)
    exact ssc (sif (c := true) (ET.to (eqS (dn D 1 (a2.ex (x1.trans x2))) ds) (decide_eq_true rfl)) (fun _ H3 x3 => ss1 (retD (dcall D (c_is_rule T) _ (ead (dn D 0 (a1.ex ((x1.trans x2).trans x3))) ean) fun _ _ => h) fun v H4 x4 r => hq v H4 (((x1.trans x2).trans x3).trans x4) r)) fun h => nomatch h)
  | t h1 h2 =>
    refine ssc (sif (c := false) (no (by decide +kernel) (dn D 1 a2) ds) (fun h => nomatch h) fun _ H1 x1 => ss0 ?_)
    refine ssc (sif (c := false) (no (by decide +kernel) (dn D 1 (a2.ex x1)) ds) (fun h => nomatch h) fun _ H2 x2 => ss0 ?_)
    refine ssc (sif (c := false) (no (by decide +kernel) (dn D 1 (a2.ex (x1.trans x2))) ds) (fun h => nomatch h) fun _ H3 x3 => ss0 ?_)
    have y := (x1.trans x2).trans x3
    exact ssc (sif (c := true) (ET.to (eqS (dn D 1 (a2.ex y)) ds) (decide_eq_true rfl)) (fun _ H4 x4 => ss1 (retD (dcall D (c_is_aim T) (_, _) (ead (dn D 0 (a1.ex (y.trans x4))) ean) fun _ _ => ⟨h1, h2⟩) fun v H5 x5 r => hq v H5 ((y.trans x4).trans x5) r)) fun h => nomatch h)
  | b =>
    refine ssc (sif (c := false) (no (by decide +kernel) (dn D 1 a2) ds) (fun h => nomatch h) fun _ H1 x1 => ss0 ?_)
    refine ssc (sif (c := false) (no (by decide +kernel) (dn D 1 (a2.ex x1)) ds) (fun h => nomatch h) fun _ H2 x2 => ss0 ?_)
    refine ssc (sif (c := false) (no (by decide +kernel) (dn D 1 (a2.ex (x1.trans x2))) ds) (fun h => nomatch h) fun _ H3 x3 => ss0 ?_)
    have y := (x1.trans x2).trans x3
    refine ssc (sif (c := false) (no (by decide +kernel) (dn D 1 (a2.ex y)) ds) (fun h => nomatch h) fun _ H4 x4 => ss0 ?_)
    exact ss1 (retD (isBoolV D T.m_isinstance T.m_bool (dn D 0 (a1.ex (y.trans x4)))) fun v H5 x5 r => hq v H5 ((y.trans x4).trans x5) r)
end
end G
namespace G
open PySem PySem.Spec PyProof.Rows L2 Evl
section
variable {P : Program} {w : World} {K : PySem.W.Frag} {mg : Str → Option Value} {base : Heap}
def turnedL : List (List Str) := [["rule", "end"], ["hold", "lift"]]
theorem td_turned (T : Txt K mg) (H : Hp) : TD K H (.ref (He.ga K "TURNED")) (.tuple (turnedL.map fun ws => .tuple (ws.map .str))) :=
  .tup (T.t_TURNED H) (.cons (.tup (T.t_tA H) (TDs.of_strs ["rule", "end"])) (.cons (.tup (T.t_tB H) (TDs.of_strs ["hold", "lift"])) .nil))
theorem c_quarrel (T : Txt K mg) : Cal P w K mg base 1 "quarrel" ["one", "other"] (SpD K (fun a : Deed × Deed => [.d a.1.d, .d a.2.d]) (fun a _ => a.1.ok ∧ a.2.ok) (fun a => .bool (quarrelM a.1 a.2))) := by
  obtain ⟨fd, F⟩ := T.f_quarrel
  refine mkCal F T.g_quarrel S_quarrel H_quarrel (fun _ _ _ _ _ _ us hl => match us, hl with | [_, _], _ => rfl) (fun _ => rfl) ?_
  rintro X rfl rfl rfl rfl rfl D ⟨x, y⟩ vs H Q hv ⟨hx, hy⟩ hq
  dsimp only at hv hx hy hq
  obtain ⟨v1, v2, rfl, a1, a2⟩ := hv.d2
  refine ssc (sif (eqDt D (dn D 0 a1) (dn D 1 a2) (Deed.shp hx) (Deed.shp hy)) (fun hb H1 x1 => ?_) fun hb H1 x1 => ss0 ?_)
  · refine ss1 (retD db fun v H2 x2 r => hq v H2 (x1.trans x2) ?_)
    unfold quarrelM
    rw [hb]
    exact r
  refine ssc (sif (neS (dix (dn D 0 (a1.ex x1)) di at2) (dix (dn D 1 (a2.ex x1)) di at2)) (fun hn H2 x2 => ?_) fun hn H2 x2 => ss0 ?_)
  · have hn' : decide (x.name = y.name) = false := by simpa using hn
    refine ss1 (retD db fun v H3 x3 r => hq v H3 ((x1.trans x2).trans x3) ?_)
    unfold quarrelM
    rw [hb, hn']
    exact r
  have hn' : decide (x.name = y.name) = true := by simpa using hn
  have z := x1.trans x2
  refine ssc (sif (EW.et (tandc (eqS (dix (dn D 0 (a1.ex z)) di at0) (dix (dn D 1 (a2.ex z)) di at0)) fun _ => tand1 (inT (xs := ["paper", "leave"]) (dix (dn D 0 (a1.ex z)) di at0) (dtup (xs := [.str "paper", .str "leave"]) (ead ds (ead ds ean)))))) (fun hw H3 x3 => ?_) fun hw H3 x3 => ss0 ?_)
  · refine ss1 (retD db fun v H4 x4 r => hq v H4 ((z.trans x3).trans x4) ?_)
    unfold quarrelM
    rw [hb, hn', hw]
    exact r
  have z3 := z.trans x3
  refine ss1 (retD (vand (eqIv (dix (dn D 0 (a1.ex z3)) di at1) (dix (dn D 1 (a2.ex z3)) di at1)) fun _ => vone (ED.to (dany (bs := turnedL.map fun ws => decide (x.word ∈ ws) && decide (y.word ∈ ws)) D T.m_any (by
    rw [map_bool]
    exact lcT0 (fun ws : List Str => .tuple (ws.map .str)) turnedL _ D [("words", 2)] (dg (v := .ref (He.ga X.K "TURNED")) D T.g_TURNED rfl (td_turned T)) (by decide) fun H4 ws v x4 hws tv => t1 D 2 (fun _ => rfl) fun _ b =>
      vand (inTv (dix (dn (D.b b) 0 (a1.ex (z3.trans x4))) di at0) (dn (D.b b) 2 tv)) fun _ => vone (inTv (dix (dn (D.b b) 1 (a2.ex (z3.trans x4))) di at0) (dn (D.b b) 2 tv)))) rfl)) fun v H4 x4 r => hq v H4 (z3.trans x4) ?_)
  unfold quarrelM
  rw [hb, hn', hw]
  have e : ((turnedL.map fun ws => decide (x.word ∈ ws) && decide (y.word ∈ ws)).any id) = ((decide (x.word ∈ (["rule", "end"] : List Str)) && decide (y.word ∈ (["rule", "end"] : List Str))) || (decide (x.word ∈ (["hold", "lift"] : List Str)) && decide (y.word ∈ (["hold", "lift"] : List Str)))) := by
    rw [any_map]
    unfold turnedL
    rw [List.any_cons, List.any_cons, List.any_nil, Bool.or_false]
  rw [e] at r
  exact r
end
end G
namespace G
open PySem PySem.Spec PyProof.Rows L2 Evl
abbrev actF (day : Int) (vd : V) : List (Str × V) := [("day", .int day), ("deed", vd), ("struck", .non)]
def ActI (K : PySem.W.Frag) (H : Hp) (v : V) (x : Deed) : Prop := ∃ a dx day vd, v = .ref a ∧ H a = some (.ins (He.ga K "Act") dx (actF day vd)) ∧ TD K H vd x.d
inductive ActsI (K : PySem.W.Frag) (H : Hp) : List V → List Deed → Prop
  | nil : ActsI K H [] []
  | cons {v : V} {x : Deed} {vs : List V} {l : List Deed} : ActI K H v x → ActsI K H vs l → ActsI K H (v :: vs) (x :: l)
section
variable {K : PySem.W.Frag} {H H' : Hp} {S : List Addr}
theorem ActI.mo (M : Mo S H H') (hs : ∀ a ∈ S, ∀ dx fs, H a ≠ some (.ins (He.ga K "Act") dx fs)) {v : V} {x : Deed} (h : ActI K H v x) : ActI K H' v x := by
  obtain ⟨a, dx, day, vd, rfl, h0, t⟩ := h
  exact ⟨a, dx, day, vd, rfl, M.keep _ _ (fun z => hs a z _ _ h0) h0, t.tm M.tm⟩
theorem ActsI.mo (M : Mo S H H') (hs : ∀ a ∈ S, ∀ dx fs, H a ≠ some (.ins (He.ga K "Act") dx fs)) : ∀ {vs : List V} {l : List Deed}, ActsI K H vs l → ActsI K H' vs l
  | _, _, .nil => .nil
  | _, _, .cons a b => .cons (a.mo M hs) (ActsI.mo M hs b)
theorem ActsI.ex (x : Ex H H') {vs : List V} {l : List Deed} (h : ActsI K H vs l) : ActsI K H' vs l := h.mo (.ex x (S := [])) fun _ h => by simp at h
theorem ActsI.length : ∀ {vs : List V} {l : List Deed}, ActsI K H vs l → vs.length = l.length
  | _, _, .nil => rfl
  | _, _, .cons _ b => congrArg Nat.succ (ActsI.length b)
theorem ActsI.app : ∀ {vs us : List V} {l m : List Deed}, ActsI K H vs l → ActsI K H us m → ActsI K H (vs ++ us) (l ++ m)
  | _, _, _, _, .nil, h => h
  | _, _, _, _, .cons a b, h => .cons a (ActsI.app b h)
theorem ActsI.get : ∀ {i : Nat} {u : V} {vs : List V} {l : List Deed}, ActsI K H vs l → vs[i]? = some u → ∃ x, l[i]? = some x ∧ ActI K H u x
  | _, _, _, _, .nil, e => by simp at e
  | 0, _, _, _, .cons a _, e => by simp at e; subst e; exact ⟨_, rfl, a⟩
  | i + 1, u, _, _, .cons _ b, e => by
    obtain ⟨x, h1, h2⟩ := ActsI.get (i := i) (u := u) b (by simpa using e)
    exact ⟨x, by simpa using h1, h2⟩
end
/-- a dict from i, i + 1, .. to deeds -/
inductive KN (K : PySem.W.Frag) (H : Hp) : Nat → List (Key × V) → List Deed → Prop
  | nil {i : Nat} : KN K H i [] []
  | cons {i : Nat} {v : V} {x : Deed} {kvs : List (Key × V)} {l : List Deed} : TD K H v x.d → KN K H (i + 1) kvs l → KN K H i ((.inl (i : Int), v) :: kvs) (x :: l)
section
variable {K : PySem.W.Frag} {H H' : Hp}
theorem KN.tm (e : Tm H H') : ∀ {i : Nat} {kvs : List (Key × V)} {l : List Deed}, KN K H i kvs l → KN K H' i kvs l
  | _, _, _, .nil => .nil
  | _, _, _, .cons a b => .cons (a.tm e) (KN.tm e b)
theorem KN.keys : ∀ {i : Nat} {kvs : List (Key × V)} {l : List Deed}, KN K H i kvs l → kvs.map (·.1) = ((List.range' i l.length).map fun j : Nat => (j : Int)).map Sum.inl
  | _, _, _, .nil => rfl
  | _, _, _, .cons a b => by
    rw [List.map_cons, KN.keys b]
    rfl
theorem KN.length : ∀ {i : Nat} {kvs : List (Key × V)} {l : List Deed}, KN K H i kvs l → kvs.length = l.length
  | _, _, _, .nil => rfl
  | _, _, _, .cons a b => congrArg Nat.succ (KN.length b)
theorem KN.none : ∀ {i : Nat} {kvs : List (Key × V)} {l : List Deed}, KN K H i kvs l → ∀ j : Nat, (j < i ∨ i + l.length ≤ j) → valV kvs (.inl (j : Int)) = none
  | _, _, _, .nil, _, _ => rfl
  | i, _, _, .cons a b, j, h => by
    have hne : ¬ (Sum.inl (i : Int) : Key) = Sum.inl (j : Int) := fun z => by
      have := Sum.inl.inj z
      simp only [List.length_cons] at h
      omega
    rw [valV_neg hne]
    exact KN.none b j (by simp only [List.length_cons] at h; omega)
theorem KN.get : ∀ {i : Nat} {kvs : List (Key × V)} {l : List Deed}, KN K H i kvs l → ∀ {j : Nat} {x : Deed}, l[j]? = some x → ∃ v, valV kvs (.inl ((i + j : Nat) : Int)) = some v ∧ TD K H v x.d
  | _, _, _, .nil, _, _, e => by simp at e
  | i, _, _, .cons a b, 0, x, e => by
    simp at e
    subst e
    exact ⟨_, valV_pos rfl, a⟩
  | i, _, _, .cons a b, j + 1, x, e => by
    obtain ⟨v, h1, h2⟩ := KN.get b (j := j) (x := x) (by simpa using e)
    refine ⟨v, ?_, h2⟩
    have hne : ¬ (Sum.inl (i : Int) : Key) = Sum.inl ((i + (j + 1) : Nat) : Int) := fun z => by
      have := Sum.inl.inj z
      omega
    rw [valV_neg hne, show i + (j + 1) = i + 1 + j by omega]
    exact h1
theorem KN.snoc {v : V} {x : Deed} (t : TD K H v x.d) : ∀ {i : Nat} {kvs : List (Key × V)} {l : List Deed}, KN K H i kvs l → KN K H i (kvs ++ [(.inl ((i + l.length : Nat) : Int), v)]) (l ++ [x])
  | _, _, _, .nil => .cons t .nil
  | i, _, _, .cons (l := l) a b => by
    have := KN.snoc t b
    rw [show i + 1 + l.length = i + (l.length + 1) by omega] at this
    exact .cons a this
end
section
variable {P : Program} {w : World} {K : PySem.W.Frag} {mg : Str → Option Value} {base : Heap}
theorem c_Act_init (T : Txt K mg) : MakC P w K mg base 1 "Act" (He.ga K "Act") ["self", "day", "deed", "struck"] (SpG K (fun a : (Addr × Addr) × Int × Deed => [.v (.ref a.1.1), .d (.int a.2.1), .d a.2.2.d, .d .none]) (fun a H => H a.1.1 = some (.ins (He.ga K "Act") a.1.2 []))
    (fun a H H' v => v = .non ∧ Mo [a.1.1] H H' ∧ ActI K H' (.ref a.1.1) a.2.2)) := by
  obtain ⟨f, fd, F, hk⟩ : ∃ f fd, FunD K "__init__" "Act.__init__" (defArgs s_Act_init) (defBody s_Act_init) (defScope s_Act_init) [] [] f fd ∧ Mk K (He.ga K "Act") f := by
    obtain ⟨fd, F⟩ := T.f_Act_init
    exact ⟨_, fd, F, T.mk_Act⟩
  obtain ⟨h1, h2⟩ := mkFn (P := P) (w := w) (mg := mg) (base := base) (as := fun a : (Addr × Addr) × Int × Deed => [.v (.ref a.1.1), .d (.int a.2.1), .d a.2.2.d, .d .none]) (pre := fun a H => H a.1.1 = some (.ins (He.ga K "Act") a.1.2 []))
    (R := fun a H H' v => v = .non ∧ Mo [a.1.1] H H' ∧ ActI K H' (.ref a.1.1) a.2.2) (k := 0) F S_Act_init H_Act_init (fun _ _ _ _ _ _ us hl => match us, hl with | [_, _, _, _], _ => rfl) (fun _ => rfl) (by
    rintro X rfl rfl rfl rfl rfl D ⟨⟨a, dx⟩, day, x⟩ vs H Q hv hi hq
    dsimp only at hv hi hq
    obtain ⟨ws, rfl, hv2⟩ := hv.cv
    obtain ⟨v1, v2, v3, rfl, a1, a2, a3⟩ := hv2.d3
    have z : a ∈ [a] ∨ H a = none := .inl (List.mem_singleton.mpr rfl)
    refine ssc (sfldM (Mo.refl [a] H) hi z (en D 0) (dn D 1 a1) T.k_Act T.n_Act_day fun u1 H1 M1 m1 i1 t1 => ?_)
    refine ssc (sfldM M1 i1 z (en D 0) (dn D 2 (a2.tm M1.tm)) T.k_Act T.n_Act_deed fun u2 H2 M2 m2 i2 t2 => ?_)
    refine ss1 (sfldM M2 i2 z (en D 0) (dn D 3 (a3.tm M2.tm)) T.k_Act T.n_Act_struck fun u3 H3 M3 m3 i3 t3 => ?_)
    obtain rfl := t1.int_iff
    obtain rfl := t3.non_iff
    exact hq .non H3 ⟨rfl, M3, a, dx, day, u2, rfl, i3, t2.tm m3.tm⟩)
  exact ⟨f, fd, hk, h1, T.g_Act, h2⟩
theorem cutV_all {vs : List V} {n : Nat} (h : n = vs.length) : cutV vs none (some (n : Int)) = vs := by
  unfold cutV
  rw [HT.sIx_none, HT.sIx_nat, List.drop_zero, Nat.sub_zero, h, Nat.min_self, List.take_length]
theorem c_known_behind (T : Txt K mg) : Cal P w K mg base 1 "known_behind" ["acts", "many"] (SpF K (fun a : Addr × List Deed => [.v (.ref a.1), .d (.int a.2.length)]) (fun a H => a.2.length ≤ 40 ∧ ∃ vs, H a.1 = some (.lst vs) ∧ ActsI K H vs a.2) (fun a H H' v => ∃ q kvs, v = .ref q ∧ H q = none ∧ H' q = some (.dK kvs) ∧ KN K H' 0 kvs a.2)) := by
  obtain ⟨fd, F⟩ := T.f_known_behind
  refine mkCal F T.g_known_behind S_known_behind H_known_behind (fun _ _ _ _ _ _ us hl => match us, hl with | [_, _], _ => rfl) (fun _ => rfl) ?_
  rintro X rfl rfl rfl rfl rfl D ⟨la, l⟩ vs H Q hv ⟨l40, avs, hla, acts⟩ hq
  dsimp only at hv l40 hla acts hq
  obtain ⟨ws, rfl, hv2⟩ := hv.cv
  obtain ⟨v1, rfl, a1⟩ := hv2.d1
  obtain rfl := a1.int_iff
  have alen := acts.length
  refine ssc (asgN D 2 fun q hq0 => ?_)
  have x0 : Ex H (upd H q (.dK [])) := Ex.new hq0
  obtain ⟨tl, pl, el⟩ : EO X none [some (.ref la), some (.int (l.length : Int)), some (.ref q), none, none] (upd H q (.dK [])) none := on
  obtain ⟨th, ph, eh⟩ : EO X (some (.Name "many" _)) [some (.ref la), some (.int (l.length : Int)), some (.ref q), none, none] (upd H q (.dK [])) (some (l.length : Int)) := os (dni D 1)
  refine ssc (ps_le (ps_for D.po D.calm (pi_enum (D.gl (by decide +kernel)) T.m_enumerate (pa_cons (pe_slice sl_list (we _) pl ph) pa_nil rfl)) (wg _) (wss _) (fun _ => rfl)) ?_)
  refine (en D 0 : EV X _ _ _ (.ref la)) _ (Ex.refl _) _ fun H2 x2 => ?_
  refine el H2 x2 _ fun H3 x3 => ?_
  refine eh H3 (x2.trans x3) _ fun H4 x4 => ?_
  have y4 := (x2.trans x3).trans x4
  refine ⟨la, avs, rfl, .inl (.inl ((x0.trans y4) _ _ hla)), fun r hr => ?_⟩
  have x5 : Ex H4 (upd H4 r (.lst (cutV avs none (some (l.length : Int))))) := Ex.new hr
  rw [cutV_all alen.symm] at x5 ⊢
  have hrq : r ≠ q := fun e => by rw [e, y4 _ _ upd_same] at hr; cases hr
  refine ⟨r, avs, rfl, .inl (.inl upd_same), for_it (walk_enum (K := X.K) (a := r) (xs := avs)) (fun i σ' H' => ∃ w3 w4 kvs, σ' = [some (.ref la), some (.int (l.length : Int)), some (.ref q), w3, w4] ∧ Ex H H' ∧ H' q = some (.dK kvs) ∧ KN X.K H' 0 kvs (l.take i) ∧ H' r = some (.lst avs))
    ⟨none, none, [], rfl, (x0.trans y4).trans x5, x5 _ _ (y4 _ _ upd_same), .nil, upd_same⟩ (fun i σ' H' _ w => ?_) (fun i u σ' H5 H6 hi w y => ?_) fun σ' H' w => ?_⟩
  · obtain ⟨_, _, _, _, _, _, _, h⟩ := w
    exact .inl (.inl h)
  · obtain ⟨w3, w4, kvs, rfl, xH, hk, kn, hr5⟩ := w
    obtain ⟨t, y1, y2, rfl, ht, rfl, e1, e2⟩ := y
    cases (Option.some.inj e1)
    have x6 : Ex H5 (upd H5 t (.tup [.int (i : Nat), y2])) := Ex.new ht
    obtain ⟨x, hx, ai⟩ := (acts.ex (xH.trans x6)).get e2
    have hti : TD X.K (upd H5 t (.tup [.int (i : Nat), y2])) (.int (i : Nat)) (.int (i : Nat)) := .int _
    obtain ⟨aa, dx, day, vd, rfl, ia, td⟩ := ai
    refine pg_le (pg_tup D.calm (pgs_cons (pg_name D.ndX (D.ix (i := 3) rfl) (D.loc (by decide +kernel)).1 (D.loc (by decide +kernel)).2) (pgs_cons (pg_name D.ndX (D.ix (i := 4) rfl) (D.loc (by decide +kernel)).1 (D.loc (by decide +kernel)).2) pgs_nil)) (n := 2)) ?_
    refine ⟨t, _, rfl, .inl (.inl upd_same), rfl, _, _, rfl, _, _, rfl, rfl, ?_⟩
    have klen := kn.length
    rw [List.length_take] at klen
    have hil : i < l.length := (List.getElem?_eq_some_iff.mp hx).1
    refine ss1 (sif (c := false) (ET.to (isN (ED.ev (efld (en D 4) ia T.k_Act T.n_Act_deed (by kernel_rfl)) td)) rfl) (fun h => nomatch h) fun _ H7 x7 => ?_)
    have y7 := x6.trans x7
    refine ss1 (sputI D (ED.ev (efld (en D 4) (x7 _ _ ia) T.k_Act T.n_Act_deed (by kernel_rfl)) (td.ex x7)) (en D 2) (dni D 3) (y7 _ _ hk) (by omega) fun v8 H8 x8 t8 => ?_)
    have y8 := y7.trans x8
    have hk8 := y8 _ _ hk
    refine ⟨_, _, kvs ++ [(.inl ((i : Nat) : Int), v8)], rfl, Ex.mut (xH.trans y8) hq0, ?_, ?_, ?_⟩
    · rw [upd_same, putK_new _ (kn.none i (by rw [List.length_take]; omega))]
    · rw [take_more hx]
      have := (kn.tm (.ex y8)).snoc t8
      rw [List.length_take, Nat.min_eq_left (by omega), Nat.zero_add] at this
      exact this.tm (Tm.dK hk8)
    · rw [upd_ne hrq]
      exact y8 _ _ hr5
  · obtain ⟨w3, w4, kvs, rfl, xH, hk, kn, hr5⟩ := w
    rw [alen, List.take_length] at kn
    exact ss1 (retV (en D 2) fun H8 x8 => hq _ H8 (xH.trans x8) ⟨q, kvs, rfl, hq0, x8 _ _ hk, kn.tm (.ex x8)⟩)
end
end G
namespace G
open PySem PySem.Spec PyProof.Rows L2 Evl
def nthD (l : List Deed) (j : Nat) : PyData := match l[j]? with
  | some x => x.d
  | none => .none
theorem nth_all (l : List Deed) : (List.range' 0 l.length).map (nthD l) = l.map Deed.d := by
  refine List.ext_getElem? fun i => ?_
  rw [List.getElem?_map, List.getElem?_map]
  by_cases h : i < l.length
  · rw [List.getElem?_range' h, List.getElem?_eq_getElem h]
    show some (nthD l (0 + 1 * i)) = some l[i].d
    unfold nthD
    rw [show 0 + 1 * i = i by omega, List.getElem?_eq_getElem h]
  · rw [List.getElem?_eq_none (by rw [List.length_range']; omega), List.getElem?_eq_none (by omega)]
    rfl
theorem range_sorted (n : Nat) : ((List.range' 0 n).map fun j : Nat => (j : Int)).mergeSort (fun a b => decide (a ≤ b)) = (List.range' 0 n).map fun j : Nat => (j : Int) := by
  refine (sortedI_is (List.Perm.refl _) ?_).symm
  rw [List.pairwise_map]
  exact List.pairwise_le_range'.imp fun h => by omega
theorem rangeEL {X : Cx} {e : Expr} {σ : L2.St} {H : Hp} {n : Nat} (h : EL X e σ H ((((List.range' 0 n).map fun j : Nat => (j : Int)).mergeSort fun a b => decide (a ≤ b)).map .int)) : EL X e σ H ((List.range' 0 n).map fun j : Nat => .int (j : Int)) := by
  rw [range_sorted, List.map_map] at h
  exact h
section
variable {P : Program} {w : World} {K : PySem.W.Frag} {mg : Str → Option Value} {base : Heap}
abbrev actsPre (K : PySem.W.Frag) (a : Addr × List Deed) (H : Hp) : Prop := a.2.length ≤ 40 ∧ ∃ vs, H a.1 = some (.lst vs) ∧ ActsI K H vs a.2
theorem c_deeds_behind (T : Txt K mg) : Cal P w K mg base 2 "deeds_behind" ["acts", "many"] (SpD K (fun a : Addr × List Deed => [.v (.ref a.1), .d (.int a.2.length)]) (actsPre K) (fun a => dd a.2)) := by
  obtain ⟨fd, F⟩ := T.f_deeds_behind
  refine mkCal F T.g_deeds_behind S_deeds_behind H_deeds_behind (fun _ _ _ _ _ _ us hl => match us, hl with | [_, _], _ => rfl) (fun _ => rfl) ?_
  rintro X rfl rfl rfl rfl rfl D ⟨la, l⟩ vs H Q hv ⟨l40, avs, hla, acts⟩ hq
  dsimp only at hv l40 hla acts hq
  obtain ⟨ws, rfl, hv2⟩ := hv.cv
  obtain ⟨v1, rfl, a1⟩ := hv2.d1
  refine ssc (asgR (R := fun H2 v => ∃ q kvs, v = .ref q ∧ H2 q = some (.dK kvs) ∧ KN X.K H2 0 kvs l) D 2 (rcall D (c_known_behind T) (by decide) (la, l) (eav (en D 0) (ead (dn D 1 a1) ean)) (fun H1 x1 => ⟨l40, avs, x1 _ _ hla, acts.ex x1⟩) (hR := fun _ _ _ _ _ ⟨q, kvs, e, _, h1, h2⟩ => ⟨q, kvs, e, h1, h2⟩)) fun v H1 x1 r => ?_)
  obtain ⟨q, kvs, rfl, hk, kn⟩ := r
  refine ss1 (retD (dtuple D T.m_tuple (lcL0 (fun j : Nat => .int (j : Int)) (List.range' 0 l.length) (nthD l) D [("number", 3)] (rangeEL (lsortedDI D T.m_sorted (en D 2) hk kn.keys (by rw [List.length_map, List.length_range']; omega))) (by rw [List.length_range']; omega) fun H2 j v x2 hj tv => ?_)) fun v H2 x2 r => hq v H2 (x1.trans x2) ?_)
  · obtain rfl := tv.int_iff
    have hj' : j < l.length := by
      have := List.mem_range'_1.mp hj
      omega
    obtain ⟨u, h1, h2⟩ := (kn.tm (.ex x2)).get (List.getElem?_eq_getElem hj')
    have eg : nthD l j = l[j].d := by unfold nthD; rw [List.getElem?_eq_getElem hj']
    rw [Nat.zero_add] at h1
    rw [eg]
    exact t1 D 3 (fun _ => rfl) fun _ b => ED.ev (dgetI (D.b b) (en (D.b b) 2) (dni (D.b b) 3) (x2 _ _ hk) h1) h2
  · rw [nth_all] at r
    exact r
end
end G
namespace G
open PySem PySem.Spec PyProof.Rows L2 Evl
abbrev goingF (g : Going) (lv : V) (n : Nat) : List (Str × V) := [("paper", .str g.paper), ("day", .int g.day), ("leave", lv), ("by_hand", .bl false), ("many", .int n)]
def GoingI (K : PySem.W.Frag) (H : Hp) (n : Nat) (v : V) (g : Going) : Prop := ∃ a dx lv, v = .ref a ∧ H a = some (.ins (He.ga K "Going") dx (goingF g lv n)) ∧ TD K H lv (oS g.leave)
inductive GoingsI (K : PySem.W.Frag) (H : Hp) (n : Nat) : List V → List Going → Prop
  | nil : GoingsI K H n [] []
  | cons {v : V} {x : Going} {vs : List V} {l : List Going} : GoingI K H n v x → GoingsI K H n vs l → GoingsI K H n (v :: vs) (x :: l)
section
variable {K : PySem.W.Frag} {H H' : Hp} {S : List Addr} {n : Nat}
theorem GoingI.mo (M : Mo S H H') (hs : ∀ a ∈ S, ∀ dx fs, H a ≠ some (.ins (He.ga K "Going") dx fs)) {v : V} {x : Going} (h : GoingI K H n v x) : GoingI K H' n v x := by
  obtain ⟨a, dx, lv, rfl, h0, t⟩ := h
  exact ⟨a, dx, lv, rfl, M.keep _ _ (fun z => hs a z _ _ h0) h0, t.tm M.tm⟩
theorem GoingsI.mo (M : Mo S H H') (hs : ∀ a ∈ S, ∀ dx fs, H a ≠ some (.ins (He.ga K "Going") dx fs)) : ∀ {vs : List V} {l : List Going}, GoingsI K H n vs l → GoingsI K H' n vs l
  | _, _, .nil => .nil
  | _, _, .cons a b => .cons (a.mo M hs) (GoingsI.mo M hs b)
theorem GoingsI.ex (x : Ex H H') {vs : List V} {l : List Going} (h : GoingsI K H n vs l) : GoingsI K H' n vs l := h.mo (.ex x (S := [])) fun _ h => by simp at h
theorem GoingsI.length : ∀ {vs : List V} {l : List Going}, GoingsI K H n vs l → vs.length = l.length
  | _, _, .nil => rfl
  | _, _, .cons _ b => congrArg Nat.succ (GoingsI.length b)
theorem GoingsI.snoc {v : V} {x : Going} (t : GoingI K H n v x) : ∀ {vs : List V} {l : List Going}, GoingsI K H n vs l → GoingsI K H n (vs ++ [v]) (l ++ [x])
  | _, _, .nil => .cons t .nil
  | _, _, .cons a b => .cons a (GoingsI.snoc t b)
theorem GoingsI.get : ∀ {i : Nat} {u : V} {vs : List V} {l : List Going}, GoingsI K H n vs l → vs[i]? = some u → ∃ x, l[i]? = some x ∧ GoingI K H n u x
  | _, _, _, _, .nil, e => by simp at e
  | 0, _, _, _, .cons a _, e => by simp at e; subst e; exact ⟨_, rfl, a⟩
  | i + 1, u, _, _, .cons _ b, e => by
    obtain ⟨x, h1, h2⟩ := GoingsI.get (i := i) (u := u) b (by simpa using e)
    exact ⟨x, by simpa using h1, h2⟩
end
structure AA where
  a : Addr
  dx : Addr
  la : Addr
  ga : Addr
  ua : Addr
  gg : Addr
abbrev archF (first today : Int) (A : AA) : List (Str × V) := [("first", .int first), ("today", .int today), ("acts", .ref A.la), ("gone", .ref A.ga), ("used", .ref A.ua), ("goings", .ref A.gg)]
structure ArchI (K : PySem.W.Frag) (H : Hp) (A : AA) (first today : Int) (l : List Deed) (gs gl : List Going) : Prop where
  i : H A.a = some (.ins (He.ga K "Archive") A.dx (archF first today A))
  la : ∃ vs, H A.la = some (.lst vs) ∧ ActsI K H vs l
  ga : H A.ga = some (.dK (goneV (goneOf gs)))
  ua : H A.ua = some (.dK (usedV (usedOf gs)))
  gg : ∃ vs, H A.gg = some (.lst vs) ∧ GoingsI K H l.length vs gl
  ne : A.ga ≠ A.ua ∧ A.la ≠ A.gg
theorem ArchI.ex {K : PySem.W.Frag} {H H' : Hp} {A : AA} {first today : Int} {l : List Deed} {gs gl : List Going} (x : Ex H H') (h : ArchI K H A first today l gs gl) : ArchI K H' A first today l gs gl := by
  obtain ⟨i, ⟨vs, h1, h2⟩, h3, h4, ⟨us, h5, h6⟩, h7⟩ := h
  exact ⟨x _ _ i, ⟨vs, x _ _ h1, h2.ex x⟩, x _ _ h3, x _ _ h4, ⟨us, x _ _ h5, h6.ex x⟩, h7⟩
section
variable {P : Program} {w : World} {K : PySem.W.Frag} {mg : Str → Option Value} {base : Heap}
theorem c_Going_init (T : Txt K mg) : MakC P w K mg base 1 "Going" (He.ga K "Going") ["self", "met", "by_hand", "many"] (SpG K (fun a : (Addr × Addr × V) × (Int × Str × MetM) × Nat => [.v (.ref a.1.1), .v a.1.2.2, .d (.bool false), .d (.int a.2.2)]) (fun a H => H a.1.1 = some (.ins (He.ga K "Going") a.1.2.1 []) ∧ MetI K H a.1.2.2 a.2.1.1 a.2.1.2.1 a.2.1.2.2 ∧ a.1.2.2 ≠ .ref a.1.1)
    (fun a H H' v => v = .non ∧ Mo [a.1.1] H H' ∧ GoingI K H' a.2.2 (.ref a.1.1) ⟨a.2.1.2.1, a.2.1.1, a.2.1.2.2.leave⟩)) := by
  obtain ⟨f, fd, F, hk⟩ : ∃ f fd, FunD K "__init__" "Going.__init__" (defArgs s_Going_init) (defBody s_Going_init) (defScope s_Going_init) [] [] f fd ∧ Mk K (He.ga K "Going") f := by
    obtain ⟨fd, F⟩ := T.f_Going_init
    exact ⟨_, fd, F, T.mk_Going⟩
  obtain ⟨h1, h2⟩ := mkFn (P := P) (w := w) (mg := mg) (base := base) (as := fun a : (Addr × Addr × V) × (Int × Str × MetM) × Nat => [.v (.ref a.1.1), .v a.1.2.2, .d (.bool false), .d (.int a.2.2)]) (pre := fun a H => H a.1.1 = some (.ins (He.ga K "Going") a.1.2.1 []) ∧ MetI K H a.1.2.2 a.2.1.1 a.2.1.2.1 a.2.1.2.2 ∧ a.1.2.2 ≠ .ref a.1.1)
    (R := fun a H H' v => v = .non ∧ Mo [a.1.1] H H' ∧ GoingI K H' a.2.2 (.ref a.1.1) ⟨a.2.1.2.1, a.2.1.1, a.2.1.2.2.leave⟩) (k := 0) F S_Going_init H_Going_init (fun _ _ _ _ _ _ us hl => match us, hl with | [_, _, _, _], _ => rfl) (fun _ => rfl) (by
    rintro X rfl rfl rfl rfl rfl D ⟨⟨a, dx, mv⟩, ⟨day, p, m⟩, n⟩ vs H Q hv ⟨hi, mi, hne⟩ hq
    dsimp only at hv hi mi hne hq
    obtain ⟨ws, rfl, hv2⟩ := hv.cv
    obtain ⟨ws, rfl, hv3⟩ := hv2.cv
    obtain ⟨v1, v2, rfl, a1, a2⟩ := hv3.d2
    obtain ⟨ma, mdx, u1, u2, u3, u4, rfl, mi, _, _, _, mt⟩ := mi
    have nma : ma ∉ [a] := fun z => hne (by rw [List.mem_singleton.mp z])
    have z : a ∈ [a] ∨ H a = none := .inl (List.mem_singleton.mpr rfl)
    refine ssc (sfldM (Mo.refl [a] H) hi z (en D 0) (ED.ev (efld (en D 1) mi T.k_Met T.n_Met_paper (by kernel_rfl)) (.str p)) T.k_Going T.n_Going_paper fun u1 H1 M1 m1 i1 s1 => ?_)
    refine ssc (sfldM M1 i1 z (en D 0) (ED.ev (efld (en D 1) (M1.keep _ _ nma mi) T.k_Met T.n_Met_day (by kernel_rfl)) (.int day)) T.k_Going T.n_Going_day fun u2 H2 M2 m2 i2 s2 => ?_)
    refine ssc (sfldM M2 i2 z (en D 0) (ED.ev (efld (en D 1) (M2.keep _ _ nma mi) T.k_Met T.n_Met_leave (by kernel_rfl)) (mt.tm M2.tm)) T.k_Going T.n_Going_leave fun u3 H3 M3 m3 i3 s3 => ?_)
    refine ssc (sfldM M3 i3 z (en D 0) (dn D 2 (a1.tm M3.tm)) T.k_Going T.n_Going_by_hand fun u4 H4 M4 m4 i4 s4 => ?_)
    refine ss1 (sfldM M4 i4 z (en D 0) (dn D 3 (a2.tm M4.tm)) T.k_Going T.n_Going_many fun u5 H5 M5 m5 i5 s5 => ?_)
    obtain rfl := s1.str_iff
    obtain rfl := s2.int_iff
    obtain rfl := s4.bl_iff
    obtain rfl := s5.int_iff
    exact hq .non H5 ⟨rfl, M5, a, dx, u3, rfl, i5, s3.tm (m4.tm.trans m5.tm)⟩)
  exact ⟨f, fd, hk, h1, T.g_Going, h2⟩
abbrev archArgs (a : AA × (Int × Int) × List Deed × List Going) : List AV := [.v (.ref a.1.a)]
abbrev archPre (K : PySem.W.Frag) (a : AA × (Int × Int) × List Deed × List Going) (H : Hp) : Prop := ArchI K H a.1 a.2.1.1 a.2.1.2 a.2.2.1 a.2.2.2 a.2.2.2
theorem c_present (T : Txt K mg) : MetC P w K mg base 1 (He.ga K "Archive") "present" ["self"] (SpG K archArgs (archPre K) (fun a H H' v => Ex H H' ∧ TD K H' v (.int a.2.1.2))) := by
  obtain ⟨fd, F⟩ := T.f_Archive_present
  obtain ⟨h1, h2⟩ := mkFn (P := P) (w := w) (mg := mg) (base := base) (as := archArgs) (pre := archPre K) (R := fun a H H' v => Ex H H' ∧ TD K H' v (.int a.2.1.2)) (k := 0) F S_Archive_present H_Archive_present (fun _ _ _ _ _ _ us hl => match us, hl with | [_], _ => rfl) (fun _ => rfl) (by
    rintro X rfl rfl rfl rfl rfl D ⟨A, ⟨first, today⟩, l, gs⟩ vs H Q hv hi hq
    dsimp only [archArgs] at hv hi hq
    obtain ⟨ws, rfl, hv2⟩ := hv.cv
    obtain rfl := hv2.n
    exact ss1 (retD (ED.ev (efld (en D 0) hi.i T.k_Archive T.n_Archive_today (by kernel_rfl)) (.int today)) fun v H1 x r => hq v H1 ⟨x, r⟩))
  exact ⟨_, fd, T.mt_Archive_present, h1, h2⟩
theorem c_deeds_now (T : Txt K mg) : MetC P w K mg base 3 (He.ga K "Archive") "deeds_now" ["self"] (SpG K archArgs (fun a H => archPre K a H ∧ a.2.2.1.length ≤ 40) (fun a H H' v => Ex H H' ∧ TD K H' v (dd a.2.2.1))) := by
  obtain ⟨fd, F⟩ := T.f_Archive_deeds_now
  obtain ⟨h1, h2⟩ := mkFn (P := P) (w := w) (mg := mg) (base := base) (as := archArgs) (pre := fun a H => archPre K a H ∧ a.2.2.1.length ≤ 40) (R := fun a H H' v => Ex H H' ∧ TD K H' v (dd a.2.2.1)) (k := 2) F S_Archive_deeds_now H_Archive_deeds_now (fun _ _ _ _ _ _ us hl => match us, hl with | [_], _ => rfl) (fun _ => rfl) (by
    rintro X rfl rfl rfl rfl rfl D ⟨A, ⟨first, today⟩, l, gs⟩ vs H Q hv ⟨hi, l40⟩ hq
    dsimp only [archArgs] at hv hi l40 hq
    obtain ⟨ws, rfl, hv2⟩ := hv.cv
    obtain rfl := hv2.n
    obtain ⟨avs, hla, acts⟩ := hi.la
    refine ss1 (retD (dcall D (c_deeds_behind T) (A.la, l) (eav (efld (en D 0) hi.i T.k_Archive T.n_Archive_acts (by kernel_rfl)) (ead (ED.to (dlenV D T.m_len (efld (en D 0) hi.i T.k_Archive T.n_Archive_acts (by kernel_rfl)) (.inl (.inl hla))) (by rw [acts.length])) ean)) fun H1 x1 => ⟨l40, avs, x1 _ _ hla, acts.ex x1⟩) fun v H1 x r => hq v H1 ⟨x, r⟩))
  exact ⟨_, fd, T.mt_Archive_deeds_now, h1, h2⟩
end
end G
namespace G
open PySem PySem.Spec PyProof.Rows L2 Evl
section
variable {P : Program} {w : World} {K : PySem.W.Frag} {mg : Str → Option Value} {base : Heap}
theorem c_Archive_init (T : Txt K mg) : MakC P w K mg base 3 "Archive" (He.ga K "Archive") ["self", "day"] (SpG K (fun a : (Addr × Addr) × Int => [.v (.ref a.1.1), .d (.int a.2)]) (fun a H => H a.1.1 = some (.ins (He.ga K "Archive") a.1.2 []) ∧ 0 ≤ a.2 ∧ a.2 ≤ 99999)
    (fun a H H' v => v = .non ∧ Mo [a.1.1] H H' ∧ ∃ A : AA, A.a = a.1.1 ∧ ArchI K H' A a.2 a.2 [] [] [] ∧ H A.la = none ∧ H A.ga = none ∧ H A.ua = none ∧ H A.gg = none)) := by
  obtain ⟨f, fd, F, hk⟩ : ∃ f fd, FunD K "__init__" "Archive.__init__" (defArgs s_Archive_init) (defBody s_Archive_init) (defScope s_Archive_init) [] [] f fd ∧ Mk K (He.ga K "Archive") f := by
    obtain ⟨fd, F⟩ := T.f_Archive_init
    exact ⟨_, fd, F, T.mk_Archive⟩
  obtain ⟨h1, h2⟩ := mkFn (P := P) (w := w) (mg := mg) (base := base) (as := fun a : (Addr × Addr) × Int => [.v (.ref a.1.1), .d (.int a.2)]) (pre := fun a H => H a.1.1 = some (.ins (He.ga K "Archive") a.1.2 []) ∧ 0 ≤ a.2 ∧ a.2 ≤ 99999)
    (R := fun a H H' v => v = .non ∧ Mo [a.1.1] H H' ∧ ∃ A : AA, A.a = a.1.1 ∧ ArchI K H' A a.2 a.2 [] [] [] ∧ H A.la = none ∧ H A.ga = none ∧ H A.ua = none ∧ H A.gg = none) (k := 2) F S_Archive_init H_Archive_init (fun _ _ _ _ _ _ us hl => match us, hl with | [_, _], _ => rfl) (fun _ => rfl) (by
    rintro X rfl rfl rfl rfl rfl D ⟨⟨a, dx⟩, day⟩ vs H Q hv ⟨hi, d0, d1⟩ hq
    dsimp only at hv hi d0 d1 hq
    obtain ⟨ws, rfl, hv2⟩ := hv.cv
    obtain ⟨v1, rfl, a1⟩ := hv2.d1
    refine ssc (sif (c := false) (tnot (tval (c := true) (ED.to (dcall D (c_is_day T) day (ead (dn D 1 a1) ean) fun _ _ => trivial) (by rw [decide_eq_true d0, decide_eq_true d1] <;> rfl)))) (fun h => nomatch h) fun _ H0 x0 => ss0 ?_)
    have z : a ∈ [a] ∨ H a = none := .inl (List.mem_singleton.mpr rfl)
    have M0 : Mo [a] H H0 := .ex x0
    refine ssc (sfldM M0 (x0 _ _ hi) z (en D 0) (dn D 1 (a1.tm M0.tm)) T.k_Archive T.n_Archive_first fun u1 H1 M1 m1 i1 s1 => ?_)
    refine ssc (sfldM M1 i1 z (en D 0) (dn D 1 (a1.tm M1.tm)) T.k_Archive T.n_Archive_today fun u2 H2 M2 m2 i2 s2 => ?_)
    obtain rfl := s1.int_iff
    obtain rfl := s2.int_iff
    refine ssc (sfldMR M2 i2 z (en D 0) elnew (fun H1 H2 v x r => by
      obtain ⟨q, e, h0, h1⟩ := r
      exact ⟨q, e, h0, x _ _ h1⟩) T.k_Archive T.n_Archive_acts fun v H3 H4 x3 r3 m4 M4 i4 => ?_)
    obtain ⟨la, rfl, hl0, hl3⟩ := r3
    have nla : la ≠ a := fun e => by rw [e, i2] at hl0; cases hl0
    have hl4 := m4.keep _ _ (by simpa using nla) hl3
    refine ssc (sfldMR M4 i4 z (en D 0) ednew (fun H1 H2 v x r => by
      obtain ⟨q, e, h0, h1⟩ := r
      exact ⟨q, e, h0, x _ _ h1⟩) T.k_Archive T.n_Archive_gone fun v H5 H6 x5 r5 m6 M6 i6 => ?_)
    obtain ⟨ga, rfl, hg0, hg5⟩ := r5
    have nga : ga ≠ a := fun e => by rw [e, i4] at hg0; cases hg0
    have hg6 := m6.keep _ _ (by simpa using nga) hg5
    have hl6 := m6.keep _ _ (by simpa using nla) (x5 _ _ hl4)
    refine ssc (sfldMR M6 i6 z (en D 0) ednew (fun H1 H2 v x r => by
      obtain ⟨q, e, h0, h1⟩ := r
      exact ⟨q, e, h0, x _ _ h1⟩) T.k_Archive T.n_Archive_used fun v H7 H8 x7 r7 m8 M8 i8 => ?_)
    obtain ⟨ua, rfl, hu0, hu7⟩ := r7
    have nua : ua ≠ a := fun e => by rw [e, i6] at hu0; cases hu0
    have ngu : ga ≠ ua := fun e => by rw [← e, hg6] at hu0; cases hu0
    have hu8 := m8.keep _ _ (by simpa using nua) hu7
    have hl8 := m8.keep _ _ (by simpa using nla) (x7 _ _ hl6)
    have hg8 := m8.keep _ _ (by simpa using nga) (x7 _ _ hg6)
    refine ss1 (sfldMR M8 i8 z (en D 0) elnew (fun H1 H2 v x r => by
      obtain ⟨q, e, h0, h1⟩ := r
      exact ⟨q, e, h0, x _ _ h1⟩) T.k_Archive T.n_Archive_goings fun v H9 HA x9 r9 mA MA iA => ?_)
    obtain ⟨gg, rfl, hh0, hh9⟩ := r9
    have ngg : gg ≠ a := fun e => by rw [e, i8] at hh0; cases hh0
    have nlg : la ≠ gg := fun e => by rw [← e, hl8] at hh0; cases hh0
    have k : ∀ c o, c ≠ a → H8 c = some o → HA c = some o := fun c o n e => mA.keep c o (by simpa using n) (x9 _ _ e)
    exact hq .non HA ⟨rfl, MA, ⟨a, dx, la, ga, ua, gg⟩, rfl, ⟨iA, ⟨[], k _ _ nla hl8, .nil⟩, k _ _ nga hg8, k _ _ nua hu8, ⟨[], mA.keep _ _ (by simpa using ngg) hh9, .nil⟩, ngu, nlg⟩, M2.fresh hl0 (by simpa using nla), M4.fresh hg0 (by simpa using nga), M6.fresh hu0 (by simpa using nua), M8.fresh hh0 (by simpa using ngg)⟩)
  exact ⟨f, fd, hk, h1, T.g_Archive, h2⟩
/-- what may be moved: the dicts, a list that is no act's list -/
theorem ArchI.acts {K : PySem.W.Frag} {H H' : Hp} {A : AA} {S : List Addr} {first today : Int} {l : List Deed} {gs gl : List Going} (h : ArchI K H A first today l gs gl) (M : Mo S H H') (hs : ∀ c ∈ S, (∃ kv, H c = some (.dK kv)) ∨ c = A.gg) : H' A.a = some (.ins (He.ga K "Archive") A.dx (archF first today A)) ∧ ∃ vs, H' A.la = some (.lst vs) ∧ ActsI K H' vs l := by
  obtain ⟨i, ⟨vs, h1, h2⟩, h3, h4, ⟨us, h5, h6⟩, h7⟩ := h
  refine ⟨M.keep _ _ (fun z => ?_) i, vs, M.keep _ _ (fun z => ?_) h1, h2.mo M fun c hc dx fs z => ?_⟩
  · rcases hs _ z with ⟨kv, e⟩ | e
    · rw [e] at i
      cases i
    · rw [e, h5] at i
      cases i
  · rcases hs _ z with ⟨kv, e⟩ | e
    · rw [e] at h1
      cases h1
    · exact h7.2 e
  · rcases hs _ hc with ⟨kv, e⟩ | e
    · rw [e] at z
      cases z
    · rw [e, h5] at z
      cases z
theorem c_keep_going (T : Txt K mg) : MetC P w K mg base 3 (He.ga K "Archive") "keep_going" ["self", "met", "by_hand"] (SpG K (fun a : (AA × V) × (Int × Int) × (List Deed × List Going × List Going) × Int × Str × MetM => [.v (.ref a.1.1.a), .v a.1.2, .d (.bool false)])
    (fun a H => ArchI K H a.1.1 a.2.1.1 a.2.1.2 a.2.2.1.1 a.2.2.1.2.1 a.2.2.1.2.2 ∧ MetI K H a.1.2 a.2.2.2.1 a.2.2.2.2.1 a.2.2.2.2.2 ∧ a.2.2.1.2.2.length < 50000)
    (fun a H H' v => Mo [a.1.1.gg] H H' ∧ ArchI K H' a.1.1 a.2.1.1 a.2.1.2 a.2.2.1.1 a.2.2.1.2.1 (a.2.2.1.2.2 ++ [⟨a.2.2.2.2.1, a.2.2.2.1, a.2.2.2.2.2.leave⟩]))) := by
  obtain ⟨fd, F⟩ := T.f_Archive_keep_going
  obtain ⟨h1, h2⟩ := mkFn (P := P) (w := w) (mg := mg) (base := base) (as := fun a : (AA × V) × (Int × Int) × (List Deed × List Going × List Going) × Int × Str × MetM => [.v (.ref a.1.1.a), .v a.1.2, .d (.bool false)])
    (pre := fun a H => ArchI K H a.1.1 a.2.1.1 a.2.1.2 a.2.2.1.1 a.2.2.1.2.1 a.2.2.1.2.2 ∧ MetI K H a.1.2 a.2.2.2.1 a.2.2.2.2.1 a.2.2.2.2.2 ∧ a.2.2.1.2.2.length < 50000)
    (R := fun a H H' v => Mo [a.1.1.gg] H H' ∧ ArchI K H' a.1.1 a.2.1.1 a.2.1.2 a.2.2.1.1 a.2.2.1.2.1 (a.2.2.1.2.2 ++ [⟨a.2.2.2.2.1, a.2.2.2.1, a.2.2.2.2.2.leave⟩])) (k := 2) F S_Archive_keep_going H_Archive_keep_going (fun _ _ _ _ _ _ us hl => match us, hl with | [_, _, _], _ => rfl) (fun _ => rfl) (by
    rintro X rfl rfl rfl rfl rfl D ⟨⟨A, mv⟩, ⟨first, today⟩, ⟨l, gs, gl⟩, day, p, m⟩ vs H Q hv ⟨hi, mi, hz⟩ hq
    dsimp only at hv hi mi hz hq
    obtain ⟨ws, rfl, hv2⟩ := hv.cv
    obtain ⟨ws, rfl, hv3⟩ := hv2.cv
    obtain ⟨v1, rfl, a1⟩ := hv3.d1
    obtain ⟨avs, hla, acts⟩ := hi.la
    obtain ⟨gv, hgg, gi⟩ := hi.gg
    have glen := gi.length
    obtain ⟨ma, C, mdx, mfs, rfl, mia⟩ := mi.at
    refine ss1 (sappR (R := fun H2 v => GoingI X.K H2 l.length v ⟨p, day, m.leave⟩ ∧ Ex H H2) (efld (en D 0) hi.i T.k_Archive T.n_Archive_goings (by kernel_rfl)) hgg (by omega)
      (dmake D (c_Going_init T) (by decide) (eav (en D 1) (ead (dn D 2 a1) (ead (ED.to (dlenV D T.m_len (efld (en D 0) hi.i T.k_Archive T.n_Archive_acts (by kernel_rfl)) (.inl (.inl hla))) (by rw [acts.length])) ean))) fun H1 q dx x1 hq0 hdx hne => ⟨((q, dx, .ref ma), (day, p, m), l.length), rfl, ⟨upd_same, ?_, ?_⟩, fun v H2 ⟨r1, r2, r3⟩ => ?_⟩) fun v H1 x1 ⟨g1, _⟩ => ?_)
    · have n1 : Ex H1 (upd H1 dx (.own q)) := Ex.new hdx
      have n2 : Ex (upd H1 dx (.own q)) (upd (upd H1 dx (.own q)) q (.ins (He.ga X.K "Going") dx [])) := Ex.new (by rw [upd_ne (Ne.symm hne)]; exact hq0)
      exact mi.mo (.ex ((x1.trans n1).trans n2) (S := [])) (fun _ _ => List.not_mem_nil)
    · intro e
      have e2 : ma = q := V.ref.inj e
      rw [← e2, x1 _ _ mia] at hq0
      cases hq0
    · have xx : Ex H1 H2 := fun b o e => r2.keep b o (not_mem1 hq0 e) (by
        rw [upd_ne (ne_of_none e hq0), upd_ne (ne_of_none e hdx)]
        exact e)
      exact ⟨r1, xx, r3, x1.trans xx⟩
    · have hg1 := x1 _ _ hgg
      have NM : Mo [A.gg] H1 (upd H1 A.gg (.lst (gv ++ [v]))) := (Mo.refl [A.gg] H1).put hg1 nt_lst (List.mem_singleton.mpr rfl)
      have MM : Mo [A.gg] H (upd H1 A.gg (.lst (gv ++ [v]))) := (Mo.ex x1).trans NM
      obtain ⟨b1, b2⟩ := hi.acts MM fun c hc => .inr (List.mem_singleton.mp hc)
      have nd : ∀ c ∈ [A.gg], ∀ dx fs, H1 c ≠ some (.ins (He.ga X.K "Going") dx fs) := fun c hc dx fs z => by
        rw [List.mem_singleton.mp hc, hg1] at z
        cases z
      refine hq .non _ ⟨MM, b1, b2, MM.keep _ _ (fun z => ?_) hi.ga, MM.keep _ _ (fun z => ?_) hi.ua, ⟨_, upd_same, ((gi.ex x1).mo NM nd).snoc (g1.mo NM nd)⟩, hi.ne⟩
      · have h3 := hi.ga
        rw [List.mem_singleton.mp z, hgg] at h3
        cases h3
      · have h3 := hi.ua
        rw [List.mem_singleton.mp z, hgg] at h3
        cases h3)
  exact ⟨_, fd, T.mt_Archive_keep_going, h1, h2⟩
end
end G
namespace G
open PySem PySem.Spec PyProof.Rows L2 Evl
theorem MetsI.nth {K : PySem.W.Frag} {H0 H : Hp} {day : Int} : ∀ {i : Nat} {u : V} {vs : List V} {ms : List (Str × MetM)}, MetsI K H0 H day vs ms → vs[i]? = some u → ∃ q, ms[i]? = some q ∧ MetI K H u day q.1 q.2
  | _, _, _, _, .nil, e => by simp at e
  | 0, _, _, _, .cons a b c, e => by simp at e; subst e; exact ⟨_, rfl, b⟩
  | i + 1, u, _, _, .cons a b c, e => by
    obtain ⟨q, h1, h2⟩ := MetsI.nth (i := i) (u := u) c (by simpa using e)
    exact ⟨q, by simpa using h1, h2⟩
theorem mets_shp {l : List Deed} (W : WF l) (day : Int) (gs : List Going) : ∀ q ∈ metsM l day gs, q.2.shp := step2_shp W day (papersM l) _ fun q hq => by simp at hq
def goOf (day : Int) (ms : List (Str × MetM)) : List Going := (ms.filter fun q => q.2.isLet).map fun q => ⟨q.1, day, q.2.leave⟩
theorem goOf_len (day : Int) (ms : List (Str × MetM)) : (goOf day ms).length ≤ ms.length := by
  unfold goOf
  rw [List.length_map]
  exact List.length_filter_le _ _
section
variable {X : Cx} {N : List Str} {sc : Scope} {k : Nat} {a b c0 : Expr} {σ : L2.St} {H : Hp} {pos : Pos}
/-- i < x < j -/
theorem ltltI {i x y : Int} (h1 : ED X a σ H (.int i)) (h2 : ED X b σ H (.int x)) (h3 : ED X c0 σ H (.int y)) (hm : lastMarks [.Lt, .Lt] [b, c0] = false := by with_unfolding_all rfl) : ET X (.Compare a [.Lt, .Lt] [b, c0] pos) σ H (decide (i < x) && decide (x < y)) := fun H1 x1 Q q =>
  pt_le (pt_chain op_lt op_lt (we a) (we b) (we c0) hm) (EV.int h1 H1 x1 _ fun H2 x2 => EV.int h2 H2 (x1.trans x2) _ fun H3 x3 => ⟨i, x, rfl, rfl, _, rfl, by
    by_cases hc : i < x
    · rw [if_pos (decide_eq_true hc)]
      refine EV.int h3 H3 ((x1.trans x2).trans x3) _ fun H4 x4 => ⟨x, y, rfl, rfl, _, rfl, ?_⟩
      have := q H4 ((x2.trans x3).trans x4)
      rw [decide_eq_true hc, Bool.true_and] at this
      exact this
    · rw [if_neg (by rw [decide_eq_false hc]; decide)]
      have := q H3 (x2.trans x3)
      rw [decide_eq_false hc, Bool.false_and] at this
      exact ⟨_, rfl, this⟩⟩)
end
section
variable {P : Program} {w : World} {K : PySem.W.Frag} {mg : Str → Option Value} {base : Heap}
abbrev ClA := AA × (Int × Int) × (List Deed × List Going) × Int
abbrev clArgs (a : ClA) : List AV := [.v (.ref a.1.a), .d (.int a.2.2.2)]
structure ClPre (K : PySem.W.Frag) (a : ClA) (H : Hp) : Prop where
  h : ArchI K H a.1 a.2.1.1 a.2.1.2 a.2.2.1.1 a.2.2.1.2 a.2.2.1.2
  W : WF a.2.2.1.1
  ok : GsOk a.2.2.1.1 a.2.2.1.2
abbrev movL (A : AA) : List Addr := [A.ga, A.ua, A.gg]
theorem c_close (T : Txt K mg) : MetC P w K mg base 10 (He.ga K "Archive") "close" ["self", "day"] (SpG K clArgs (ClPre K) (fun a H H' v => v = .non ∧ Mo (movL a.1) H H' ∧ ArchI K H' a.1 a.2.1.1 a.2.1.2 a.2.2.1.1 (closeM a.2.2.1.1 a.2.2.2 a.2.2.1.2) (closeM a.2.2.1.1 a.2.2.2 a.2.2.1.2))) := by
  obtain ⟨fd, F⟩ := T.f_Archive_close
  obtain ⟨h1, h2⟩ := mkFn (P := P) (w := w) (mg := mg) (base := base) (as := clArgs) (pre := ClPre K)
    (R := fun a H H' v => v = .non ∧ Mo (movL a.1) H H' ∧ ArchI K H' a.1 a.2.1.1 a.2.1.2 a.2.2.1.1 (closeM a.2.2.1.1 a.2.2.2 a.2.2.1.2) (closeM a.2.2.1.1 a.2.2.2 a.2.2.1.2)) (k := 9) F S_Archive_close H_Archive_close (fun _ _ _ _ _ _ us hl => match us, hl with | [_, _], _ => rfl) (fun _ => rfl) (by
    rintro X rfl rfl rfl rfl rfl D ⟨A, ⟨first, today⟩, ⟨l, gs⟩, day⟩ vs H Q hv ⟨hi, W, ok⟩ hq
    dsimp only [clArgs] at hv hi W ok hq
    obtain ⟨ws, rfl, hv2⟩ := hv.cv
    obtain ⟨v1, rfl, a1⟩ := hv2.d1
    have l40 := W.len
    have glen := ok.len W
    have mlen := mets_len l day gs
    refine ss1 (forW D (gcall D (c_close_day T) (by decide) (ead (dmeth0 (R' := fun H2 v => TD X.K H2 v (dd l)) D (c_deeds_now T) T.k_Archive (by decide) (en D 0) hi.i (by kernel_rfl) fun H1 x1 => ⟨(A, (first, today), l, gs), rfl, ⟨hi.ex x1, l40⟩, fun v H2 r => r⟩) (ead (dn D 1 a1) (eav (efld (en D 0) hi.i T.k_Archive T.n_Archive_gone (by kernel_rfl)) (eav (efld (en D 0) hi.i T.k_Archive T.n_Archive_used (by kernel_rfl)) ean)))) fun H1 x1 => ⟨((A.ga, A.ua, gs), l, day), rfl, ⟨⟨x1 _ _ hi.ga, x1 _ _ hi.ua, W, ok⟩, hi.ne.1⟩, fun v H2 r2 => ?_⟩))
    obtain ⟨mo, rg, ru, q, vs, rfl, hq0, hq1, ms⟩ := r2
    dsimp only at mo rg ru ms
    have hi1 := hi.ex x1
    have M2 : Mo (movL A) H H2 := (Mo.ex x1).trans (mo.sub fun c hc => by
      rcases List.mem_cons.mp hc with z | z
      · simp [movL, z]
      · simp [movL, List.mem_singleton.mp z])
    obtain ⟨b1, b2⟩ := hi1.acts mo fun c hc => by
      rcases List.mem_cons.mp hc with rfl | z
      · exact .inl ⟨_, hi1.ga⟩
      · rw [List.mem_singleton.mp z]
        exact .inl ⟨_, hi1.ua⟩
    obtain ⟨gv, hgg, gi⟩ := hi1.gg
    have ngg : A.gg ∉ [A.ga, A.ua] := fun z => by
      rcases List.mem_cons.mp z with e | e
      · rw [e, hi1.ga] at hgg
        cases hgg
      · rw [List.mem_singleton.mp e, hi1.ua] at hgg
        cases hgg
    have hi2 : ArchI X.K H2 A first today l (closeM l day gs) gs := ⟨b1, b2, rg, ru, ⟨gv, mo.keep _ _ ngg hgg, gi.mo mo fun c hc dx fs z => by
      rcases List.mem_cons.mp hc with e | e
      · rw [e, hi1.ga] at z
        cases z
      · rw [List.mem_singleton.mp e, hi1.ua] at z
        cases z⟩, hi.ne⟩
    have nqg : q ≠ A.gg := fun e => by rw [e, hgg] at hq0; cases hq0
    refine ⟨q, vs, rfl, hq1, fun i σ' H' => ∃ w2, σ' = [some (.ref A.a), some v1, w2] ∧ Mo (movL A) H H' ∧ ArchI X.K H' A first today l (closeM l day gs) (gs ++ goOf day ((metsM l day gs).take i)) ∧ MetsI X.K H1 H' day vs (metsM l day gs) ∧ H' q = some (.lst vs),
      ⟨none, rfl, M2, by rw [List.take_zero]; show ArchI X.K H2 A first today l _ (gs ++ []); rw [List.append_nil]; exact hi2, ms, hq1⟩, fun i σ' H' h => ?_, fun i u σ' H' hu h => ?_, fun σ' H' h => ?_⟩
    · obtain ⟨_, _, _, _, _, h⟩ := h
      exact h
    · obtain ⟨w2, rfl, M, hA, mts, hqq⟩ := h
      obtain ⟨⟨p, m⟩, hm, mi⟩ := mts.nth hu
      dsimp only at mi
      obtain ⟨ma, C, mdx, mfs, rfl, mia⟩ := mi.at
      have hi' : i < (metsM l day gs).length := (List.getElem?_eq_some_iff.mp hm).1
      have gol := goOf_len day ((metsM l day gs).take i)
      rw [List.length_take] at gol
      have hms := mets_shp W day gs (p, m) (List.mem_of_getElem? hm)
      have mi' := mi
      obtain ⟨ma2, mdx2, u1, u2, u3, u4, e, i6, _⟩ := mi'
      cases e
      refine g1 D 2 (ss1 (sif (tval (ED.ofBl (dmeth0 D (c_is_let T) T.k_Met (by decide) (en D 2) i6 (by kernel_rfl) fun H8 x8 => ⟨(.ref ma, day, p, m), rfl, ⟨mi.mo (.ex x8 (S := [])) (fun _ _ => List.not_mem_nil), hms⟩, fun v H9 r => r⟩))) (fun hlet H8 x8 => ?_) fun hlet H8 x8 => ss0 ?_))
      · have hA8 := hA.ex x8
        refine ss1 (exprW (gmeth D (c_keep_going T) T.k_Archive (by decide) (en D 0) hA8.i (by kernel_rfl) (eav (en D 2) (ead db ean)) fun H9 x9 => ⟨((A, .ref ma), (first, today), (l, closeM l day gs, gs ++ goOf day ((metsM l day gs).take i)), day, p, m), rfl, ⟨hA8.ex x9, mi.mo (.ex (x8.trans x9) (S := [])) (fun _ _ => List.not_mem_nil), by rw [List.length_append]; omega⟩, fun v HA rA => ?_⟩))
        obtain ⟨rm, ra⟩ := rA
        dsimp only at rm ra
        have y9 := x8.trans x9
        obtain ⟨gv', hgg', _⟩ := hA.gg
        refine ⟨_, rfl, (M.then y9).trans (rm.sub fun c hc => by simp [movL, List.mem_singleton.mp hc]), ?_, (mts.mo (.ex y9 (S := [])) (fun _ h => by simp at h)).mo rm fun c hc C dx fs z => ?_, rm.keep _ _ (by simpa using nqg) (y9 _ _ hqq)⟩
        · have e : goOf day ((metsM l day gs).take (i + 1)) = goOf day ((metsM l day gs).take i) ++ [⟨p, day, m.leave⟩] := by
            rw [take_more hm]
            unfold goOf
            rw [List.filter_append, List.map_append, List.filter_cons, if_pos hlet] <;> rfl
          rw [e, ← List.append_assoc]
          exact ra
        · rw [List.mem_singleton.mp hc, y9 _ _ hgg'] at z
          cases z
      · refine ⟨_, rfl, M.then x8, ?_, mts.mo (.ex x8 (S := [])) (fun _ h => by simp at h), x8 _ _ hqq⟩
        have hlet : m.isLet = false := hlet
        have e : goOf day ((metsM l day gs).take (i + 1)) = goOf day ((metsM l day gs).take i) := by
          rw [take_more hm]
          unfold goOf
          rw [List.filter_append, List.map_append, List.filter_cons, if_neg (by rw [hlet]; decide)]
          simp
        rw [e]
        exact hA.ex x8
    · obtain ⟨w2, rfl, M, hA, mts, hqq⟩ := h
      rw [mts.length, List.take_length] at hA
      have e : gs ++ goOf day (metsM l day gs) = closeM l day gs := (close_goings l day gs).symm
      rw [e] at hA
      exact hq .non H' ⟨rfl, M, hA⟩)
  exact ⟨_, fd, T.mt_Archive_close, h1, h2⟩
end
end G
namespace G
open PySem PySem.Spec PyProof.Rows L2 Evl
def betB (today day o : Int) : Bool := decide (today < o) && decide (o < day)
def turnM (l : List Deed) (today day : Int) (gs : List Going) : List Going := runM l ((turningM l).filter (betB today day)) (closeM l today gs)
theorem runM_app (l : List Deed) (a b : List Int) (gs : List Going) : runM l (a ++ b) gs = runM l b (runM l a gs) := by unfold runM; rw [List.foldl_append]
section
variable {K : PySem.W.Frag} {H H' : Hp} {S : List Addr} {n : Nat}
theorem ActsI.moF (M : Mo S H H') (hs : ∀ a ∈ S, ∀ dx day vd, H a ≠ some (.ins (He.ga K "Act") dx (actF day vd))) : ∀ {vs : List V} {l : List Deed}, ActsI K H vs l → ActsI K H' vs l
  | _, _, .nil => .nil
  | _, _, .cons ⟨a, dx, day, vd, e, h0, t⟩ b => .cons ⟨a, dx, day, vd, e, M.keep _ _ (fun z => hs a z _ _ _ h0) h0, t.tm M.tm⟩ (ActsI.moF M hs b)
theorem GoingsI.moF (M : Mo S H H') (hs : ∀ a ∈ S, ∀ dx g lv, H a ≠ some (.ins (He.ga K "Going") dx (goingF g lv n))) : ∀ {vs : List V} {l : List Going}, GoingsI K H n vs l → GoingsI K H' n vs l
  | _, _, .nil => .nil
  | _, _, .cons ⟨a, dx, lv, e, h0, t⟩ b => .cons ⟨a, dx, lv, e, M.keep _ _ (fun z => hs a z _ _ _ h0) h0, t.tm M.tm⟩ (GoingsI.moF M hs b)
theorem wd_fd : ¬ ("first" : Str) = "day" := by decide +kernel
theorem wd_fp : ¬ ("first" : Str) = "paper" := by decide +kernel
end
section
variable {P : Program} {w : World} {K : PySem.W.Frag} {mg : Str → Option Value} {base : Heap}
structure TuPre (K : PySem.W.Frag) (a : ClA) (H : Hp) : Prop extends ClPre K a H where
  few : Few a.2.2.1.1
  lt : a.2.1.2 < a.2.2.2
  d0 : 0 ≤ a.2.1.2
  d1 : a.2.2.2 ≤ 99999
theorem c_turn (T : Txt K mg) : MetC P w K mg base 11 (He.ga K "Archive") "turn" ["self", "day"] (SpG K clArgs (TuPre K) (fun a H H' v => v = .non ∧ Mo (a.1.a :: movL a.1) H H' ∧ ArchI K H' a.1 a.2.1.1 a.2.2.2 a.2.2.1.1 (turnM a.2.2.1.1 a.2.1.2 a.2.2.2 a.2.2.1.2) (turnM a.2.2.1.1 a.2.1.2 a.2.2.2 a.2.2.1.2))) := by
  obtain ⟨fd, F⟩ := T.f_Archive_turn
  obtain ⟨h1, h2⟩ := mkFn (P := P) (w := w) (mg := mg) (base := base) (as := clArgs) (pre := TuPre K)
    (R := fun a H H' v => v = .non ∧ Mo (a.1.a :: movL a.1) H H' ∧ ArchI K H' a.1 a.2.1.1 a.2.2.2 a.2.2.1.1 (turnM a.2.2.1.1 a.2.1.2 a.2.2.2 a.2.2.1.2) (turnM a.2.2.1.1 a.2.1.2 a.2.2.2 a.2.2.1.2)) (k := 10) F S_Archive_turn H_Archive_turn (fun _ _ _ _ _ _ us hl => match us, hl with | [_, _], _ => rfl) (fun _ => rfl) (by
    rintro X rfl rfl rfl rfl rfl D ⟨A, ⟨first, today⟩, ⟨l, gs⟩, day⟩ vs H Q hv ⟨⟨hi, W, ok⟩, few, hlt, d0, d1⟩ hq
    dsimp only [clArgs] at hv hi W ok few hlt d0 d1 hq
    obtain ⟨ws, rfl, hv2⟩ := hv.cv
    obtain ⟨v1, rfl, a1⟩ := hv2.d1
    obtain rfl := a1.int_iff
    have l40 := W.len
    refine ssc (sif (c := false) (ET.to (EW.et (torc (tnot (tval (c := true) (ED.to (dcall D (c_is_day T) day (ead (dni D 1) ean) fun _ _ => trivial) (by rw [decide_eq_true (show (0 : Int) ≤ day by omega), decide_eq_true d1] <;> rfl)))) fun _ => tor1 (leI (dni D 1) (ED.ev (efld (en D 0) hi.i T.k_Archive T.n_Archive_today (by kernel_rfl)) (.int today))))) (by rw [decide_eq_false (show ¬ day ≤ today by omega)] <;> rfl)) (fun h => nomatch h) fun _ H1 x1 => ss0 ?_)
    have hi1 := hi.ex x1
    refine ssc (exprW (gmeth D (c_close T) T.k_Archive (by decide) (en D 0) hi1.i (by kernel_rfl) (ead (ED.ev (efld (en D 0) hi1.i T.k_Archive T.n_Archive_today (by kernel_rfl)) (.int today)) ean) fun H2 x2 => ⟨(A, (first, today), (l, gs), today), rfl, ⟨hi1.ex x2, W, ok⟩, fun v H3 r3 => ?_⟩))
    obtain ⟨_, m3, hi3⟩ := r3
    dsimp only at m3 hi3
    have M3 : Mo (movL A) H H3 := (Mo.ex (x1.trans x2)).trans m3
    refine ssc (forT D (dcall D (c_turning_days T) l (ead (dmeth0 (R' := fun H2 v => TD X.K H2 v (dd l)) D (c_deeds_now T) T.k_Archive (by decide) (en D 0) hi3.i (by kernel_rfl) fun H4 x4 => ⟨(A, (first, today), l, closeM l today gs), rfl, ⟨hi3.ex x4, l40⟩, fun v H2 r => r⟩) ean) fun _ _ => ⟨W, few⟩)
      (fun H4 i σ' H' => (∃ w2, σ' = [some (.ref A.a), some (.int day), w2] ∧ Mo (movL A) H H' ∧ ArchI X.K H' A first today l (runM l (((turningM l).take i).filter (betB today day)) (closeM l today gs)) (runM l (((turningM l).take i).filter (betB today day)) (closeM l today gs))) ∧ Tm H4 H')
      (fun H4 x4 => ⟨⟨none, rfl, M3.then x4, hi3.ex x4⟩, Tm.refl _⟩) (fun _ _ _ _ h => h.2) ?_ ?_)
    · rintro H4 i d v σ' H' x4 hix ⟨⟨w2, rfl, M, hA⟩, tm⟩ tv
      obtain ⟨o, hx, rfl⟩ := map_at hix
      obtain rfl := tv.int_iff
      refine g1 D 2 (ss1 (sif (c := betB today day o) (ltltI (ED.ev (efld (en D 0) hA.i T.k_Archive T.n_Archive_today (by kernel_rfl)) (.int today)) (dni D 2) (dni D 1)) (fun hb H5 x5 => ?_) fun hb H5 x5 => ss0 ?_))
      · have hA5 := hA.ex x5
        refine ss1 (exprW (gmeth D (c_close T) T.k_Archive (by decide) (en D 0) hA5.i (by kernel_rfl) (ead (dni D 2) ean) fun H6 x6 => ⟨(A, (first, today), (l, runM l (((turningM l).take i).filter (betB today day)) (closeM l today gs)), o), rfl, ⟨hA5.ex x6, W, (ok.close today).run⟩, fun v H7 r7 => ?_⟩))
        obtain ⟨_, m7, hi7⟩ := r7
        dsimp only at m7 hi7
        refine ⟨⟨_, rfl, (M.then (x5.trans x6)).trans m7, ?_⟩, (tm.trans (.ex (x5.trans x6))).trans m7.tm⟩
        have e : runM l (((turningM l).take (i + 1)).filter (betB today day)) (closeM l today gs) = closeM l o (runM l (((turningM l).take i).filter (betB today day)) (closeM l today gs)) := by
          rw [take_more hx, List.filter_append, runM_app, List.filter_cons, if_pos hb] <;> rfl
        rw [e]
        exact hi7
      · refine ⟨⟨_, rfl, M.then x5, ?_⟩, tm.trans (.ex x5)⟩
        have e : ((turningM l).take (i + 1)).filter (betB today day) = ((turningM l).take i).filter (betB today day) := by
          rw [take_more hx, List.filter_append, List.filter_cons, if_neg (by rw [hb]; decide)]
          simp
        rw [e]
        exact hA.ex x5
    · rintro H4 σ' H' x4 ⟨⟨w2, rfl, M, hA⟩, tm⟩
      rw [List.length_map, List.take_length] at hA
      have hA : ArchI X.K H' A first today l (turnM l today day gs) (turnM l today day gs) := hA
      refine ss1 (sfldM (S := A.a :: movL A) (M.sub fun c hc => List.mem_cons_of_mem _ hc) hA.i (.inl List.mem_cons_self) (en D 0) (dni D 1) T.k_Archive T.n_Archive_today fun u H5 M5 m5 i5 t5 => ?_)
      obtain rfl := t5.int_iff
      have e : putF "today" (V.int day) (archF first today A) = archF first day A := by kernel_rfl
      rw [e] at i5
      have nS : ∀ c o, H' c = some o → (∀ C dx fs, o ≠ .ins C dx fs) → H5 c = some o := fun c o h n => m5.keep c o (fun z => by
        rw [List.mem_singleton.mp z, hA.i] at h
        exact n _ _ _ (Option.some.inj h).symm) h
      obtain ⟨avs, hla, acts⟩ := hA.la
      obtain ⟨gv, hgg, gi⟩ := hA.gg
      refine hq .non H5 ⟨rfl, M5, i5, ⟨avs, nS _ _ hla (fun _ _ _ z => nomatch z), acts.moF m5 fun c hc dx dy vd z => ?_⟩, nS _ _ hA.ga (fun _ _ _ z => nomatch z), nS _ _ hA.ua (fun _ _ _ z => nomatch z), ⟨gv, nS _ _ hgg (fun _ _ _ z => nomatch z), gi.moF m5 fun c hc dx g lv z => ?_⟩, hA.ne⟩
      · rw [List.mem_singleton.mp hc, hA.i] at z
        injection z with z
        injection z with _ _ z
        injection z with z _
        injection z with z _
        exact wd_fd z
      · rw [List.mem_singleton.mp hc, hA.i] at z
        injection z with z
        injection z with _ _ z
        injection z with z _
        injection z with z _
        exact wd_fp z)
  exact ⟨_, fd, T.mt_Archive_turn, h1, h2⟩
end
end G
namespace G
open PySem PySem.Spec PyProof.Rows L2 Evl
def nowM (l : List Deed) (day : Int) (g : Gone) : List Str := (papersM l).filter fun p => decide (comeM l p ≤ day) && !(getG g p).isSome
def doneD (g : Going) : PyData := .tuple [.str g.paper, .int g.day, oS g.leave]
section
variable {X : Cx} {N : List Str} {sc : Scope} {k : Nat} {a b : Expr} {σ : L2.St} {H : Hp} {pos : Pos} {v : V}
/-- an item of a list that stands, its value -/
theorem vixV {p : Addr} {vs : List V} {i : Int} (ha : EV X a σ H (.ref p)) (s : SqL X.K H p vs) (hb : ED X b σ H (.int i)) (h : atI vs i = some v) (hs : PlainIx b := by exact fun _ _ => rfl) : EV X (.Subscript a b pos) σ H v := fun H1 x1 Q q =>
  pe_le (pe_ix ix_list (we a) (we b) hs) (ha H1 x1 _ fun H2 x2 => hb H2 (x1.trans x2) _ fun u H3 x3 t2 => by
    obtain rfl := t2.int_iff
    exact ⟨_, _, i, v, rfl, rfl, ex_l ((x1.trans x2).trans x3) s, h, q H3 (x2.trans x3)⟩)
end
section
variable {P : Program} {w : World} {K : PySem.W.Frag} {mg : Str → Option Value} {base : Heap}
theorem c_now (T : Txt K mg) : MetC P w K mg base 4 (He.ga K "Archive") "there" ["self"] (SpG K archArgs (fun a H => archPre K a H ∧ WF a.2.2.1) (fun a H H' v => Ex H H' ∧ TD K H' v (.tuple ((nowM a.2.2.1 a.2.1.2 (goneOf a.2.2.2)).map .str)))) := by
  obtain ⟨fd, F⟩ := T.f_Archive_there
  obtain ⟨h1, h2⟩ := mkFn (P := P) (w := w) (mg := mg) (base := base) (as := archArgs) (pre := fun a H => archPre K a H ∧ WF a.2.2.1) (R := fun a H H' v => Ex H H' ∧ TD K H' v (.tuple ((nowM a.2.2.1 a.2.1.2 (goneOf a.2.2.2)).map .str))) (k := 3) F S_Archive_there H_Archive_there (fun _ _ _ _ _ _ us hl => match us, hl with | [_], _ => rfl) (fun _ => rfl) (by
    rintro X rfl rfl rfl rfl rfl D ⟨A, ⟨first, today⟩, l, gs⟩ vs H Q hv ⟨hi, W⟩ hq
    dsimp only [archArgs] at hv hi W hq
    obtain ⟨ws, rfl, hv2⟩ := hv.cv
    obtain rfl := hv2.n
    have l40 := W.len
    have pl := papers_len l
    refine ssc (asgR D 1 (dmeth0 (R' := fun H2 v => TD X.K H2 v (dd l)) D (c_deeds_now T) T.k_Archive (by decide) (en D 0) hi.i (by kernel_rfl) fun H1 x1 => ⟨(A, (first, today), l, gs), rfl, ⟨hi.ex x1, l40⟩, fun v H2 r => r⟩) fun v1 H1 x1 a1 => ?_)
    have hi1 := hi.ex x1
    refine ssc (asg0 D 2 fun q hq0 => ?_)
    have x2 : Ex H1 (upd H1 q (.lst [])) := Ex.new hq0
    refine ssc (forT (xs := (papersM l).map .str) D (rcall D (c_papers T) (by decide) l (ead (dn D 1 (a1.ex x2)) ean) (fun _ _ => l40) (hR := fun _ _ _ _ _ r => r.td)) (fun H3 i σ' H' => (∃ w3, σ' = [some (.ref A.a), some v1, some (.ref q), w3] ∧ Ex H1 H' ∧ H' q = some (.lst ((((papersM l).take i).filter fun p => decide (comeM l p ≤ today) && !(getG (goneOf gs) p).isSome).map .str))) ∧ Tm H3 H')
      (fun H3 x => ⟨⟨none, rfl, x2.trans x, x _ _ upd_same⟩, Tm.refl _⟩) (fun _ _ _ _ h => h.2) ?_ ?_)
    · rintro H3 i d v σ' H' x3 hix ⟨⟨w3, rfl, x4, hk⟩, tm⟩ tv
      obtain ⟨p, hx, rfl⟩ := map_at hix
      obtain rfl := tv.str_iff
      have hp : p ∈ papersM l := List.mem_of_getElem? hx
      obtain ⟨dd', kk, mm, hr⟩ := row_of_mem hp
      have ec : comeM l p = dd' := by unfold comeM; rw [hr] <;> rfl
      have hiA := hi1.ex x4
      have fl := List.length_filter_le (fun p => decide (comeM l p ≤ today) && !(getG (goneOf gs) p).isSome) ((papersM l).take i)
      rw [List.length_take] at fl
      refine g1 D 3 (ss1 (sif (c := decide (comeM l p ≤ today) && !(getG (goneOf gs) p).isSome) (EW.et (tandc (ET.to (leI (dix (dcall D (c_row_of T) (l, p, .paper dd' p kk mm) (ead (dn D 1 (a1.ex x4)) (ead (dns D 3) ean)) fun _ _ => hr) di at1) (ED.ev (efld (en D 0) hiA.i T.k_Archive T.n_Archive_today (by kernel_rfl)) (.int today))) (by rw [ec] <;> rfl)) fun _ => tand1 (ET.to (tnotin D (dns D 3) (efld (en D 0) hiA.i T.k_Archive T.n_Archive_gone (by kernel_rfl)) hiA.ga) (by rw [goneV_is])))) (fun hb H5 x5 => ?_) fun hb H5 x5 => ss0 ?_))
      · refine ss1 (sapp (en D 2) (x5 _ _ hk) (by rw [List.length_map]; omega) (dns D 3) fun v6 H6 x6 t6 => ⟨⟨_, rfl, Ex.mut ((x4.trans x5).trans x6) hq0, ?_⟩, ((tm.trans (.ex x5)).trans (.ex x6)).trans (Tm.lst (x6 _ _ (x5 _ _ hk)))⟩)
        obtain rfl := t6.str_iff
        rw [upd_same, take_more hx, List.filter_append, List.map_append, List.filter_cons, if_pos hb] <;> rfl
      · refine ⟨⟨_, rfl, x4.trans x5, ?_⟩, tm.trans (.ex x5)⟩
        rw [take_more hx, List.filter_append, List.map_append, List.filter_cons, if_neg (by rw [hb]; decide), List.filter_nil, List.map_nil, List.append_nil]
        exact x5 _ _ hk
    · rintro H3 σ' H' x3 ⟨⟨w3, rfl, x4, hk⟩, _⟩
      rw [List.length_map, List.take_length] at hk
      exact ss1 (retD (dtupleV D T.m_tuple (en D 2) (.inl (.inl hk)) (TDs.of_strs _)) fun v H4 x5 r => hq v H4 ⟨(x1.trans x4).trans x5, r⟩))
  exact ⟨_, fd, T.mt_Archive_there, h1, h2⟩
def nthG (gs : List Going) (j : Nat) : PyData := match gs[j]? with
  | some x => doneD x
  | none => .none
theorem nthG_all (gs : List Going) : (List.range gs.length).map (nthG gs) = gs.map doneD := by
  refine List.ext_getElem? fun i => ?_
  rw [List.getElem?_map, List.getElem?_map]
  by_cases h : i < gs.length
  · rw [List.getElem?_range h, List.getElem?_eq_getElem h]
    show some (nthG gs i) = some (doneD gs[i])
    unfold nthG
    rw [List.getElem?_eq_getElem h]
  · rw [List.getElem?_eq_none (by rw [List.length_range]; omega), List.getElem?_eq_none (by omega)]
    rfl
theorem c_done (T : Txt K mg) : MetC P w K mg base 1 (He.ga K "Archive") "done" ["self"] (SpG K archArgs (fun a H => archPre K a H ∧ a.2.2.2.length ≤ 1000) (fun a H H' v => Ex H H' ∧ TD K H' v (.tuple (a.2.2.2.map doneD)))) := by
  obtain ⟨fd, F⟩ := T.f_Archive_done
  obtain ⟨h1, h2⟩ := mkFn (P := P) (w := w) (mg := mg) (base := base) (as := archArgs) (pre := fun a H => archPre K a H ∧ a.2.2.2.length ≤ 1000) (R := fun a H H' v => Ex H H' ∧ TD K H' v (.tuple (a.2.2.2.map doneD))) (k := 0) F S_Archive_done H_Archive_done (fun _ _ _ _ _ _ us hl => match us, hl with | [_], _ => rfl) (fun _ => rfl) (by
    rintro X rfl rfl rfl rfl rfl D ⟨A, ⟨first, today⟩, l, gs⟩ vs H Q hv ⟨hi, hz⟩ hq
    dsimp only [archArgs] at hv hi hz hq
    obtain ⟨ws, rfl, hv2⟩ := hv.cv
    obtain rfl := hv2.n
    obtain ⟨gv, hgg, gi⟩ := hi.gg
    have glen : gv.length = gs.length := gi.length
    refine ss1 (retD (dtuple D T.m_tuple (lcN (vs := gv) (fun _ => true) (nthG gs) D [("going", 1)] (efld (en D 0) hi.i T.k_Archive T.n_Archive_goings (by kernel_rfl)) (.inl (.inl hgg)) (by omega) fun H1 i u x1 hu => ?_)) fun v H1 x r => hq v H1 ⟨x, ?_⟩)
    · obtain ⟨g, hg, ⟨a, dx, lv, rfl, ia, tl⟩⟩ := (gi.ex x1).get hu
      have e : nthG gs i = .tuple [.str g.paper, .int g.day, oS g.leave] := by unfold nthG; rw [hg] <;> rfl
      rw [e]
      exact t1 D 1 (fun _ => rfl) fun _ b => dtup (xs := [.str g.paper, .int g.day, oS g.leave]) (ead (ED.ev (efld (en (D.b b) 1) ia T.k_Going T.n_Going_paper (by kernel_rfl)) (.str _)) (ead (ED.ev (efld (en (D.b b) 1) ia T.k_Going T.n_Going_day (by kernel_rfl)) (.int _)) (ead (ED.ev (efld (en (D.b b) 1) ia T.k_Going T.n_Going_leave (by kernel_rfl)) tl) ean)))
    · rw [kept_all, glen, nthG_all] at r
      exact r)
  exact ⟨_, fd, T.mt_Archive_done, h1, h2⟩
theorem c_last_turn (T : Txt K mg) : Cal P w K mg base 1 "last_turn" ["acts", "goings", "place"] (SpD K (fun a : (Addr × Addr × List V) × (List Deed × List Going) × Nat => [.v (.ref a.1.1), .v (.ref a.1.2.1), .d (.int a.2.2)]) (fun a H => a.2.1.1.length ≤ 40 ∧ a.2.2 < a.2.1.2.length ∧ (∃ vs, H a.1.1 = some (.lst vs) ∧ ActsI K H vs a.2.1.1) ∧ ∃ vs, H a.1.2.1 = some (.lst vs) ∧ GoingsI K H a.2.1.1.length vs a.2.1.2) (fun _ => .none)) := by
  obtain ⟨fd, F⟩ := T.f_last_turn
  refine mkCal F T.g_last_turn S_last_turn H_last_turn (fun _ _ _ _ _ _ us hl => match us, hl with | [_, _, _], _ => rfl) (fun _ => rfl) ?_
  rintro X rfl rfl rfl rfl rfl D ⟨⟨la, gg, zz⟩, ⟨l, gs⟩, j⟩ vs H Q hv ⟨l40, hj, ⟨avs, hla, acts⟩, gv, hgg, gi⟩ hq
  dsimp only at hv l40 hj hla acts hgg gi hq
  obtain ⟨ws, rfl, hv2⟩ := hv.cv
  obtain ⟨ws, rfl, hv3⟩ := hv2.cv
  obtain ⟨v1, rfl, a1⟩ := hv3.d1
  obtain rfl := a1.int_iff
  have glen := gi.length
  have alen := acts.length
  refine ssc (asgD D 3 dnon fun u1 H1 x1 s1 => ?_)
  refine ssc (asgD D 4 db fun u2 H2 x2 s2 => ?_)
  obtain rfl := s2.bl_iff
  have y := x1.trans x2
  have hg2 := y _ _ hgg
  have hl2 := y _ _ hla
  have hjv : gv[j]? = some gv[j] := List.getElem?_eq_getElem (by omega)
  obtain ⟨g, hg, ⟨a, dx, lv, e, ia, tl⟩⟩ := (gi.ex y).get hjv
  refine ssc (forR2 (lo := (l.length : Int) + 1) (hi := (l.length : Int) + 1) D T.m_range (dadd (ED.ev (efld (vixV (en D 1) (.inl (.inl hg2)) (dn D 2 (.int _)) (atI_nat (e ▸ hjv))) ia T.k_Going T.n_Going_many (by kernel_rfl)) (.int _)) di) (dadd (ED.to (dlenV D T.m_len (en D 0) (.inl (.inl hl2))) (by rw [alen])) di) (by omega)
    (fun i σ' H' => σ' = [some (.ref la), some (.ref gg), some (.int (j : Int)), some u1, some (.bl true), none, none] ∧ Ex H H') (fun H3 x3 => ⟨rfl, y.trans x3⟩) (fun i σ' H' hi => by omega) fun σ' H' h => ?_)
  obtain ⟨rfl, x3⟩ := h
  refine ssc (sif (c := true) (tval (dn D 4 (.bl true))) (fun _ H4 x4 => ?_) fun h => nomatch h)
  exact ss1 (retD dnon fun v H5 x5 r => hq v H5 ((x3.trans x4).trans x5) r)
theorem c_wrong (T : Txt K mg) : MetC P w K mg base 2 (He.ga K "Archive") "wrong" ["self"] (SpG K archArgs (fun a H => archPre K a H ∧ a.2.2.1.length ≤ 40 ∧ a.2.2.2.length ≤ 1000) (fun a H H' v => Ex H H' ∧ TD K H' v (.tuple []))) := by
  obtain ⟨fd, F⟩ := T.f_Archive_wrong
  obtain ⟨h1, h2⟩ := mkFn (P := P) (w := w) (mg := mg) (base := base) (as := archArgs) (pre := fun a H => archPre K a H ∧ a.2.2.1.length ≤ 40 ∧ a.2.2.2.length ≤ 1000) (R := fun a H H' v => Ex H H' ∧ TD K H' v (.tuple [])) (k := 1) F S_Archive_wrong H_Archive_wrong (fun _ _ _ _ _ _ us hl => match us, hl with | [_], _ => rfl) (fun _ => rfl) (by
    rintro X rfl rfl rfl rfl rfl D ⟨A, ⟨first, today⟩, l, gs⟩ vs H Q hv ⟨hi, l40, hz⟩ hq
    dsimp only [archArgs] at hv hi l40 hz hq
    obtain ⟨ws, rfl, hv2⟩ := hv.cv
    obtain rfl := hv2.n
    refine ssc (asg0 D 1 fun q hq0 => ?_)
    have x0 : Ex H (upd H q (.lst [])) := Ex.new hq0
    have hi0 := hi.ex x0
    obtain ⟨gv, hgg, gi⟩ := hi0.gg
    have glen : gv.length = gs.length := gi.length
    refine ssc (forR1 (n := (gs.length : Int)) D T.m_range (ED.to (dlenV D T.m_len (efld (en D 0) hi0.i T.k_Archive T.n_Archive_goings (by kernel_rfl)) (.inl (.inl hgg))) (by rw [glen])) (by omega) (fun i σ' H' => ∃ w2 w3, σ' = [some (.ref A.a), some (.ref q), w2, w3] ∧ Ex H H' ∧ H' q = some (.lst [])) (fun H1 x1 => ⟨none, none, rfl, x0.trans x1, x1 _ _ upd_same⟩) (fun i σ' H' hlt h => ?_) fun σ' H' h => ?_)
    · obtain ⟨w2, w3, rfl, x1, hk⟩ := h
      have hi1 := hi.ex x1
      refine g1 D 2 (ssc (asgD D 3 (dcall D (c_last_turn T) ((A.la, A.gg, []), (l, gs), i) (eav (efld (en D 0) hi1.i T.k_Archive T.n_Archive_acts (by kernel_rfl)) (eav (efld (en D 0) hi1.i T.k_Archive T.n_Archive_goings (by kernel_rfl)) (ead (dni D 2) ean))) fun H2 x2 => ⟨l40, by dsimp only; omega, (hi1.ex x2).la, (hi1.ex x2).gg⟩) fun v H2 x2 tv => ?_))
      refine ss1 (sif (c := false) (notN (dn D 3 tv)) (fun h => nomatch h) fun _ H3 x3 => ss0 ⟨_, _, rfl, (x1.trans x2).trans x3, (x2.trans x3) _ _ hk⟩)
    · obtain ⟨w2, w3, rfl, x1, hk⟩ := h
      exact ss1 (retD (dtupleV (xs := []) D T.m_tuple (en D 1) (.inl (.inl hk)) .nil) fun v H4 x5 r => hq v H4 ⟨x1.trans x5, r⟩))
  exact ⟨_, fd, T.mt_Archive_wrong, h1, h2⟩
end
end G
namespace G
open PySem PySem.Spec PyProof.Rows L2 Evl
section
variable {P : Program} {w : World} {K : PySem.W.Frag} {mg : Str → Option Value} {base : Heap}
def metB (paper : Str) (day : Int) (z : Int × Str × MetM) : Bool := decide (z.2.1 = paper) && (decide (z.1 = day) && !z.2.2.leaving.isEmpty)
theorem c_gone_by_plan (T : Txt K mg) : Cal P w K mg base 12 "gone_by_plan" ["deeds", "paper", "day"] (SpF K (fun a : List Deed × Str × Int => [.d (dd a.1), .d (.str a.2.1), .d (.int a.2.2)]) (fun a _ => WF a.1 ∧ Few a.1) (fun a _ H' v => ∃ b, v = .bl b)) := by
  obtain ⟨fd, F⟩ := T.f_gone_by_plan
  refine mkCal F T.g_gone_by_plan S_gone_by_plan H_gone_by_plan (fun _ _ _ _ _ _ us hl => match us, hl with | [_, _, _], _ => rfl) (fun _ => rfl) ?_
  rintro X rfl rfl rfl rfl rfl D ⟨l, p, day⟩ vs H Q hv ⟨W, few⟩ hq
  dsimp only at hv W few hq
  obtain ⟨v1, v2, v3, rfl, a1, a2, a3⟩ := hv.d3
  obtain rfl := a2.str_iff
  obtain rfl := a3.int_iff
  refine ssc (asgR D 3 (walk_make (more := [day]) T D (by decide) W few (Nat.le_refl 1) (dn D 0 a1) (dtup (xs := [.int day]) (ead (dni D 2) ean))) fun v H1 x1 r => ?_)
  obtain ⟨a, rfl, ⟨dx, vd, ga, ua, qa, ms, i1, _, i2, i3, i4, i5, i6, _, hms⟩⟩ := r
  generalize runM l (walkDays l [day]) [] = gs at i3 i4
  have hval : ∃ i : Int, (valV (goneV (goneOf gs)) (.inr p)).getD (.int (day + 1)) = .int i := by
    have h := (kd_gone (K := X.K) (H := H1) (goneOf gs)).get p
    cases q : getP (goneOf gs) p with
    | none =>
      rw [q] at h
      rw [h]
      exact ⟨_, rfl⟩
    | some i =>
      rw [q] at h
      obtain ⟨v, e1, e2⟩ := h
      rw [e1, e2.int_iff]
      exact ⟨i, rfl⟩
  obtain ⟨i0, hi0⟩ := hval
  refine ssc (sif (leI (x := i0) (ED.ev (dget2 D (efld (en D 3) i1 T.k_Walk T.n_Walk_gone (by kernel_rfl)) (dns D 1) (EV.int (dadd (dni D 2) di)) i3) (by rw [hi0]; exact .int i0)) (dni D 2)) (fun _ H2 x2 => ?_) fun _ H2 x2 => ss0 ?_)
  · exact ss1 (retD db fun v H3 x3 r => hq v H3 ((x1.trans x2).trans x3) ⟨_, r.bl_iff⟩)
  · have hm2 := x2 _ _ i5
    have am := i6.ex x2
    have ch : ∀ i : Nat, ∃ z : Int × Str × MetM, ∀ u, ms[i]? = some u → MetI X.K H2 u z.1 z.2.1 z.2.2 ∧ z.2.2.shp := fun i => by
      cases q : ms[i]? with
      | none => exact ⟨(0, "", ⟨[], [], [], false, none⟩), fun u h => nomatch h⟩
      | some u =>
        obtain ⟨dy, pp, m, h1, h2⟩ := am u (List.mem_of_getElem? q)
        exact ⟨(dy, pp, m), fun u' h => by cases h; exact ⟨h1, h2⟩⟩
    obtain ⟨zf, hz⟩ := Classical.axiomOfChoice ch
    have hlen : ms.length < 50000 := by omega
    refine ss1 (retD (dany (bs := (List.range ms.length).map fun i => metB p day (zf i)) D T.m_any (by
      rw [map_bool, ← kept_all]
      refine lcN (vs := ms) (fun _ => true) (fun i => .bool (metB p day (zf i))) D [("met", 4)] (efld (en D 3) (x2 _ _ i1) T.k_Walk T.n_Walk_met (by kernel_rfl)) (.inl (.inl hm2)) hlen fun H3 i u x3 hu => ?_
      obtain ⟨mi, sh⟩ := hz i u hu
      obtain ⟨ma, mdx, u1, u2, u3, u4, rfl, mia, t1', t2', t3', t4'⟩ := mi
      exact t1 D 4 (fun _ => rfl) fun _ b => vand (eqSv (ED.ev (efld (en (D.b b) 4) (x3 _ _ mia) T.k_Met T.n_Met_paper (by kernel_rfl)) (.str _)) (dns (D.b b) 1)) fun _ => vand (eqIv (ED.ev (efld (en (D.b b) 4) (x3 _ _ mia) T.k_Met T.n_Met_day (by kernel_rfl)) (.int _)) (dni (D.b b) 2)) fun _ => vone (ED.to (neD (D.b b) (ED.ev (efld (en (D.b b) 4) (x3 _ _ mia) T.k_Met T.n_Met_leaving (by kernel_rfl)) (t2'.ex x3)) (dtup (xs := []) ean) sh.s2 rfl) (by rw [eqv_nil])))) fun v H3 x3 r => hq v H3 ((x1.trans x2).trans x3) ⟨_, r.bl_iff⟩)
end
end G
namespace G
open PySem PySem.Spec PyProof.Rows L2 Evl
def formsL : List (Str × Str) := [("paper", "nnm"), ("happens", "nn"), ("rule", "nr"), ("end", "n"), ("hold", "ntb"), ("lift", "n"), ("leave", "nn")]
/-- FORMS as the top leaves it -/
structure Frm (K : PySem.W.Frag) (w : World) : Prop where
  kd : ∃ es n, KDict K w (He.ga K "FORMS") es n
  at_ : ∀ p ∈ formsL, ∃ t, PySem.W.nsIn K (He.ga K "FORMS") p.1 = some (some (.str p.2 t))
def formOf : Deed → Str
  | .paper .. => "nnm"
  | .happens .. => "nn"
  | .rule .. => "nr"
  | .fin .. => "n"
  | .hold .. => "ntb"
  | .lift .. => "n"
  | .leave .. => "nn"
theorem form_in (x : Deed) : (x.word, formOf x) ∈ formsL := by cases x <;> simp [formsL, Deed.word, formOf]
theorem cps_nnm : ("nnm" : Str).cps = #[110, 110, 109] := by decide +kernel
theorem cps_nn : ("nn" : Str).cps = #[110, 110] := by decide +kernel
theorem cps_nr : ("nr" : Str).cps = #[110, 114] := by decide +kernel
theorem cps_n : ("n" : Str).cps = #[110] := by decide +kernel
theorem cps_ntb : ("ntb" : Str).cps = #[110, 116, 98] := by decide +kernel
theorem s_n : ("n" : Str) = ⟨#[110]⟩ := by decide +kernel
theorem s_m : ("m" : Str) = ⟨#[109]⟩ := by decide +kernel
theorem s_r : ("r" : Str) = ⟨#[114]⟩ := by decide +kernel
theorem s_t : ("t" : Str) = ⟨#[116]⟩ := by decide +kernel
theorem s_b : ("b" : Str) = ⟨#[98]⟩ := by decide +kernel
theorem form_size (x : Deed) : (formOf x).cps.size = x.rest.length + 1 := by
  cases x <;> simp [formOf, Deed.rest, cps_nnm, cps_nn, cps_nr, cps_n, cps_ntb]
theorem form_fits {x : Deed} (h : x.ok) : ∀ (i : Nat) (d : PyData) (c : Nat), (PyData.str x.name :: x.rest)[i]? = some d → (formOf x).cps[i]? = some c → Fit d ⟨#[c]⟩ := by
  intro i d c h1 h2
  obtain ⟨_, hn, h'⟩ := h
  have hi : i < x.rest.length + 1 := by
    have := (Array.getElem?_eq_some_iff.mp h2).1
    rw [form_size] at this
    exact this
  have fn : Fit (.str x.name) ⟨#[110]⟩ := s_n ▸ Fit.n hn
  cases x with
  | paper dy n k m =>
    obtain ⟨a, b, c', e⟩ := h'
    simp only [formOf, cps_nnm] at h2
    match i, hi with
    | 0, _ => cases h1; cases h2; exact fn
    | 1, _ => cases h1; cases h2; exact s_n ▸ Fit.n a
    | 2, _ => cases h1; cases h2; exact s_m ▸ Fit.m b c' e
    | j + 3, hi => simp [Deed.rest] at hi; omega
  | happens dy n k =>
    simp only [formOf, cps_nn] at h2
    match i, hi with
    | 0, _ => cases h1; cases h2; exact fn
    | 1, _ => cases h1; cases h2; exact s_n ▸ Fit.n h'
    | j + 2, hi => simp [Deed.rest] at hi; omega
  | rule dy n p =>
    simp only [formOf, cps_nr] at h2
    match i, hi with
    | 0, _ => cases h1; cases h2; exact fn
    | 1, _ => cases h1; cases h2; exact s_r ▸ Fit.r h'
    | j + 2, hi => simp [Deed.rest] at hi; omega
  | fin dy n =>
    simp only [formOf, cps_n] at h2
    match i, hi with
    | 0, _ => cases h1; cases h2; exact fn
    | j + 1, hi => simp [Deed.rest] at hi
  | hold dy n s a b =>
    simp only [formOf, cps_ntb] at h2
    match i, hi with
    | 0, _ => cases h1; cases h2; exact fn
    | 1, _ => cases h1; cases h2; exact s_t ▸ Fit.t h'.1 h'.2
    | 2, _ => cases h1; cases h2; exact s_b ▸ Fit.b
    | j + 3, hi => simp [Deed.rest] at hi; omega
  | lift dy n =>
    simp only [formOf, cps_n] at h2
    match i, hi with
    | 0, _ => cases h1; cases h2; exact fn
    | j + 1, hi => simp [Deed.rest] at hi
  | leave dy n k =>
    simp only [formOf, cps_nn] at h2
    match i, hi with
    | 0, _ => cases h1; cases h2; exact fn
    | 1, _ => cases h1; cases h2; exact s_n ▸ Fit.n h'
    | j + 2, hi => simp [Deed.rest] at hi; omega
section
variable {X : Cx} {N : List Str} {sc : Scope} {k : Nat} {e : Expr} {σ : L2.St} {H : Hp} {pos p apos : Pos}
theorem dkget {x : Deed} (T : Txt X.K X.mg) (F : Frm X.K X.w) (D : DC X N sc k) (h : ED X e σ H (.str x.word)) (hg : glB sc "FORMS" = true := by decide +kernel) (hs : starEach (e :: []) X.env = (false, eval e X.env) :: starEach [] X.env := by rfl) (hline : (apos.endLine == pos.line) = true := by rfl) : ED X (.Call (.Attribute (.Name "FORMS" p) "get" apos) [e] [] pos) σ H (.str (formOf x)) := fun H1 x1 Q q => by
  obtain ⟨es, n, kd⟩ := F.kd
  obtain ⟨t, ht⟩ := F.at_ _ (form_in x)
  exact pe_le (pe_kget kd (pe_glob (D.gl hg) T.g_FORMS (v := .ref (He.ga X.K "FORMS")) rfl (by decide +kernel)) (we e) (m1_of rfl hs hline)) (EV.str h H1 x1 _ fun H2 x2 => ⟨x.word, _, .str (formOf x), rfl, ht, ⟨t, rfl⟩, q _ H2 x2 (.str _)⟩)
end
section
variable {P : Program} {w : World} {K : PySem.W.Frag} {mg : Str → Option Value} {base : Heap}
theorem c_is_deed (T : Txt K mg) (Fm : Frm K w) : Cal P w K mg base 5 "is_deed" ["thing"] (SpD K (fun x : Deed => [.d x.d]) (fun x _ => x.ok) (fun _ => .bool true)) := by
  obtain ⟨fd, F⟩ := T.f_is_deed
  refine mkCal F T.g_is_deed S_is_deed H_is_deed (fun _ _ _ _ _ _ us hl => match us, hl with | [_], _ => rfl) (fun _ => rfl) ?_
  rintro X rfl rfl rfl rfl rfl D x vs H Q hv ok hq
  dsimp only at hv ok hq
  obtain ⟨v1, rfl, a1⟩ := hv.d1
  have hlen : (PyData.str x.word :: .int x.day :: .str x.name :: x.rest).length = x.rest.length + 3 := rfl
  have hf := form_size x
  have fl : (formOf x).length = (formOf x).cps.size := rfl
  have rl : x.rest.length ≤ 2 := by cases x <;> simp [Deed.rest]
  have e1 : decide (((PyData.str x.word :: .int x.day :: .str x.name :: x.rest).length : Int) < 3) = false := decide_eq_false (by rw [hlen]; omega)
  refine ssc (sif (c := false) (ET.to (EW.et (torc (tnot (tval (c := true) (isTupV D T.m_isinstance T.m_tuple (dn D 0 a1)))) fun _ => torc (ltI (dlenT D T.m_len (dn D 0 a1)) di) fun _ => tor1 (tnot (tval (c := true) (isStrV D T.m_isinstance T.m_str (dix (dn D 0 a1) di at0)))))) (by rw [e1] <;> rfl)) (fun h => nomatch h) fun _ H1 x1 => ss0 ?_)
  refine ssc (asgD D 1 (dkget (x := x) T Fm D (dix (dn D 0 (a1.ex x1)) di at0)) fun u H2 x2 tu => ?_)
  obtain rfl := tu.str_iff
  have y := x1.trans x2
  have e2 : decide (((formOf x).length : Int) = ((PyData.str x.word :: .int x.day :: .str x.name :: x.rest).length : Int) - 2) = true := decide_eq_true (by rw [hlen]; omega)
  refine ssc (sif (c := false) (ET.to (EW.et (torc (isN (dns D 1)) fun _ => torc (neI (dlenS D T.m_len (dns D 1) (by omega)) (dsub (dlenT D T.m_len (dn D 0 (a1.ex y))) di)) fun _ => tor1 (tnot (tval (c := true) (ED.to (dcall D (c_is_day T) x.day (ead (dix (dn D 0 (a1.ex y)) di at1) ean) fun _ _ => trivial) (by rw [decide_eq_true ok.1.1, decide_eq_true ok.1.2] <;> rfl)))))) (by rw [e2] <;> rfl)) (fun h => nomatch h) fun _ H3 x3 => ss0 ?_)
  have z := y.trans x3
  refine ss1 (retD (d := .bool true) (ED.to (dall (bs := (List.range (x.rest.length + 1)).map fun _ => true) D T.m_all (by
    rw [map_bool, ← kept_all]
    exact lcZ (ds := PyData.str x.name :: x.rest) (z := formOf x) (x.rest.length + 1) rfl hf (fun _ => true) (fun _ => .bool true) D [("part", 2), ("letter", 3)] T.m_zip (ED.to (dslice (dn D 0 (a1.ex z)) (os di) on) (congrArg PyData.tuple (cut_drop _ 2))) (dns D 1) (by omega) fun H4 i d c v x4 hd hc tv =>
      t2 D 2 3 tv fun u w tu tw => ⟨fun _ => rfl, fun _ b => dcall (D.b b) (c_fits_form T) (d, ⟨#[c]⟩) (ead (dn (D.b b) 2 tu) (ead (dn (D.b b) 3 tw) ean)) fun _ _ => form_fits ok i d c hd hc⟩)) (by simp)) fun v H4 x4 r => hq v H4 (z.trans x4) r)
end
end G
/-! GoneMaker: made and raised. -/
namespace G
open PySem PySem.Spec PyProof.Rows L2 Evl
/-- what the top has written of the two error classes -/
structure GmTxt (K : PySem.W.Frag) : Prop where
  ox : OexC K (He.ga K "GoneMaker")
  ini : PySem.W.findIn K (.ref (He.ga K "GoneMaker")) "__init__" = some (some (.ref (He.ma K (He.ga K "GoneMaker") "__init__")))
  tyI : PySem.W.typeIn K (.ref (He.ma K (He.ga K "GoneMaker") "__init__")) = some (.type "function")
  pap : PySem.W.findIn K (.ref (He.ga K "GoneMaker")) "paper" = some none
  spA : PySem.W.specialIn K (.ref (He.ga K "ArchiveError")) "__getattribute__" = some (some (.builtin "type.__getattribute__"))
  rdA : PySem.W.readsIn K (He.ga K "ArchiveError") (.type "type") = true
  iniA : PySem.W.findCls K (.ref (He.ga K "ArchiveError")) (.type "type") "__init__" = some (.val (.builtin "ValueError.__init__"))
  em : PySem.W.exmOne K (.ref (He.ga K "GoneMaker")) (.ref (He.ga K "GoneMaker")) = some true
section
variable {X : Cx} {e : Expr} {es : List Expr} {ta : TA} {p1 p2 pos : Pos}
/-- ArchiveError.__init__(self, ..) -/
theorem pe_aeinit {pl : Sem Bool} (gm : GmTxt X.K) (hg : Gl X "ArchiveError") (hm : X.mg "ArchiveError" = some (.ref (He.ga X.K "ArchiveError"))) (ha : PA X (e :: es) ta)
    (hc : eval (.Call (.Attribute (.Name "ArchiveError" p1) "__init__" p2) (e :: es) [] pos) X.env = (do
      let ov ← eval (.Name "ArchiveError" p1) X.env
      standAt p2.atName
      let (f, first) ← holding [ov] (getMethod ov "__init__" pl)
      callWith pos f first (backTo pos (starEach (e :: es) X.env)) (backToKw pos (keywordEach [] X.env))) := by rfl)
    (he : starEach (e :: es) X.env = (false, eval e X.env) :: starEach es X.env := by rfl) (hpl : (backTo pos (starEach es X.env)).any (·.1) = false := by rfl) :
    PE X (.Call (.Attribute (.Name "ArchiveError" p1) "__init__" p2) (e :: es) [] pos) (tVeI X.K ta) := by
  refine ⟨fun pins s σ H Q I h => ?_⟩
  refine PySem.W.methodCall_KW (ld_glob I hg hm ?_ (by decide +kernel)) hc
  refine PySem.W.method_cls I.kIn gm.spA (PySem.W.cls_value I.kIn gm.rdA gm.iniA (by decide +kernel) ?_)
  show wpAny _ _ (callWith pos (Value.builtin "ValueError.__init__") [] (backTo pos (starEach (e :: es) X.env)) []) _ _ _
  refine PyProof.Rows.callWith_method1 (thn (ha.run pos pins _ σ H _ (I.tok _) h) fun us s1 ⟨vs, H1, I1, r1, a, C, ws, ev, hl, T, ea, q⟩ => ?_) he hpl
  subst ev
  cases r1 with
  | @cons _ u0 _ ur ra rw' =>
    obtain rfl : u0 = Value.ref a := ra
    have hlen : ur.length ≤ sizeLine := by
      rw [← Paired.length rw', sizeLine_eq]
      omega
    exact oinit_ok T I1 ea hlen fun s' J => ⟨.non, H1, J, rfl, q⟩
end
/-- a def's body from which an error may fly -/
theorem DC.ofX {N : List Str} {sc : Scope} {k : Nat} {P : Program} {w : World} {K : PySem.W.Frag} {mg : Str → Option Value} {base : Heap} {ps : List Str} {qual : Str} {f : Addr} {cd : Value} {A : Around} {outer : List Env} {s : Shared} {H : Hp} {E : XK}
    (S : FnScope N ps sc) (hr : Room k (A.deeper (envOfC qual sc s.heap.objs.size f cd))) : DC (cxOf (L2.CX P w) P w K mg base N qual sc f cd A outer s H E) N sc k where
  hN := rfl
  nd := S.nd
  keep := fun x kd _ h => h
  free := fun x h => .inr h
  fn := fun x _ => rfl
  calm := rfl
  hr := hr
  po := passes_of rfl
/-- a promise that tells what flies -/
def SpX {α : Type} (K : PySem.W.Frag) (as : α → List AV) (pre : α → Hp → Prop) (R : α → Hp → Hp → V → Prop) : Sp := fun vs H Q E => ∃ a, AVs K H vs (as a) ∧ pre a H ∧ (∀ v H', R a H H' v → Q v H') ∧ ∀ d H', E (.ref (He.ga K "GoneMaker")) d H'
section
variable {α : Type} {as : α → List AV} {pre : α → Hp → Prop} {R : α → Hp → Hp → V → Prop}
/-- a def that may raise GoneMaker, by its body -/
theorem mkFnX {P : Program} {w : World} {K : PySem.W.Frag} {mg : Str → Option Value} {base : Heap} {x qual : Str} {st : Stmt} {f : Addr} {fd : FuncData} {N ps : List Str} {sc : Scope} {k : Nat}
    (F : FunD K x qual (defArgs st) (defBody st) (defScope st) [] [] f fd) (S : FnScope N ps sc) (hsc : defScope st = sc)
    (hb : ∀ (kV doc pm : Value) (an : Option Addr) (cdv ct : Value) (us : List Value), us.length = ps.length → bindArgs (PySem.W.fnOf x qual (defArgs st) (defBody st) (defScope st) .none kV doc pm an cdv ct) ⟨us, []⟩ = pure (ps.zip us)) (len : ∀ a, (as a).length = ps.length)
    (body : ∀ X : Cx, X.prog = P → X.w = w → X.K = K → X.mg = mg → X.base = base → DC X N sc k → ∀ W : WX, Takes X W → ∀ a vs H Q, AVs K H vs (as a) → pre a H → (∀ v H', R a H H' v → Q v H') → (∀ d σ' H', W (.ref (He.ga K "GoneMaker")) d σ' H') → wSs X (defBody st) { nx := fun _ H' => Q .non H', rt := Q } (start N vs) H) :
    FnOk P w K mg base (L2.CX P w) (k + 1) f fd ps (SpX K as pre R) ∧ Binds K fd ps [] := by
  refine ⟨?_, F.bindsN hb⟩
  have S' : FnScope N ps (defScope st) := hsc ▸ S
  refine F.ok S' (fun vs H Q E h => ?_) fun cdv A outer s H vs Q E hr h => ?_
  · obtain ⟨a, t, _⟩ := h
    rw [t.length, len a]
  · obtain ⟨a, t, hp, hq, hx⟩ := h
    have D := DC.ofX (P := P) (w := w) (K := K) (mg := mg) (base := base) (outer := outer) (H := H) (E := E) S' hr
    exact ⟨_, wss _, body _ rfl rfl rfl rfl rfl (hsc ▸ D) (fun cls d _ H => E cls d H) (takes_of rfl rfl rfl rfl) a vs H Q t hp hq fun d σ' H' => hx d H'⟩
end
end G
set_option maxHeartbeats 0
/-! The head: what the top leaves, by one run. -/
namespace G
open PySem PySem.Spec PyProof.Rows L2 He
def loose0 : List PySem.Str := [("_wall" : PySem.Str), ("Act" : PySem.Str), ("known_behind" : PySem.Str), ("acts_till" : PySem.Str), ("deeds_behind" : PySem.Str), ("ArchiveError" : PySem.Str), ("NoDay" : PySem.Str), ("NoDeed" : PySem.Str), ("Twice" : PySem.Str), ("GoneMaker" : PySem.Str), ("NoPaper" : PySem.Str), ("LENGTHS" : PySem.Str), ("FIRST_YEAR" : PySem.Str), ("LAST_DAY" : PySem.Str), ("is_whole" : PySem.Str), ("is_day" : PySem.Str), ("is_long" : PySem.Str), ("length_of" : PySem.Str), ("long_years" : PySem.Str), ("days_ahead" : PySem.Str), ("day_at" : PySem.Str), ("date_of" : PySem.Str), ("later" : PySem.Str), ("LETTERS" : PySem.Str), ("UNITS" : PySem.Str), ("MOST_LETTERS" : PySem.Str), ("MOST_MANY" : PySem.Str), ("MOST_MAKERS" : PySem.Str), ("FORMS" : PySem.Str), ("TURNED" : PySem.Str), ("is_name" : PySem.Str), ("is_since" : PySem.Str), ("is_span_told" : PySem.Str), ("is_rule" : PySem.Str), ("are_makers" : PySem.Str), ("is_aim" : PySem.Str), ("fits_form" : PySem.Str), ("is_deed" : PySem.Str)]
def loose1 : List PySem.Str := [("quarrel" : PySem.Str), ("papers" : PySem.Str), ("row_of" : PySem.Str), ("kind_of" : PySem.Str), ("makers" : PySem.Str), ("made_from" : PySem.Str), ("day_of_deed" : PySem.Str), ("latest" : PySem.Str), ("rules_on" : PySem.Str), ("holds_on" : PySem.Str), ("is_target" : PySem.Str), ("covering" : PySem.Str), ("heard" : PySem.Str), ("bases" : PySem.Str), ("base_on" : PySem.Str), ("reckoning" : PySem.Str), ("has_gone" : PySem.Str), ("first_maker" : PySem.Str), ("rules_over" : PySem.Str), ("stay_by" : PySem.Str), ("go_by" : PySem.Str), ("stays" : PySem.Str), ("goes" : PySem.Str), ("needs_leave" : PySem.Str), ("Met" : PySem.Str), ("unused_leave" : PySem.Str), ("look" : PySem.Str), ("close_day" : PySem.Str), ("reckonings" : PySem.Str), ("turning_days" : PySem.Str), ("Walk" : PySem.Str), ("plan" : PySem.Str), ("there" : PySem.Str), ("Going" : PySem.Str), ("has_leave" : PySem.Str), ("is_right" : PySem.Str), ("last_turn" : PySem.Str), ("gone_by_plan" : PySem.Str)]
def loose2 : List PySem.Str := [("Archive" : PySem.Str), ("_law_cell" : PySem.Str), ("_law_numbers" : PySem.Str), ("_law_pool" : PySem.Str), ("_law_first" : PySem.Str), ("_law_lengths" : PySem.Str), ("_law_day" : PySem.Str), ("_law_since" : PySem.Str), ("_law_parts" : PySem.Str), ("_law_quarrel" : PySem.Str), ("_law_deed" : PySem.Str), ("_law_pools" : PySem.Str), ("_law_sorts" : PySem.Str), ("_law_deeds" : PySem.Str), ("_law_row" : PySem.Str), ("_law_order" : PySem.Str), ("_law_far" : PySem.Str), ("_law_entered" : PySem.Str), ("_law_right" : PySem.Str)]
def loose : List PySem.Str := loose0 ++ loose1 ++ loose2
/-! ### what is looked at: the module's names, their code, the classes' dicts, methods and their code, tuples' items -/
def dvals (o : Option Obj) : List Addr := match o with
  | some ⟨_, _, .dict es _, _⟩ => es.toList.flatMap fun e => refV e.val
  | _ => []
def fcode (g : Addr → Option Obj) (a : Addr) : List Addr := match g a with
  | some ⟨_, _, .func fd, _⟩ => refV fd.code
  | _ => []
def undr (g : Addr → Option Obj) (a : Addr) : List Addr := match g a with
  | some ⟨_, _, .func fd, _⟩ => refV fd.code
  | some ⟨_, _, .cls cd, _⟩ => cd.ns :: (dvals (g cd.ns)).flatMap fun f => f :: fcode g f
  | some ⟨_, _, .seq its _, _⟩ => its.toList.flatMap refV
  | _ => []
def asY (g : Addr → Option Obj) : List Addr := mainGlobals :: cStatics :: (dvals (g mainGlobals)).flatMap fun a => a :: undr g a
def oexB (K : PySem.W.Frag) (C : Addr) : Bool := match K.lookup C with
  | some ⟨.type c, _, .cls cd, sl⟩ => (match cd.mro, sl.toList with
    | .ref C' :: bm, [_, _, _, _, some (.builtin n), _] => decide (c = "type") && (decide (C' = C) && (decide (n = "ValueError.__new__") && (!cd.hasDel && (cd.hasDict && PySem.HandSPX.refsVE bm))))
    | _, _ => false)
  | _ => false
def cfB (K : PySem.W.Frag) (C : Addr) : Bool := match PySem.W.findCls K (.ref C) (.type "type") "__init__" with
  | some (.val (.builtin n)) => decide (n = "ValueError.__init__")
  | _ => false
def ex2 (K : PySem.W.Frag) : Bool := oexB K (ga K "GoneMaker") && (eqO (PySem.W.findIn K (.ref (ga K "GoneMaker")) "__setattr__") (some (some (.builtin "object.__setattr__"))) && (decide (PySem.W.subIn K (.ref (ga K "GoneMaker")) (.type "BaseException") = some true) && (decide (PySem.W.typeIn K (.ref (ga K "GoneMaker")) = some (.type "type")) && (PySem.W.keepIn K (.ref (ga K "GoneMaker"))
  && (eqO (PySem.W.findIn K (.ref (ga K "GoneMaker")) "__init__") (some (some (.ref (ma K (ga K "GoneMaker") "__init__")))) && (decide (PySem.W.typeIn K (.ref (ma K (ga K "GoneMaker") "__init__")) = some (.type "function")) && (eqO (PySem.W.findIn K (.ref (ga K "GoneMaker")) "paper") (some none) && (eqO (PySem.W.specialIn K (.ref (ga K "ArchiveError")) "__getattribute__") (some (some (.builtin "type.__getattribute__")))
  && (PySem.W.readsIn K (ga K "ArchiveError") (.type "type") && (cfB K (ga K "ArchiveError") && decide (PySem.W.exmOne K (.ref (ga K "GoneMaker")) (.ref (ga K "GoneMaker")) = some true)))))))))))
def formsV : List (Str × Dv) := formsL.map fun p => (p.1, .str p.2)
abbrev AlZ : Type := AlD × Bool × Bool × Bool × Option (List (Option (Str × Int)))
def obsZ (K : PySem.W.Frag) : AlZ := (obsD fa fn K, ex1 K, ex2 K, valsB K (ga K "FORMS") formsV, dicW K (ga K "FORMS"))
def valZ (w : World) : AlZ := (valD fn, true, true, true, some (keysIn w.params (formsL.map fun p => p.1)))
def obsZG (g : Addr → Option Obj) : AlZ := obsZ (frG g (asY g))
def hookZ : PySem.W.Hook where
  α := AlZ
  obs := fun s => obsZG s.heap.get?
  val := fun w => valZ w
  says := fun w h => ∃ K : PySem.W.Frag, K.In h ∧ obsZ K = valZ w
  of := fun _ _ e => ⟨_, frG_in, e⟩
  keeps := fun _ _ _ ⟨K, hK, c⟩ k => ⟨K, PySem.W.Frag.In.keeps hK k, c⟩
theorem obsZG_eq {g : Addr → Option Obj} {s : Shared} (h : ∀ a, g a = s.heap.get? a) : obsZG g = hookZ.obs s := by
  have e : g = s.heap.get? := funext h
  rw [e] <;> rfl
abbrev RR : PySem.W.OpenRow := PySem.W.OpenLaw.row PySem.Challenge.rw_goneday_k69_whole_archive_does_the_plan
def obZ (s : PySem.W.SharedT) : AlZ := obsZG (HandSHeadRun.getT s)
theorem obZ_eq (s : PySem.W.SharedT) : obZ s = hookZ.obs s.abs := obsZG_eq (HandSHeadRun.getT_eq s)
/-! ### what it tells -/
theorem oexB_ok {K : PySem.W.Frag} {C : Addr} (h : oexB K C = true) : ∃ nm q N bs bm sn sub ab col dd k0 k1 k2 k3 k5, K.lookup C = some (excClassObj nm q C N bs bm true sn sub ab col dd k0 k1 k2 k3 k5 "ValueError.__new__") ∧ PySem.HandSPX.refsVE bm = true := by
  unfold oexB at h
  split at h
  · rename_i c dd cd sl e
    split at h
    · rename_i C' bm k0 k1 k2 k3 n k5 hm hs
      obtain ⟨h1, h⟩ := ba h
      obtain ⟨h2, h⟩ := ba h
      obtain ⟨h3, h⟩ := ba h
      obtain ⟨h4, h⟩ := ba h
      obtain ⟨h5, h6⟩ := ba h
      obtain ⟨nm, bs, mro, N, q, hd, sn, sub, ab, col, del⟩ := cd
      dsimp only at hm h4 h5
      have h1 := of_decide_eq_true h1
      have h2 := of_decide_eq_true h2
      have h3 := of_decide_eq_true h3
      have h4 : del = false := by simpa using h4
      subst h1 h2 h3 h4 h5 hm
      have hsl : sl = #[k0, k1, k2, k3, some (.builtin "ValueError.__new__"), k5] := by
        obtain ⟨l⟩ := sl
        simp only at hs
        rw [hs]
      subst hsl
      exact ⟨nm, q, N, bs, bm, sn, sub, ab, col, dd, k0, k1, k2, k3, k5, e, h6⟩
    · cases h
  · cases h
theorem cfB_ok {K : PySem.W.Frag} {C : Addr} (h : cfB K C = true) : PySem.W.findCls K (.ref C) (.type "type") "__init__" = some (.val (.builtin "ValueError.__init__")) := by
  unfold cfB at h
  split at h
  · rename_i n e
    rw [e, of_decide_eq_true h]
  · cases h
theorem gm_ok {K : PySem.W.Frag} (h : ex2 K = true) : GmTxt K := by
  unfold ex2 at h
  obtain ⟨h1, h⟩ := ba h
  obtain ⟨h2, h⟩ := ba h
  obtain ⟨h3, h⟩ := ba h
  obtain ⟨h4, h⟩ := ba h
  obtain ⟨h5, h⟩ := ba h
  obtain ⟨h6, h⟩ := ba h
  obtain ⟨h7, h⟩ := ba h
  obtain ⟨h8, h⟩ := ba h
  obtain ⟨h9, h⟩ := ba h
  obtain ⟨h10, h⟩ := ba h
  obtain ⟨h11, h12⟩ := ba h
  exact ⟨⟨oexB_ok h1, eqO_ok h2, of_decide_eq_true h3, of_decide_eq_true h4, h5⟩, eqO_ok h6, of_decide_eq_true h7, eqO_ok h8, eqO_ok h9, h10, cfB_ok h11, of_decide_eq_true h12⟩
theorem frm_ok {K : PySem.W.Frag} {w : World} (h : valsB K (ga K "FORMS") formsV = true) (h2 : dicW K (ga K "FORMS") = some (keysIn w.params (formsL.map fun p => p.1))) : Frm K w := by
  refine ⟨dicW_ok h2, fun p hp => ?_⟩
  obtain ⟨u, e, r⟩ := valsB_ok h (q := (p.1, .str p.2)) (List.mem_map.mpr ⟨p, hp, rfl⟩)
  obtain ⟨t, rfl⟩ := (r : ∃ t, u = .str p.2 t)
  exact ⟨t, e⟩
theorem says_ok {K : PySem.W.Frag} {w : World} {h : Heap} {mg : Str → Option Value} (X : K.In h) (G : h.Ns mainGlobals mg) (c : obsZ K = valZ w) : Txt K mg ∧ GmTxt K ∧ Frm K w := by
  have c1 : obsD fa fn K = valD fn := congrArg (fun z : AlZ => z.1) c
  have c2 : ex1 K = true := congrArg (fun z : AlZ => z.2.1) c
  have c3 : ex2 K = true := congrArg (fun z : AlZ => z.2.2.1) c
  have c4 : valsB K (ga K "FORMS") formsV = true := congrArg (fun z : AlZ => z.2.2.2.1) c
  have c5 : dicW K (ga K "FORMS") = some (keysIn w.params (formsL.map fun p => p.1)) := congrArg (fun z : AlZ => z.2.2.2.2) c
  exact ⟨⟨⟨h, X, G⟩, c1, c2⟩, gm_ok c3, frm_ok c4 c5⟩
end G
set_option maxHeartbeats 4000000
set_option maxHeartbeats 0
namespace G
open PySem PySem.Spec PyProof.Rows L2 PySem.W PySem.Calls
open HandSHeadRun He
theorem run_f (w : World) : RunEq RR (PySem.W.view RR.prog [108]) hookZ obZ 6000 loose (w.withFollow "special-get-raises" false) := by
  intro os
  kernel_rfl
theorem run_t (w : World) : RunEq RR (PySem.W.view RR.prog [108]) hookZ obZ 6000 loose (w.withFollow "special-get-raises" true) := by
  intro os
  kernel_rfl
theorem run (w : World) : RunEq RR (PySem.W.view RR.prog [108]) hookZ obZ 6000 loose w := byRow2 "special-get-raises" run_f run_t w
end G
set_option maxHeartbeats 4000000
/-! Closing a day on which nothing turns changes nothing. Plain Lean. -/
namespace G
open PySem
open PySem.W (dataLe)

/-- nothing turns behind d0, up to d -/
def Still (l : List Deed) (d0 d : Int) : Prop := d0 ≤ d ∧ ∀ k ∈ turningM l, k ≤ d → k ≤ d0
theorem day_turns {l : List Deed} {x : Deed} (hx : x ∈ l) : x.day ∈ turningM l := turning_mem.mpr ⟨x, hx, List.mem_cons_self⟩
theorem Still.le {l : List Deed} {d0 d k : Int} (h : Still l d0 d) (hk : k ∈ turningM l) : decide (k ≤ d) = decide (k ≤ d0) := by
  refine decide_eq_decide.mpr ⟨h.2 k hk, fun q => Int.le_trans q h.1⟩
theorem Still.lt {l : List Deed} {d0 d k : Int} (h : Still l d0 d) (hk : k ∈ turningM l) : d < k ↔ d0 < k := by
  have a := h.2 k hk
  have b := h.1
  constructor
  · intro z; omega
  · intro z
    refine Int.lt_of_not_ge fun q => ?_
    have := a q
    omega
theorem Still.day {l : List Deed} {d0 d : Int} (h : Still l d0 d) {x : Deed} (hx : x ∈ l) : decide (x.day ≤ d) = decide (x.day ≤ d0) := h.le (day_turns hx)
theorem still_latest {l : List Deed} {d0 d : Int} (h : Still l d0 d) (w0 w1 : Str) : latestM l d w0 w1 = latestM l d0 w0 w1 := by
  unfold latestM
  rw [List.filter_congr fun x hx => by rw [h.day hx]]
theorem still_rules {l : List Deed} {d0 d : Int} (h : Still l d0 d) : rulesM l d = rulesM l d0 := still_latest h _ _
theorem still_covers {l : List Deed} {d0 d : Int} (h : Still l d0 d) (p : Str) : coveringM l d p = coveringM l d0 p := by
  unfold coveringM holdsM
  rw [still_latest h]
theorem still_needs {l : List Deed} {d0 d : Int} (h : Still l d0 d) (p : Str) : needsM l d p = needsM l d0 p := by
  unfold needsM
  rw [still_rules h]
theorem still_come {l : List Deed} {d0 d : Int} (h : Still l d0 d) {p : Str} (hp : p ∈ papersM l) : comeM l p ≤ d ↔ comeM l p ≤ d0 := by
  obtain ⟨x, hx, e⟩ := come_mem hp
  rw [← e]
  exact decide_eq_decide.mp (h.day hx)
theorem still_over {l : List Deed} {d0 d : Int} (h : Still l d0 d) {p : Str} (hp : p ∈ papersM l) : overM l d p = overM l d0 p := by
  unfold overM
  rw [still_rules h]
  by_cases q : comeM l p ≤ d
  · rw [if_pos q, if_pos ((still_come h hp).mp q)]
  · rw [if_neg q, if_neg (fun z => q ((still_come h hp).mpr z))]
theorem still_filter {l : List Deed} {d0 d : Int} (h : Still l d0 d) {p : Str} (hp : p ∈ papersM l) (s : Since) : ((basesM l s p).filter fun o => decide (o ≤ d)) = (basesM l s p).filter fun o => decide (o ≤ d0) :=
  List.filter_congr fun i hi => by
    obtain ⟨x, hx, e⟩ := bases_mem hp hi
    rw [← e, h.day hx]
theorem still_base {l : List Deed} {d0 d : Int} (h : Still l d0 d) {p : Str} (hp : p ∈ papersM l) (s : Since) : baseM l s p d = baseM l s p d0 := by
  cases s with
  | coming => rfl
  | first w =>
    show ((basesM l (.first w) p).filter fun o => decide (o ≤ d)).getLast? = ((basesM l (.first w) p).filter fun o => decide (o ≤ d0)).getLast?
    rw [still_filter h hp]
  | last w =>
    show ((basesM l (.last w) p).filter fun o => decide (o ≤ d)).getLast? = ((basesM l (.last w) p).filter fun o => decide (o ≤ d0)).getLast?
    rw [still_filter h hp]
theorem base_in {l : List Deed} {d b : Int} {p : Str} {s : Since} (h : baseM l s p d = some b) : b ∈ basesM l s p := by
  cases s with
  | coming =>
    have : some (comeM l p) = some b := h
    cases this
    exact List.mem_singleton.mpr rfl
  | first w =>
    have : ((basesM l (.first w) p).filter fun o => decide (o ≤ d)).getLast? = some b := h
    exact (List.mem_filter.mp (List.mem_of_getLast? this)).1
  | last w =>
    have : ((basesM l (.last w) p).filter fun o => decide (o ≤ d)).getLast? = some b := h
    exact (List.mem_filter.mp (List.mem_of_getLast? this)).1
/-- what a rule of the paper's kind reckons is a turning day -/
theorem reck_turns {l : List Deed} {x : Deed} {p : Str} {kp : Bool} {kd u : Str} {s : Since} {m d t : Int} (hx : x ∈ l) (hw : isW "rule" x = true) (hs : partsOf x = .span kp kd s m u) (hp : p ∈ papersM l) (hk : kd = kindM l p) (h : reckM l s m u p d = some t) : t ∈ turningM l := by
  unfold reckM at h
  cases e : baseM l s p d with
  | none =>
    rw [e] at h
    cases h
  | some b =>
    rw [e] at h
    have ht : laterM b m u = t := Option.some.inj h
    refine turning_mem.mpr ⟨x, hx, ?_⟩
    obtain ⟨d', n, q, rfl⟩ := isW_rule hw
    have hq : q = .span kp kd s m u := hs
    subst hq
    show t ∈ d' :: (if true = true then reckonsM l (.span kp kd s m u) else [])
    rw [if_pos rfl]
    refine List.mem_cons_of_mem _ ?_
    show t ∈ ((papersM l).filter fun p => decide (kindM l p = kd)).flatMap fun p => (basesM l s p).map fun b => laterM b m u
    refine List.mem_flatMap.mpr ⟨p, List.mem_filter.mpr ⟨hp, decide_eq_true hk.symm⟩, List.mem_map.mpr ⟨b, base_in e, ht⟩⟩
theorem find_congr {α : Type} {f g : α → Bool} : ∀ {l : List α}, (∀ x ∈ l, f x = g x) → l.find? f = l.find? g
  | [], _ => rfl
  | x :: r, h => by
    rw [List.find?_cons, List.find?_cons, h x List.mem_cons_self, find_congr fun y hy => h y (List.mem_cons_of_mem _ hy)]
theorem still_first {l : List Deed} {d0 d : Int} {p : Str} {g g0 : Gone} (hm : ∀ m ∈ makersM l p, hasGoneM g m d = hasGoneM g0 m d0) (a : Bool) : firstMakerM l d p g a = firstMakerM l d0 p g0 a :=
  find_congr fun m h => by rw [hm m h]
theorem still_stay {l : List Deed} {d0 d : Int} (h : Still l d0 d) {p : Str} {g g0 : Gone} (hp : p ∈ papersM l) (hm : ∀ m ∈ makersM l p, hasGoneM g m d = hasGoneM g0 m d0) {x : Deed} (hx : x ∈ l) (hw : isW "rule" x = true) (hk : (partsOf x).kind = kindM l p) : stayBy l d p g (partsOf x) = stayBy l d0 p g0 (partsOf x) := by
  cases e : partsOf x with
  | span kp kd s m u =>
    rw [e] at hk
    cases kp with
    | false => rfl
    | true =>
      show (match reckM l s m u p d with | none => [PyData.none] | some t => if d < t then [PyData.int t] else []) = (match reckM l s m u p d0 with | none => [PyData.none] | some t => if d0 < t then [PyData.int t] else [])
      have e1 : reckM l s m u p d = reckM l s m u p d0 := by
        unfold reckM
        rw [still_base h hp]
      rw [← e1]
      cases e2 : reckM l s m u p d with
      | none => rfl
      | some t =>
        have ht := h.lt (reck_turns hx hw e hp hk e2)
        dsimp only
        by_cases q : d < t
        · rw [if_pos q, if_pos (ht.mp q)]
        · rw [if_neg q, if_neg (fun z => q (ht.mpr z))]
  | one w kd =>
    show (if w = "while" then (match firstMakerM l d p g false with | some m => [PyData.str m] | none => []) else []) = (if w = "while" then (match firstMakerM l d0 p g0 false with | some m => [PyData.str m] | none => []) else [])
    rw [still_first hm]
theorem still_go {l : List Deed} {d0 d : Int} (h : Still l d0 d) {p : Str} {g g0 : Gone} (hp : p ∈ papersM l) (hm : ∀ m ∈ makersM l p, hasGoneM g m d = hasGoneM g0 m d0) {x : Deed} (hx : x ∈ l) (hw : isW "rule" x = true) (hk : (partsOf x).kind = kindM l p) : goBy l d p g (partsOf x) = goBy l d0 p g0 (partsOf x) := by
  cases e : partsOf x with
  | span kp kd s m u =>
    rw [e] at hk
    cases kp with
    | true => rfl
    | false =>
      show (match reckM l s m u p d with | none => [] | some t => if t ≤ d then [PyData.int t] else []) = (match reckM l s m u p d0 with | none => [] | some t => if t ≤ d0 then [PyData.int t] else [])
      have e1 : reckM l s m u p d = reckM l s m u p d0 := by
        unfold reckM
        rw [still_base h hp]
      rw [← e1]
      cases e2 : reckM l s m u p d with
      | none => rfl
      | some t =>
        have ht := decide_eq_decide.mp (h.le (reck_turns hx hw e hp hk e2))
        dsimp only
        by_cases q : t ≤ d
        · rw [if_pos q, if_pos (ht.mp q)]
        · rw [if_neg q, if_neg (fun z => q (ht.mpr z))]
  | one w kd =>
    show (if w = "follow" then (match firstMakerM l d p g true with | some m => [PyData.str m] | none => []) else []) = (if w = "follow" then (match firstMakerM l d0 p g0 true with | some m => [PyData.str m] | none => []) else [])
    rw [still_first hm]
theorem calls_congr {f g : Parts → List PyData} : ∀ {l : List Deed}, (∀ x ∈ l, f (partsOf x) = g (partsOf x)) → callsD f l = callsD g l
  | [], _ => rfl
  | x :: r, h => by
    have ih := calls_congr (f := f) (g := g) (l := r) fun y hy => h y (List.mem_cons_of_mem _ hy)
    unfold callsD at ih ⊢
    rw [List.flatMap_cons, List.flatMap_cons, h x List.mem_cons_self, ih]
theorem over_in {l : List Deed} {d : Int} {p : Str} {x : Deed} (h : x ∈ overM l d p) : x ∈ l ∧ isW "rule" x = true ∧ (partsOf x).kind = kindM l p := by
  unfold overM at h
  split at h
  · obtain ⟨a, b⟩ := List.mem_filter.mp h
    have c := rules_mem a
    exact ⟨c.1.1, c.2, of_decide_eq_true b⟩
  · cases h
theorem still_stays {l : List Deed} {d0 d : Int} (h : Still l d0 d) {p : Str} {g g0 : Gone} (hp : p ∈ papersM l) (hm : ∀ m ∈ makersM l p, hasGoneM g m d = hasGoneM g0 m d0) : staysM l d p g = staysM l d0 p g0 := by
  unfold staysM
  rw [still_over h hp]
  exact calls_congr fun x hx => still_stay h hp hm (over_in hx).1 (over_in hx).2.1 (over_in hx).2.2
theorem still_goes {l : List Deed} {d0 d : Int} (h : Still l d0 d) {p : Str} {g g0 : Gone} (hp : p ∈ papersM l) (hm : ∀ m ∈ makersM l p, hasGoneM g m d = hasGoneM g0 m d0) : goesM l d p g = goesM l d0 p g0 := by
  unfold goesM
  rw [still_over h hp]
  exact calls_congr fun x hx => still_go h hp hm (over_in hx).1 (over_in hx).2.1 (over_in hx).2.2
theorem least_none {l : List Deed} : leastM l = none ↔ l = [] := by
  cases l with
  | nil => exact ⟨fun _ => rfl, fun _ => rfl⟩
  | cons x r => exact ⟨fun h => (nomatch h), fun h => (nomatch h)⟩
theorem still_unused {l : List Deed} {d0 d : Int} (h : Still l d0 d) {k : Str} {u0 ex : List (Str × Str)} (e : unusedM l d0 k u0 = none) : unusedM l d k (u0 ++ ex) = none := by
  unfold unusedM at e ⊢
  rw [Option.map_eq_none_iff, least_none, List.filter_eq_nil_iff] at e ⊢
  intro x hx q
  refine e x hx ?_
  unfold leaveOk at q ⊢
  rw [h.day hx] at q
  rw [List.any_append] at q
  revert q
  cases isW "leave" x <;> cases decide (kindOfLeave x = k) <;> cases decide (x.day ≤ d0) <;> cases u0.any (fun q => decide (q.1 = x.name)) <;> simp
theorem isLet_of {l : List Deed} {d0 d : Int} (h : Still l d0 d) {p : Str} {g g0 : Gone} {u0 ex : List (Str × Str)} (hp : p ∈ papersM l) (hm : ∀ m ∈ makersM l p, hasGoneM g m d = hasGoneM g0 m d0) (q : (lookM l d0 p g0 u0).isLet = false) : (lookM l d p g (u0 ++ ex)).isLet = false := by
  unfold MetM.isLet MetM.barred lookM at q ⊢
  dsimp only at q ⊢
  rw [still_stays h hp hm, still_goes h hp hm, still_covers h, still_needs h]
  revert q
  cases (goesM l d0 p g0).isEmpty <;> cases (staysM l d0 p g0).isEmpty <;> cases (coveringM l d0 p).isEmpty <;> cases needsM l d0 p <;> simp
  intro z
  have z' : unusedM l d0 (kindM l p) u0 = none := by
    cases e : unusedM l d0 (kindM l p) u0 with
    | none => rfl
    | some y => rw [e] at z; simp at z
  rw [still_unused h z'] <;> rfl

/-! ### one day's goings -/
theorem steps_app {l : List Deed} {day : Int} : ∀ (ps : List Str) (gs : List Going), ∃ ex, ps.foldl (stepM l day) gs = gs ++ ex ∧ (ex.map (·.paper)).Sublist ps ∧ ∀ g ∈ ex, g.day = day ∧ comeM l g.paper ≤ day
  | [], gs => ⟨[], by simp, List.Sublist.refl _, fun _ h => by cases h⟩
  | p :: r, gs => by
    rw [List.foldl_cons, step_eq]
    by_cases h1 : dueB l day gs p = true
    · rw [if_pos h1]
      by_cases h2 : (seeM l day gs p).isLet = true
      · rw [if_pos h2]
        obtain ⟨ex, e, hs, hd⟩ := steps_app r (gs ++ [⟨p, day, (seeM l day gs p).leave⟩])
        refine ⟨⟨p, day, (seeM l day gs p).leave⟩ :: ex, by rw [e, List.append_assoc] <;> rfl, hs.cons₂ p, fun g hg => ?_⟩
        rcases List.mem_cons.mp hg with rfl | hg
        · exact ⟨rfl, (due_iff.mp h1).1⟩
        · exact hd g hg
      · rw [if_neg h2]
        obtain ⟨ex, e, hs, hd⟩ := steps_app r gs
        exact ⟨ex, e, hs.cons p, hd⟩
    · rw [if_neg h1]
      obtain ⟨ex, e, hs, hd⟩ := steps_app r gs
      exact ⟨ex, e, hs.cons p, hd⟩
theorem close_app {l : List Deed} {day : Int} (gs : List Going) : ∃ ex, closeM l day gs = gs ++ ex ∧ (ex.map (·.paper)).Sublist (papersM l) ∧ ∀ g ∈ ex, g.day = day ∧ comeM l g.paper ≤ day := steps_app _ _
theorem getG_app {gs ex : List Going} {p : Str} (h : p ∉ ex.map (·.paper)) : getG (goneOf (gs ++ ex)) p = getG (goneOf gs) p := by
  unfold getG goneOf
  rw [List.map_append, List.find?_append]
  have : (ex.map fun g => (g.paper, g.day)).find? (fun q => decide (q.1 = p)) = none := by
    rw [List.find?_eq_none]
    intro q hq
    obtain ⟨y, hy, rfl⟩ := List.mem_map.mp hq
    intro z
    exact h (List.mem_map.mpr ⟨y, hy, of_decide_eq_true z⟩)
  rw [this, Option.or_none]
theorem getG_some {gs : List Going} {p : Str} {d : Int} (h : getG (goneOf gs) p = some d) : ∃ g ∈ gs, g.paper = p ∧ g.day = d := by
  unfold getG at h
  obtain ⟨q, hq, e⟩ := Option.map_eq_some_iff.mp h
  have h1 := List.mem_of_find?_eq_some hq
  have h2 := List.find?_some hq
  obtain ⟨y, hy, rfl⟩ := List.mem_map.mp h1
  exact ⟨y, hy, of_decide_eq_true h2, e⟩
theorem getG_none {gs : List Going} {p : Str} (h : p ∉ gs.map (·.paper)) : getG (goneOf gs) p = none := by
  cases e : getG (goneOf gs) p with
  | none => rfl
  | some d =>
    obtain ⟨g, hg, e1, _⟩ := getG_some e
    exact absurd (List.mem_map.mpr ⟨g, hg, e1⟩) h
theorem fold_fix {α β : Type} {f : β → α → β} {b : β} : ∀ {l : List α}, (∀ x ∈ l, f b x = b) → l.foldl f b = b
  | [], _ => rfl
  | x :: r, h => by
    rw [List.foldl_cons, h x List.mem_cons_self]
    exact fold_fix fun y hy => h y (List.mem_cons_of_mem _ hy)
/-- a day on which nothing turns, behind one that was closed, closes without a going -/
theorem close_still {l : List Deed} {d0 d : Int} {gs : List Going} (W : WF l) (h : Still l d0 d) (hd : ∀ g ∈ gs, g.day ≤ d0) : closeM l d (closeM l d0 gs) = closeM l d0 gs := by
  refine fold_fix fun p hp => ?_
  obtain ⟨pre, post, hpp⟩ := List.append_of_mem hp
  have nd := papers_nodup W
  rw [hpp, List.nodup_append] at nd
  have np1 : p ∉ pre := fun z => nd.2.2 p z p List.mem_cons_self rfl
  have np2 : p ∉ post := (List.nodup_cons.mp nd.2.1).1
  have hmk : ∀ m ∈ makersM l p, m ∈ pre ∧ m ∉ post := fun m hm => by
    have h1 := (List.mem_filter.mp hm).1
    have e : (papersM l).idxOf p = pre.length := by
      rw [hpp, List.idxOf_append, if_neg np1, List.idxOf_cons_self] <;> omega
    rw [e, hpp, List.take_left] at h1
    exact ⟨h1, fun z => nd.2.2 m h1 m (List.mem_cons_of_mem _ z) rfl⟩
  obtain ⟨e0, he0, _, hd0⟩ := steps_app (l := l) (day := d0) pre gs
  have hfin : closeM l d0 gs = post.foldl (stepM l d0) (stepM l d0 (gs ++ e0) p) := by
    unfold closeM
    rw [hpp, List.foldl_append, List.foldl_cons, he0]
  obtain ⟨e1, he1, hs1, hd1⟩ := steps_app (l := l) (day := d0) post (stepM l d0 (gs ++ e0) p)
  rw [he1] at hfin
  have ne1 : p ∉ e1.map (·.paper) := fun z => np2 (hs1.subset z)
  rw [step_eq]
  by_cases hdue : dueB l d (closeM l d0 gs) p = true
  · rw [if_pos hdue]
    obtain ⟨hc, hg⟩ := due_iff.mp hdue
    rw [hfin] at hg
    rw [getG_app ne1] at hg
    have hc0 := (still_come h hp).mp hc
    -- p was looked at on d0
    have hst : dueB l d0 (gs ++ e0) p = true ∧ (seeM l d0 (gs ++ e0) p).isLet = false ∧ stepM l d0 (gs ++ e0) p = gs ++ e0 := by
      rw [step_eq] at hg ⊢
      by_cases a : dueB l d0 (gs ++ e0) p = true
      · rw [if_pos a] at hg ⊢
        by_cases b : (seeM l d0 (gs ++ e0) p).isLet = true
        · rw [if_pos b] at hg
          exact absurd (List.mem_map.mpr ⟨_, List.mem_append_right _ (List.mem_singleton.mpr rfl), rfl⟩) (getG_mem hg)
        · rw [if_neg b]
          exact ⟨a, by simpa using b, rfl⟩
      · rw [if_neg a] at hg
        exact absurd (due_iff.mpr ⟨hc0, hg⟩) a
    obtain ⟨_, hlet, hsame⟩ := hst
    rw [hsame] at hfin
    have hnl : (seeM l d (closeM l d0 gs) p).isLet = false := by
      unfold seeM at hlet ⊢
      have hu : usedOf (closeM l d0 gs) = usedOf (gs ++ e0) ++ usedOf e1 := by
        rw [hfin]
        unfold usedOf
        rw [List.filterMap_append]
      rw [hu]
      refine isLet_of h hp (fun m hm => ?_) hlet
      obtain ⟨hm1, hm2⟩ := hmk m hm
      have hg1 : getG (goneOf (closeM l d0 gs)) m = getG (goneOf (gs ++ e0)) m := by
        rw [hfin]
        exact getG_app fun z => hm2 (hs1.subset z)
      unfold hasGoneM
      rw [hg1]
      cases e : getG (goneOf (gs ++ e0)) m with
      | none => rfl
      | some x =>
        obtain ⟨y, hy, _, e3⟩ := getG_some e
        have hx : x ≤ d0 := by
          rcases List.mem_append.mp hy with z | z
          · have := hd y z; omega
          · have := (hd0 y z).1; omega
        have := h.1
        show decide (x ≤ d) = decide (x ≤ d0)
        rw [decide_eq_true hx, decide_eq_true (by omega)]
    rw [if_neg (by rw [hnl]; decide)]
  · rw [if_neg hdue]
end G
/-! What was done behind a turn: the plan's goings up to it. Plain Lean. -/
namespace G
open PySem
open PySem.W (dataLe)
theorem Int_lt_ne {a b : Int} (h : a ≤ b) (n : a ≠ b) : a < b := by omega
theorem turning_pw (l : List Deed) : (turningM l).Pairwise (· < ·) := sortSet_pw _
theorem walk0 (l : List Deed) : walkDays l [] = turningM l := by
  rw [walkDays_eq]
  refine (sortSet_is (turning_pw l) fun k => ?_).symm
  rw [List.append_nil]
theorem plan_eq (l : List Deed) : planM l = runM l (turningM l) [] := by
  unfold planM
  rw [walk0]
/-- the goings of all turning days below a day -/
def belowM (l : List Deed) (t : Int) : List Going := runM l ((turningM l).filter fun k => decide (k < t)) []
theorem filt_lt {t day : Int} (ht : t < day) : ∀ {ns : List Int}, ns.Pairwise (· < ·) → ns.filter (fun k => decide (k < day)) = ns.filter (fun k => decide (k < t)) ++ (ns.filter (fun k => decide (k = t)) ++ ns.filter (betB t day))
  | [], _ => rfl
  | a :: r, h => by
    obtain ⟨h1, h2⟩ := List.pairwise_cons.mp h
    have ih := filt_lt ht h2
    rcases Int.lt_trichotomy a t with q | q | q
    · rw [List.filter_cons_of_pos (p := fun k => decide (k < day)) (decide_eq_true (by omega)), List.filter_cons_of_pos (p := fun k => decide (k < t)) (decide_eq_true q), List.filter_cons_of_neg (p := fun k => decide (k = t)) (by simp; omega), List.filter_cons_of_neg (p := betB t day) (by unfold betB; simp; omega), ih, List.cons_append]
    · subst q
      have e1 : r.filter (fun k => decide (k < a)) = [] := List.filter_eq_nil_iff.mpr fun y hy => by
        have := h1 y hy
        simp
        omega
      have e2 : r.filter (fun k => decide (k = a)) = [] := List.filter_eq_nil_iff.mpr fun y hy => by
        have := h1 y hy
        simp
        omega
      rw [List.filter_cons_of_pos (p := fun k => decide (k < day)) (decide_eq_true ht), List.filter_cons_of_neg (p := fun k => decide (k < a)) (by simp), List.filter_cons_of_pos (p := fun k => decide (k = a)) (by simp), List.filter_cons_of_neg (p := betB a day) (by unfold betB; simp), ih, e1, e2] <;> rfl
    · have hall : ∀ y ∈ a :: r, t < y := fun y hy => by
        rcases List.mem_cons.mp hy with rfl | hy
        · exact q
        · have := h1 y hy
          omega
      have e1 : (a :: r).filter (fun k => decide (k < t)) = [] := List.filter_eq_nil_iff.mpr fun y hy => by
        have := hall y hy
        simp
        omega
      have e2 : (a :: r).filter (fun k => decide (k = t)) = [] := List.filter_eq_nil_iff.mpr fun y hy => by
        have := hall y hy
        simp
        omega
      rw [e1, e2, List.nil_append, List.nil_append]
      exact List.filter_congr fun y hy => by
        unfold betB
        rw [decide_eq_true (hall y hy), Bool.true_and]
theorem filt_ge {t : Int} : ∀ {ns : List Int}, ns.Pairwise (· < ·) → ns = ns.filter (fun k => decide (k < t)) ++ ns.filter (fun k => decide (t ≤ k))
  | [], _ => rfl
  | a :: r, h => by
    obtain ⟨h1, h2⟩ := List.pairwise_cons.mp h
    have ih := filt_ge (t := t) h2
    by_cases q : a < t
    · rw [List.filter_cons_of_pos (p := fun k => decide (k < t)) (decide_eq_true q), List.filter_cons_of_neg (p := fun k => decide (t ≤ k)) (by simp; omega), List.cons_append, ← ih]
    · have e1 : (a :: r).filter (fun k => decide (k < t)) = [] := List.filter_eq_nil_iff.mpr fun y hy => by
        rcases List.mem_cons.mp hy with rfl | hy
        · simpa using q
        · have := h1 y hy
          simp
          omega
      have e2 : (a :: r).filter (fun k => decide (t ≤ k)) = a :: r := List.filter_eq_self.mpr fun y hy => by
        rcases List.mem_cons.mp hy with rfl | hy
        · simpa using q
        · have := h1 y hy
          simp
          omega
      rw [e1, e2, List.nil_append]
theorem filt_one {t : Int} : ∀ {ns : List Int}, ns.Pairwise (· < ·) → t ∈ ns → ns.filter (fun k => decide (k = t)) = [t]
  | a :: r, h, hm => by
    obtain ⟨h1, h2⟩ := List.pairwise_cons.mp h
    by_cases q : a = t
    · subst q
      rw [List.filter_cons_of_pos (p := fun k => decide (k = a)) (by simp), List.filter_eq_nil_iff.mpr fun y hy => by
        have := h1 y hy
        simp
        omega]
    · rw [List.filter_cons_of_neg (p := fun k => decide (k = t)) (by simpa using q)]
      rcases List.mem_cons.mp hm with e | hm
      · exact absurd e.symm q
      · exact filt_one h2 hm
theorem run_app {l : List Deed} : ∀ (days : List Int) (gs : List Going), ∃ ex, runM l days gs = gs ++ ex ∧ ∀ g ∈ ex, g.day ∈ days ∧ comeM l g.paper ≤ g.day
  | [], gs => ⟨[], (List.append_nil _).symm, fun _ h => by cases h⟩
  | d :: r, gs => by
    obtain ⟨e1, h1, _, h2⟩ := close_app (l := l) (day := d) gs
    obtain ⟨e2, h3, h4⟩ := run_app r (gs ++ e1)
    refine ⟨e1 ++ e2, ?_, fun g hg => ?_⟩
    · show runM l r (closeM l d gs) = _
      rw [h1, h3, List.append_assoc]
    · rcases List.mem_append.mp hg with q | q
      · obtain ⟨a, b⟩ := h2 g q
        exact ⟨by rw [a]; exact List.mem_cons_self, by rw [a]; exact b⟩
      · exact ⟨List.mem_cons_of_mem _ (h4 g q).1, (h4 g q).2⟩
theorem below_days {l : List Deed} {t : Int} {g : Going} (h : g ∈ belowM l t) : g.day < t ∧ comeM l g.paper ≤ g.day := by
  obtain ⟨ex, e, he⟩ := run_app (l := l) ((turningM l).filter fun k => decide (k < t)) []
  unfold belowM at h
  rw [e, List.nil_append] at h
  exact ⟨of_decide_eq_true (List.mem_filter.mp (he g h).1).2, (he g h).2⟩
theorem close_off {l : List Deed} (W : WF l) {t : Int} (ht : t ∉ turningM l) : closeM l t (belowM l t) = belowM l t := by
  rcases List.eq_nil_or_concat ((turningM l).filter fun k => decide (k < t)) with h | ⟨ini, d0, h⟩
  · have hb : belowM l t = [] := by
      unfold belowM
      rw [h] <;> rfl
    rw [hb]
    refine fold_fix fun p hp => ?_
    rw [step_eq, if_neg]
    intro q
    obtain ⟨hc, _⟩ := due_iff.mp q
    obtain ⟨x, hx, e⟩ := come_mem hp
    have h1 := day_turns hx
    rw [e] at h1
    have h2 : comeM l p < t := by
      refine Int_lt_ne hc fun z => ht (z ▸ h1)
    have h3 : comeM l p ∈ (turningM l).filter fun k => decide (k < t) := List.mem_filter.mpr ⟨h1, decide_eq_true h2⟩
    rw [h] at h3
    cases h3
  · rw [List.concat_eq_append] at h
    have hb : belowM l t = closeM l d0 (runM l ini []) := by
      unfold belowM
      rw [h, runM_app] <;> rfl
    have hd0 : d0 ∈ (turningM l).filter fun k => decide (k < t) := by
      rw [h]
      exact List.mem_append_right _ (List.mem_singleton.mpr rfl)
    have hlt : d0 < t := of_decide_eq_true (List.mem_filter.mp hd0).2
    have pw : (ini ++ [d0]).Pairwise (· < ·) := by
      rw [← h]
      exact (turning_pw l).sublist List.filter_sublist
    have hle : ∀ k ∈ ini, k < d0 := fun k hk => (List.pairwise_append.mp pw).2.2 k hk d0 (List.mem_singleton.mpr rfl)
    rw [hb]
    refine close_still W ⟨by omega, fun k hk hkt => ?_⟩ fun g hg => ?_
    · have h1 : k < t := Int_lt_ne hkt fun z => ht (z ▸ hk)
      have h2 : k ∈ (turningM l).filter fun k => decide (k < t) := List.mem_filter.mpr ⟨hk, decide_eq_true h1⟩
      rw [h] at h2
      rcases List.mem_append.mp h2 with q | q
      · have := hle k q
        omega
      · rw [List.mem_singleton.mp q]
        exact Int.le_refl _
    · obtain ⟨ex, e, he⟩ := run_app (l := l) ini []
      rw [e, List.nil_append] at hg
      have := hle _ (he g hg).1
      omega
/-- a turn of the archive brings the goings up to the new day -/
theorem turn_below {l : List Deed} (W : WF l) {t day : Int} (ht : t < day) : turnM l t day (belowM l t) = belowM l day := by
  have key : closeM l t (belowM l t) = runM l ((turningM l).filter fun k => decide (k = t)) (belowM l t) := by
    by_cases q : t ∈ turningM l
    · rw [filt_one (turning_pw l) q] <;> rfl
    · rw [close_off W q, List.filter_eq_nil_iff.mpr fun y hy => by
        intro z
        exact q (of_decide_eq_true z ▸ hy)] <;> rfl
  unfold turnM
  rw [key]
  conv => rhs; unfold belowM
  rw [filt_lt ht (turning_pw l), runM_app, runM_app] <;> rfl
theorem plan_below (l : List Deed) (t : Int) : ∃ ex, planM l = belowM l t ++ ex ∧ ∀ g ∈ ex, t ≤ g.day := by
  rw [plan_eq]
  obtain ⟨ex, e, he⟩ := run_app (l := l) ((turningM l).filter fun k => decide (t ≤ k)) (belowM l t)
  refine ⟨ex, ?_, fun g hg => of_decide_eq_true (List.mem_filter.mp (he g hg).1).2⟩
  rw [← e]
  conv => lhs; rw [filt_ge (t := t) (turning_pw l), runM_app]
  rfl

/-! ### in the order of days and papers -/
def ltG (l : List Deed) (a b : Going) : Prop := a.day < b.day ∨ a.day = b.day ∧ (papersM l).idxOf a.paper < (papersM l).idxOf b.paper
theorem idx_pw : ∀ {r : List Str}, r.Nodup → r.Pairwise fun a b => r.idxOf a < r.idxOf b
  | [], _ => .nil
  | a :: r, h => by
    obtain ⟨h1, h2⟩ := List.nodup_cons.mp h
    have up : ∀ b ∈ r, (a :: r).idxOf b = r.idxOf b + 1 := fun b hb => by
      rw [List.idxOf_cons]
      have : (a == b) = false := beq_eq_false_iff_ne.mpr fun e => h1 (e ▸ hb)
      rw [this] <;> rfl
    refine List.pairwise_cons.mpr ⟨fun b hb => ?_, ?_⟩
    · rw [up b hb, List.idxOf_cons_self]
      omega
    · refine (idx_pw h2).imp_of_mem fun {b c} hb hc q => ?_
      rw [up b hb, up c hc]
      omega
theorem close_pw {l : List Deed} (W : WF l) {d : Int} {gs : List Going} (h : gs.Pairwise (ltG l)) (hd : ∀ g ∈ gs, g.day < d) : (closeM l d gs).Pairwise (ltG l) := by
  obtain ⟨ex, e, hs, hx⟩ := close_app (l := l) (day := d) gs
  rw [e]
  refine List.pairwise_append.mpr ⟨h, ?_, fun a ha b hb => .inl (by rw [(hx b hb).1]; exact hd a ha)⟩
  have h1 := ((idx_pw (papers_nodup W)).sublist hs)
  rw [List.pairwise_map] at h1
  refine h1.imp_of_mem fun {a b} ha hb q => .inr ⟨by rw [(hx a ha).1, (hx b hb).1], q⟩
theorem run_pw {l : List Deed} (W : WF l) : ∀ {days : List Int} {gs : List Going}, days.Pairwise (· < ·) → gs.Pairwise (ltG l) → (∀ g ∈ gs, ∀ d ∈ days, g.day < d) → (runM l days gs).Pairwise (ltG l)
  | [], _, _, h, _ => h
  | d :: r, gs, hp, h, hd => by
    obtain ⟨h1, h2⟩ := List.pairwise_cons.mp hp
    show (runM l r (closeM l d gs)).Pairwise (ltG l)
    refine run_pw W h2 (close_pw W h fun g hg => hd g hg d List.mem_cons_self) fun g hg k hk => ?_
    obtain ⟨ex, e, _, hx⟩ := close_app (l := l) (day := d) gs
    rw [e] at hg
    rcases List.mem_append.mp hg with q | q
    · exact hd g q k (List.mem_cons_of_mem _ hk)
    · rw [(hx g q).1]
      exact h1 k hk
theorem below_pw {l : List Deed} (W : WF l) (t : Int) : (belowM l t).Pairwise (ltG l) := run_pw W ((turning_pw l).sublist List.filter_sublist) .nil fun _ h => by cases h
theorem plan_ok {l : List Deed} : GsOk l (planM l) := GsOk.run (GsOk.nil l)
theorem below_ok {l : List Deed} {t : Int} : GsOk l (belowM l t) := GsOk.run (GsOk.nil l)
/-- what the plan tells of a going's paper -/
theorem get_of {gs : List Going} (h : (gs.map (·.paper)).Nodup) {g : Going} (hg : g ∈ gs) : getG (goneOf gs) g.paper = some g.day := by
  cases e : getG (goneOf gs) g.paper with
  | none => exact absurd (List.mem_map.mpr ⟨g, hg, rfl⟩) (getG_mem e)
  | some d =>
    obtain ⟨y, hy, e1, e2⟩ := getG_some e
    rw [← e2]
    congr 1
    have : y = g := by
      clear e
      induction gs with
      | nil => cases hg
      | cons a r ih =>
        rw [List.map_cons, List.nodup_cons] at h
        rcases List.mem_cons.mp hg with e3 | hg2 <;> rcases List.mem_cons.mp hy with e4 | hy2
        · rw [e3, e4]
        · exact absurd (List.mem_map.mpr ⟨y, hy2, by rw [e1, e3]⟩) h.1
        · exact absurd (List.mem_map.mpr ⟨g, hg2, by rw [← e1, e4]⟩) h.1
        · exact ih h.2 hg2 hy2
    rw [this]
theorem leave_of {gs : List Going} (h : (gs.map (·.paper)).Nodup) {g : Going} (hg : g ∈ gs) : leaveOfM (usedOf gs) g.paper = g.leave := by
  induction gs with
  | nil => cases hg
  | cons a r ih =>
    rw [List.map_cons, List.nodup_cons] at h
    have hno : ∀ p, p ∉ r.map (·.paper) → leaveOfM (usedOf r) p = none := fun p hp => by
      unfold leaveOfM
      rw [Option.map_eq_none_iff, List.find?_eq_none]
      intro q hq z
      unfold usedOf at hq
      obtain ⟨y, hy, e⟩ := List.mem_filterMap.mp hq
      cases e2 : y.leave with
      | none => rw [e2] at e; cases e
      | some lv =>
        rw [e2] at e
        cases e
        exact hp (List.mem_map.mpr ⟨y, hy, of_decide_eq_true z⟩)
    rcases List.mem_cons.mp hg with rfl | hg
    · cases e : g.leave with
      | none =>
        have : usedOf (g :: r) = usedOf r := by
          unfold usedOf
          rw [List.filterMap_cons, e] <;> rfl
        rw [this]
        exact hno _ h.1
      | some lv =>
        have : usedOf (g :: r) = (lv, g.paper) :: usedOf r := by
          unfold usedOf
          rw [List.filterMap_cons, e] <;> rfl
        rw [this]
        unfold leaveOfM
        rw [List.find?_cons_of_pos (by simp)] <;> rfl
    · have hne : a.paper ≠ g.paper := fun z => h.1 (List.mem_map.mpr ⟨g, hg, z.symm⟩)
      rw [← ih h.2 hg]
      cases e : a.leave with
      | none =>
        have : usedOf (a :: r) = usedOf r := by
          unfold usedOf
          rw [List.filterMap_cons, e] <;> rfl
        rw [this]
      | some lv =>
        have : usedOf (a :: r) = (lv, a.paper) :: usedOf r := by
          unfold usedOf
          rw [List.filterMap_cons, e] <;> rfl
        rw [this]
        unfold leaveOfM
        rw [List.find?_cons_of_neg (by simpa using hne)]

/-! ### the rows that are due -/
def dueRowB (l : List Deed) (t : Int) (p : Str) : Bool := match getG (goneOf (planM l)) p with
  | some d => decide (d < t)
  | none => false
def dueL (l : List Deed) (t : Int) : List Str := (papersM l).filter (dueRowB l t)
theorem below_get {l : List Deed} {t : Int} {g : Going} (h : g ∈ belowM l t) : g ∈ planM l := by
  obtain ⟨ex, e, _⟩ := plan_below l t
  rw [e]
  exact List.mem_append_left _ h
theorem due_mem {l : List Deed} {t : Int} {p : Str} : p ∈ dueL l t ↔ p ∈ (belowM l t).map (·.paper) := by
  obtain ⟨ex, e, he⟩ := plan_below l t
  constructor
  · intro h
    have h2 := (List.mem_filter.mp h).2
    unfold dueRowB at h2
    cases q : getG (goneOf (planM l)) p with
    | none => rw [q] at h2; cases h2
    | some d =>
      rw [q] at h2
      have hd : d < t := of_decide_eq_true h2
      obtain ⟨g, hg, e1, e2⟩ := getG_some q
      rw [e] at hg
      rcases List.mem_append.mp hg with z | z
      · exact List.mem_map.mpr ⟨g, z, e1⟩
      · have := he g z
        omega
  · intro h
    obtain ⟨g, hg, rfl⟩ := List.mem_map.mp h
    refine List.mem_filter.mpr ⟨below_ok.sub g hg, ?_⟩
    unfold dueRowB
    rw [get_of plan_ok.nd (below_get hg)]
    exact decide_eq_true (below_days hg).1
theorem due_perm {l : List Deed} (W : WF l) (t : Int) : (dueL l t).Perm ((belowM l t).map (·.paper)) :=
  (List.perm_ext_iff_of_nodup ((papers_nodup W).sublist List.filter_sublist) below_ok.nd).mpr fun _ => due_mem
theorem below_some {l : List Deed} {t : Int} {p : Str} : (getG (goneOf (belowM l t)) p).isSome = decide (p ∈ dueL l t) := by
  cases e : getG (goneOf (belowM l t)) p with
  | none =>
    exact (decide_eq_false fun h => getG_mem e (due_mem.mp h)).symm
  | some d =>
    obtain ⟨g, hg, e1, _⟩ := getG_some e
    exact (decide_eq_true (due_mem.mpr (List.mem_map.mpr ⟨g, hg, e1⟩))).symm
theorem row_done {l : List Deed} {t : Int} {g : Going} (h : g ∈ belowM l t) : rowD (planM l) g.paper = doneD g := by
  unfold rowD doneD
  rw [get_of plan_ok.nd (below_get h), leave_of plan_ok.nd (below_get h)] <;> rfl
def comeL (l : List Deed) (t : Int) : List Str := (papersM l).filter fun p => decide (comeM l p ≤ t) && !decide (p ∈ dueL l t)
theorem now_come (l : List Deed) (t : Int) : nowM l t (goneOf (belowM l t)) = comeL l t := by
  unfold nowM comeL
  exact List.filter_congr fun p _ => by rw [below_some]
theorem there_come {l : List Deed} {t : Int} {p : Str} (h : p ∈ thereM l (t - 1) (goneOf (planM l))) : p ∈ comeL l t := by
  obtain ⟨hp, h2⟩ := List.mem_filter.mp h
  obtain ⟨h3, h4⟩ := Bool.and_eq_true_iff.mp h2
  have h3 : comeM l p ≤ t - 1 := of_decide_eq_true h3
  refine List.mem_filter.mpr ⟨hp, Bool.and_eq_true_iff.mpr ⟨decide_eq_true (by omega), ?_⟩⟩
  have : p ∉ dueL l t := fun q => by
    have q2 := (List.mem_filter.mp q).2
    unfold dueRowB at q2
    cases e : getG (goneOf (planM l)) p with
    | none => rw [e] at q2; cases q2
    | some d =>
      rw [e] at q2 h4
      have a : d < t := of_decide_eq_true q2
      have b : t - 1 < d := of_decide_eq_true h4
      omega
  rw [decide_eq_false this] <;> rfl
end G
namespace G
open PySem PySem.Spec PyProof.Rows L2 Evl
abbrev gmA (K : PySem.W.Frag) : Addr := He.ga K "GoneMaker"
abbrev SpGm (K : PySem.W.Frag) : Sp := SpG K (fun a : Addr × Str => [.v (.ref a.1), .d (.str a.2)]) (fun a H => H a.1 = some (exo a.1 (gmA K) none)) (fun a H H' v => v = .non ∧ ∃ d fs, H d = none ∧ H' a.1 = some (exo a.1 (gmA K) (some d)) ∧ H' d = some (exd d fs))
section
variable {P : Program} {w : World} {K : PySem.W.Frag} {mg : Str → Option Value} {base : Heap}
theorem c_gm_init (T : Txt K mg) (gm : GmTxt K) : ∃ fd, FnOk P w K mg base CX0 1 (He.ma K (gmA K) "__init__") fd ["self", "paper"] (SpGm K) ∧ Binds K fd ["self", "paper"] [] := by
  obtain ⟨fd, F⟩ := T.f_GoneMaker_init
  refine ⟨fd, mkFn (k := 0) F S_GoneMaker_init H_GoneMaker_init (fun _ _ _ _ _ _ us hl => match us, hl with | [_, _], _ => rfl) (fun _ => rfl) ?_⟩
  rintro X rfl rfl rfl rfl rfl D ⟨a, p⟩ vs H Q hv hi hq
  dsimp only at hv hi hq
  obtain ⟨ws, rfl, hv2⟩ := hv.cv
  obtain ⟨v1, rfl, a1⟩ := hv2.d1
  obtain rfl := a1.str_iff
  refine ssc (ps_le (ps_expr (pe_aeinit gm (D.gl (by decide +kernel)) T.g_ArchiveError (wa _))) ((eav (en D 0) (ead ds ean)) H (Ex.refl H) _ fun vs H1 x1 t => ?_))
  obtain ⟨us, rfl, t2⟩ := t.cv
  obtain ⟨u, rfl, _⟩ := t2.d1
  refine ⟨a, gmA X.K, [u], rfl, (by show 1 ≤ 1000; decide), gm.ox, x1 _ _ hi, ?_⟩
  refine ss1 (ps_le (ps_ost (we _) (we _)) (EV.str (dns D 1) H1 (Ex.refl H1) _ fun H2 x2 => (en D 0 : EV X _ _ H2 (.ref a)) H2 (Ex.refl H2) _ fun H3 x3 => ⟨a, gmA X.K, rfl, gm.ox, gm.pap, .inl ⟨((x1.trans x2).trans x3) _ _ hi, fun dx hdx hne => ?_⟩⟩))
  exact hq .non _ ⟨rfl, dx, _, fresh_back ((x1.trans x2).trans x3) hdx, upd_same, by rw [upd_ne hne, upd_same]⟩
end
section
variable {X : Cx} {N : List Str} {sc : Scope} {k : Nat} {e : Expr} {σ : L2.St} {H : Hp} {pos p pos2 : Pos} {Dn : Ends} {W : WX} {x : Str}
/-- raise GoneMaker(e) -/
theorem sraise (T : Txt X.K X.mg) (gm : GmTxt X.K) (D : DC X N sc k) (hk : 2 ≤ k) (tk : Takes X W) (h : ED X e σ H (.str x)) (q : ∀ d σ' H', W (.ref (gmA X.K)) d σ' H') (hg : glB sc "GoneMaker" = true := by decide +kernel)
    (hs : starEach (e :: []) X.env = (false, eval e X.env) :: starEach [] X.env := by rfl) : wS X (.Raise (some (.Call (.Name "GoneMaker" p) [e] [] pos)) none pos2) Dn σ H := by
  obtain ⟨fd, F, hb⟩ := c_gm_init (P := X.prog) (w := X.w) (mg := X.mg) (base := X.base) T gm
  refine ps_le (ps_raise D.calm tk (pmk_oex gm.ox gm.ini gm.tyI F (D.hr.mono hk) hb .nil pass0 (D.gl hg) T.g_GoneMaker (wa [e]) (by decide +kernel) hs (by rfl))) ((ead h ean hs) H (Ex.refl H) _ fun vs H1 x1 t => ?_)
  obtain ⟨u, rfl, tu⟩ := t.d1
  refine ⟨by show 1 ≤ 1000; decide, fun a ha => ⟨(a, x), .v (.d (tu.ex (Ex.new ha)) .nil), upd_same, fun v H2 ⟨r1, d, fs, r2, r3, r4⟩ => ⟨r1, d, fs, r3, r4, ?_, q _ _ _⟩⟩⟩
  by_cases hd : d = a
  · rw [hd]
    exact ha
  · rw [upd_ne hd] at r2
    exact r2
end
end G
namespace G
open PySem PySem.Spec PyProof.Rows L2 Evl
/-- a test whose answer isn't told -/
def ETU (X : Cx) (e : Expr) (σ : L2.St) (H : Hp) : Prop := ∀ H1, Ex H H1 → ∀ Q : Bool → Hp → Prop, (∀ b H2, Ex H1 H2 → Q b H2) → wT X e σ H1 Q
def EWU (X : Cx) (e : Expr) (σ : L2.St) (H : Hp) : Prop := ∀ H1, Ex H H1 → ∀ Q : Bool → Hp → Prop, (∀ b H2, Ex H1 H2 → Q b H2) → wW X e σ H1 Q
section
variable {X : Cx} {N : List Str} {sc : Scope} {k j : Nat} {e a b o : Expr} {r es : List Expr} {σ : L2.St} {H : Hp} {pos p : Pos} {Dn : Ends} {c : Bool} {t u : List Stmt}
theorem EWU.et (h : EWU X e σ H) : ETU X e σ H := fun H1 x Q q => pt_le (PW.pt (ww e)) (h H1 x Q q)
theorem tvalU (h : EvR (wE X e) σ H fun _ v => ∃ b, v = .bl b) (he : ∀ whole, isTrue e X.env whole = (do let v ← whole; standAt e.pos; holding [v] (truthy v)) := by intro _; rfl) : ETU X e σ H := fun H1 x Q q =>
  pt_le (pt_val (we e) he) (h H1 x _ fun v H2 y ⟨b, hb⟩ => ⟨b, hb, q b H2 y⟩)
theorem tor1U (h : ETU X a σ H) : EWU X (.BoolOp .Or [a] pos) σ H := fun H1 x Q q => pw_le (pw_or1 (wt a)) (h H1 x Q q)
theorem torU (h : ET X a σ H c) (h2 : EWU X (.BoolOp .Or (b :: r) pos) σ H) : EWU X (.BoolOp .Or (a :: b :: r) pos) σ H := fun H1 x Q q => pw_le (pw_or (wt a) (ww _)) (h H1 x _ fun H2 y => by
  cases c with
  | true => exact q true H2 y
  | false => exact h2 H2 (x.trans y) Q fun b H3 z => q b H3 (y.trans z))
theorem sifU (h : ETU X e σ H) (q1 : ∀ H1, Ex H H1 → wSs X t Dn σ H1) (q2 : ∀ H1, Ex H H1 → wSs X u Dn σ H1) : wS X (.If e t u pos) Dn σ H := ps_le (ps_if (wt e) (wss t) (wss u)) (h H (Ex.refl H) _ fun b H1 x => by
  cases b with
  | true => exact q1 H1 x
  | false => exact q2 H1 x)
/-- a method that may raise GoneMaker -/
structure MetX (P : Program) (w : World) (K : PySem.W.Frag) (mg : Str → Option Value) (base : Heap) (j : Nat) (C : Addr) (m : Str) (ps : List Str) (sp : Sp) : Prop where
  ex : ∃ f fd, Meth K C m f ∧ FnOk P w K mg base (L2.CX P w) j f fd ps sp ∧ Binds K fd ps []
theorem gmethX {α : Type} {as : α → List AV} {pre : α → Hp → Prop} {R : α → Hp → Hp → V → Prop} {W : WX} {C a dx : Addr} {m : Str} {fs : List (Str × V)} {pl : Sem Bool} {apos : Pos} {Q : VK} {as' : List AV} {ps : List Str} (D : DC X N sc k) (tk : Takes X W) (hW : ∀ d σ' H', W (.ref (gmA X.K)) d σ' H') (c : MetX X.prog X.w X.K X.mg X.base j C m ps (SpX X.K as pre R)) (kc : Cls X.K C) (hj : j ≤ k) (ho : EV X o σ H (.ref a)) (hi : H a = some (.ins C dx fs)) (hn : fs.lookup m = none) (ha : EA X (e :: es) σ H as')
    (hp : ∀ H1, Ex H H1 → ∃ z, as z = .v (.ref a) :: as' ∧ pre z H1 ∧ ∀ v H2, R z H1 H2 v → Q v H2)
    (hst : starEach (e :: es) X.env = (false, eval e X.env) :: starEach es X.env := by rfl) (hpl : (backTo pos (starEach es X.env)).any (·.1) = false := by rfl)
    (ht : eval (.Call (.Attribute o m apos) (e :: es) [] pos) X.env = (do
      let ov ← eval o X.env
      standAt apos.atName
      let (f, first) ← holding [ov] (getMethod ov m pl)
      callWith pos f first (backTo pos (starEach (e :: es) X.env)) (backToKw pos (keywordEach [] X.env))) := by rfl) : wE X (.Call (.Attribute o m apos) (e :: es) [] pos) σ H Q := by
  obtain ⟨f, fd, M, F, hb⟩ := c.ex
  have hx : Passes (L2.CX X.prog X.w) X (fun cls _ _ => cls = .ref (gmA X.K)) := passes_call tk fun cls d σ' H' e => by rw [e]; exact hW d σ' H'
  exact pe_le (pe_meth (we o) kc M F (D.hr.mono hj) hb .nil hx (wa (e :: es)) hst hpl ht) (ho H (Ex.refl H) _ fun H1 x1 => ⟨a, dx, fs, rfl, x1 _ _ hi, hn, ha H1 x1 _ fun vs H2 x2 t => by
    rw [List.append_nil]
    obtain ⟨z, e, h1, h2⟩ := hp H2 (x1.trans x2)
    exact ⟨z, by rw [e]; exact .v t, h1, h2, fun _ _ => rfl⟩⟩)
end
section
variable {P : Program} {w : World} {K : PySem.W.Frag} {mg : Str → Option Value} {base : Heap}
abbrev EnA := AA × (Int × Int) × List Deed × Deed
abbrev enArgs (a : EnA) : List AV := [.v (.ref a.1.a), .d a.2.2.2.d]
structure EnPre (K : PySem.W.Frag) (a : EnA) (H : Hp) : Prop where
  h : ArchI K H a.1 a.2.1.1 a.2.1.2 a.2.2.1 [] []
  W : WF a.2.2.1
  few : Few a.2.2.1
  len : a.2.2.1.length ≤ 39
  ok : a.2.2.2.ok
theorem c_ask_makers (T : Txt K mg) (gm : GmTxt K) : MetX P w K mg base 13 (He.ga K "Archive") "ask_makers" ["self", "deed"] (SpX K enArgs (fun a H => EnPre K a H ∧ isW "paper" a.2.2.2 = true) (fun a H H' v => Ex H H')) := by
  obtain ⟨fd, F⟩ := T.f_Archive_ask_makers
  obtain ⟨h1, h2⟩ := mkFnX (P := P) (w := w) (mg := mg) (base := base) (as := enArgs) (pre := fun a H => EnPre K a H ∧ isW "paper" a.2.2.2 = true) (R := fun a H H' v => Ex H H') (k := 12) F S_Archive_ask_makers H_Archive_ask_makers (fun _ _ _ _ _ _ us hl => match us, hl with | [_, _], _ => rfl) (fun _ => rfl) (by
    rintro X rfl rfl rfl rfl rfl D Wx tk ⟨A, ⟨first, today⟩, l, x⟩ vs H Q hv ⟨⟨hi, W, few, len, ok⟩, hw⟩ hq hx
    dsimp only [enArgs] at hv hi W few len ok hw hq
    obtain ⟨ws, rfl, hv2⟩ := hv.cv
    obtain ⟨v1, rfl, a1⟩ := hv2.d1
    obtain ⟨dy, n, kk, mm, rfl⟩ := isW_paper hw
    refine ssc (sif (c := false) (ET.to (tin D (dix (dn D 1 a1) di at2) (efld (en D 0) hi.i T.k_Archive T.n_Archive_gone (by kernel_rfl)) hi.ga) rfl) (fun h => nomatch h) fun _ H1 x1 => ss0 ?_)
    have hi1 := hi.ex x1
    refine ssc (asgR D 2 (dmeth0 (R' := fun H2 v => TD X.K H2 v (dd l)) D (c_deeds_now T) T.k_Archive (by decide) (en D 0) hi1.i (by kernel_rfl) fun H2 x2 => ⟨(A, (first, today), l, []), rfl, ⟨hi1.ex x2, by dsimp only; omega⟩, fun v H2 r => r⟩) fun v2 H2 x2 a2 => ?_)
    have y := x1.trans x2
    have hp : n ∈ papersM (l ++ [.paper dy n kk mm]) := mem_papers.mpr ⟨_, List.mem_append_right _ (List.mem_singleton.mpr rfl), word_paper, rfl⟩
    refine ssc (forT (xs := (makersM (l ++ [.paper dy n kk mm]) n).map .str) D (dcall D (c_makers T) (l ++ [.paper dy n kk mm], n) (ead (ED.to (dcat (dn D 2 a2) (dtup (xs := [Deed.d (.paper dy n kk mm)]) (ead (dn D 1 (a1.ex y)) ean)) (by rw [List.length_map]; show l.length + 1 ≤ 60000; omega)) (by show PyData.tuple _ = PyData.tuple _; rw [List.map_append] <;> rfl)) (ead (dix (dn D 1 (a1.ex y)) di at2) ean)) fun _ _ => ⟨hp, by rw [List.length_append]; show l.length + 1 ≤ 40; omega⟩)
      (fun H3 i σ' H' => ∃ w3, σ' = [some (.ref A.a), some v1, some v2, w3] ∧ Ex H2 H' ∧ Ex H3 H') (fun H3 x3 => ⟨none, rfl, x3, Ex.refl _⟩) (fun _ _ _ _ ⟨_, _, _, e⟩ => .ex e) ?_ ?_)
    · rintro H3 i d v σ' H' x3 hix ⟨w3, rfl, x4, x5⟩ tv
      obtain ⟨mk, hmk, rfl⟩ := map_at hix
      obtain rfl := tv.str_iff
      have z := y.trans x4
      have hi4 := hi.ex z
      refine g1 D 3 (ss1 (sifU (EWU.et (torU (c := false) (ET.to (leI (x := dy + 1) (y := dy) (ED.ev (dget2 D (efld (en D 0) hi4.i T.k_Archive T.n_Archive_gone (by kernel_rfl)) (dns D 3) (EV.int (dadd (dix (dn D 1 (a1.ex z)) di at1) di)) hi4.ga) (.int _)) (dix (dn D 1 (a1.ex z)) di at1)) (decide_eq_false (by omega)))
        (tor1U (tvalU (rcall D (c_gone_by_plan T) (by decide) (l, mk, dy) (ead (dn D 2 (a2.ex x4)) (ead (dns D 3) (ead (dix (dn D 1 (a1.ex z)) di at1) ean))) (fun _ _ => ⟨W, few⟩) (hR := fun _ _ _ _ _ r => r))))))
        (fun H5 x5' => ss1 (sraise T gm D (by decide) tk (dns D 3) hx)) fun H5 x5' => ss0 ⟨_, rfl, x4.trans x5', x5.trans x5'⟩))
    · rintro H3 σ' H' x3 ⟨w3, rfl, x4, _⟩
      exact ss0 (hq .non H' (y.trans x4)))
  exact ⟨_, fd, T.mt_Archive_ask_makers, h1, h2⟩
end
end G
namespace G
open PySem PySem.Spec PyProof.Rows L2 Evl
section
variable {P : Program} {w : World} {K : PySem.W.Frag} {mg : Str → Option Value} {base : Heap}
theorem c_enter (T : Txt K mg) (gm : GmTxt K) (Fm : Frm K w) : MetX P w K mg base 14 (He.ga K "Archive") "enter" ["self", "deed"] (SpX K enArgs (fun a H => EnPre K a H ∧ ∀ y ∈ a.2.2.1, quarrelM y a.2.2.2 = false) (fun a H H' v => Mo [a.1.la] H H' ∧ ArchI K H' a.1 a.2.1.1 a.2.1.2 (a.2.2.1 ++ [a.2.2.2]) [] [])) := by
  obtain ⟨fd, F⟩ := T.f_Archive_enter
  obtain ⟨h1, h2⟩ := mkFnX (P := P) (w := w) (mg := mg) (base := base) (as := enArgs) (pre := fun a H => EnPre K a H ∧ ∀ y ∈ a.2.2.1, quarrelM y a.2.2.2 = false) (R := fun a H H' v => Mo [a.1.la] H H' ∧ ArchI K H' a.1 a.2.1.1 a.2.1.2 (a.2.2.1 ++ [a.2.2.2]) [] []) (k := 13) F S_Archive_enter H_Archive_enter (fun _ _ _ _ _ _ us hl => match us, hl with | [_, _], _ => rfl) (fun _ => rfl) (by
    rintro X rfl rfl rfl rfl rfl D Wx tk ⟨A, ⟨first, today⟩, l, x⟩ vs H Q hv ⟨⟨hi, W, few, len, ok⟩, hqr⟩ hq hx
    dsimp only [enArgs] at hv hi W few len ok hqr hq
    obtain ⟨ws, rfl, hv2⟩ := hv.cv
    obtain ⟨v1, rfl, a1⟩ := hv2.d1
    refine ssc (sif (c := false) (tnot (tval (c := true) (dcall D (c_is_deed T Fm) x (ead (dn D 1 a1) ean) fun _ _ => ok))) (fun h => nomatch h) fun _ H1 x1 => ss0 ?_)
    have hi1 := hi.ex x1
    obtain ⟨avs, hla, acts⟩ := hi1.la
    refine ssc (asgR (R := fun H2 v => ∃ q kvs, v = .ref q ∧ H2 q = some (.dK kvs) ∧ KN X.K H2 0 kvs l) D 2 (rcall D (c_known_behind T) (by decide) (A.la, l) (eav (efld (en D 0) hi1.i T.k_Archive T.n_Archive_acts (by kernel_rfl)) (ead (ED.to (dlenV D T.m_len (efld (en D 0) hi1.i T.k_Archive T.n_Archive_acts (by kernel_rfl)) (.inl (.inl hla))) (by rw [acts.length])) ean)) (fun H2 x2 => ⟨by dsimp only; omega, avs, x2 _ _ hla, acts.ex x2⟩) (hR := fun _ _ _ _ _ ⟨q, kvs, e, _, h1, h2⟩ => ⟨q, kvs, e, h1, h2⟩)) fun v H2 x2 r => ?_)
    obtain ⟨q, kvs, rfl, hk, kn⟩ := r
    have y := x1.trans x2
    refine ssc (forL (xs := (List.range' 0 l.length).map fun j : Nat => PyData.int (j : Int)) D (rangeEL (lsortedDI D T.m_sorted (en D 2) hk kn.keys (by rw [List.length_map, List.length_range']; omega)))
      (fun r H3 i σ' H' => (∃ w3, σ' = [some (.ref A.a), some v1, some (.ref q), w3] ∧ Ex H2 H') ∧ Ex H3 H') (fun r H3 hr x3 => ⟨⟨none, rfl, x3⟩, Ex.refl _⟩) (fun _ _ _ _ _ h => .ex h.2) (fun r H3 vs i σ' H' _ _ h1 h => h.2 _ _ h1) ?_ ?_)
    · rintro r H3 i d v σ' H' x3 hix ⟨⟨w3, rfl, x4⟩, x5⟩ tv
      obtain ⟨j, hj, rfl⟩ := map_at hix
      obtain rfl := tv.int_iff
      have hj' : j < l.length := by
        have := List.mem_range'_1.mp (List.mem_of_getElem? hj)
        omega
      obtain ⟨u, g1', g2'⟩ := (kn.tm (.ex x4)).get (List.getElem?_eq_getElem hj')
      rw [Nat.zero_add] at g1'
      refine g1 D 3 (ss1 (sif (c := false) (ET.to (tval (dcall D (c_quarrel T) (l[j], x) (ead (ED.ev (dgetI D (en D 2) (dni D 3) (x4 _ _ hk) g1') g2') (ead (dn D 1 (a1.ex (y.trans x4))) ean)) fun _ _ => ⟨W.ok _ (List.getElem_mem hj'), ok⟩)) (hqr _ (List.getElem_mem hj'))) (fun h => nomatch h) fun _ H5 x5' => ss0 ⟨⟨_, rfl, x4.trans x5'⟩, x5.trans x5'⟩))
    · rintro r H3 σ' H' x3 ⟨⟨w3, rfl, x4⟩, _⟩
      have z := y.trans x4
      have hi4 := hi.ex z
      refine ssc (sifM (fun σ' H5 => σ' = [some (.ref A.a), some v1, some (.ref q), w3] ∧ Ex H H5) (eqS (dix (dn D 1 (a1.ex z)) di at0) ds) (fun hw H5 x5 => ?_) (fun hw H5 x5 => ss0 ⟨rfl, z.trans x5⟩) ?_)
      · have hi5 := hi4.ex x5
        have hw : isW "paper" x = true := hw
        exact ss1 (exprW (gmethX D tk hx (c_ask_makers T gm) T.k_Archive (by decide) (en D 0) hi5.i (by kernel_rfl) (ead (dn D 1 (a1.ex (z.trans x5))) ean) fun H6 x6 => ⟨(A, (first, today), l, x), rfl, ⟨⟨hi5.ex x6, W, few, len, ok⟩, hw⟩, fun v H7 r7 => ⟨rfl, ((z.trans x5).trans x6).trans r7⟩⟩))
      · rintro σ' H5 ⟨rfl, x5⟩
        have hi5 := hi.ex x5
        obtain ⟨avs5, hla5, acts5⟩ := hi5.la
        have alen5 := acts5.length
        refine ssc (sappR (R := fun H2 v => ActI X.K H2 v x ∧ Ex H5 H2) (efld (en D 0) hi5.i T.k_Archive T.n_Archive_acts (by kernel_rfl)) hla5 (by omega)
          (dmake D (c_Act_init T) (by decide) (ead (ED.ev (efld (en D 0) hi5.i T.k_Archive T.n_Archive_today (by kernel_rfl)) (.int today)) (ead (dn D 1 (a1.ex x5)) (ead dnon ean))) fun H6 c dx x6 hc0 hdx hne => ⟨((c, dx), today, x), rfl, upd_same, fun v H7 ⟨r1, r2, r3⟩ => ?_⟩) fun v H6 x6 ⟨g1', _⟩ => ?_)
        · have xx : Ex H6 H7 := fun b o e => r2.keep b o (not_mem1 hc0 e) (by
            rw [upd_ne (ne_of_none e hc0), upd_ne (ne_of_none e hdx)]
            exact e)
          exact ⟨r1, xx, r3, x6.trans xx⟩
        · have hi6 := hi5.ex x6
          have hl6 := x6 _ _ hla5
          have NM : Mo [A.la] H6 (upd H6 A.la (.lst (avs5 ++ [v]))) := (Mo.refl [A.la] H6).put hl6 nt_lst (List.mem_singleton.mpr rfl)
          have MM : Mo [A.la] H (upd H6 A.la (.lst (avs5 ++ [v]))) := (Mo.ex (x5.trans x6)).trans NM
          have nd : ∀ c ∈ [A.la], ∀ dx fs, H6 c ≠ some (.ins (He.ga X.K "Act") dx fs) := fun c hc dx fs zz => by
            rw [List.mem_singleton.mp hc, hl6] at zz
            cases zz
          have nk : ∀ c o, H6 c = some o → (∀ xs, o ≠ .lst xs) → upd H6 A.la (.lst (avs5 ++ [v])) c = some o := fun c o e n => NM.keep c o (fun zz => by
            rw [List.mem_singleton.mp zz, hl6] at e
            exact n _ (Option.some.inj e).symm) e
          have acts6 : ActsI X.K (upd H6 A.la (.lst (avs5 ++ [v]))) (avs5 ++ [v]) (l ++ [x]) := ((acts5.ex x6).mo NM nd).app (.cons (g1'.mo NM nd) .nil)
          obtain ⟨gv, hgg, gi⟩ := hi6.gg
          cases gi
          have hi7 : ArchI X.K (upd H6 A.la (.lst (avs5 ++ [v]))) A first today (l ++ [x]) [] [] := ⟨nk _ _ hi6.i (fun _ z => nomatch z), ⟨_, upd_same, acts6⟩, nk _ _ hi6.ga (fun _ z => nomatch z), nk _ _ hi6.ua (fun _ z => nomatch z), ⟨[], by rw [upd_ne (Ne.symm hi6.ne.2)]; exact hgg, .nil⟩, hi6.ne⟩
          refine ss1 (retD (dsub (ED.to (dlenV D T.m_len (efld (en D 0) hi7.i T.k_Archive T.n_Archive_acts (by kernel_rfl)) (.inl (.inl upd_same))) rfl) di) fun u H8 x8 _ => hq u H8 ⟨MM.then x8, hi7.ex x8⟩))
  exact ⟨_, fd, T.mt_Archive_enter, h1, h2⟩
end
end G
namespace G
open PySem PySem.Spec PyProof.Rows L2 Evl
section
variable {α : Type} {as : α → List AV} {pre : α → Hp → Prop} {R : α → Hp → Hp → V → Prop}
/-- a def by its body, its frame in view (for try) -/
theorem mkCalT {P : Program} {w : World} {K : PySem.W.Frag} {mg : Str → Option Value} {base : Heap} {x qual : Str} {st : Stmt} {f : Addr} {fd : FuncData} {N ps : List Str} {sc : Scope} {k : Nat}
    (F : FunD K x qual (defArgs st) (defBody st) (defScope st) [] [] f fd) (hm : mg x = some (.ref f)) (S : FnScope N ps sc) (hsc : defScope st = sc)
    (hb : ∀ (kV doc pm : Value) (an : Option Addr) (cdv ct : Value) (us : List Value), us.length = ps.length → bindArgs (PySem.W.fnOf x qual (defArgs st) (defBody st) (defScope st) .none kV doc pm an cdv ct) ⟨us, []⟩ = pure (ps.zip us)) (len : ∀ a, (as a).length = ps.length)
    (body : ∀ X : Cx, X.prog = P → X.w = w → X.K = K → X.mg = mg → X.base = base → DC X N sc k → X.stack = X.env :: X.outer → X.env.frame = some X.env.locals → ∀ a vs H Q, AVs K H vs (as a) → pre a H → (∀ v H', R a H H' v → Q v H') → wSs X (defBody st) { nx := fun _ H' => Q .non H', rt := Q } (start N vs) H) :
    Cal P w K mg base (k + 1) x ps (SpG K as pre R) := by
  refine ⟨f, fd, hm, F.kp, ?_, F.bindsN hb⟩
  have S' : FnScope N ps (defScope st) := hsc ▸ S
  refine F.ok S' (fun vs H Q E h => ?_) fun cdv A outer s H vs Q E hr h => ?_
  · obtain ⟨a, t, _⟩ := h
    rw [t.length, len a]
  · obtain ⟨a, t, hp, hq⟩ := h
    have D := DC.of (P := P) (w := w) (K := K) (mg := mg) (base := base) (outer := outer) (H := H) (E := E) (CX := CX0) S' hr
    exact ⟨_, PSs.nox (wss _), body _ rfl rfl rfl rfl rfl (hsc ▸ D) rfl rfl a vs H Q t hp hq⟩
end
section
variable {X : Cx} {N : List Str} {sc : Scope} {k : Nat} {σ : L2.St} {H : Hp} {pos pos' np : Pos} {Dn : Ends} {body suite : List Stmt} {b₀ : Stmt} {x : Str} {c : Value}
theorem DC.tr (D : DC X N sc k) (pn : List (Addr × Obj)) (xe : Value → Shared → Prop) (po : PassesOwn (model X.prog X.w) X.A X.env xe) : DC (X.tr pn xe) N sc k := ⟨D.hN, D.nd, D.keep, D.free, D.fn, D.calm, D.hr, po⟩
theorem takes00 {X : Cx} : Takes X (fun _ _ _ _ => False) := fun _ _ x => by
  obtain ⟨_, _, _, _, _, _, _, _, _, _, _, _, _, _, _, _, z⟩ := x
  exact z.elim
/-- try: body, except x: suite -/
theorem stry (hs : X.stack = X.env :: X.outer) (hf : X.env.frame = some X.env.locals) (hc : Names X x c) (tk : Takes X fun _ _ _ _ => False)
    (q : ∀ (W : WX) (pn : List (Addr × Obj)) (xe : Value → Shared → Prop), Takes (X.tr pn xe) W → PassesOwn (model X.prog X.w) X.A X.env xe → (∀ cls d σ' H', (∃ b, PySem.W.exmOne X.K cls c = some b ∧ b = true) → (∀ a oe pn', wSs (X.suite a ((a, oe) :: pn')) (b₀ :: suite) Dn σ' H') → W cls d σ' H') → wSs (X.tr pn xe) body Dn σ H) :
    wS X (.Try body [.ExceptHandler (some (.Name x np)) none (b₀ :: suite) pos'] [] [] pos) Dn σ H := by
  refine ps_le (ps_try_only (tb := fun W D σ H => ∀ pn xe, Takes (X.tr pn xe) W → PassesOwn (model X.prog X.w) X.A X.env xe → wSs (X.tr pn xe) body D σ H) (ts := fun a cls d D σ H => ∀ oe pn, wSs (X.suite a ((a, oe) :: pn)) (b₀ :: suite) D σ H) hs hf hc tk
    (fun W pn xe tk po => ⟨fun pins s σ H D I h => (h pn xe tk po).run pins s I⟩) fun a oe cls d pn hz hfv => ⟨fun pins s σ H D I h => (h oe pn).run pins s I⟩) ?_
  intro pn xe tk' po
  refine q _ pn xe tk' po fun cls d σ' H' hb hsu => ?_
  obtain ⟨b, e, rfl⟩ := hb
  exact ⟨true, e, fun _ a _ oe pn => hsu a oe pn, fun h => nomatch h⟩
end
section
variable {P : Program} {w : World} {K : PySem.W.Frag} {mg : Str → Option Value} {base : Heap}
theorem c_entered (T : Txt K mg) (gm : GmTxt K) (Fm : Frm K w) : Cal P w K mg base 15 "_law_entered" ["_law_archive", "_law_deeds_here"] (SpG K (fun a : AA × (Int × Int) × List Deed => [.v (.ref a.1.a), .d (dd a.2.2)])
    (fun a H => ArchI K H a.1 a.2.1.1 a.2.1.2 [] [] [] ∧ WF a.2.2 ∧ ∀ i, Few (a.2.2.take i)) (fun a H H' v => v = .bl false ∨ (v = .bl true ∧ Mo [a.1.la] H H' ∧ ArchI K H' a.1 a.2.1.1 a.2.1.2 a.2.2 [] []))) := by
  obtain ⟨fd, F⟩ := T.f__law_entered
  refine mkCalT F T.g__law_entered S__law_entered H__law_entered (fun _ _ _ _ _ _ us hl => match us, hl with | [_, _], _ => rfl) (fun _ => rfl) ?_
  rintro X rfl rfl rfl rfl rfl D hst hfr ⟨A, ⟨first, today⟩, l⟩ vs H Q hv ⟨hi, W, few⟩ hq
  dsimp only at hv hi W few hq
  obtain ⟨ws, rfl, hv2⟩ := hv.cv
  obtain ⟨v1, rfl, a1⟩ := hv2.d1
  have l40 := W.len
  refine ssc (stry (c := .ref (gmA X.K)) hst hfr ⟨D.gl (by decide +kernel), by decide +kernel, .inl T.g_GoneMaker⟩ takes00 fun Wx pn xe tk po hx => ?_)
  have D' := D.tr pn xe po
  have hx' : ∀ d σ' H', Wx (.ref (gmA X.K)) d σ' H' := fun d σ' H' => hx _ d σ' H' ⟨true, gm.em, rfl⟩ fun a oe pn' => ss1 (retD db fun v H2 _ r => hq v H2 (.inl r.bl_iff))
  refine ss1 (forT (xs := l.map Deed.d) D' (dn D' 1 a1) (fun H1 i σ' H' => (∃ w2, σ' = [some (.ref A.a), some v1, w2] ∧ Mo [A.la] H H' ∧ ArchI X.K H' A first today (l.take i) [] []) ∧ Tm H1 H')
    (fun H1 x1 => ⟨⟨none, rfl, .ex x1, hi.ex x1⟩, Tm.refl _⟩) (fun _ _ _ _ h => h.2) ?_ ?_)
  · rintro H1 i d v σ' H' x1 hix ⟨⟨w2, rfl, M, hA⟩, tm⟩ tv
    obtain ⟨x, hxl, rfl⟩ := map_at hix
    have hil := (List.getElem?_eq_some_iff.mp hxl).1
    have tlen : (l.take i).length ≤ 39 := by rw [List.length_take]; omega
    have hxm := List.mem_of_getElem? hxl
    have wf : WF (l.take i) := ⟨by omega, fun y hy => W.ok y (List.mem_of_mem_take hy), W.apart.sublist (List.take_sublist _ _)⟩
    have hqr : ∀ y ∈ l.take i, quarrelM y x = false := by
      have := W.apart.sublist (List.take_sublist (i + 1) l)
      rw [take_more hxl, List.pairwise_append] at this
      exact fun y hy => this.2.2 y hy x (List.mem_singleton.mpr rfl)
    refine g1 D' 2 (ss1 (exprW (gmethX D' tk hx' (c_enter T gm Fm) T.k_Archive (by decide) (en D' 0) hA.i (by kernel_rfl) (ead (dn D' 2 tv) ean) fun H3 x3 => ⟨(A, (first, today), l.take i, x), rfl, ⟨⟨hA.ex x3, wf, few i, tlen, W.ok x hxm⟩, hqr⟩, fun v H4 r4 => ?_⟩)))
    obtain ⟨m4, h4⟩ := r4
    dsimp only at m4 h4
    refine ⟨⟨_, rfl, (M.then x3).trans m4, ?_⟩, (tm.trans (.ex x3)).trans m4.tm⟩
    rw [take_more hxl]
    exact h4
  · rintro H1 σ' H' x1 ⟨⟨w2, rfl, M, hA⟩, tm⟩
    rw [List.length_map, List.take_length] at hA
    exact ss1 (retD db fun v H2 x2 r => hq v H2 (.inr ⟨r.bl_iff, M.then x2, hA.ex x2⟩))
end
end G
namespace G
open PySem PySem.Spec PyProof.Rows L2 Evl
section
variable {X : Cx} {N : List Str} {sc : Scope} {k : Nat} {e a b : Expr} {σ : L2.St} {H : Hp} {pos p : Pos}
theorem dabs {i : Int} (D : DC X N sc k) (hm : X.mg "abs" = none) (h : ED X e σ H (.int i)) (hg : glB sc "abs" = true := by decide +kernel) (hs : starEach (e :: []) X.env = (false, eval e X.env) :: starEach [] X.env := by rfl) : ED X (.Call (.Name "abs" p) [e] [] pos) σ H (.int (if i < 0 then -i else i)) :=
  dB1 D call_abs hm (by decide +kernel) h (fun H1 v x t Q q => by
    obtain rfl := t.int_iff
    exact ⟨i, rfl, q _ _ (Ex.refl _) (.int _)⟩) hg (by decide +kernel) (by decide +kernel) hs
theorem dpow {i j : Int} (h : CPow i j) (ha : ED X a σ H (.int i)) (hb : ED X b σ H (.int j)) : ED X (.BinOp a .Pow b pos) σ H (.int (i ^ j.toNat)) := dop2 (g := fun i j => i ^ j.toNat) op_pow (fun H => rv_I h) ha hb
/-- [x, y][int(c)] -/
theorem dpick2 {x y : PyData} {c : Bool} {es : Expr} {p1 p2 : Pos} (h1 : EL X es σ H [x, y]) (h2 : ED X b σ H (.int (if c then 1 else 0))) (hs : PlainIx b := by exact fun _ _ => rfl) : ED X (.Subscript es b pos) σ H (if c then y else x) := lix h1 h2 (by
  cases c
  · exact at0
  · exact at1) hs
end
def IsNs (n : Nat) (ns : List Int) : Prop := ns.length = n ∧ ∀ i ∈ ns, 0 ≤ i ∧ i < 1999999913
def cellM (ns : List Int) (k : Int) : Int := if k < (ns.length : Int) then ns.getD k.toNat 0 else (ns.take 3).foldl (fun st z => (st * 48271 + z) % 2147483647) (69621 * (k * k + 11 * k + 7) % 2147483647)
def stepN (s : Int × Int × List Int) (i : Nat) : Int × Int × List Int :=
  ((s.1 * (s.1 % 64921 + 39119) + 11 * (i : Int) + 3) % 1999999913, s.2.1 / 1000000, s.2.2 ++ [if decide (0 < s.2.1) = true then s.2.1 % 1000000 else (s.1 * (s.1 % 64921 + 39119) + 11 * (i : Int) + 3) % 1999999913])
def digitsM (c : Int) : Int := if (decide (c < 0) || decide ((10 : Int) ^ (18 : Int).toNat ≤ c)) = true then (if c < 0 then -c else c) else 0
def beginN (c : Int) : Int × Int × List Int := ((c % 1999999913 + 41) * 674506081 % 1999999913, digitsM c, [])
def numbersM (c : Int) (n : Nat) : List Int := ((List.range n).foldl stepN (beginN c)).2.2
theorem range_snoc (n : Nat) : List.range (n + 1) = List.range n ++ [n] := List.range_succ
theorem digits_nn (c : Int) : 0 ≤ digitsM c := by
  unfold digitsM
  split
  · split <;> omega
  · omega
theorem stepN_ok (c : Int) : ∀ n : Nat, (0 ≤ ((List.range n).foldl stepN (beginN c)).1 ∧ ((List.range n).foldl stepN (beginN c)).1 < 1999999913) ∧ 0 ≤ ((List.range n).foldl stepN (beginN c)).2.1 ∧ IsNs n ((List.range n).foldl stepN (beginN c)).2.2
  | 0 => ⟨⟨Int.emod_nonneg _ (by decide), Int.emod_lt_of_pos _ (by decide)⟩, digits_nn c, rfl, fun _ h => by cases h⟩
  | n + 1 => by
    obtain ⟨⟨a, b⟩, d, e1, e2⟩ := stepN_ok c n
    rw [range_snoc, List.foldl_append]
    show (0 ≤ (stepN ((List.range n).foldl stepN (beginN c)) n).1 ∧ (stepN ((List.range n).foldl stepN (beginN c)) n).1 < 1999999913) ∧ 0 ≤ (stepN ((List.range n).foldl stepN (beginN c)) n).2.1 ∧ IsNs (n + 1) (stepN ((List.range n).foldl stepN (beginN c)) n).2.2
    generalize (List.range n).foldl stepN (beginN c) = s at a b d e1 e2
    have n0 := Int.emod_nonneg (s.1 * (s.1 % 64921 + 39119) + 11 * (n : Int) + 3) (b := 1999999913) (by decide)
    have n1 := Int.emod_lt_of_pos (s.1 * (s.1 % 64921 + 39119) + 11 * (n : Int) + 3) (b := 1999999913) (by decide)
    have g0 := Int.emod_nonneg s.2.1 (b := 1000000) (by decide)
    have g1 := Int.emod_lt_of_pos s.2.1 (b := 1000000) (by decide)
    unfold stepN
    refine ⟨⟨n0, n1⟩, Int.ediv_nonneg d (by decide), by rw [List.length_append, e1] <;> rfl, fun z hz => ?_⟩
    rcases List.mem_append.mp hz with hz | hz
    · exact e2 z hz
    · rw [List.mem_singleton.mp hz]
      split <;> omega
theorem numbers_ok (c : Int) (n : Nat) : IsNs n (numbersM c n) := (stepN_ok c n).2.2
section
variable {P : Program} {w : World} {K : PySem.W.Frag} {mg : Str → Option Value} {base : Heap}
theorem c_cell (T : Txt K mg) : Cal P w K mg base 1 "_law_cell" ["_law_script", "_law_k"] (SpD K (fun a : Addr × List Int × Int => [.v (.ref a.1), .d (.int a.2.2)]) (fun a H => SqL K H a.1 (a.2.1.map .int) ∧ 0 ≤ a.2.2 ∧ a.2.2 ≤ 1000 ∧ a.2.1.length ≤ 63) (fun a => .int (cellM a.2.1 a.2.2))) := by
  obtain ⟨fd, F⟩ := T.f__law_cell
  refine mkCal F T.g__law_cell S__law_cell H__law_cell (fun _ _ _ _ _ _ us hl => match us, hl with | [_, _], _ => rfl) (fun _ => rfl) ?_
  rintro X rfl rfl rfl rfl rfl D ⟨sa, ns, k⟩ vs H Q hv ⟨hs, k0, k1, hl⟩ hq
  dsimp only at hv hs k0 k1 hl hq
  obtain ⟨ws, rfl, hv2⟩ := hv.cv
  obtain ⟨v1, rfl, a1⟩ := hv2.d1
  obtain rfl := a1.int_iff
  refine ssc (sif (ltI (dni D 1) (ED.to (dlenV D T.m_len (en D 0) hs) (by rw [List.length_map]))) (fun hb H1 x1 => ?_) fun hb H1 x1 => ss0 ?_)
  · have hb : k < (ns.length : Int) := of_decide_eq_true hb
    obtain ⟨j, rfl⟩ : ∃ j : Nat, k = (j : Int) := ⟨k.toNat, by omega⟩
    have hj : j < ns.length := by omega
    refine ss1 (retD (dixV (d := .int ns[j]) (en D 0) (ex_l x1 hs) (TDs.of_ints ns) (dni D 1) (atI_nat (map_get (List.getElem?_eq_getElem hj)))) fun v H2 x2 r => hq v H2 (x1.trans x2) ?_)
    unfold cellM
    rw [if_pos hb, show ns.getD (j : Int).toNat 0 = ns[j] by simp [List.getD, List.getElem?_eq_getElem hj]]
    exact r
  · have hb : ¬ k < (ns.length : Int) := of_decide_eq_false hb
    refine ssc (asgD D 2 (dmod (by decide) (dmul (.inl ⟨by decide, by decide⟩) di (dadd (dadd (dmul (i := k) (.inl ⟨by omega, by omega⟩) (dni D 1) (dni D 1)) (dmul (.inl ⟨by decide, by decide⟩) di (dni D 1))) di)) di) fun u H2 x2 tu => ?_)
    obtain rfl := tu.int_iff
    have ec : cutD (ns.map PyData.int) none (some 3) = (ns.take 3).map .int := (cut_take _ 3).trans List.map_take.symm
    have b0 : ∀ i, 0 ≤ ((ns.take 3).take i).foldl (fun st z => (st * 48271 + z) % 2147483647) (69621 * (k * k + 11 * k + 7) % 2147483647) ∧ ((ns.take 3).take i).foldl (fun st z => (st * 48271 + z) % 2147483647) (69621 * (k * k + 11 * k + 7) % 2147483647) < 2147483647 := fun i => by
      rcases List.eq_nil_or_concat ((ns.take 3).take i) with h | ⟨l, z, h⟩
      · rw [h]
        exact ⟨Int.emod_nonneg _ (by decide), Int.emod_lt_of_pos _ (by decide)⟩
      · rw [h, List.concat_eq_append, List.foldl_append]
        exact ⟨Int.emod_nonneg _ (by decide), Int.emod_lt_of_pos _ (by decide)⟩
    refine ssc (forL (xs := (ns.take 3).map .int) D (ec ▸ lsliceV (en D 0) (ex_l (x1.trans x2) hs) (TDs.of_ints ns) on (os di)) (fun p H3 i σ' H' => (∃ w, σ' = [some (.ref sa), some (.int k), some (.int (((ns.take 3).take i).foldl (fun st z => (st * 48271 + z) % 2147483647) (69621 * (k * k + 11 * k + 7) % 2147483647))), w] ∧ Ex H2 H') ∧ Ex H3 H') (fun p H3 hp x3 => ⟨⟨none, rfl, x3⟩, Ex.refl _⟩) (fun _ _ _ _ _ h => .ex h.2) (fun p H3 vs i σ' H' _ _ h1 h => h.2 _ _ h1) ?_ ?_)
    · rintro p H3 i d v σ' H' x3 hi ⟨⟨w3, rfl, x4⟩, x5⟩ tv
      obtain ⟨z, hz, rfl⟩ := map_at hi
      obtain ⟨s0, s1⟩ := b0 i
      rw [take_more hz, List.foldl_append]
      generalize ((ns.take 3).take i).foldl (fun st z => (st * 48271 + z) % 2147483647) (69621 * (k * k + 11 * k + 7) % 2147483647) = st at s0 s1
      refine g1 D 3 (ss1 (asgD D 2 (dmod (by decide) (dadd (dmul (i := st) (.inl ⟨by omega, by omega⟩) (dni D 2) di) (dn D 3 tv)) di) fun u2 H4 x6 t6 => ?_))
      obtain rfl := t6.int_iff
      exact ⟨⟨_, rfl, x4.trans x6⟩, x5.trans x6⟩
    · rintro p H3 σ' H' x3 ⟨⟨w3, rfl, x4⟩, x5⟩
      rw [List.length_map, List.take_length]
      refine ss1 (retD (dni D 2) fun v H4 x6 r => hq v H4 (((x1.trans x2).trans x4).trans x6) ?_)
      unfold cellM
      rw [if_neg hb]
      exact r
theorem c_numbers (T : Txt K mg) : Cal P w K mg base 1 "_law_numbers" ["_law_cell_here", "_law_many"] (SpL K (fun a : Int × Nat => [.d (.int a.1), .d (.int a.2)]) (fun a _ => a.2 ≤ 20) (fun a => (numbersM a.1 a.2).map .int)) := by
  obtain ⟨fd, F⟩ := T.f__law_numbers
  refine mkCal F T.g__law_numbers S__law_numbers H__law_numbers (fun _ _ _ _ _ _ us hl => match us, hl with | [_, _], _ => rfl) (fun _ => rfl) ?_
  rintro X rfl rfl rfl rfl rfl D ⟨c, n⟩ vs H Q hv hn hq
  dsimp only at hv hn hq
  obtain ⟨v1, v2, rfl, a1, a2⟩ := hv.d2
  obtain rfl := a1.int_iff
  obtain rfl := a2.int_iff
  refine ssc (asg0 D 2 fun q hq0 => ?_)
  have x0 : Ex H (upd H q (.lst [])) := Ex.new hq0
  have c1 := Int.emod_nonneg c (b := 1999999913) (by decide)
  have c2 := Int.emod_lt_of_pos c (b := 1999999913) (by decide)
  refine ssc (asgD D 3 (dmod (by decide) (dmul (.inl ⟨by omega, by omega⟩) (dadd (dmod (i := c) (j := 1999999913) (by decide) (dni D 0) di) di) di) di) fun u1 H1 x1 t1' => ?_)
  obtain rfl := t1'.int_iff
  refine ssc (asgD D 4 di fun u2 H2 x2 t2' => ?_)
  obtain rfl := t2'.int_iff
  have hq2 := (x1.trans x2) _ _ (upd_same (H := H) (a := q) (o := .lst []))
  refine ssc (sifM (fun σ' H' => σ' = [some (.int c), some (.int (n : Int)), some (.ref q), some (.int (beginN c).1), some (.int (digitsM c)), none] ∧ Ex H H' ∧ H' q = some (.lst [])) (EW.et (torc (ltI (dni D 0) di) fun _ => tor1 (geI (dni D 0) (dpow (by constructor <;> decide) di di)))) (fun hb H3 x3 => ?_) (fun hb H3 x3 => ss0 ⟨?_, ((x0.trans x1).trans x2).trans x3, x3 _ _ hq2⟩) ?_)
  · refine ss1 (asgD D 4 (dabs D T.m_abs (dni D 0)) fun u3 H4 x4 t4 => ?_)
    obtain rfl := t4.int_iff
    refine ⟨?_, (((x0.trans x1).trans x2).trans x3).trans x4, (x3.trans x4) _ _ hq2⟩
    unfold digitsM
    rw [if_pos hb] <;> rfl
  · unfold digitsM
    rw [if_neg (by rw [hb]; decide)] <;> rfl
  · rintro σ' H3 ⟨rfl, x3, hq3⟩
    refine ssc (forR1 (n := (n : Int)) D T.m_range (dni D 1) (by omega) (fun i σ' H' => ∃ w : Option V, σ' = [some (.int c), some (.int (n : Int)), some (.ref q), some (.int ((List.range i).foldl stepN (beginN c)).1), some (.int ((List.range i).foldl stepN (beginN c)).2.1), w] ∧ Ex H H' ∧ H' q = some (.lst (((List.range i).foldl stepN (beginN c)).2.2.map .int)))
      (fun H4 x4 => ⟨none, rfl, x3.trans x4, x4 _ _ hq3⟩) (fun i σ' H' hi h => ?_) fun σ' H' h => ?_)
    · obtain ⟨w5, rfl, xH, hk⟩ := h
      obtain ⟨⟨b0, b1⟩, d0, hl, _⟩ := stepN_ok c i
      rw [range_snoc, List.foldl_append]
      show wG X _ _ _ _ _
      generalize (List.range i).foldl stepN (beginN c) = s at b0 b1 d0 hl hk
      obtain ⟨st, dg, ns⟩ := s
      dsimp only at b0 b1 d0 hl hk
      have m0 := Int.emod_nonneg st (b := 64921) (by decide)
      refine g1 D 5 (ssc (asgD D 3 (dmod (by decide) (dadd (dadd (dmul (i := st) (.inl ⟨by omega, by omega⟩) (dni D 3) (dadd (dmod (i := st) (j := 64921) (by decide) (dni D 3) di) di)) (dmul (.inl ⟨by decide, by decide⟩) di (dni D 5))) di) di) fun u4 H4 x4 t4 => ?_))
      obtain rfl := t4.int_iff
      refine ssc (sapp (d := .int (if decide (0 < dg) = true then dg % 1000000 else (st * (st % 64921 + 39119) + 11 * (i : Int) + 3) % 1999999913)) (en D 2) (x4 _ _ hk) (by rw [List.length_map]; omega) (ED.to (dpick2 (c := decide (0 < dg)) (p1 := ⟨0,0,0,0⟩) (p2 := ⟨0,0,0,0⟩) (llst (xs := [.int ((st * (st % 64921 + 39119) + 11 * (i : Int) + 3) % 1999999913), .int (dg % 1000000)]) (ead (dni D 3) (ead (dmod (by decide) (dni D 4) di) ean))) (dint D T.m_int (gtIv (dni D 4) di))) (by split <;> rfl)) fun v5 H5 x5 t5 => ?_)
      obtain rfl := t5.int_iff
      refine ss1 (asgD D 4 (ddiv (by constructor <;> decide) (dni D 4) di) fun u6 H6 x6 t6 => ?_)
      obtain rfl := t6.int_iff
      refine ⟨_, rfl, (Ex.mut ((xH.trans x4).trans x5) hq0).trans x6, ?_⟩
      have := x6 _ _ (upd_same (H := H5) (a := q))
      rw [this]
      simp [stepN]
    · obtain ⟨w5, rfl, xH, hk⟩ := h
      exact ss1 (retV (en D 2) fun H7 x7 => hq _ H7 (xH.trans x7) ⟨q, _, rfl, hq0, x7 _ _ hk, TDs.of_ints _⟩)
end
end G
namespace G
open PySem PySem.Spec PyProof.Rows L2 Evl
theorem atNs {ns : List Int} {j : Nat} (h : j < ns.length) : atI (ns.map PyData.int) (j : Int) = some (.int (ns.getD j 0)) := by
  refine atI_nat ?_
  rw [map_get (List.getElem?_eq_getElem h)]
  simp [List.getD, List.getElem?_eq_getElem h]
def farM (ns : List Int) (k : Int) : Bool := decide ((numbersM (cellM ns k) 4).getD 3 0 % 2 = 1)
def firstM (y : Int) : Int := (y - 2000) * 365 + (y - 2000 + 3) / 4 - (y - 2000 + 99) / 100 + (y - 2000 + 399) / 400
def leapM (y : Int) : Bool := decide (y % 400 = 0) || (decide (y % 4 = 0) && decide (0 < y % 100))
def lengthsL (y : Int) : List Int := [31, 28 + (if leapM y then 1 else 0), 31, 30, 31, 30, 31, 31, 30, 31, 30, 31]
def lawDayM (x : Int) (far : Bool) : Int := if far = false then x % 41 else if x / 3 % 2 = 0 then x / 6 % 100000 else
  (if firstM (2000 + x / 6 % 3280 / 12) + ((lengthsL (2000 + x / 6 % 3280 / 12)).take (x / 6 % 3280 % 12).toNat).sum - 2 + x % 3 > 0 then firstM (2000 + x / 6 % 3280 / 12) + ((lengthsL (2000 + x / 6 % 3280 / 12)).take (x / 6 % 3280 % 12).toNat).sum - 2 + x % 3 else 0)
theorem take_sum (b : Bool) : ∀ j : Nat, j < 12 → 0 ≤ ((([31, 28 + (if b then 1 else 0), 31, 30, 31, 30, 31, 31, 30, 31, 30, 31] : List Int)).take j).sum ∧ ((([31, 28 + (if b then 1 else 0), 31, 30, 31, 30, 31, 31, 30, 31, 30, 31] : List Int)).take j).sum ≤ 31 * (j : Int) := by
  cases b <;> decide
theorem lawDay_ok {x : Int} (h : 0 ≤ x) (far : Bool) : 0 ≤ lawDayM x far ∧ lawDayM x far ≤ 99999 := by
  unfold lawDayM
  split
  · omega
  · split
    · omega
    · have hm0 : 0 ≤ x / 6 % 3280 := by omega
      have hm1 : x / 6 % 3280 < 3280 := by omega
      generalize x / 6 % 3280 = m at hm0 hm1
      have hj : (m % 12).toNat < 12 := by omega
      have ts := take_sum (leapM (2000 + m / 12)) (m % 12).toNat hj
      have e : lengthsL (2000 + m / 12) = [31, 28 + (if leapM (2000 + m / 12) then 1 else 0), 31, 30, 31, 30, 31, 31, 30, 31, 30, 31] := rfl
      rw [← e] at ts
      generalize ((lengthsL (2000 + m / 12)).take (m % 12).toNat).sum = s at ts
      unfold firstM
      have hx : 0 ≤ x % 3 ∧ x % 3 < 3 := by omega
      generalize x % 3 = t at hx
      split <;> omega
section
variable {P : Program} {w : World} {K : PySem.W.Frag} {mg : Str → Option Value} {base : Heap}
theorem c_far (T : Txt K mg) : Cal P w K mg base 2 "_law_far" ["_law_script", "_law_at"] (SpD K (fun a : Addr × List Int × Int => [.v (.ref a.1), .d (.int a.2.2)]) (fun a H => SqL K H a.1 (a.2.1.map .int) ∧ 0 ≤ a.2.2 ∧ a.2.2 ≤ 1000 ∧ a.2.1.length ≤ 63) (fun a => .bool (farM a.2.1 a.2.2))) := by
  obtain ⟨fd, F⟩ := T.f__law_far
  refine mkCal F T.g__law_far S__law_far H__law_far (fun _ _ _ _ _ _ us hl => match us, hl with | [_, _], _ => rfl) (fun _ => rfl) ?_
  rintro X rfl rfl rfl rfl rfl D ⟨sa, ns, k⟩ vs H Q hv ⟨hs, k0, k1, hl⟩ hq
  dsimp only at hv hs k0 k1 hl hq
  obtain ⟨ws, rfl, hv2⟩ := hv.cv
  obtain ⟨v1, rfl, a1⟩ := hv2.d1
  have h4 := (numbers_ok (cellM ns k) 4).1
  exact ss1 (retD (eqIv (dmod (by decide) (lix (lcall D (c_numbers T) (cellM ns k, 4) (ead (dcall D (c_cell T) (sa, ns, k) (eav (en D 0) (ead (dn D 1 a1) ean)) fun H1 x1 => ⟨ex_l x1 hs, k0, k1, hl⟩) (ead di ean)) fun _ _ => (by decide : 4 ≤ 20)) di (atNs (j := 3) (by rw [h4]; decide))) di) di) fun v H1 x1 r => hq v H1 x1 r)
theorem c_lfirst (T : Txt K mg) : Cal P w K mg base 1 "_law_first" ["_law_year"] (SpD K (fun y : Int => [.d (.int y)]) (fun _ _ => True) (fun y => .int (firstM y))) := by
  obtain ⟨fd, F⟩ := T.f__law_first
  refine mkCal F T.g__law_first S__law_first H__law_first (fun _ _ _ _ _ _ us hl => match us, hl with | [_], _ => rfl) (fun _ => rfl) ?_
  rintro X rfl rfl rfl rfl rfl D y vs H Q hv _ hq
  dsimp only at hv hq
  obtain ⟨v1, rfl, a1⟩ := hv.d1
  refine ssc (asgD D 1 (dsub (dn D 0 a1) di) fun u H1 x1 tu => ?_)
  obtain rfl := tu.int_iff
  exact ss1 (retD (dadd (dsub (dadd (dmul (.inr ⟨by decide, by decide⟩) (dni D 1) di) (ddiv (by constructor <;> decide) (dadd (dni D 1) di) di)) (ddiv (by constructor <;> decide) (dadd (dni D 1) di) di)) (ddiv (by constructor <;> decide) (dadd (dni D 1) di) di)) fun v H2 x2 r => hq v H2 (x1.trans x2) r)
theorem c_llengths (T : Txt K mg) : Cal P w K mg base 1 "_law_lengths" ["_law_year"] (SpL K (fun y : Int => [.d (.int y)]) (fun _ _ => True) (fun y => (lengthsL y).map .int)) := by
  obtain ⟨fd, F⟩ := T.f__law_lengths
  refine mkCal F T.g__law_lengths S__law_lengths H__law_lengths (fun _ _ _ _ _ _ us hl => match us, hl with | [_], _ => rfl) (fun _ => rfl) ?_
  rintro X rfl rfl rfl rfl rfl D y vs H Q hv _ hq
  dsimp only at hv hq
  obtain ⟨v1, rfl, a1⟩ := hv.d1
  obtain rfl := a1.int_iff
  refine ssc (asgD D 1 (vor (eqIv (dmod (by decide) (dni D 0) di) di) fun _ => vone (vand (eqIv (dmod (by decide) (dni D 0) di) di) fun _ => vone (gtIv (dmod (by decide) (dni D 0) di) di))) fun u H1 x1 tu => ?_)
  exact ss1 (retL (llst (xs := (lengthsL y).map .int) (ead di (ead (dadd di (dint D T.m_int (dn D 1 tu))) (ead di (ead di (ead di (ead di (ead di (ead di (ead di (ead di (ead di (ead di ean))))))))))))) fun v H2 x2 r => hq v H2 (x1.trans x2) (r.old x1))
theorem c_lday (T : Txt K mg) : Cal P w K mg base 2 "_law_day" ["_law_x", "_law_far_here"] (SpD K (fun a : Int × Bool => [.d (.int a.1), .d (.bool a.2)]) (fun _ _ => True) (fun a => .int (lawDayM a.1 a.2))) := by
  obtain ⟨fd, F⟩ := T.f__law_day
  refine mkCal F T.g__law_day S__law_day H__law_day (fun _ _ _ _ _ _ us hl => match us, hl with | [_, _], _ => rfl) (fun _ => rfl) ?_
  rintro X rfl rfl rfl rfl rfl D ⟨x, far⟩ vs H Q hv _ hq
  dsimp only at hv hq
  obtain ⟨v1, v2, rfl, a1, a2⟩ := hv.d2
  obtain rfl := a1.int_iff
  refine ssc (sif (tnot (tval (dn D 1 a2))) (fun hb H1 x1 => ?_) fun hb H1 x1 => ss0 ?_)
  · have hf : far = false := by simpa using hb
    refine ss1 (retD (dmod (by decide) (dni D 0) di) fun v H2 x2 r => hq v H2 (x1.trans x2) ?_)
    unfold lawDayM
    rw [if_pos hf]
    exact r
  · have hf : ¬ far = false := by simpa using hb
    refine ssc (sif (eqI (dmod (by decide) (ddiv (by constructor <;> decide) (dni D 0) di) di) di) (fun hc H2 x2 => ?_) fun hc H2 x2 => ss0 ?_)
    · have hc : x / 3 % 2 = 0 := of_decide_eq_true hc
      refine ss1 (retD (dmod (by decide) (ddiv (by constructor <;> decide) (dni D 0) di) di) fun v H3 x3 r => hq v H3 ((x1.trans x2).trans x3) ?_)
      unfold lawDayM
      rw [if_neg hf, if_pos hc]
      exact r
    · have hc : ¬ x / 3 % 2 = 0 := of_decide_eq_false hc
      refine ssc (asgD D 2 (dmod (by decide) (ddiv (by constructor <;> decide) (dni D 0) di) di) fun u H3 x3 tu => ?_)
      obtain rfl := tu.int_iff
      have hm0 : 0 ≤ x / 6 % 3280 % 12 := by omega
      have ec : cutD ((lengthsL (2000 + x / 6 % 3280 / 12)).map PyData.int) none (some (x / 6 % 3280 % 12)) = ((lengthsL (2000 + x / 6 % 3280 / 12)).take (x / 6 % 3280 % 12).toNat).map .int := by
        have e : x / 6 % 3280 % 12 = (((x / 6 % 3280 % 12).toNat : Nat) : Int) := by omega
        rw [List.map_take, ← cut_take, ← e]
      refine ssc (asgD D 3 (dadd (dcall D (c_lfirst T) (2000 + x / 6 % 3280 / 12) (ead (dadd di (ddiv (by constructor <;> decide) (dni D 2) di)) ean) fun _ _ => trivial) (dsum D T.m_sum (ec ▸ lslice (lcall D (c_llengths T) (2000 + x / 6 % 3280 / 12) (ead (dadd di (ddiv (by constructor <;> decide) (dni D 2) di)) ean) fun _ _ => trivial) on (os (dmod (by decide) (dni D 2) di))))) fun u4 H4 x4 t4 => ?_)
      obtain rfl := t4.int_iff
      refine ss1 (retD (dmax2 D T.m_max di (dadd (dsub (dni D 3) di) (dmod (by decide) (dni D 0) di))) fun v H5 x5 r => hq v H5 ((((x1.trans x2).trans x3).trans x4).trans x5) ?_)
      unfold lawDayM
      rw [if_neg hf, if_neg hc]
      exact r
end
end G
namespace G
open PySem PySem.Spec PyProof.Rows L2 Evl
open PySem.W (EachIs dataLe AllAlike Sortable alike)
def sinceM (x : Int) (ws : List Str) : Since := if x % 3 = 0 then .coming else if x % 3 = 1 then .first (ws.getD (x / 3 % 2).toNat "") else .last (ws.getD (x / 3 % 2).toNat "")
theorem atS {ws : List Str} {i : Int} (h0 : 0 ≤ i) (h : i < (ws.length : Int)) : atI (ws.map PyData.str) i = some (.str (ws.getD i.toNat "")) := by
  obtain ⟨j, rfl⟩ : ∃ j : Nat, i = (j : Int) := ⟨i.toNat, by omega⟩
  have hj : j < ws.length := by omega
  refine atI_nat ?_
  rw [map_get (List.getElem?_eq_getElem hj)]
  simp [List.getD, List.getElem?_eq_getElem hj]
section
variable {P : Program} {w : World} {K : PySem.W.Frag} {mg : Str → Option Value} {base : Heap}
theorem c_lsince (T : Txt K mg) : Cal P w K mg base 1 "_law_since" ["_law_x", "_law_words"] (SpD K (fun a : Addr × Int × List Str => [.d (.int a.2.1), .v (.ref a.1)]) (fun a H => SqL K H a.1 (a.2.2.map .str) ∧ 2 ≤ a.2.2.length) (fun a => (sinceM a.2.1 a.2.2).d)) := by
  obtain ⟨fd, F⟩ := T.f__law_since
  refine mkCal F T.g__law_since S__law_since H__law_since (fun _ _ _ _ _ _ us hl => match us, hl with | [_, _], _ => rfl) (fun _ => rfl) ?_
  rintro X rfl rfl rfl rfl rfl D ⟨wa, x, ws⟩ vs H Q hv ⟨hs, hl⟩ hq
  dsimp only at hv hs hl hq
  obtain ⟨u, ws', rfl, t1', r⟩ := hv.cd
  obtain ⟨ws2, rfl, r2⟩ := r.cv
  obtain rfl := r2.n
  obtain rfl := t1'.int_iff
  have hz : 0 ≤ x / 3 % 2 ∧ x / 3 % 2 < (ws.length : Int) := by omega
  have hat : atI [PyData.tuple [.str "coming"], .tuple [.str "first", .str (ws.getD (x / 3 % 2).toNat "")], .tuple [.str "last", .str (ws.getD (x / 3 % 2).toNat "")]] (x % 3) = some (sinceM x ws).d := by
    have h3 : x % 3 = 0 ∨ x % 3 = 1 ∨ x % 3 = 2 := by omega
    unfold sinceM
    rcases h3 with h | h | h
    · rw [h]
      exact at0
    · rw [h]
      exact at1
    · rw [h]
      exact at2
  exact ss1 (retD (lix (llst (xs := [.tuple [.str "coming"], .tuple [.str "first", .str (ws.getD (x / 3 % 2).toNat "")], .tuple [.str "last", .str (ws.getD (x / 3 % 2).toNat "")]]) (ead (dtup (xs := [.str "coming"]) (ead ds ean)) (ead (dtup (xs := [.str "first", .str (ws.getD (x / 3 % 2).toNat "")]) (ead ds (ead (dixV (en D 1) hs (TDs.of_strs ws) (dmod (by decide) (ddiv (by constructor <;> decide) (dni D 0) di) di) (atS hz.1 hz.2)) ean)))
    (ead (dtup (xs := [.str "last", .str (ws.getD (x / 3 % 2).toNat "")]) (ead ds (ead (dixV (en D 1) hs (TDs.of_strs ws) (dmod (by decide) (ddiv (by constructor <;> decide) (dni D 0) di) di) (atS hz.1 hz.2)) ean))) ean)))) (dmod (by decide) (dni D 0) di) hat) fun v H1 x1 r => hq v H1 x1 r)
theorem c_lorder (T : Txt K mg) : Cal P w K mg base 1 "_law_order" ["_law_deeds_here"] (SpL K (fun l : List Deed => [.d (dd l)]) (fun l _ => l.length ≤ 40) (fun l => (papersM l).map .str)) := by
  obtain ⟨fd, F⟩ := T.f__law_order
  refine mkCal F T.g__law_order S__law_order H__law_order (fun _ _ _ _ _ _ us hl => match us, hl with | [_], _ => rfl) (fun _ => rfl) ?_
  rintro X rfl rfl rfl rfl rfl D l vs H Q hv hp hq
  dsimp only at hv hp hq
  obtain ⟨v1, rfl, a1⟩ := hv.d1
  refine ss1 (retL (ds := (paperDeeds l).map fun x => .str x.name) ?_ fun v H1 x r => hq v H1 x ?_)
  · refine lcL0 pairD (paperDeeds l) (fun x => .str x.name) D [("_law_day_here", 1), ("_law_name", 2)] ?_ (by have := perm_len l; omega) fun H1 x v e1 hx tv => t2 D 1 2 tv fun u w tu tw => ⟨fun b => rfl, fun _ b => dn (D.b b) 2 tw⟩
    refine lsorted D T.m_sorted (bs := l.filter (isW "paper")) (enc := pairD) ?_ (.of alike_pair) (.tuples fun x => ⟨_, _, rfl⟩) fun x _ => depth_pair x
    exact lcT Deed.d l (isW "paper") pairD D [("_law_deed_here", 3)] (dn D 0 a1) (by omega) fun H1 x v e1 hx tv =>
        t1 D 3 (fun b => eqS (dix (dn (D.b b) 3 tv) di at0) ds) (fun _ b => dtup (xs := [.int x.day, .str x.name]) (ead (dix (dn (D.b b) 3 tv) di at1) (ead (dix (dn (D.b b) 3 tv) di at2) ean)))
  · rw [show (papersM l).map PyData.str = (paperDeeds l).map fun x => PyData.str x.name by unfold papersM; rw [List.map_map] <;> rfl]
    exact r
theorem c_lrow (T : Txt K mg) : Cal P w K mg base 1 "_law_row" ["_law_deeds_here", "_law_name"] (SpD K (fun a : List Deed × Str × Deed => [.d (dd a.1), .d (.str a.2.1)]) (fun a _ => rowM a.1 a.2.1 = some a.2.2) (fun a => a.2.2.d)) := by
  obtain ⟨fd, F⟩ := T.f__law_row
  refine mkCal F T.g__law_row S__law_row H__law_row (fun _ _ _ _ _ _ us hl => match us, hl with | [_, _], _ => rfl) (fun _ => rfl) ?_
  rintro X rfl rfl rfl rfl rfl D ⟨l, p, x0⟩ vs H Q hv hp hq
  dsimp only at hv hp hq
  obtain ⟨v1, v2, rfl, t, t2⟩ := hv.d2
  obtain rfl := t2.str_iff
  refine ssc (forT D (dn D 0 t) (fun H1 i σ' H' => ∃ v, σ' = [some v1, some (.str p), v] ∧ Ex H1 H' ∧ ∀ y ∈ l.take i, isP p y = false) (fun H1 e => ⟨none, rfl, Ex.refl _, by simp⟩) (fun H1 i σ' H' ⟨_, _, e, _⟩ => .ex e) ?_ ?_)
  · rintro H1 i d v σ' H' e hi ⟨v3, rfl, e2, hf⟩ tv
    obtain ⟨x, hx, rfl⟩ := map_at hi
    refine g1 D 2 (ss1 (sif (EW.et (tandc (eqS (dix (dn D 2 tv) di at0) ds) fun _ => tand1 (eqS (dix (dn D 2 tv) di at2) (dns D 1)))) (fun h H3 e3 => ?_) fun h H3 e3 => ss0 ?_))
    · have h1 : rowM l p = some x := find_here (f := isP p) hf hx h
      refine ss1 (retD (dn D 2 (tv.ex e3)) fun u H4 e4 tu => hq u H4 ((e.trans e2).trans (e3.trans e4)) ?_)
      have h2 : some x = some x0 := h1.symm.trans hp
      cases h2
      exact tu
    · exact ⟨_, rfl, e2.trans e3, find_take hf hx h⟩
  · rintro H1 σ' H' e ⟨v3, rfl, e2, hf⟩
    have h1 : rowM l p = none := find_no (f := isP p) (by rw [List.length_map] at hf; exact hf)
    rw [show rowM l p = some x0 from hp] at h1
    cases h1
end
end G
namespace G
open PySem PySem.Spec PyProof.Rows L2 Evl
def lawQ (x y : Deed) : Bool := if PyData.eqv x.d y.d = true then true else
  if (decide (x.word ∈ (["rule", "end"] : List Str)) && decide (y.word ∈ (["rule", "end"] : List Str))) = true then PyData.eqv (.tuple [.int x.day, .str x.name]) (.tuple [.int y.day, .str y.name]) else
  if (decide (x.word ∈ (["hold", "lift"] : List Str)) && decide (y.word ∈ (["hold", "lift"] : List Str))) = true then PyData.eqv (.tuple [.int x.day, .str x.name]) (.tuple [.int y.day, .str y.name]) else
  decide (x.word = y.word) && (decide (x.word ∈ (["paper", "leave"] : List Str)) && decide (x.name = y.name))
theorem shp_dn {i : Int} {s : Str} (h : PyData.strOk s = true) : SeqAt.shaped (.tuple [.int i, .str s]) = true := by
  simp [SeqAt.shaped, PyData.canLay0, PyData.canLayAll0, PyData.depth, PyData.depthAll, h]
theorem cut13 {a b c : PyData} {r : List PyData} : cutD (a :: b :: c :: r) (some 1) (some 3) = [b, c] := by
  unfold cutD
  have h1 : HT.sIx (a :: b :: c :: r).length 0 (some 1) = 1 := by
    rw [show (1 : Int) = ((1 : Nat) : Int) from rfl, HT.sIx_nat]
    simp
  have h2 : HT.sIx (a :: b :: c :: r).length (a :: b :: c :: r).length (some 3) = 3 := by
    rw [show (3 : Int) = ((3 : Nat) : Int) from rfl, HT.sIx_nat]
    simp
  rw [h1, h2] <;> rfl
section
variable {P : Program} {w : World} {K : PySem.W.Frag} {mg : Str → Option Value} {base : Heap}
theorem c_lquarrel (T : Txt K mg) : Cal P w K mg base 1 "_law_quarrel" ["_law_one", "_law_other"] (SpD K (fun a : Deed × Deed => [.d a.1.d, .d a.2.d]) (fun a _ => a.1.ok ∧ a.2.ok) (fun a => .bool (lawQ a.1 a.2))) := by
  obtain ⟨fd, F⟩ := T.f__law_quarrel
  refine mkCal F T.g__law_quarrel S__law_quarrel H__law_quarrel (fun _ _ _ _ _ _ us hl => match us, hl with | [_, _], _ => rfl) (fun _ => rfl) ?_
  rintro X rfl rfl rfl rfl rfl D ⟨x, y⟩ vs H Q hv ⟨hx, hy⟩ hq
  dsimp only at hv hx hy hq
  obtain ⟨v1, v2, rfl, a1, a2⟩ := hv.d2
  have nx := strOk_name hx.2.1
  have ny := strOk_name hy.2.1
  refine ssc (sif (eqDt D (dn D 0 a1) (dn D 1 a2) (Deed.shp hx) (Deed.shp hy)) (fun hb H1 x1 => ?_) fun hb H1 x1 => ss0 ?_)
  · refine ss1 (retD db fun v H2 x2 r => hq v H2 (x1.trans x2) ?_)
    unfold lawQ
    rw [if_pos hb]
    exact r
  have nb : ¬ PyData.eqv x.d y.d = true := by rw [hb]; decide
  refine ssc (sif (EW.et (tandc (inT (xs := ["rule", "end"]) (dix (dn D 0 (a1.ex x1)) di at0) (dtup (xs := [.str "rule", .str "end"]) (ead ds (ead ds ean)))) fun _ => tand1 (inT (xs := ["rule", "end"]) (dix (dn D 1 (a2.ex x1)) di at0) (dtup (xs := [.str "rule", .str "end"]) (ead ds (ead ds ean)))))) (fun hw H2 x2 => ?_) fun hw H2 x2 => ss0 ?_)
  · refine ss1 (retD (eqD (d1 := .tuple [.int x.day, .str x.name]) (d2 := .tuple [.int y.day, .str y.name]) D (ED.to (dslice (dn D 0 (a1.ex (x1.trans x2))) (os di) (os di)) (congrArg PyData.tuple cut13)) (ED.to (dslice (dn D 1 (a2.ex (x1.trans x2))) (os di) (os di)) (congrArg PyData.tuple cut13)) (shp_dn nx) (shp_dn ny)) fun v H3 x3 r => hq v H3 ((x1.trans x2).trans x3) ?_)
    unfold lawQ
    rw [if_neg nb, if_pos hw]
    exact r
  have nw : ¬ (decide (x.word ∈ (["rule", "end"] : List Str)) && decide (y.word ∈ (["rule", "end"] : List Str))) = true := by rw [hw]; decide
  have z := x1.trans x2
  refine ssc (sif (EW.et (tandc (inT (xs := ["hold", "lift"]) (dix (dn D 0 (a1.ex z)) di at0) (dtup (xs := [.str "hold", .str "lift"]) (ead ds (ead ds ean)))) fun _ => tand1 (inT (xs := ["hold", "lift"]) (dix (dn D 1 (a2.ex z)) di at0) (dtup (xs := [.str "hold", .str "lift"]) (ead ds (ead ds ean)))))) (fun hw2 H3 x3 => ?_) fun hw2 H3 x3 => ss0 ?_)
  · refine ss1 (retD (eqD (d1 := .tuple [.int x.day, .str x.name]) (d2 := .tuple [.int y.day, .str y.name]) D (ED.to (dslice (dn D 0 (a1.ex (z.trans x3))) (os di) (os di)) (congrArg PyData.tuple cut13)) (ED.to (dslice (dn D 1 (a2.ex (z.trans x3))) (os di) (os di)) (congrArg PyData.tuple cut13)) (shp_dn nx) (shp_dn ny)) fun v H4 x4 r => hq v H4 ((z.trans x3).trans x4) ?_)
    unfold lawQ
    rw [if_neg nb, if_neg nw, if_pos hw2]
    exact r
  have nw2 : ¬ (decide (x.word ∈ (["hold", "lift"] : List Str)) && decide (y.word ∈ (["hold", "lift"] : List Str))) = true := by rw [hw2]; decide
  have z3 := z.trans x3
  refine ss1 (retD (vand (eqSv (dix (dn D 0 (a1.ex z3)) di at0) (dix (dn D 1 (a2.ex z3)) di at0)) fun _ => vand (inTv (xs := ["paper", "leave"]) (dix (dn D 0 (a1.ex z3)) di at0) (dtup (xs := [.str "paper", .str "leave"]) (ead ds (ead ds ean)))) fun _ => vone (eqSv (dix (dn D 0 (a1.ex z3)) di at2) (dix (dn D 1 (a2.ex z3)) di at2))) fun v H4 x4 r => hq v H4 (z3.trans x4) ?_)
  unfold lawQ
  rw [if_neg nb, if_neg nw, if_neg nw2]
  exact r
end
end G
namespace G
open PySem PySem.Spec PyProof.Rows L2 Evl
theorem TDs.rep {K : PySem.W.Frag} {H : Hp} {vs : List V} {ds : List PyData} (t : TDs K H vs ds) : ∀ n : Nat, TDs K H (List.replicate n vs).flatten (List.replicate n ds).flatten
  | 0 => .nil
  | n + 1 => by
    rw [List.replicate_succ, List.replicate_succ, List.flatten_cons, List.flatten_cons]
    exact t.append (TDs.rep t n)
section
variable {X : Cx} {N : List Str} {sc : Scope} {k : Nat} {a b : Expr} {σ : L2.St} {H : Hp} {pos : Pos}
/-- l + m, both new lists -/
theorem lcat {xs ys : List PyData} (ha : EL X a σ H xs) (hb : EL X b σ H ys) (hz : xs.length + ys.length ≤ 60000) : EL X (.BinOp a .Add b pos) σ H (xs ++ ys) := fun H1 x1 Q q =>
  pe_le (pe_op op_cat (we a) (we b)) (ha H1 x1 _ fun u H2 x2 t1 => hb H2 (x1.trans x2) _ fun w H3 x3 t2 => by
    obtain ⟨p1, us, rfl, _, h1, r1⟩ := t1
    obtain ⟨p2, ws, rfl, _, h2, r2⟩ := t2
    have l1 := r1.length
    have l2 := r2.length
    exact ⟨p1, p2, us, ws, rfl, rfl, x3 _ _ h1, h2, Nat.le_of_lt (sz_lt (by omega)), fun p hp => q _ _ ((x2.trans x3).trans (Ex.new hp)) ⟨p, _, rfl, fresh_back ((x1.trans x2).trans x3) hp, upd_same, ((r1.ex x3).append r2).ex (Ex.new hp)⟩⟩)
/-- l + m, l a list that stands -/
theorem lcatV {A : Addr} {us : List V} {xs ys : List PyData} (ha : EV X a σ H (.ref A)) (hA : H A = some (.lst us)) (r1 : TDs X.K H us xs) (hb : EL X b σ H ys) (hz : xs.length + ys.length ≤ 60000) : EL X (.BinOp a .Add b pos) σ H (xs ++ ys) := fun H1 x1 Q q =>
  pe_le (pe_op op_cat (we a) (we b)) (ha H1 x1 _ fun H2 x2 => hb H2 (x1.trans x2) _ fun w H3 x3 t2 => by
    obtain ⟨p2, ws, rfl, _, h2, r2⟩ := t2
    have l1 := r1.length
    have l2 := r2.length
    have y := (x1.trans x2).trans x3
    exact ⟨A, p2, us, ws, rfl, rfl, y _ _ hA, h2, Nat.le_of_lt (sz_lt (by omega)), fun p hp => q _ _ ((x2.trans x3).trans (Ex.new hp)) ⟨p, _, rfl, fresh_back y hp, upd_same, ((r1.ex y).append r2).ex (Ex.new hp)⟩⟩)
end
end G
namespace G
open PySem PySem.Spec PyProof.Rows L2 Evl
section
variable {X : Cx} {N : List Str} {sc : Scope} {k : Nat} {a b : Expr} {σ : L2.St} {H : Hp} {pos : Pos}
/-- l * n -/
theorem lrep {xs : List PyData} {n : Int} (ha : EL X a σ H xs) (hb : ED X b σ H (.int n)) (h0 : 0 ≤ n ∧ n ≤ 1000) (hz : xs.length * n.toNat ≤ 60000) : EL X (.BinOp a .Mult b pos) σ H (List.replicate n.toNat xs).flatten := fun H1 x1 Q q =>
  pe_le (pe_op op_rep (we a) (we b)) (ha H1 x1 _ fun u H2 x2 t1 => hb H2 (x1.trans x2) _ fun w H3 x3 t2 => by
    obtain rfl := t2.int_iff
    obtain ⟨p1, us, rfl, _, h1, r1⟩ := t1
    have l1 := r1.length
    exact ⟨p1, n, us, rfl, rfl, x3 _ _ h1, by omega, by omega, by rw [l1]; exact Nat.le_of_lt (sz_lt (by omega)), fun p hp => q _ _ ((x2.trans x3).trans (Ex.new hp)) ⟨p, _, rfl, fresh_back ((x1.trans x2).trans x3) hp, upd_same, ((r1.ex x3).rep n.toNat).ex (Ex.new hp)⟩⟩)
end
def sortsL : List Str := ["paper", "paper", "paper", "paper", "paper", "rule", "rule", "rule", "rule", "rule", "happens", "happens", "happens", "hold", "hold", "end", "lift", "leave", "leave"]
end G
namespace G
open PySem PySem.Spec PyProof.Rows L2 Evl
section
variable {X : Cx} {a b : Expr} {σ : L2.St} {H : Hp} {pos : Pos}
theorem op_smul : OpR X (binaryOp .Mult) (fun x y H Q => ∃ i n, x = .str i ∧ y = .int n ∧ MulOk i n ∧ Q (.str (Txt.mul i n)) H) := by
  intro pins s σ H x y v u Q I rx ry h
  obtain ⟨i, n, rfl, rfl, ok, q⟩ := h
  obtain ⟨t, rfl⟩ := rx
  obtain ⟨t', rfl⟩ := ry
  exact SB.mul ok fun t2 k => ⟨.str _, H, I.tok k, ⟨t2, rfl⟩, q⟩
/-- x * n, a text -/
theorem dsmul {x : Str} {n : Int} (h : MulOk x n) (ha : ED X a σ H (.str x)) (hb : ED X b σ H (.int n)) : ED X (.BinOp a .Mult b pos) σ H (.str (Txt.mul x n)) := fun H1 x1 Q q =>
  pe_le (pe_op op_smul (we a) (we b)) (EV.str ha H1 x1 _ fun H2 x2 => EV.int hb H2 (x1.trans x2) _ fun H3 x3 => ⟨x, n, rfl, rfl, h, q _ H3 (x2.trans x3) (.str _)⟩)
/-- x + y, texts -/
theorem dsadd {x y : Str} (h : x.length + y.length ≤ 1000) (ha : ED X a σ H (.str x)) (hb : ED X b σ H (.str y)) : ED X (.BinOp a .Add b pos) σ H (.str (x ++ y)) := fun H1 x1 Q q =>
  pe_le (pe_op op_add_str (we a) (we b)) (EV.str ha H1 x1 _ fun H2 x2 => EV.str hb H2 (x1.trans x2) _ fun H3 x3 => ⟨x, y, rfl, rfl, Nat.le_trans h (by decide), q _ H3 (x2.trans x3) (.str _)⟩)
end
end G
namespace G
open PySem PySem.Spec
theorem upto8 {n : Int} (h0 : 0 ≤ n) (h8 : n ≤ 8) : n = 0 ∨ n = 1 ∨ n = 2 ∨ n = 3 ∨ n = 4 ∨ n = 5 ∨ n = 6 ∨ n = 7 ∨ n = 8 := by omega
theorem mulok_sign (c : Nat) {n : Int} (h0 : 0 ≤ n) (h8 : n ≤ 8) : MulOk ⟨#[c]⟩ n := by
  rcases upto8 h0 h8 with h | h | h | h | h | h | h | h | h <;> subst h <;> refine ⟨rfl, fun h1 _ => ?_, fun h1 _ => ?_⟩ <;> first
    | exact absurd (by decide) h1
    | (show ¬ ((1 : Int) > _); decide)
    | (show Builtin.tooLong (1 * _) = false; decide)
    | (show ¬ (((1 : Nat) : Int) > _); decide)
    | rfl
theorem mul_sign (c : Nat) {n : Int} (h0 : 0 ≤ n) (h8 : n ≤ 8) : (Txt.mul ⟨#[c]⟩ n).cps.toList = List.replicate n.toNat c := by
  rcases upto8 h0 h8 with h | h | h | h | h | h | h | h | h <;> subst h <;> rfl
end G
namespace G
open PySem PySem.Spec PyProof.Rows L2 Evl
section
variable {P : Program} {w : World} {K : PySem.W.Frag} {mg : Str → Option Value} {base : Heap}
theorem c_lsorts (T : Txt K mg) : Cal P w K mg base 1 "_law_sorts" [] (SpL K (fun _ : Unit => []) (fun _ _ => True) (fun _ => sortsL.map .str)) := by
  obtain ⟨fd, F⟩ := T.f__law_sorts
  refine mkCal F T.g__law_sorts S__law_sorts H__law_sorts (fun _ _ _ _ _ _ us hl => match us, hl with | [], _ => rfl) (fun _ => rfl) ?_
  rintro X rfl rfl rfl rfl rfl D _ vs H Q hv _ hq
  dsimp only at hv hq
  obtain rfl := hv.n
  refine ssc (asgL (ds := (["paper", "paper", "paper", "paper", "paper", "rule", "rule", "rule", "rule", "rule", "happens", "happens", "happens"] : List Str).map .str) D 0 (lcat (xs := (["paper", "paper", "paper", "paper", "paper", "rule", "rule", "rule", "rule", "rule"] : List Str).map .str) (ys := (["happens", "happens", "happens"] : List Str).map .str)
    (lcat (xs := (["paper", "paper", "paper", "paper", "paper"] : List Str).map .str) (ys := (["rule", "rule", "rule", "rule", "rule"] : List Str).map .str) (lrep (xs := [.str "paper"]) (n := 5) (llst (ead ds ean)) di (by decide) (by decide)) (lrep (xs := [.str "rule"]) (n := 5) (llst (ead ds ean)) di (by decide) (by decide)) (by decide))
    (lrep (xs := [.str "happens"]) (n := 3) (llst (ead ds ean)) di (by decide) (by decide)) (by decide)) fun q xs H1 hq0 x1 hqs tx => ?_)
  exact ss1 (retL (lcatV (ys := [.str "hold", .str "hold", .str "end", .str "lift", .str "leave", .str "leave"]) (en D 0) hqs tx (llst (ead ds (ead ds (ead ds (ead ds (ead ds (ead ds ean))))))) (by decide)) fun v H2 x2 r => hq v H2 (x1.trans x2) (r.old x1))
end
end G
namespace G
open PySem PySem.Spec PyProof.Rows L2 Evl
section
variable {X : Cx} {N : List Str} {sc : Scope} {k j : Nat} {σ : L2.St} {H : Hp} {pos p : Pos} {x : Str} {ps : List Str}
/-- f(), a new list -/
theorem lcall0 {res : Unit → List PyData} (D : DC X N sc k) (c : Cal X.prog X.w X.K X.mg X.base j x ps (SpL X.K (fun _ : Unit => []) (fun _ _ => True) res)) (hj : j ≤ k := by decide) (hg : glB sc x = true := by decide +kernel) (hd : (x == ("__debug__" : Str)) = false := by decide +kernel) : EL X (.Call (.Name x p) [] [] pos) σ H (res ()) := by
  obtain ⟨f, fd, hm, hk, F, hb⟩ := c.ex
  intro H1 x1 Q q
  exact pe_le (pe_call0 F (D.hr.mono hj) (D.gl hg) hm hk hb .nil pass0 hd) ⟨(), .nil, trivial, fun v H2 x2 r => q v H2 x2 (r.old x1)⟩
end
end G
/-! Shifts, the last bit; a tuple of four values taken apart. -/
namespace G
open PySem PySem.Spec PyProof.Rows L2 Evl
section
variable {X : Cx} {N : List Str} {sc : Scope} {k : Nat} {a b e tg : Expr} {σ : L2.St} {H : Hp} {pos : Pos} {Dn : Ends}
theorem dshr {i : Int} {j : Nat} (ha : ED X a σ H (.int i)) (hb : ED X b σ H (.int j)) : ED X (.BinOp a .RShift b pos) σ H (.int (i / 2 ^ j)) := dop2 (g := fun i j => i / 2 ^ j.toNat) op_shr (fun H => rv_I (Int.natCast_nonneg j)) ha hb
theorem dbit {i : Int} (ha : ED X a σ H (.int i)) (hb : ED X b σ H (.int 1)) : ED X (.BinOp a .BitAnd b pos) σ H (.int (i % 2)) := dop2 (g := fun i _ => i % 2) op_andM (fun H H1 x Q q => ⟨i, 1, rfl, rfl, q _ (Ex.refl _)⟩) ha hb
/-- x, y, z, u = a tuple of four values -/
theorem g4v {x y z u : Str} {v1 v2 v3 v4 : V} {t : Addr} {Q : L2.St → Hp → Prop} {n : Nat} {p1 p2 p3 p4 : Pos} (D : DC X N sc k) (i j l m : Nat) (s : SqT X.K H t [v1, v2, v3, v4]) (q : Q ((((σ.set i (some v1)).set j (some v2)).set l (some v3)).set m (some v4)) H)
    (hi : N[i]? = some x := by rfl) (hl : locB sc x = true := by decide +kernel) (hj : N[j]? = some y := by rfl) (hm : locB sc y = true := by decide +kernel) (hk : N[l]? = some z := by rfl) (ho : locB sc z = true := by decide +kernel) (hu : N[m]? = some u := by rfl) (hu2 : locB sc u = true := by decide +kernel) : wG X (.Tuple [.Name x p1, .Name y p2, .Name z p3, .Name u p4] n pos) (.ref t) σ H Q := by
  refine pg_le (pg_tup D.calm (pgs_cons (pg_name D.ndX (D.ix hi) (D.loc hl).1 (D.loc hl).2) (pgs_cons (pg_name D.ndX (D.ix hj) (D.loc hm).1 (D.loc hm).2) (pgs_cons (pg_name D.ndX (D.ix hk) (D.loc ho).1 (D.loc ho).2) (pgs_cons (pg_name D.ndX (D.ix hu) (D.loc hu2).1 (D.loc hu2).2) pgs_nil)))) (n := 4)) ?_
  exact ⟨_, _, rfl, s, rfl, _, _, rfl, _, _, rfl, _, _, rfl, _, _, rfl, rfl, q⟩
open PySem.W (AllAlike Sortable dataLe) in
/-- sorted(xs), xs a name -/
theorem lsortedV {β : Type} {enc : β → PyData} {bs : List β} {q : Addr} {vs : List V} {p : Pos} (D : DC X N sc k) (hm : X.mg "sorted" = none) (h : EV X e σ H (.ref q)) (s : SqL X.K H q vs) (t : TDs X.K H vs (bs.map enc)) (hal : AllAlike (bs.map enc)) (hk : Sortable (bs.map enc)) (hd : ∀ b ∈ bs, (enc b).depth ≤ 50) (hg : glB sc "sorted" = true := by decide +kernel)
    (hs : starEach (e :: []) X.env = (false, eval e X.env) :: starEach [] X.env := by rfl) : EL X (.Call (.Name "sorted" p) [e] [] pos) σ H ((bs.mergeSort (dataLe false enc)).map enc) :=
  dB1 (R1 := fun H2 v => v = .ref q ∧ Ex H H2) D (cr_sortedT D.u64 enc) hm (by decide +kernel) (fun H1 x Q qq => h H1 x Q fun H2 y => qq _ H2 y ⟨rfl, x.trans y⟩) (fun H1 v x t' Q qq => by
    obtain ⟨rfl, e⟩ := t'
    exact ⟨q, vs, bs, rfl, ex_l e s, t.ex e, hal, hk, hd, fun ys p' hp' t' => qq _ _ (Ex.new hp') ⟨p', ys, rfl, fresh_back x hp', upd_same, t'.ex (Ex.new hp')⟩⟩) hg (by decide +kernel) (by decide +kernel) hs
end
end G
namespace G
open PySem PySem.Spec PyProof.Rows L2 Evl
section
variable {X : Cx} {N : List Str} {sc : Scope} {k : Nat} {e : Expr} {σ : L2.St} {H : Hp} {pos p p' tpos : Pos} {Dn : Ends} {elts : List Expr} {kk : Nat} {body : List Stmt}
/-- for i, x in enumerate(a new list) -/
theorem forEn {xs : List PyData} (D : DC X N sc k) (hm : X.mg "enumerate" = none) (h : EL X e σ H xs) (W : Addr → Hp → Nat → L2.St → Hp → Prop) (h0 : ∀ p H1, H p = none → Ex H H1 → W p H1 0 σ H1) (hmo : ∀ p H1 i σ' H', W p H1 i σ' H' → Tm H1 H') (hl : ∀ p H1 vs i σ' H', Ex H H1 → H p = none → H1 p = some (.lst vs) → W p H1 i σ' H' → H' p = some (.lst vs))
    (hs : ∀ p H1 i d v σ' H' H'', Ex H H1 → xs[i]? = some d → W p H1 i σ' H' → Ex H' H'' → TD X.K H'' v (.tuple [.int (i : Int), d]) → wG X (.Tuple elts kk tpos) v σ' H'' fun σ2 H2 => wSs X body { Dn with nx := W p H1 (i + 1), ct := W p H1 (i + 1), bk := Dn.nx } σ2 H2) (hd : ∀ p H1 σ' H', Ex H H1 → W p H1 xs.length σ' H' → Dn.nx σ' H')
    (hg : glB sc "enumerate" = true := by decide +kernel) (hs0 : starEach [e] X.env = [(false, eval e X.env)] := by rfl) (hs1 : starEach (e :: []) X.env = (false, eval e X.env) :: starEach [] X.env := by rfl)
    (hf : ∀ x, foldedSetIterable (.Call (.Name "enumerate" p) [e] [] p') X.env x = pure x := by intro _; rfl) : wS X (.For (.Tuple elts kk tpos) (.Call (.Name "enumerate" p) [e] [] p') body [] pos) Dn σ H := by
  refine ps_le (ps_for D.po D.calm (pi_enum (D.gl hg) hm (pa_cons (we e) pa_nil hs1) hs0) (wg _) (wss body) hf) (h H (Ex.refl H) _ fun v H1 x t => ?_)
  obtain ⟨A, vs, rfl, a0, a1, t⟩ := t
  refine ⟨A, vs, rfl, .inl (.inl a1), for_it walk_enum (W A H1) (h0 A H1 a0 x) (fun i σ' H' _ w => .inl (.inl (hl A H1 vs i σ' H' x a0 a1 w))) (fun i u σ' H' H'' hi w y => ?_) fun σ' H' w => hd A H1 σ' H' x (t.length ▸ w)⟩
  obtain ⟨T, x1, y1, rfl, hT, rfl, e1, e2⟩ := y
  cases e1
  obtain ⟨d, e3, e4⟩ := t.get' e2
  exact hs A H1 i d _ σ' H' _ x e3 w (Ex.new hT) (.tup (.inl (.inl upd_same)) (.cons (.int _) (.cons ((e4.tm (hmo _ _ _ _ _ w)).ex (Ex.new hT)) .nil)))
end
end G
/-! sorted of triples (int, int, anything): the first two decide. -/
namespace G
open PySem PySem.Spec PyProof.Rows L2 Evl
open PySem.W (EachIs dataLe alike keyToks dataLt SortsAt sortVals)
section
variable {β : Type} {ki kj : β → Int} {row : β → PyData} {bs : List β}
def enc3 (ki kj : β → Int) (row : β → PyData) (b : β) : PyData := .tuple [.int (ki b), .int (kj b), row b]
def key2 (ki kj : β → Int) (b : β) : PyData := .tuple [.int (ki b), .int (kj b)]
structure Rows3 (ki kj : β → Int) (row : β → PyData) (bs : List β) : Prop where
  al : ∀ b ∈ bs, alike (row b) (row b) = true
  dp : ∀ b ∈ bs, (row b).depth ≤ 40
  un : ∀ b ∈ bs, ∀ c ∈ bs, ki b = ki c → kj b = kj c → row b = row c
theorem reads3 {h : Heap} {v : Value} {b : β} {as : List Addr} (r : Reads h v (enc3 ki kj row b) as) : ∃ a o vs n v1 v2 v3 a1 a2 a3, v = .ref a ∧ h.get? a = some o ∧ o.cls = .type "tuple" ∧ o.data = .seq vs n ∧ vs.toList = [v1, v2, v3] ∧ Reads h v1 (.int (ki b)) a1 ∧ Reads h v2 (.int (kj b)) a2 ∧ Reads h v3 (row b) a3 := by
  unfold enc3 at r
  cases r with
  | @tuple a o vs n _ _ h1 h2 h3 h4 =>
    generalize e : vs.toList = l at h4
    cases h4 with
    | cons r1 h4 =>
      cases h4 with
      | cons r2 h4 =>
        cases h4 with
        | cons r3 h4 =>
          cases h4
          exact ⟨_, _, _, _, _, _, _, _, _, _, rfl, h1, h2, h3, e, r1, r2, r3⟩
theorem reads_int {h : Heap} {v : Value} {i : Int} {as : List Addr} (r : Reads h v (.int i) as) : ∃ t, v = .int i t := by
  cases r
  exact ⟨_, rfl⟩
theorem reads3_un {h : Heap} {v : Value} {b c : β} {as as' : List Addr} (r : Reads h v (enc3 ki kj row b) as) (r' : Reads h v (enc3 ki kj row c) as') : ki b = ki c ∧ kj b = kj c := by
  obtain ⟨a, o, vs, n, v1, v2, v3, a1, a2, a3, rfl, h1, h2, h3, h4, h5, h6, h7⟩ := reads3 r
  obtain ⟨a', o', vs', n', v1', v2', v3', a1', a2', a3', e, k1, k2, k3, k4, k5, k6, k7⟩ := reads3 r'
  cases e
  rw [h1] at k1
  cases k1
  rw [h3] at k3
  cases k3
  rw [h4] at k4
  cases k4
  obtain ⟨t1, e1⟩ := reads_int h5
  obtain ⟨t2, e2⟩ := reads_int k5
  obtain ⟨t3, e3⟩ := reads_int h6
  obtain ⟨t4, e4⟩ := reads_int k6
  rw [e1] at e2
  rw [e3] at e4
  injection e2 with e2 _
  injection e4 with e4 _
  exact ⟨e2, e4⟩
noncomputable def rowKind (h : Heap) (ki kj : β → Int) (row : β → PyData) (bs : List β) : PyProof.Rows.KeyKind where
  toKeyOrd := PyProof.Rows.listOrd itemOrd
  keyOf v := open Classical in if q : ∃ b, b ∈ bs ∧ ∃ as, Reads h v (enc3 ki kj row b) as then some (keyToks (key2 ki kj q.choose)) else none
  dflt := ([] : List (Int ⊕ List Nat))
theorem rowKind_some {h : Heap} {v : Value} {b : β} {as : List Addr} (hb : b ∈ bs) (r : Reads h v (enc3 ki kj row b) as) : (rowKind h ki kj row bs).keyOf v = some (keyToks (key2 ki kj b)) := by
  have q : ∃ b, b ∈ bs ∧ ∃ as, Reads h v (enc3 ki kj row b) as := ⟨b, hb, as, r⟩
  have e : (rowKind h ki kj row bs).keyOf v = some (keyToks (key2 ki kj q.choose)) := by
    show (open Classical in if q : ∃ b, b ∈ bs ∧ ∃ as, Reads h v (enc3 ki kj row b) as then some (keyToks (key2 ki kj q.choose)) else none) = _
    rw [dif_pos q]
  obtain ⟨h1, as', h2⟩ := q.choose_spec
  obtain ⟨e1, e2⟩ := reads3_un h2 r
  rw [e]
  unfold key2
  rw [e1, e2]
theorem rowKind_inv {h : Heap} {v : Value} {k : List (Int ⊕ List Nat)} (e : (rowKind h ki kj row bs).keyOf v = some k) : ∃ b as, b ∈ bs ∧ Reads h v (enc3 ki kj row b) as ∧ k = keyToks (key2 ki kj b) := by
  by_cases q : ∃ b, b ∈ bs ∧ ∃ as, Reads h v (enc3 ki kj row b) as
  · have e' : (rowKind h ki kj row bs).keyOf v = some (keyToks (key2 ki kj q.choose)) := by
      show (open Classical in if q : ∃ b, b ∈ bs ∧ ∃ as, Reads h v (enc3 ki kj row b) as then some (keyToks (key2 ki kj q.choose)) else none) = _
      rw [dif_pos q]
    obtain ⟨h1, as', h2⟩ := q.choose_spec
    rw [e'] at e
    exact ⟨_, as', h1, h2, (Option.some.inj e).symm⟩
  · have e' : (rowKind h ki kj row bs).keyOf v = none := by
      show (open Classical in if q : ∃ b, b ∈ bs ∧ ∃ as, Reads h v (enc3 ki kj row b) as then some (keyToks (key2 ki kj q.choose)) else none) = _
      rw [dif_neg q]
      rfl
    rw [e'] at e
    exact absurd e (by simp)
section
variable {prog : Program} {w : World} {A : Around} {s : Shared}
theorem sorts3 {vs : List Value} (e : EachIs (fun v b => ∃ as, Reads s.heap v (enc3 ki kj row b) as) vs bs) (R3 : Rows3 ki kj row bs) (hu : A.units + 60 < cLine) : SortsAt prog w A s (rowKind s.heap ki kj row bs) vs := by
  refine ⟨fun v hv => ?_, tuples' (Value.type "int" != Value.type "tuple"), ?_, fun h2 E Q hq => ?_⟩
  · have h3 := (PySem.W.each_mem e).left v hv
    obtain ⟨b, _, ⟨as, r⟩, hb⟩ := h3
    exact ⟨_, rowKind_some hb r⟩
  · intro E x y a b Q ha hb hq
    obtain ⟨b1, as, hb1, ra, rfl⟩ := rowKind_inv ha
    obtain ⟨b2, as', hb2, rb, rfl⟩ := rowKind_inv hb
    have hq' : Q (dataLt (key2 ki kj b1) (key2 ki kj b2)) s := hq
    unfold key2 at hq'
    rw [PySem.W.dataLt_ii] at hq'
    obtain ⟨a, o, us, n, v1, v2, v3, a1, a2, a3, rfl, h1, h2, h3, h4, h5, h6, h7⟩ := reads3 ra
    obtain ⟨a', o', us', n', v1', v2', v3', a1', a2', a3', rfl, k1, k2, k3, k4, k5, k6, k7⟩ := reads3 rb
    have z1 : us.size = 3 := by rw [← Array.length_toList, h4] <;> rfl
    have z2 : us'.size = 3 := by rw [← Array.length_toList, k4] <;> rfl
    refine PySem.W.kat_lt h1 h3 k1 k3 ?_
    rw [h4, k4, z1, z2]
    show PySem.W.KatLex prog w A _ _ Q [(v1, v1'), (v2, v2'), (v3, v3')] 0 s
    have ai : ∀ i j : Int, alike (.int i) (.int j) = true := fun i j => by simp [alike]
    have dm : ∀ i j : Int, A.units + min (PyData.int i).depth (PyData.int j).depth < cLine := fun i j => by
      simp only [PyData.depth]
      omega
    refine PySem.W.kat_cons (PySem.W.eqAt_alike (.int (ki b1)) (.int (ki b2)) A s _ _ _ _ h5 k5 (ai _ _) (dm _ _) prog w _ _ ?_)
    by_cases e1 : ki b1 = ki b2
    · rw [show PyData.eqv (.int (ki b1)) (.int (ki b2)) = true by simp [PyData.eqv, e1]]
      refine PySem.W.kat_yes (PySem.W.kat_cons (PySem.W.eqAt_alike (.int (kj b1)) (.int (kj b2)) A s _ _ _ _ h6 k6 (ai _ _) (dm _ _) prog w _ _ ?_))
      by_cases e2 : kj b1 = kj b2
      · rw [show PyData.eqv (.int (kj b1)) (.int (kj b2)) = true by simp [PyData.eqv, e2]]
        have er := R3.un b1 hb1 b2 hb2 e1 e2
        have dr := R3.dp b1 hb1
        have alr := R3.al b1 hb1
        rw [← er] at k7
        refine PySem.W.kat_yes (PySem.W.kat_cons (PySem.W.eqAt_alike (row b1) (row b1) A s _ _ _ _ h7 k7 alr (by omega) prog w _ _ ?_))
        rw [PySem.W.eqv_refl_alike _ alr]
        refine PySem.W.kat_yes (PySem.W.kat_nil ?_)
        have : decide (ki b1 < ki b2 ∨ ki b1 = ki b2 ∧ kj b1 < kj b2) = decide (3 < 3) := decide_eq_decide.mpr (by omega)
        rw [this] at hq'
        exact hq'
      · rw [show PyData.eqv (.int (kj b1)) (.int (kj b2)) = false by simp [PyData.eqv, e2]]
        refine PySem.W.kat_no (PySem.W.oneLt_alike (by intro _ _ z; cases z) h6 k6 (ai _ _) (by intro z; cases z) (dm _ _) ?_)
        rw [PySem.W.dataLt_int]
        have : decide (ki b1 < ki b2 ∨ ki b1 = ki b2 ∧ kj b1 < kj b2) = decide (kj b1 < kj b2) := decide_eq_decide.mpr (by omega)
        rw [this] at hq'
        exact hq'
    · rw [show PyData.eqv (.int (ki b1)) (.int (ki b2)) = false by simp [PyData.eqv, e1]]
      refine PySem.W.kat_no (PySem.W.oneLt_alike (by intro _ _ z; cases z) h5 k5 (ai _ _) (by intro z; cases z) (dm _ _) ?_)
      rw [PySem.W.dataLt_int]
      have : decide (ki b1 < ki b2 ∨ ki b1 = ki b2 ∧ kj b1 < kj b2) = decide (ki b1 < ki b2) := decide_eq_decide.mpr (by omega)
      rw [this] at hq'
      exact hq'
  · have e' : EachIs (fun v d => ∃ as, Reads s.heap v d as) vs (bs.map (enc3 ki kj row)) := PySem.W.each_map (R := fun v d => ∃ as, Reads s.heap v d as) (enc3 ki kj row) e
    obtain ⟨fs, t1, t2, t3⟩ := PySem.W.each_katTups e' fun d hd => by
      obtain ⟨b, _, rfl⟩ := List.mem_map.mp hd
      exact ⟨_, _, rfl⟩
    refine PySem.W.kat_kind (T := Value.type "int") t1 (by omega) (fun f hf => ?_) (beq_self_eq_true _) hq
    obtain ⟨x, r, as, m1, m2⟩ := t3 f hf
    obtain ⟨b, _, eb⟩ := List.mem_map.mp m1
    unfold enc3 at eb
    cases eb
    exact PySem.W.looks_reads m2
end
def rSorted3 (K : PySem.W.Frag) (ki kj : β → Int) (row : β → PyData) : List V → Hp → VK → Prop := fun vs H Q => ∃ (a : Addr) (xs : List V) (bs : List β), vs = [.ref a] ∧ SqL K H a xs ∧ TDs K H xs (bs.map (enc3 ki kj row)) ∧ Rows3 ki kj row bs ∧
  ∀ (ys : List V) (p : Addr), H p = none → TDs K H ys ((bs.mergeSort (dataLe false (key2 ki kj))).map (enc3 ki kj row)) → Q (.ref p) (upd H p (.lst ys))
theorem cr_sorted3 {X : Cx} (hu : X.A.units + 64 < cLine) (ki kj : β → Int) (row : β → PyData) : CallR X (.builtin "sorted") (rSorted3 X.K ki kj row) := by
  intro pins s σ H vs us Q I r h
  obtain ⟨a, xs, bs, rfl, hs, t, R3, q⟩ := h
  obtain rfl := Vals.ref1 r
  obtain ⟨its, rv, hl, hz⟩ := I.list hs
  have e := each_of rv t
  have er : EachIs (fun v b => ∃ as, Reads s.heap v (enc3 ki kj row b) as) its bs := e.mono fun u b ⟨v, r, t⟩ => Dp.reads I _ v u t.dp r
  have er' : EachIs (fun v b => ∃ as, Reads (PySem.W.sortingHeap (PySem.W.copyHeap s.heap its) (s.heap.objs.size + 1) its) v (enc3 ki kj row b) as) its bs := er.mono fun _ _ ⟨as, r⟩ => ⟨as, PyProof.Rows.Reads.keeps (fun _ _ => PySem.W.sorting_copy_old) r⟩
  refine PySem.W.sorted_vals (κ := rowKind (PySem.W.sortingHeap (PySem.W.copyHeap s.heap its) (s.heap.objs.size + 1) its) ki kj row bs) hl.isList (sorts3 (s := { s with heap := PySem.W.sortingHeap (PySem.W.copyHeap s.heap its) (s.heap.objs.size + 1) its }) er' R3 ?_) (by rw [← rv.length]; exact hz) ?_
  · show X.A.units + 1 + 1 + 60 < cLine
    omega
  have h2 : EachIs (Fits X.K H (enc3 ki kj row)) (sortVals (rowKind (PySem.W.sortingHeap (PySem.W.copyHeap s.heap its) (s.heap.objs.size + 1) its) ki kj row bs) false its its) (bs.mergeSort (dataLe false (key2 ki kj))) :=
    PySem.W.sortVals_each (κ := rowKind (PySem.W.sortingHeap (PySem.W.copyHeap s.heap its) (s.heap.objs.size + 1) its) ki kj row bs) (fun b => keyToks (key2 ki kj b)) e ((PySem.W.each_mem er').mono fun v b ⟨⟨as, r⟩, hb⟩ => rowKind_some hb r)
  have h1 := h2.length
  obtain ⟨ys, r3, t3⟩ := of_each h2
  obtain ⟨ep, he'⟩ := PyProof.Rows.sortedAll_at s.heap its (sortVals (rowKind (PySem.W.sortingHeap (PySem.W.copyHeap s.heap its) (s.heap.objs.size + 1) its) ki kj row bs) false its its).toArray
  have hlen : ys.length ≤ sizeLine := by
    rw [r3.length, h1, List.length_mergeSort, ← e.length, ← rv.length]
    exact hz
  exact ⟨.ref _, upd H (s.heap.objs.size + 1) (.lst ys), I.laid (t' := s.toks) (fun _ _ => PyProof.Rows.sortedAll_old) (Nat.le_succ _) ⟨hlen, _, ep, r3, he'⟩, rfl, q ys _ (I.hok.fresh (Nat.le_succ _)) t3⟩
end
section
variable {X : Cx} {N : List Str} {sc : Scope} {k : Nat} {e : Expr} {σ : L2.St} {H : Hp} {pos p : Pos} {β : Type}
theorem lsorted3 {ki kj : β → Int} {row : β → PyData} {bs : List β} {q : Addr} {vs : List V} (D : DC X N sc k) (hm : X.mg "sorted" = none) (h : EV X e σ H (.ref q)) (s : SqL X.K H q vs) (t : TDs X.K H vs (bs.map (enc3 ki kj row))) (R3 : Rows3 ki kj row bs) (hg : glB sc "sorted" = true := by decide +kernel)
    (hs : starEach (e :: []) X.env = (false, eval e X.env) :: starEach [] X.env := by rfl) : EL X (.Call (.Name "sorted" p) [e] [] pos) σ H ((bs.mergeSort (dataLe false (key2 ki kj))).map (enc3 ki kj row)) :=
  dB1 (R1 := fun H2 v => v = .ref q ∧ Ex H H2) D (cr_sorted3 D.u64 ki kj row) hm (by decide +kernel) (fun H1 x Q qq => h H1 x Q fun H2 y => qq _ H2 y ⟨rfl, x.trans y⟩) (fun H1 v x t' Q qq => by
    obtain ⟨rfl, e⟩ := t'
    exact ⟨q, vs, bs, rfl, ex_l e s, t.ex e, R3, fun ys p' hp' t' => qq _ _ (Ex.new hp') ⟨p', ys, rfl, fresh_back x hp', upd_same, t'.ex (Ex.new hp')⟩⟩) hg (by decide +kernel) (by decide +kernel) hs
end
end G
/-! The rows that are due, sorted: what was done. Plain Lean. -/
namespace G
open PySem
open PySem.W (dataLe alike)
def dueKi (l : List Deed) (p : Str) : Int := (getG (goneOf (planM l)) p).getD 0
def dueKj (l : List Deed) (p : Str) : Int := (((papersM l).idxOf p : Nat) : Int)
def leD (l : List Deed) (p q : Str) : Bool := decide (dueKi l p < dueKi l q ∨ (dueKi l p = dueKi l q ∧ dueKj l p ≤ dueKj l q))
theorem idx_inj {l : List Str} {a b : Str} (ha : a ∈ l) (hb : b ∈ l) (e : l.idxOf a = l.idxOf b) : a = b := by
  have h1 := (idx_first ha).1
  have h2 := (idx_first hb).1
  rw [e, h2] at h1
  exact (Option.some.inj h1).symm
theorem leD_trans (l : List Deed) (a b c : Str) (h1 : leD l a b = true) (h2 : leD l b c = true) : leD l a c = true := by
  unfold leD at *
  rw [decide_eq_true_eq] at *
  omega
theorem leD_total (l : List Deed) (a b : Str) : (leD l a b || leD l b a) = true := by
  unfold leD
  rw [Bool.or_eq_true, decide_eq_true_eq, decide_eq_true_eq]
  omega
theorem due_papers {l : List Deed} {t : Int} {p : Str} (h : p ∈ dueL l t) : p ∈ papersM l := (List.mem_filter.mp h).1
theorem due_sorted {l : List Deed} (W : WF l) (t : Int) : (dueL l t).mergeSort (dataLe false (key2 (dueKi l) (dueKj l))) = (belowM l t).map (·.paper) := by
  have e : dataLe false (key2 (dueKi l) (dueKj l)) = leD l := PySem.W.dataLe_ii (dueKi l) (dueKj l)
  rw [e]
  have pm : ((dueL l t).mergeSort (leD l)).Perm ((belowM l t).map (·.paper)) := (List.mergeSort_perm _ _).trans (due_perm W t)
  refine List.Perm.eq_of_pairwise (le := fun a b => leD l a b = true) (fun a b ha hb h1 h2 => ?_) (List.pairwise_mergeSort (leD_trans l) (leD_total l) _) ?_ pm
  · have ha' := due_papers (List.mem_mergeSort.mp ha)
    have hb' := due_papers (due_mem.mpr hb)
    unfold leD at h1 h2
    rw [decide_eq_true_eq] at h1 h2
    refine idx_inj ha' hb' ?_
    unfold dueKj at h1 h2
    omega
  · rw [List.pairwise_map]
    refine (below_pw W t).imp_of_mem fun {a b} ha hb h => ?_
    unfold leD dueKi dueKj
    rw [get_of plan_ok.nd (below_get ha), get_of plan_ok.nd (below_get hb)]
    refine decide_eq_true ?_
    unfold ltG at h
    show a.day < b.day ∨ _
    simp only [Option.getD_some]
    omega
theorem alike_row (gs : List Going) (p : Str) : alike (rowD gs p) (rowD gs p) = true := by
  unfold rowD
  cases getG (goneOf gs) p <;> cases leaveOfM (usedOf gs) p <;> simp [oI, oS, alike, PySem.W.alikeAll]
theorem depth_row (gs : List Going) (p : Str) : (rowD gs p).depth ≤ 40 := by
  unfold rowD
  cases getG (goneOf gs) p <;> cases leaveOfM (usedOf gs) p <;> simp [oI, oS, PyData.depth, PyData.depthAll]
theorem due_rows3 (l : List Deed) (t : Int) : Rows3 (dueKi l) (dueKj l) (rowD (planM l)) (dueL l t) where
  al := fun b _ => alike_row _ b
  dp := fun b _ => depth_row _ b
  un := fun b hb c hc _ e => by
    have : b = c := idx_inj (due_papers hb) (due_papers hc) (by unfold dueKj at e; omega)
    rw [this]
/-! ### shapes -/
def LvOk (l : List Deed) (gs : List Going) : Prop := ∀ g ∈ gs, ∀ n, g.leave = some n → ∃ x ∈ l, x.name = n
theorem LvOk.step {l : List Deed} {gs : List Going} {day : Int} {p : Str} (h : LvOk l gs) : LvOk l (stepM l day gs p) := by
  rw [step_eq]
  split
  · split
    · intro g hg n hn
      rcases List.mem_append.mp hg with q | q
      · exact h g q n hn
      · rw [List.mem_singleton.mp q] at hn
        have : (if needsM l day p then unusedM l day (kindM l p) (usedOf gs) else none) = some n := hn
        split at this
        · obtain ⟨_, x, hx, _, e⟩ := unused_new this
          exact ⟨x, hx, e⟩
        · cases this
    · exact h
  · exact h
theorem LvOk.steps {l : List Deed} {day : Int} : ∀ {ps : List Str} {gs : List Going}, LvOk l gs → LvOk l (ps.foldl (stepM l day) gs)
  | [], _, h => h
  | p :: r, gs, h => by
    rw [List.foldl_cons]
    exact LvOk.steps h.step
theorem LvOk.run {l : List Deed} : ∀ {days : List Int} {gs : List Going}, LvOk l gs → LvOk l (runM l days gs)
  | [], _, h => h
  | d :: r, gs, h => by
    show LvOk l (runM l r (closeM l d gs))
    exact LvOk.run (LvOk.steps h)
theorem below_lv (l : List Deed) (t : Int) : LvOk l (belowM l t) := LvOk.run fun _ h => by cases h
theorem lay_all {α : Type} {f : α → PyData} : ∀ {xs : List α}, (∀ x ∈ xs, (f x).canLay0 = true) → PyData.canLayAll0 (xs.map f) = true
  | [], _ => rfl
  | x :: r, h => by
    rw [List.map_cons]
    simp [PyData.canLayAll0, h x List.mem_cons_self, lay_all (xs := r) fun y hy => h y (List.mem_cons_of_mem _ hy)]
theorem depth_all {α : Type} {f : α → PyData} {n : Nat} : ∀ {xs : List α}, (∀ x ∈ xs, (f x).depth ≤ n) → PyData.depthAll (xs.map f) ≤ n
  | [], _ => by simp [PyData.depthAll]
  | x :: r, h => by
    rw [List.map_cons]
    have h1 := depth_all (xs := r) fun y hy => h y (List.mem_cons_of_mem _ hy)
    have h2 := h x List.mem_cons_self
    simp [PyData.depthAll]
    omega
theorem shp_all {α : Type} {f : α → PyData} {xs : List α} (h : ∀ x ∈ xs, (f x).canLay0 = true ∧ (f x).depth ≤ 60) : SeqAt.shaped (.tuple (xs.map f)) = true := by
  have h1 := lay_all fun x hx => (h x hx).1
  have h2 := depth_all fun x hx => (h x hx).2
  unfold SeqAt.shaped
  rw [Bool.and_eq_true]
  refine ⟨by rw [PyData.canLay0]; exact h1, decide_eq_true ?_⟩
  rw [PyData.depth]
  omega
theorem done_shp {l : List Deed} (W : WF l) (t : Int) : SeqAt.shaped (.tuple ((belowM l t).map doneD)) = true := by
  refine shp_all fun g hg => ?_
  have h1 := strOk_name (papers_name W (below_ok.sub g hg))
  unfold doneD
  cases e : g.leave with
  | none => simp [oS, PyData.canLay0, PyData.canLayAll0, PyData.depth, PyData.depthAll, h1]
  | some n =>
    obtain ⟨x, hx, e2⟩ := below_lv l t g hg n e
    have h2 : PyData.strOk n = true := by
      rw [← e2]
      exact strOk_name (W.ok x hx).2.1
    simp [oS, PyData.canLay0, PyData.canLayAll0, PyData.depth, PyData.depthAll, h1, h2]
theorem come_shp {l : List Deed} (W : WF l) (t : Int) : SeqAt.shaped (.tuple ((comeL l t).map .str)) = true := by
  refine shp_all fun p hp => ?_
  have h1 := strOk_name (papers_name W (List.mem_filter.mp hp).1)
  simp [PyData.canLay0, PyData.depth, h1]
theorem shp_refl {d : PyData} (h : SeqAt.shaped d = true) (h2 : alike d d = true) : PyData.eqv d d = true := PySem.W.eqv_refl_alike d h2
theorem alike_all {α : Type} {f : α → PyData} : ∀ {xs : List α}, (∀ x ∈ xs, alike (f x) (f x) = true) → PySem.W.alikeAll (xs.map f) (xs.map f) = true
  | [], _ => by simp [PySem.W.alikeAll]
  | x :: r, h => by
    rw [List.map_cons, PySem.W.alikeAll, h x List.mem_cons_self, alike_all (xs := r) fun y hy => h y (List.mem_cons_of_mem _ hy)] <;> rfl
theorem eqv_self {α : Type} {f : α → PyData} {xs : List α} (h : ∀ x ∈ xs, alike (f x) (f x) = true) : PyData.eqv (.tuple (xs.map f)) (.tuple (xs.map f)) = true := by
  refine PySem.W.eqv_refl_alike _ ?_
  rw [alike]
  exact alike_all h
theorem alike_done (g : Going) : alike (doneD g) (doneD g) = true := by
  unfold doneD
  cases g.leave <;> simp [oS, alike, PySem.W.alikeAll]
theorem alike_s (p : Str) : alike (.str p) (.str p) = true := by simp [alike]
end G
namespace G
open PySem PySem.Spec PyProof.Rows L2 Evl
def dueO (g : Option Int) (t : Int) : Bool := match g with
  | some d => decide (d < t)
  | none => false
section
variable {X : Cx} {N : List Str} {sc : Scope} {k : Nat} {e o a a2 b : Expr} {σ : L2.St} {H : Hp} {pos p p' p1 p2 : Pos} {j : Nat}
/-- y = [..], y a cell -/
theorem swC {y : Str} {py : Pos} {elt : Expr} {gens : List Comprehension} {scope : Scope} {line : Nat} (D : DC X N sc k) (h : sc.names.lookup y = some .cell) : swapsWith (.ListComp elt gens scope pos) (some (.Name y py)) line X.env = pure false := by
  have e : X.env.kindOf y = some .cell := D.keep y _ (by decide) h
  show (pure (X.env.blockKind == .function && X.env.kindOf y == some .local && py.line == pos.line && !(scope.names.any fun (n, k) => n == y && (k == .local || k == .cell))) : Sem Bool) = pure false
  rw [e, show ((some NameKind.cell == some NameKind.local) = false) from rfl]
  simp
/-- l.index(x), l a new list of texts -/
theorem lindex {ys : List Str} {z : Str} {py pz : Pos} (ho : EL X o σ H (ys.map .str)) (hz : ED X e σ H (.str z)) (hm : z ∈ ys)
    (hb : attributeBase o "index" X.env (eval o X.env) = eval o X.env := by rfl) (hs : starEach (e :: []) X.env = (false, eval e X.env) :: starEach [] X.env := by rfl) (hline : (py.endLine == pz.line) = true := by rfl) : ED X (.Call (.Attribute o "index" py) [e] [] pz) σ H (.int (ys.idxOf z)) := fun H1 x1 Q q =>
  pe_le (pe_bm PySem.F.plainAttrs_list PySem.F.slot_list_index PySem.F.type_list_index mt_index (we _) (wa [e]) hb (few1 hs) hline hs) (ho H1 x1 _ fun v H2 x2 r => by
    obtain ⟨A, xs, rfl, h0, h1, t⟩ := r
    obtain rfl := t.strs
    obtain ⟨f1, f2⟩ := idx_first hm
    refine ⟨.inl ⟨rfl, _, sq_of h1⟩, (ead hz ean hs) H2 (x1.trans x2) _ fun ws H3 x3 tw => ?_⟩
    cases tw with
    | d t1 r =>
      cases r
      obtain rfl := t1.str_iff
      refine ⟨A, _, _, ys.idxOf z, .str z, rfl, rfl, .inl (.inl (x3 _ _ h1)), rfl, flat_strs ys, map_get f1, ?_, ?_, q _ H3 (x2.trans x3) (.int _)⟩
      · show (z == z) = true
        simp
      · intro m z' hlt hz'
        obtain ⟨y, hy, rfl⟩ := map_at hz'
        show (y == z) = false
        refine beq_eq_false_iff_ne.mpr fun ee => f2 m hlt ?_
        rw [hy, ee])
/-- a is not None and a < b -/
theorem dueT {g : Option Int} {t : Int} {c : Bool} (h1 : ED X a σ H (oI g)) (h2 : ED X a2 σ H (oI g)) (hb : ED X b σ H (.int t)) (hc : c = dueO g t) : ET X (.BoolOp .And [.Compare a [.IsNot] [.Constant .none j p'] p1, .Compare a2 [.Lt] [b] p2] pos) σ H c := by
  subst hc
  cases g with
  | none => exact (EW.et (tandc (c2 := false) (notN h1) (fun h => by cases h))).to rfl
  | some d => exact (EW.et (tandc (notN h1) (fun _ => tand1 (ltI h2 hb)))).to rfl
end
end G
/-! The mirror of the law's making of names. -/
namespace G
open PySem PySem.Spec
def wordsL : List Str := ["paper", "rule", "keep", "gone", "coming", "days", "first", "last", "kind", "deep", "end", "hold", "lift", "leave", "while", "follow", "happens", "none", "never", "months", "there", "plan"]
theorem words_name : wordsL.all nameB = true := by decide +kernel
def letC (i : Int) : Nat := 97 + (i % 26).toNat
theorem letC_in (i : Int) : 97 ≤ letC i ∧ letC i ≤ 122 := by
  unfold letC
  omega
def signS (c : Nat) : Str := ⟨#[c]⟩
def nameAt (x : Int) (k : Nat) : Str := ⟨(List.replicate (x / 8 % (1 + x % 8)).toNat (letC (x / 64)) ++ [letC (x / 1664 + 5 * (k : Int))] ++ List.replicate (1 + x % 8 - x / 8 % (1 + x % 8) - 1).toNat (letC (x / 64))).toArray⟩
def poolM (x : Int) (n : Nat) : List Str := if x / 43 % 8 = 5 then (List.range n).map fun k : Nat => wordsL.getD ((x / 344 + (k : Int)) % 22).toNat "" else (List.range n).map (nameAt x)
theorem nameAt_ok (x : Int) (k : Nat) : nameB (nameAt x k) = true := by
  have h0 : 0 ≤ x % 8 ∧ x % 8 < 8 := by omega
  have h1 := Int.emod_nonneg (x / 8) (b := 1 + x % 8) (by omega)
  have h2 := Int.emod_lt_of_pos (x / 8) (b := 1 + x % 8) (by omega)
  have a1 := letC_in (x / 64)
  have a2 := letC_in (x / 1664 + 5 * (k : Int))
  have hl : (nameAt x k).length = (x / 8 % (1 + x % 8)).toNat + 1 + (1 + x % 8 - x / 8 % (1 + x % 8) - 1).toNat := by
    show (nameAt x k).cps.size = _
    unfold nameAt
    simp
    omega
  unfold nameB
  rw [hl]
  simp only [Bool.and_eq_true, decide_eq_true_eq, List.all_eq_true]
  refine ⟨by omega, by omega, fun c hc => ?_⟩
  unfold nameAt at hc
  simp only [List.append_assoc, List.mem_append, List.mem_replicate, List.mem_singleton] at hc
  rcases hc with h | h | h
  · rw [h.2]; exact a1
  · rw [h]; exact a2
  · rw [h.2]; exact a1
end G
namespace G
open PySem PySem.Spec PyProof.Rows L2 Evl
theorem letters_cps : ("abcdefghijklmnopqrstuvwxyz" : Str).cps = (List.range' 97 26).toArray := by decide +kernel
section
variable {X : Cx} {a b : Expr} {σ : L2.St} {H : Hp} {pos : Pos}
/-- letters[i] -/
theorem dletter {i : Int} (ha : ED X a σ H (.str "abcdefghijklmnopqrstuvwxyz")) (hb : ED X b σ H (.int (i % 26))) (hs : PlainIx b := by exact fun _ _ => rfl) : ED X (.Subscript a b pos) σ H (.str (signS (letC i))) := fun H1 x1 Q q =>
  pe_le (pe_ix ix_str (we a) (we b) hs) (EV.str ha H1 x1 _ fun H2 x2 => EV.int hb H2 (x1.trans x2) _ fun H3 x3 => by
    have hj : (i % 26).toNat < 26 := by omega
    have e : i % 26 = (((i % 26).toNat : Nat) : Int) := by omega
    have hat : atI ("abcdefghijklmnopqrstuvwxyz" : Str).cps.toList (i % 26) = some (letC i) := by
      rw [letters_cps, e]
      refine atI_nat ?_
      show (List.range' 97 26)[(i % 26).toNat]? = some (letC i)
      rw [List.getElem?_range' hj]
      unfold letC
      rw [Nat.one_mul]
    exact ⟨_, i % 26, letC i, rfl, rfl, (by show ("abcdefghijklmnopqrstuvwxyz" : Str).cps.size ≤ _; rw [letters_cps]; decide), hat, q _ H3 (x2.trans x3) (.str _)⟩)
end
end G
namespace G
open PySem PySem.Spec PyProof.Rows L2 Evl
theorem nameAt_eq (x : Int) (k : Nat) : Txt.mul (signS (letC (x / 64))) (x / 8 % (1 + x % 8)) ++ signS (letC (x / 1664 + 5 * (k : Int))) ++ Txt.mul (signS (letC (x / 64))) (1 + x % 8 - x / 8 % (1 + x % 8) - 1) = nameAt x k := by
  have h0 : 0 ≤ x % 8 ∧ x % 8 < 8 := by omega
  have h1 := Int.emod_nonneg (x / 8) (b := 1 + x % 8) (by omega)
  have h2 := Int.emod_lt_of_pos (x / 8) (b := 1 + x % 8) (by omega)
  refine str_ext ?_
  have e : ∀ a b : Str, (a ++ b).cps.toList = a.cps.toList ++ b.cps.toList := fun a b => by
    show (a.cps ++ b.cps).toList = _
    simp
  rw [e, e]
  unfold signS
  rw [mul_sign _ h1 (by omega), mul_sign _ (by omega) (by omega)]
  unfold nameAt
  simp
section
variable {P : Program} {w : World} {K : PySem.W.Frag} {mg : Str → Option Value} {base : Heap}
theorem mul_len (c : Nat) {n : Int} (h0 : 0 ≤ n) (h8 : n ≤ 8) : (Txt.mul (signS c) n).length = n.toNat := by
  show (Txt.mul ⟨#[c]⟩ n).cps.size = _
  rw [← Array.length_toList, mul_sign c h0 h8, List.length_replicate]
theorem slen (a b : Str) : (a ++ b).length = a.length + b.length := by
  show (a.cps ++ b.cps).size = a.cps.size + b.cps.size
  simp
theorem sign_len (c : Nat) : (signS c).length = 1 := rfl
theorem c_lpool (T : Txt K mg) : Cal P w K mg base 1 "_law_pool" ["_law_x", "_law_many"] (SpL K (fun a : Int × Nat => [.d (.int a.1), .d (.int a.2)]) (fun a _ => a.2 ≤ 20) (fun a => (poolM a.1 a.2).map .str)) := by
  obtain ⟨fd, F⟩ := T.f__law_pool
  refine mkCal F T.g__law_pool S__law_pool H__law_pool (fun _ _ _ _ _ _ us hl => match us, hl with | [_, _], _ => rfl) (fun _ => rfl) ?_
  rintro X rfl rfl rfl rfl rfl D ⟨x, n⟩ vs H Q hv hn hq
  dsimp only at hv hn hq
  obtain ⟨v1, v2, rfl, a1, a2⟩ := hv.d2
  obtain rfl := a1.int_iff
  obtain rfl := a2.int_iff
  refine ssc (asgD D 2 ds fun u0 H0 x0 t0 => ?_)
  obtain rfl := t0.str_iff
  refine ssc (asgL (ds := (wordsL.take 13).map .str) D 3 (llst (ead ds (ead ds (ead ds (ead ds (ead ds (ead ds (ead ds (ead ds (ead ds (ead ds (ead ds (ead ds (ead ds ean)))))))))))))) fun q xs H1 hq0 x1 hqs tx => ?_)
  refine ssc (asgL (ds := wordsL.map .str) D 3 (lcatV (xs := (wordsL.take 13).map .str) (ys := (wordsL.drop 13).map .str) (en D 3) hqs tx (llst (ead ds (ead ds (ead ds (ead ds (ead ds (ead ds (ead ds (ead ds (ead ds ean)))))))))) (by decide)) fun q2 xs2 H2 hq20 x2 hqs2 tx2 => ?_)
  have y := (x0.trans x1).trans x2
  have xl : xs2.length = 22 := by rw [tx2.length]; rfl
  refine ssc (sif (eqI (dmod (by decide) (ddiv (by constructor <;> decide) (dni D 0) di) di) di) (fun hb H3 x3 => ?_) fun hb H3 x3 => ss0 ?_)
  · have hb : x / 43 % 8 = 5 := of_decide_eq_true hb
    refine ss1 (retL (ds := kept (fun _ => true) (fun k : Nat => .str (wordsL.getD ((x / 344 + (k : Int)) % 22).toNat "")) (List.range (n : Int).toNat)) (lcR1 (i := (n : Int)) (fun _ => true) _ D [("_law_k", 8)] T.m_range (dni D 1) (by omega) fun H4 j x4 hj => t1 D 8 (fun _ => rfl) fun _ b => ?_) fun v H4 x4 r => hq v H4 (y.trans (x3.trans x4)) ?_)
    · have hm : 0 ≤ (x / 344 + (j : Int)) % 22 ∧ (x / 344 + (j : Int)) % 22 < 22 := by omega
      exact dixV (en (D.b b) 3) (.inl (.inl ((x3.trans x4) _ _ hqs2))) (tx2.ex (x3.trans x4)) (dmod (by decide) (dadd (ddiv (by constructor <;> decide) (dni (D.b b) 0) di) (dni (D.b b) 8)) (ED.to (dlenV (D.b b) T.m_len (en (D.b b) 3) (.inl (.inl ((x3.trans x4) _ _ hqs2)))) (by rw [xl] <;> rfl))) (atS hm.1 hm.2)
    · rw [kept_all] at r
      have e : (List.range (n : Int).toNat).map (fun k : Nat => PyData.str (wordsL.getD ((x / 344 + (k : Int)) % 22).toNat "")) = (poolM x n).map .str := by
        unfold poolM
        rw [if_pos hb, List.map_map] <;> rfl
      rw [e] at r
      exact r.old (y.trans x3)
  · have hb : ¬ x / 43 % 8 = 5 := of_decide_eq_false hb
    have h0 : 0 ≤ x % 8 ∧ x % 8 < 8 := by omega
    have h1 := Int.emod_nonneg (x / 8) (b := 1 + x % 8) (by omega)
    have h2 := Int.emod_lt_of_pos (x / 8) (b := 1 + x % 8) (by omega)
    refine ssc (asgD D 4 (dadd di (dmod (by decide) (dni D 0) di)) fun u4 H4 x4 t4 => ?_)
    obtain rfl := t4.int_iff
    refine ssc (asgD D 5 (dmod (i := x / 8) (j := 1 + x % 8) (by omega) (ddiv (by constructor <;> decide) (dni D 0) di) (dni D 4)) fun u5 H5 x5 t5 => ?_)
    obtain rfl := t5.int_iff
    refine ssc (asgD D 6 (dletter (i := x / 64) (dns D 2) (dmod (by decide) (ddiv (by constructor <;> decide) (dni D 0) di) di)) fun u6 H6 x6 t6 => ?_)
    obtain rfl := t6.str_iff
    have z := (y.trans x3).trans ((x4.trans x5).trans x6)
    refine ssc (asgLcR (n := (n : Int)) (fun _ => true) (fun k : Nat => .str (signS (letC (x / 1664 + 5 * (k : Int))))) D 7 [("_law_k", 8)] T.m_range (dni D 1) (by omega) (fun H7 j x7 hj => t1 D 8 (fun _ => rfl) fun _ b => dletter (dns (D.b b) 2) (dmod (by decide) (dadd (ddiv (by constructor <;> decide) (dni (D.b b) 0) di) (dmul (.inl ⟨by decide, by decide⟩) di (dni (D.b b) 8))) di)) fun q3 xs3 H7 hq30 x7 hqs3 tx3 => ?_)
    rw [kept_all] at tx3
    have l1 := mul_len (letC (x / 64)) h1 (by omega)
    have l2 := mul_len (letC (x / 64)) (n := 1 + x % 8 - x / 8 % (1 + x % 8) - 1) (by omega) (by omega)
    refine ss1 (retL (lcV0 (fun k : Nat => .str (signS (letC (x / 1664 + 5 * (k : Int))))) (List.range (n : Int).toNat) (fun k => .str (nameAt x k)) D [("_law_one", 9)] (en D 7) (.inl (.inl hqs3)) tx3 (by rw [List.length_range]; omega) fun H8 k v x8 hk tv => t1 D 9 (fun _ => rfl) fun _ b => ED.to (dsadd (by rw [slen, l1, l2, sign_len]; omega) (dsadd (by rw [l1, sign_len]; omega) (dsmul (x := signS (letC (x / 64))) (n := x / 8 % (1 + x % 8)) (mulok_sign _ h1 (by omega)) (dns (D.b b) 6) (dni (D.b b) 5)) (dn (D.b b) 9 tv)) (dsmul (x := signS (letC (x / 64))) (n := 1 + x % 8 - x / 8 % (1 + x % 8) - 1) (mulok_sign _ (by omega) (by omega)) (dns (D.b b) 6) (dsub (dsub (dni (D.b b) 4) (dni (D.b b) 5)) di))) (congrArg PyData.str (nameAt_eq x k))) fun v H8 x8 r => hq v H8 (z.trans (x7.trans x8)) ?_)
    have e : (List.range (n : Int).toNat).map (fun k : Nat => PyData.str (nameAt x k)) = (poolM x n).map .str := by
      unfold poolM
      rw [if_neg hb, List.map_map] <;> rfl
    rw [e] at r
    exact r.old (z.trans x7)
end
end G
namespace G
open PySem PySem.Spec PyProof.Rows L2 Evl
/-- the four lists that a set of deeds draws on -/
structure PoolAt (H : Hp) (a : Addr) (l : List Str) : Prop where
  at_ : H a = some (.lst (l.map .str))
def poolNames (x : Int) : List Str := (poolM x 7).take 6
def poolKinds (x : Int) : List Str := ((poolM x 7).drop 1).take 3
def poolWords (x : Int) : List Str := ((poolM x 7).drop 2).take 2
def poolRules (x : Int) : List Str := ((poolM x 7).drop 2).take 5
theorem pool_len (x : Int) (n : Nat) : (poolM x n).length = n := by
  unfold poolM
  split <;> simp
theorem cut_mid (xs : List PyData) (i j : Nat) (h : i ≤ j) (hj : j ≤ xs.length) : cutD xs (some (i : Int)) (some (j : Int)) = (xs.drop i).take (j - i) := by
  unfold cutD
  rw [HT.sIx_nat, HT.sIx_nat, Nat.min_eq_left hj, Nat.min_eq_left (by omega : i ≤ xs.length)]
section
variable {P : Program} {w : World} {K : PySem.W.Frag} {mg : Str → Option Value} {base : Heap}
structure PoolsI (K : PySem.W.Frag) (H0 H : Hp) (v : V) (x : Int) : Prop where
  ex : ∃ t a1 a2 a3 a4, v = .ref t ∧ SqT K H t [.ref a1, .ref a2, .ref a3, .ref a4] ∧ H a1 = some (.lst ((poolNames x).map .str)) ∧ H a2 = some (.lst ((poolKinds x).map .str)) ∧ H a3 = some (.lst ((poolWords x).map .str)) ∧ H a4 = some (.lst ((poolRules x).map .str))
theorem c_lpools (T : Txt K mg) : Cal P w K mg base 2 "_law_pools" ["_law_x"] (SpF K (fun x : Int => [.d (.int x)]) (fun _ _ => True) (fun x H H' v => PoolsI K H H' v x)) := by
  obtain ⟨fd, F⟩ := T.f__law_pools
  refine mkCal F T.g__law_pools S__law_pools H__law_pools (fun _ _ _ _ _ _ us hl => match us, hl with | [_], _ => rfl) (fun _ => rfl) ?_
  rintro X rfl rfl rfl rfl rfl D x vs H Q hv _ hq
  obtain ⟨v1, rfl, a1⟩ := hv.d1
  have pl := pool_len x 7
  refine ssc (asgL (ds := (poolM x 7).map .str) D 1 (lcall D (c_lpool T) (x, 7) (ead (dn D 0 a1) (ead di ean)) fun _ _ => (by decide : 7 ≤ 20)) fun q xs H1 hq0 x1 hqs tx => ?_)
  have sl : ∀ {lo hi : Option Expr} {p1 p2 p3 : Pos} {l u : Option Int} {ys : List Str}, cutD ((poolM x 7).map PyData.str) l u = ys.map .str → EO X lo [some v1, some (.ref q)] H1 l → EO X hi [some v1, some (.ref q)] H1 u → EL X (.Subscript (.Name "_law_names" p1) (.Slice lo hi none p2) p3) [some v1, some (.ref q)] H1 (ys.map .str) := fun e h1 h2 => e ▸ lsliceV (en D 1) (.inl (.inl hqs)) tx h1 h2
  have L1 : cutD ((poolM x 7).map PyData.str) none (some 6) = (poolNames x).map .str := (cut_take _ 6).trans List.map_take.symm
  have L2' : cutD ((poolM x 7).map PyData.str) (some 1) (some 4) = (poolKinds x).map .str := (cut_mid _ 1 4 (by decide) (by rw [List.length_map, pl]; decide)).trans (by unfold poolKinds; rw [List.map_take, List.map_drop])
  have L3 : cutD ((poolM x 7).map PyData.str) (some 2) (some 4) = (poolWords x).map .str := (cut_mid _ 2 4 (by decide) (by rw [List.length_map, pl]; decide)).trans (by unfold poolWords; rw [List.map_take, List.map_drop])
  have L4 : cutD ((poolM x 7).map PyData.str) (some 2) (some 7) = (poolRules x).map .str := (cut_mid _ 2 7 (by decide) (by rw [List.length_map, pl]; decide)).trans (by unfold poolRules; rw [List.map_take, List.map_drop])
  refine ss1 (ps_le (ps_ret (pe_tup (pa_cons (we _) (pa_cons (we _) (pa_cons (we _) (pa_cons (we _) pa_nil rfl) rfl) rfl) rfl))) ?_)
  refine sl L1 on (os di) H1 (Ex.refl _) _ fun u1 H2 x2 r1 => ?_
  refine sl L2' (os di) (os di) H2 x2 _ fun u2 H3 x3 r2 => ?_
  refine sl L3 (os di) (os di) H3 (x2.trans x3) _ fun u3 H4 x4 r3 => ?_
  refine sl L4 (os di) (os di) H4 ((x2.trans x3).trans x4) _ fun u4 H5 x5 r4 => ?_
  obtain ⟨p1, y1, rfl, _, h1, t1⟩ := r1
  obtain ⟨p2, y2, rfl, _, h2, t2⟩ := r2
  obtain ⟨p3, y3, rfl, _, h3, t3⟩ := r3
  obtain ⟨p4, y4, rfl, _, h4, t4⟩ := r4
  obtain rfl := t1.strs
  obtain rfl := t2.strs
  obtain rfl := t3.strs
  obtain rfl := t4.strs
  refine ⟨by show 4 ≤ sizeLine; decide, fun t ht => ?_⟩
  have xt : Ex H5 (upd H5 t (.tup [.ref p1, .ref p2, .ref p3, .ref p4])) := Ex.new ht
  exact hq _ _ ((x1.trans ((x2.trans x3).trans (x4.trans x5))).trans xt) ⟨t, p1, p2, p3, p4, rfl, .inl (.inl upd_same), (((x3.trans x4).trans x5).trans xt) _ _ h1, ((x4.trans x5).trans xt) _ _ h2, (x5.trans xt) _ _ h3, xt _ _ h4⟩
end
end G
namespace G
open PySem PySem.Spec PyProof.Rows L2 Evl
section
variable {X : Cx} {b : Expr} {σ : L2.St} {H : Hp} {pos : Pos}
/-- [x, y][int(c)] -/
theorem dpickB {x y : PyData} {c : Bool} {es : Expr} (h1 : EL X es σ H [x, y]) (h2 : ED X b σ H (.int (if c then 1 else 0))) (hs : PlainIx b := by exact fun _ _ => rfl) : ED X (.Subscript es b pos) σ H (if c then y else x) := lix h1 h2 (by
  cases c
  · exact at0
  · exact at1) hs
end
def gi (xs : List Int) (k : Nat) : Int := xs.getD k 0
def kindX (xs : List Int) (kinds : List Str) : Str := kinds.getD (gi xs 2 % 3 % (kinds.length : Int)).toNat ""
def unitX (xs : List Int) (far : Bool) : Str := if far = true then (["days", "months", "years"] : List Str).getD (gi xs 4 % 3).toNat "" else (["days", "days", "months"] : List Str).getD (gi xs 4 % 3).toNat ""
def manyX (xs : List Int) (far : Bool) : Int := if far = true then (if decide (gi xs 6 % 4 = 0) = true then gi xs 5 % 1000 else gi xs 5 % 30) else (if decide (unitX xs far = "months") = true then gi xs 5 % 2 else gi xs 5 % 21)
def partsX (xs : List Int) (kinds words : List Str) (far : Bool) : Parts := if 4 < gi xs 3 % 8 then .one ((["while", "follow", "leave"] : List Str).getD (gi xs 3 % 8 - 5).toNat "") (kindX xs kinds) else .span (decide (gi xs 3 % 2 = 0)) (kindX xs kinds) (sinceM (gi xs 7) words) (manyX xs far) (unitX xs far)
section
variable {P : Program} {w : World} {K : PySem.W.Frag} {mg : Str → Option Value} {base : Heap}
theorem c_lparts (T : Txt K mg) : Cal P w K mg base 2 "_law_parts" ["_law_xs", "_law_kinds", "_law_words", "_law_far_here"] (SpD K (fun a : (Addr × Addr × Addr) × List Int × List Str × List Str × Bool => [.v (.ref a.1.1), .v (.ref a.1.2.1), .v (.ref a.1.2.2), .d (.bool a.2.2.2.2)]) (fun a H => SqL K H a.1.1 (a.2.1.map .int) ∧ SqL K H a.1.2.1 (a.2.2.1.map .str) ∧ SqL K H a.1.2.2 (a.2.2.2.1.map .str) ∧ a.2.1.length = 9 ∧ (0 < a.2.2.1.length ∧ a.2.2.1.length ≤ 20) ∧ 2 ≤ a.2.2.2.1.length) (fun a => (partsX a.2.1 a.2.2.1 a.2.2.2.1 a.2.2.2.2).d)) := by
  obtain ⟨fd, F⟩ := T.f__law_parts
  refine mkCal F T.g__law_parts S__law_parts H__law_parts (fun _ _ _ _ _ _ us hl => match us, hl with | [_, _, _, _], _ => rfl) (fun _ => rfl) ?_
  rintro X rfl rfl rfl rfl rfl D ⟨⟨xa, ka, wa'⟩, xs, kinds, words, far⟩ vs H Q hv ⟨sx, sk, sw, hx, ⟨hk0, hk1⟩, hw⟩ hq
  dsimp only at hv sx sk sw hx hk0 hk1 hw hq
  obtain ⟨w1, rfl, r1⟩ := hv.cv
  obtain ⟨w2, rfl, r2⟩ := r1.cv
  obtain ⟨w3, rfl, r3⟩ := r2.cv
  obtain ⟨u4, rfl, a4⟩ := r3.d1
  have gx : ∀ {σ : L2.St} {H1 : Hp} {p p1 p2 : Pos} {j : Nat} {i : Nat}, Ex H H1 → i < 9 → σ[0]? = some (some (.ref xa)) → ED X (.Subscript (.Name "_law_xs" p) (.Constant (.int (i : Int)) j p1) p2) σ H1 (.int (gi xs i)) := fun e hi hs => dixV (en D 0 hs) (ex_l e sx) (TDs.of_ints xs) di (atNs (by rw [hx]; exact hi))
  have kz : 0 ≤ gi xs 2 % 3 % (kinds.length : Int) ∧ gi xs 2 % 3 % (kinds.length : Int) < (kinds.length : Int) := ⟨Int.emod_nonneg _ (by omega), Int.emod_lt_of_pos _ (by omega)⟩
  refine ssc (asgD D 4 (dixV (en D 1) sk (TDs.of_strs kinds) (dmod (i := gi xs 2 % 3) (j := (kinds.length : Int)) (by omega) (dmod (by decide) (gx (i := 2) (Ex.refl _) (by decide) rfl) di) (ED.to (dlenV D T.m_len (en D 1) sk) (by rw [List.length_map]))) (atS kz.1 kz.2)) fun v1 H1 x1 tv1 => ?_)
  obtain rfl := tv1.str_iff
  refine ssc (asgD D 5 (dmod (by decide) (gx (i := 3) x1 (by decide) rfl) di) fun v2 H2 x2 tv2 => ?_)
  obtain rfl := tv2.int_iff
  have y2 := x1.trans x2
  refine ssc (sif (gtI (dni D 5) di) (fun hb H3 x3 => ?_) fun hb H3 x3 => ss0 ?_)
  · have hb : 4 < gi xs 3 % 8 := of_decide_eq_true hb
    refine ss1 (retD (dtup (xs := [.str ((["while", "follow", "leave"] : List Str).getD (gi xs 3 % 8 - 5).toNat ""), .str (kindX xs kinds)]) (ead (lix (llst (xs := (["while", "follow", "leave"] : List Str).map .str) (ead ds (ead ds (ead ds ean)))) (dsub (dni D 5) di) (atS (by omega) (by show _ < ((3 : Nat) : Int); omega))) (ead (dns D 4) ean))) fun v H4 x4 r => hq v H4 ((y2.trans x3).trans x4) ?_)
    unfold partsX
    rw [if_pos hb]
    exact r
  have nb : ¬ 4 < gi xs 3 % 8 := of_decide_eq_false hb
  have y3 := y2.trans x3
  have m4 : 0 ≤ gi xs 4 % 3 ∧ gi xs 4 % 3 < ((3 : Nat) : Int) := by omega
  refine ssc (asgD D 6 (lix (llst (xs := (["days", "months", "years"] : List Str).map .str) (ead ds (ead ds (ead ds ean)))) (dmod (by decide) (gx (i := 4) y3 (by decide) rfl) di) (atS m4.1 m4.2)) fun v4 H4 x4 tv4 => ?_)
  obtain rfl := tv4.str_iff
  have y4 := y3.trans x4
  refine ssc (asgD D 7 (dpickB (c := decide (gi xs 6 % 4 = 0)) (llst (xs := [.int (gi xs 5 % 30), .int (gi xs 5 % 1000)]) (ead (dmod (by decide) (gx (i := 5) y4 (by decide) rfl) di) (ead (dmod (by decide) (gx (i := 5) y4 (by decide) rfl) di) ean))) (dint D T.m_int (eqIv (dmod (by decide) (gx (i := 6) y4 (by decide) rfl) di) di))) fun v5 H5 x5 tv5 => ?_)
  have y5 := y4.trans x5
  refine ssc (sifM (fun σ' H' => σ' = [some (.ref xa), some (.ref ka), some (.ref wa'), some u4, some (.str (kindX xs kinds)), some (.int (gi xs 3 % 8)), some (.str (unitX xs far)), some (.int (manyX xs far))] ∧ Ex H H') (tnot (tval (dn D 3 (a4.ex y5)))) (fun hf H6 x6 => ?_) (fun hf H6 x6 => ss0 ?_) ?_)
  · have hf : far = false := by simpa using hf
    subst hf
    have y6 := y5.trans x6
    refine ssc (asgD D 6 (lix (llst (xs := (["days", "days", "months"] : List Str).map .str) (ead ds (ead ds (ead ds ean)))) (dmod (by decide) (gx (i := 4) y6 (by decide) rfl) di) (atS m4.1 m4.2)) fun v7 H7 x7 tv7 => ?_)
    obtain rfl := tv7.str_iff
    have y7 := y6.trans x7
    refine ss1 (asgD D 7 (dpickB (c := decide ((["days", "days", "months"] : List Str).getD (gi xs 4 % 3).toNat "" = "months")) (llst (xs := [.int (gi xs 5 % 21), .int (gi xs 5 % 2)]) (ead (dmod (by decide) (gx (i := 5) y7 (by decide) rfl) di) (ead (dmod (by decide) (gx (i := 5) y7 (by decide) rfl) di) ean))) (dint D T.m_int (eqSv (dns D 6) ds))) fun v8 H8 x8 tv8 => ?_)
    have e8 : v8 = .int (manyX xs false) := by
      have m : manyX xs false = (if decide ((["days", "days", "months"] : List Str).getD (gi xs 4 % 3).toNat "" = "months") = true then gi xs 5 % 2 else gi xs 5 % 21) := rfl
      rw [m]
      split at tv8 <;> rename_i hc
      · rw [if_pos hc]; exact tv8.int_iff
      · rw [if_neg hc]; exact tv8.int_iff
    subst e8
    refine ⟨?_, y7.trans x8⟩
    show _ = _
    unfold unitX
    rw [if_neg (by decide)] <;> rfl
  · have hf : far = true := by simpa using hf
    subst hf
    have e5 : v5 = .int (manyX xs true) := by
      unfold manyX
      rw [if_pos rfl]
      split at tv5 <;> rename_i hc
      · rw [if_pos hc]; exact tv5.int_iff
      · rw [if_neg hc]; exact tv5.int_iff
    subst e5
    refine ⟨?_, y5.trans x6⟩
    unfold unitX
    rw [if_pos rfl] <;> rfl
  · rintro σ' H6 ⟨rfl, y6⟩
    have m2 : 0 ≤ gi xs 3 % 8 % 2 ∧ gi xs 3 % 8 % 2 < ((2 : Nat) : Int) := by omega
    have e2 : PyData.str ((["keep", "gone"] : List Str).getD (gi xs 3 % 8 % 2).toNat "") = .str (Parts.span (decide (gi xs 3 % 2 = 0)) (kindX xs kinds) (sinceM (gi xs 7) words) (manyX xs far) (unitX xs far)).word := by
      have h : gi xs 3 % 8 % 2 = gi xs 3 % 2 := by omega
      rw [h]
      have h3 : gi xs 3 % 2 = 0 ∨ gi xs 3 % 2 = 1 := by omega
      rcases h3 with h3 | h3 <;> rw [h3] <;> rfl
    refine ss1 (retD (dtup (xs := [.str (Parts.span (decide (gi xs 3 % 2 = 0)) (kindX xs kinds) (sinceM (gi xs 7) words) (manyX xs far) (unitX xs far)).word, .str (kindX xs kinds), (sinceM (gi xs 7) words).d, .int (manyX xs far), .str (unitX xs far)]) (ead (ED.to (lix (llst (xs := (["keep", "gone"] : List Str).map .str) (ead ds (ead ds ean))) (dmod (by decide) (dni D 5) di) (atS m2.1 m2.2)) e2) (ead (dns D 4) (ead (dcall D (c_lsince T) (wa', gi xs 7, words) (ead (gx (i := 7) y6 (by decide) rfl) (eav (en D 2) ean)) fun H7 x7 => ⟨ex_l (y6.trans x7) sw, hw⟩) (ead (dni D 7) (ead (dns D 6) ean)))))) fun v H7 x7 r => hq v H7 (y6.trans x7) ?_)
    unfold partsX
    rw [if_neg nb]
    exact r
end
end G
namespace G
open PySem PySem.Spec PyProof.Rows L2 Evl
open PySem.W (dataLe AllAlike Sortable alike)
def someX (xs : List Int) (names : List Str) : List Str := ((List.range names.length).filter fun k => decide (gi xs 3 / 2 ^ k % 2 = 1) && decide (gi xs 4 / 2 ^ k % 2 = 1)).map fun k => names.getD k ""
def mkX (xs : List Int) (names : List Str) : List Str := ((someX xs names).mergeSort (dataLe false PyData.str)).take 4
structure PoolS where
  names : List Str
  kinds : List Str
  words : List Str
  rules : List Str
def nameX (xs : List Int) (names : List Str) : Str := names.getD (gi xs 1 % (names.length : Int)).toNat ""
def aimX (xs : List Int) (p : PoolS) : Str := if gi xs 3 % 2 = 0 then p.names.getD (gi xs 2 % (p.names.length : Int)).toNat "" else p.kinds.getD (gi xs 2 % (p.kinds.length : Int)).toNat ""
def deedX (w : Str) (xs : List Int) (p : PoolS) (far : Bool) : Deed :=
  if w = "paper" then .paper (lawDayM (gi xs 0) far) (nameX xs p.names) (kindX xs p.kinds) (mkX xs p.names)
  else if w = "happens" then .happens (lawDayM (gi xs 0) far) (nameX xs p.names) (p.words.getD (gi xs 2 % 2).toNat "")
  else if w = "rule" then .rule (lawDayM (gi xs 0) far) (nameX xs p.rules) (partsX xs p.kinds p.words far)
  else if w = "hold" then .hold (lawDayM (gi xs 0) far) (p.rules.getD (gi xs 1 % 2).toNat "") (if gi xs 3 % 2 = 0 then "paper" else "kind") (aimX xs p) (decide (gi xs 4 % 2 = 0))
  else if w = "leave" then .leave (lawDayM (gi xs 0) far) (nameX xs p.names) (kindX xs p.kinds)
  else if w = "lift" then .lift (lawDayM (gi xs 0) far) (p.rules.getD (gi xs 1 % 2).toNat "")
  else .fin (lawDayM (gi xs 0) far) (nameX xs p.rules)
structure PoolsOk (p : PoolS) : Prop where
  n : 2 ≤ p.names.length ∧ p.names.length ≤ 20
  k : 2 ≤ p.kinds.length ∧ p.kinds.length ≤ 20
  w : p.words.length = 2
  r : 2 ≤ p.rules.length ∧ p.rules.length ≤ 20
def PoolsAt (K : PySem.W.Frag) (H : Hp) (t : Addr) (p : PoolS) : Prop := ∃ a1 a2 a3 a4, SqT K H t [.ref a1, .ref a2, .ref a3, .ref a4] ∧ H a1 = some (.lst (p.names.map .str)) ∧ H a2 = some (.lst (p.kinds.map .str)) ∧ H a3 = some (.lst (p.words.map .str)) ∧ H a4 = some (.lst (p.rules.map .str))
theorem alike_str (a b : Str) : alike (.str a) (.str b) = true := by simp [alike]
theorem depth_str (a : Str) : (PyData.str a).depth ≤ 50 := by simp [PyData.depth]
section
variable {P : Program} {w : World} {K : PySem.W.Frag} {mg : Str → Option Value} {base : Heap}
theorem c_ldeed (T : Txt K mg) : Cal P w K mg base 3 "_law_deed" ["_law_sort", "_law_xs", "_law_pools_here", "_law_far_here"] (SpD K (fun a : (Addr × Addr) × Str × List Int × PoolS × Bool => [.d (.str a.2.1), .v (.ref a.1.1), .v (.ref a.1.2), .d (.bool a.2.2.2.2)])
    (fun a H => SqL K H a.1.1 (a.2.2.1.map .int) ∧ PoolsAt K H a.1.2 a.2.2.2.1 ∧ PoolsOk a.2.2.2.1 ∧ a.2.2.1.length = 9 ∧ a.2.1 ∈ (["paper", "rule", "happens", "hold", "end", "lift", "leave"] : List Str)) (fun a => (deedX a.2.1 a.2.2.1 a.2.2.2.1 a.2.2.2.2).d)) := by
  obtain ⟨fd, F⟩ := T.f__law_deed
  refine mkCal F T.g__law_deed S__law_deed H__law_deed (fun _ _ _ _ _ _ us hl => match us, hl with | [_, _, _, _], _ => rfl) (fun _ => rfl) ?_
  rintro X rfl rfl rfl rfl rfl D ⟨⟨xa, ta⟩, ws, xs, p, far⟩ vs H Q hv ⟨sx, hp, hok, hx, hsort⟩ hq
  dsimp only at hv sx hp hok hx hsort hq
  obtain ⟨n1, n2⟩ := hok.n
  obtain ⟨k1, k2⟩ := hok.k
  obtain ⟨r1, r2⟩ := hok.r
  have w1 := hok.w
  obtain ⟨a1, a2, a3, a4, st, h1, h2, h3, h4⟩ := hp
  obtain ⟨u1, v1, rfl, t1', q1⟩ := hv.cd
  obtain rfl := t1'.str_iff
  obtain ⟨v2, rfl, q2⟩ := q1.cv
  obtain ⟨v3, rfl, q3⟩ := q2.cv
  obtain ⟨u4, rfl, t4⟩ := q3.d1
  have lq : ∀ {a : Addr} {H1 : Hp} {l : List Str}, Ex H H1 → H a = some (.lst (l.map .str)) → SqL X.K H1 a (l.map .str) := fun e h => .inl (.inl (e _ _ h))
  refine ssc (sasg (R := fun _ v => v = .ref ta) (fun H1 x1 Q1 qq => (en D 2 : EV X _ _ H (.ref ta)) H1 x1 Q1 fun H2 x2 => qq _ H2 x2 rfl) fun v H1 x1 e => ?_)
  subst e
  refine g4v D 4 5 6 7 (ex_t x1 st) ?_
  have gx : ∀ {σ : L2.St} {H1 : Hp} {p p1 p2 : Pos} {j : Nat} {i : Nat}, Ex H H1 → i < 9 → σ[1]? = some (some (.ref xa)) → ED X (.Subscript (.Name "_law_xs" p) (.Constant (.int (i : Int)) j p1) p2) σ H1 (.int (gi xs i)) := fun e hi hs => dixV (en D 1 hs) (ex_l e sx) (TDs.of_ints xs) di (atNs (by rw [hx]; exact hi))
  have gb : ∀ (i : Nat) {scope : Scope} (b : Bk) {σ : L2.St} {H1 : Hp} {p p1 p2 : Pos} {j : Nat}, Ex H H1 → i < 9 → σ[1]? = some (some (.ref xa)) → visB scope "_law_xs" = true → ED (Xb X scope b) (.Subscript (.Name "_law_xs" p) (.Constant (.int (i : Int)) j p1) p2) σ H1 (.int (gi xs i)) := by
    intro i scope b σ H1 p p1 p2 j e hi hs hvb
    exact dixV (en (D.b b) 1 hs (hv := hvb)) (ex_l e sx) (TDs.of_ints xs) di (atNs (by rw [hx]; exact hi))
  refine ssc (asgD D 8 (dcall D (c_lday T) (gi xs 0, far) (ead (gx (i := 0) x1 (by decide) rfl) (ead (dn D 3 (t4.ex x1)) ean)) fun _ _ => trivial) fun v8 H2 x2 t8 => ?_)
  obtain rfl := t8.int_iff
  have y2 := x1.trans x2
  have y := y2
  have i1 : 0 ≤ gi xs 1 % (p.names.length : Int) ∧ gi xs 1 % (p.names.length : Int) < (p.names.length : Int) := ⟨Int.emod_nonneg _ (by omega), Int.emod_lt_of_pos _ (by omega)⟩
  have i2 : 0 ≤ gi xs 2 % 3 % (p.kinds.length : Int) ∧ gi xs 2 % 3 % (p.kinds.length : Int) < (p.kinds.length : Int) := ⟨Int.emod_nonneg _ (by omega), Int.emod_lt_of_pos _ (by omega)⟩
  have i3 : 0 ≤ gi xs 1 % (p.rules.length : Int) ∧ gi xs 1 % (p.rules.length : Int) < (p.rules.length : Int) := ⟨Int.emod_nonneg _ (by omega), Int.emod_lt_of_pos _ (by omega)⟩
  have i4 : 0 ≤ gi xs 2 % 2 ∧ gi xs 2 % 2 < (p.words.length : Int) := by omega
  have i5 : 0 ≤ gi xs 1 % 2 ∧ gi xs 1 % 2 < (p.rules.length : Int) := by omega
  have i6 : 0 ≤ gi xs 2 % (p.names.length : Int) ∧ gi xs 2 % (p.names.length : Int) < (p.names.length : Int) := ⟨Int.emod_nonneg _ (by omega), Int.emod_lt_of_pos _ (by omega)⟩
  have i7 : 0 ≤ gi xs 2 % (p.kinds.length : Int) ∧ gi xs 2 % (p.kinds.length : Int) < (p.kinds.length : Int) := ⟨Int.emod_nonneg _ (by omega), Int.emod_lt_of_pos _ (by omega)⟩
  -- names[xs[1] % len(names)], kinds[xs[2] % 3 % len(kinds)], rules[..]
  refine ssc (sif (eqS (dns D 0) ds) (fun hb H3 x3 => ?_) fun hb H3 x3 => ss0 ?_)
  · have hb : ws = "paper" := of_decide_eq_true hb
    have y3 := y.trans x3
    refine ssc (asgLcR (n := (p.names.length : Int)) (fun k => decide (gi xs 3 / 2 ^ k % 2 = 1) && decide (gi xs 4 / 2 ^ k % 2 = 1)) (fun k => .str (p.names.getD k "")) D 9 [("_law_k", 11)] T.m_range (ED.to (dlenV D T.m_len (en D 4) (lq y3 h1)) (by rw [List.length_map])) (by omega) (fun H4 j x4 hj => t1 D 11 (fun b => EW.et (tandc (eqI (dbit (dshr (gb 3 b (y3.trans x4) (by decide) rfl (by decide +kernel)) (dni (D.b b) 11)) di) di) fun _ => tand1 (eqI (dbit (dshr (gb 4 b (y3.trans x4) (by decide) rfl (by decide +kernel)) (dni (D.b b) 11)) di) di))) fun _ b => dixV (en (D.b b) 4) (lq (y3.trans x4) h1) (TDs.of_strs p.names) (dni (D.b b) 11) (atS (i := (j : Int)) (by omega) (by omega))) fun q3 xs3 H4 hq30 x4 hqs3 tx3 => ?_)
    have e3 : kept (fun k => decide (gi xs 3 / 2 ^ k % 2 = 1) && decide (gi xs 4 / 2 ^ k % 2 = 1)) (fun k => PyData.str (p.names.getD k "")) (List.range (p.names.length : Int).toNat) = (someX xs p.names).map .str := by
      unfold kept someX
      rw [List.map_map] <;> rfl
    rw [e3] at tx3
    have y4 := y3.trans x4
    refine ss1 (retD (dtup (xs := [.str "paper", .int (lawDayM (gi xs 0) far), .str (nameX xs p.names), .str (kindX xs p.kinds), .tuple ((mkX xs p.names).map .str)]) (ead ds (ead (dni D 8) (ead (dixV (en D 4) (lq y4 h1) (TDs.of_strs p.names) (dmod (i := gi xs 1) (j := (p.names.length : Int)) (by omega) (gx (i := 1) y4 (by decide) rfl) (ED.to (dlenV D T.m_len (en D 4) (lq y4 h1)) (by rw [List.length_map]))) (atS i1.1 i1.2)) (ead (dixV (en D 5) (lq y4 h2) (TDs.of_strs p.kinds) (dmod (i := gi xs 2 % 3) (j := (p.kinds.length : Int)) (by omega) (dmod (by decide) (gx (i := 2) y4 (by decide) rfl) di) (ED.to (dlenV D T.m_len (en D 5) (lq y4 h2)) (by rw [List.length_map]))) (atS i2.1 i2.2)) (ead (ED.to (dtuple D T.m_tuple (lslice (lsortedV (enc := PyData.str) (bs := someX xs p.names) D T.m_sorted (en D 9) (.inl (.inl hqs3)) tx3 (.of alike_str) (.others fun b => ⟨fun z => (nomatch z), fun _ z => (nomatch z)⟩) fun b _ => depth_str b) on (os di))) ?_) ean)))))) fun v H5 x5 r => hq v H5 (y4.trans x5) ?_)
    · refine congrArg PyData.tuple ?_
      unfold mkX
      rw [List.map_take]
      exact cut_take _ 4
    · unfold deedX
      rw [if_pos hb]
      exact r
  have nb1 : ¬ ws = "paper" := of_decide_eq_false hb
  clear hb
  replace y := y.trans x3
  clear x3
  refine ssc (sif (eqS (dns D 0) ds) (fun hb H4 x4 => ?_) fun hb H4 x4 => ss0 ?_)
  · have hb : ws = "happens" := of_decide_eq_true hb
    have y4 := y.trans x4
    refine ss1 (retD (dtup (xs := [.str "happens", .int (lawDayM (gi xs 0) far), .str (nameX xs p.names), .str (p.words.getD (gi xs 2 % 2).toNat "")]) (ead ds (ead (dni D 8) (ead (dixV (en D 4) (lq y4 h1) (TDs.of_strs p.names) (dmod (i := gi xs 1) (j := (p.names.length : Int)) (by omega) (gx (i := 1) y4 (by decide) rfl) (ED.to (dlenV D T.m_len (en D 4) (lq y4 h1)) (by rw [List.length_map]))) (atS i1.1 i1.2)) (ead (dixV (en D 6) (lq y4 h3) (TDs.of_strs p.words) (dmod (by decide) (gx (i := 2) y4 (by decide) rfl) di) (atS i4.1 i4.2)) ean))))) fun v H5 x5 r => hq v H5 (y4.trans x5) ?_)
    unfold deedX
    rw [if_neg nb1, if_pos hb]
    exact r
  have nb2 : ¬ ws = "happens" := of_decide_eq_false hb
  clear hb
  replace y := y.trans x4
  clear x4
  refine ssc (sif (eqS (dns D 0) ds) (fun hb H4 x4 => ?_) fun hb H4 x4 => ss0 ?_)
  · have hb : ws = "rule" := of_decide_eq_true hb
    have y4 := y.trans x4
    refine ss1 (retD (dtup (xs := [.str "rule", .int (lawDayM (gi xs 0) far), .str (nameX xs p.rules), (partsX xs p.kinds p.words far).d]) (ead ds (ead (dni D 8) (ead (dixV (en D 7) (lq y4 h4) (TDs.of_strs p.rules) (dmod (i := gi xs 1) (j := (p.rules.length : Int)) (by omega) (gx (i := 1) y4 (by decide) rfl) (ED.to (dlenV D T.m_len (en D 7) (lq y4 h4)) (by rw [List.length_map]))) (atS i3.1 i3.2)) (ead (dcall D (c_lparts T) ((xa, a2, a3), xs, p.kinds, p.words, far) (eav (en D 1) (eav (en D 5) (eav (en D 6) (ead (dn D 3 (t4.ex y4)) ean)))) fun H5 x5 => ⟨ex_l (y4.trans x5) sx, lq (y4.trans x5) h2, lq (y4.trans x5) h3, hx, ⟨Nat.lt_of_lt_of_le (by decide) k1, k2⟩, Nat.le_of_eq w1.symm⟩) ean))))) fun v H5 x5 r => hq v H5 (y4.trans x5) ?_)
    unfold deedX
    rw [if_neg nb1, if_neg nb2, if_pos hb]
    exact r
  have nb3 : ¬ ws = "rule" := of_decide_eq_false hb
  clear hb
  replace y := y.trans x4
  clear x4
  refine ssc (sif (eqS (dns D 0) ds) (fun hb H4 x4 => ?_) fun hb H4 x4 => ss0 ?_)
  · have hb : ws = "hold" := of_decide_eq_true hb
    have y4 := y.trans x4
    have eat : atI [PyData.tuple [.str "paper", .str (p.names.getD (gi xs 2 % (p.names.length : Int)).toNat "")], .tuple [.str "kind", .str (p.kinds.getD (gi xs 2 % (p.kinds.length : Int)).toNat "")]] (gi xs 3 % 2) = some (.tuple [.str (if gi xs 3 % 2 = 0 then "paper" else "kind"), .str (aimX xs p)]) := by
      have h3 : gi xs 3 % 2 = 0 ∨ gi xs 3 % 2 = 1 := by omega
      unfold aimX
      rcases h3 with h | h
      · rw [h]
        exact at0
      · rw [h]
        exact at1
    refine ssc (asgD D 10 (lix (llst (xs := [.tuple [.str "paper", .str (p.names.getD (gi xs 2 % (p.names.length : Int)).toNat "")], .tuple [.str "kind", .str (p.kinds.getD (gi xs 2 % (p.kinds.length : Int)).toNat "")]])
      (ead (dtup (xs := [.str "paper", .str (p.names.getD (gi xs 2 % (p.names.length : Int)).toNat "")]) (ead ds (ead (dixV (en D 4) (lq y4 h1) (TDs.of_strs p.names) (dmod (i := gi xs 2) (j := (p.names.length : Int)) (by omega) (gx (i := 2) y4 (by decide) rfl) (ED.to (dlenV D T.m_len (en D 4) (lq y4 h1)) (by rw [List.length_map]))) (atS i6.1 i6.2)) ean)))
      (ead (dtup (xs := [.str "kind", .str (p.kinds.getD (gi xs 2 % (p.kinds.length : Int)).toNat "")]) (ead ds (ead (dixV (en D 5) (lq y4 h2) (TDs.of_strs p.kinds) (dmod (i := gi xs 2) (j := (p.kinds.length : Int)) (by omega) (gx (i := 2) y4 (by decide) rfl) (ED.to (dlenV D T.m_len (en D 5) (lq y4 h2)) (by rw [List.length_map]))) (atS i7.1 i7.2)) ean))) ean))) (dmod (by decide) (gx (i := 3) y4 (by decide) rfl) di) eat) fun u10 H5 x5 t10 => ?_)
    have y5 := y4.trans x5
    refine ss1 (retD (dtup (xs := [.str "hold", .int (lawDayM (gi xs 0) far), .str (p.rules.getD (gi xs 1 % 2).toNat ""), .tuple [.str (if gi xs 3 % 2 = 0 then "paper" else "kind"), .str (aimX xs p)], .bool (decide (gi xs 4 % 2 = 0))]) (ead ds (ead (dni D 8) (ead (dixV (en D 7) (lq y5 h4) (TDs.of_strs p.rules) (dmod (by decide) (gx (i := 1) y5 (by decide) rfl) di) (atS i5.1 i5.2)) (ead (dn D 10 t10) (ead (eqIv (dmod (by decide) (gx (i := 4) y5 (by decide) rfl) di) di) ean)))))) fun v H6 x6 r => hq v H6 (y5.trans x6) ?_)
    unfold deedX
    rw [if_neg nb1, if_neg nb2, if_neg nb3, if_pos hb]
    exact r
  have nb4 : ¬ ws = "hold" := of_decide_eq_false hb
  clear hb
  replace y := y.trans x4
  clear x4
  refine ssc (sif (eqS (dns D 0) ds) (fun hb H4 x4 => ?_) fun hb H4 x4 => ss0 ?_)
  · have hb : ws = "leave" := of_decide_eq_true hb
    have y4 := y.trans x4
    refine ss1 (retD (dtup (xs := [.str "leave", .int (lawDayM (gi xs 0) far), .str (nameX xs p.names), .str (kindX xs p.kinds)]) (ead ds (ead (dni D 8) (ead (dixV (en D 4) (lq y4 h1) (TDs.of_strs p.names) (dmod (i := gi xs 1) (j := (p.names.length : Int)) (by omega) (gx (i := 1) y4 (by decide) rfl) (ED.to (dlenV D T.m_len (en D 4) (lq y4 h1)) (by rw [List.length_map]))) (atS i1.1 i1.2)) (ead (dixV (en D 5) (lq y4 h2) (TDs.of_strs p.kinds) (dmod (i := gi xs 2 % 3) (j := (p.kinds.length : Int)) (by omega) (dmod (by decide) (gx (i := 2) y4 (by decide) rfl) di) (ED.to (dlenV D T.m_len (en D 5) (lq y4 h2)) (by rw [List.length_map]))) (atS i2.1 i2.2)) ean))))) fun v H5 x5 r => hq v H5 (y4.trans x5) ?_)
    unfold deedX
    rw [if_neg nb1, if_neg nb2, if_neg nb3, if_neg nb4, if_pos hb]
    exact r
  have nb5 : ¬ ws = "leave" := of_decide_eq_false hb
  clear hb
  have y4 := y.trans x4
  have hl2 : ws = "end" ∨ ws = "lift" := by
    simp only [List.mem_cons, List.not_mem_nil, or_false] at hsort
    rcases hsort with h | h | h | h | h | h | h
    · exact absurd h nb1
    · exact absurd h nb3
    · exact absurd h nb2
    · exact absurd h nb4
    · exact .inl h
    · exact .inr h
    · exact absurd h nb5
  have jz : 0 < (if decide (ws = "lift") = true then (2 : Int) else (p.rules.length : Int)) ∧ (if decide (ws = "lift") = true then (2 : Int) else (p.rules.length : Int)) ≤ (p.rules.length : Int) := by
    split <;> omega
  have epk : (if decide (ws = "lift") = true then PyData.int 2 else .int (p.rules.length : Int)) = .int (if decide (ws = "lift") = true then (2 : Int) else (p.rules.length : Int)) := by
    split <;> rfl
  refine ss1 (retD (dtup (xs := [.str ws, .int (lawDayM (gi xs 0) far), .str (p.rules.getD (gi xs 1 % (if decide (ws = "lift") = true then (2 : Int) else (p.rules.length : Int))).toNat "")]) (ead (dns D 0) (ead (dni D 8) (ead (dixV (en D 7) (lq y4 h4) (TDs.of_strs p.rules) (dmod (i := gi xs 1) (j := if decide (ws = "lift") = true then (2 : Int) else (p.rules.length : Int)) jz.1 (gx (i := 1) y4 (by decide) rfl) (ED.to (dpickB (c := decide (ws = "lift")) (llst (xs := [.int (p.rules.length : Int), .int 2]) (ead (ED.to (dlenV D T.m_len (en D 7) (lq y4 h4)) (by rw [List.length_map])) (ead di ean))) (dint D T.m_int (eqSv (dns D 0) ds))) epk)) (atS (Int.emod_nonneg _ (by omega)) (Int.lt_of_lt_of_le (Int.emod_lt_of_pos _ jz.1) jz.2))) ean)))) fun v H5 x5 r => hq v H5 (y4.trans x5) ?_)
  unfold deedX
  rw [if_neg nb1, if_neg nb2, if_neg nb3, if_neg nb4, if_neg nb5]
  rcases hl2 with h | h
  · have hn : ¬ ws = "lift" := by rw [h]; decide +kernel
    rw [if_neg hn]
    rw [if_neg (by rw [decide_eq_true_eq]; exact hn), h] at r
    exact r
  · rw [if_pos h]
    rw [if_pos (decide_eq_true h), h] at r
    exact r
end
end G
/-! The law's names are names, unlike; what it draws is a deed. Plain Lean. -/
namespace G
open PySem
open PySem.W (dataLe)
theorem getD_in {l : List Str} {i : Nat} (h : i < l.length) : l.getD i "" ∈ l := by
  rw [show l.getD i "" = l[i] by simp [List.getD, List.getElem?_eq_getElem h]]
  exact List.getElem_mem h
theorem getD_at {l : List Str} {i : Int} (h0 : 0 ≤ i) (h : i < (l.length : Int)) : l.getD i.toNat "" ∈ l := getD_in (by omega)
theorem words_nd : wordsL.Nodup := by
  have : (decide wordsL.Nodup) = true := by decide +kernel
  exact of_decide_eq_true this
theorem pool_name (x : Int) (n : Nat) : ∀ s ∈ poolM x n, nameB s = true := by
  intro s hs
  unfold poolM at hs
  split at hs
  · obtain ⟨k, _, rfl⟩ := List.mem_map.mp hs
    have hz : (x / 344 + (k : Int)) % 22 < (wordsL.length : Int) := by
      show _ < ((22 : Nat) : Int)
      omega
    exact List.all_eq_true.mp words_name _ (getD_at (by omega) hz)
  · obtain ⟨k, _, rfl⟩ := List.mem_map.mp hs
    exact nameAt_ok x k
theorem getD_inj {l : List Str} (h : l.Nodup) {i j : Nat} (hi : i < l.length) (hj : j < l.length) (e : l.getD i "" = l.getD j "") : i = j := by
  rw [show l.getD i "" = l[i] by simp [List.getD, List.getElem?_eq_getElem hi], show l.getD j "" = l[j] by simp [List.getD, List.getElem?_eq_getElem hj]] at e
  rcases Nat.lt_trichotomy i j with q | q | q
  · exact absurd e (List.pairwise_iff_getElem.mp h i j hi hj q)
  · exact q
  · exact absurd e.symm (List.pairwise_iff_getElem.mp h j i hj hi q)
theorem pool_nd (x : Int) : (poolM x 7).Nodup := by
  unfold poolM
  have hr : (List.range 7).Pairwise (· < ·) := List.pairwise_lt_range
  split
  · refine List.pairwise_map.mpr (hr.imp_of_mem fun {i j} hi hj h e => ?_)
    have hi := List.mem_range.mp hi
    have hj := List.mem_range.mp hj
    have hz : ∀ k : Nat, ((x / 344 + (k : Int)) % 22).toNat < wordsL.length := fun k => by
      show _ < 22
      omega
    have := getD_inj words_nd (hz i) (hz j) e
    omega
  · refine List.pairwise_map.mpr (hr.imp_of_mem fun {i j} hi hj h e => ?_)
    have hi := List.mem_range.mp hi
    have hj := List.mem_range.mp hj
    have e2 := congrArg (fun s : Str => s.cps.toList) e
    unfold nameAt at e2
    simp only at e2
    have e3 := List.append_cancel_right e2
    have e4 := List.append_cancel_left e3
    have e5 : letC (x / 1664 + 5 * (i : Int)) = letC (x / 1664 + 5 * (j : Int)) := by simpa using e4
    unfold letC at e5
    omega
def poolS (x : Int) : PoolS := ⟨poolNames x, poolKinds x, poolWords x, poolRules x⟩
/-- all of a pool are names; those of papers are unlike -/
structure PoolGood (p : PoolS) : Prop extends PoolsOk p where
  nn : ∀ s ∈ p.names, nameB s = true
  kn : ∀ s ∈ p.kinds, nameB s = true
  wn : ∀ s ∈ p.words, nameB s = true
  rn : ∀ s ∈ p.rules, nameB s = true
  nd : p.names.Nodup
theorem pool_good (x : Int) : PoolGood (poolS x) := by
  have pl := pool_len x 7
  refine ⟨⟨?_, ?_, ?_, ?_⟩, ?_, ?_, ?_, ?_, ?_⟩
  · show 2 ≤ (poolNames x).length ∧ (poolNames x).length ≤ 20
    unfold poolNames
    rw [List.length_take]
    omega
  · show 2 ≤ (poolKinds x).length ∧ (poolKinds x).length ≤ 20
    unfold poolKinds
    rw [List.length_take, List.length_drop]
    omega
  · show (poolWords x).length = 2
    unfold poolWords
    rw [List.length_take, List.length_drop]
    omega
  · show 2 ≤ (poolRules x).length ∧ (poolRules x).length ≤ 20
    unfold poolRules
    rw [List.length_take, List.length_drop]
    omega
  · exact fun s hs => pool_name x 7 s (List.mem_of_mem_take hs)
  · exact fun s hs => pool_name x 7 s (List.mem_of_mem_drop (List.mem_of_mem_take hs))
  · exact fun s hs => pool_name x 7 s (List.mem_of_mem_drop (List.mem_of_mem_take hs))
  · exact fun s hs => pool_name x 7 s (List.mem_of_mem_drop (List.mem_of_mem_take hs))
  · exact (pool_nd x).sublist (List.take_sublist _ _)
theorem some_in {xs : List Int} {names : List Str} {s : Str} (h : s ∈ someX xs names) : s ∈ names := by
  unfold someX at h
  obtain ⟨k, hk, rfl⟩ := List.mem_map.mp h
  exact getD_in (List.mem_range.mp (List.mem_filter.mp hk).1)
theorem some_nd {xs : List Int} {names : List Str} (h : names.Nodup) : (someX xs names).Nodup := by
  unfold someX
  have hr : (List.range names.length).Pairwise (· < ·) := List.pairwise_lt_range
  refine List.pairwise_map.mpr ((hr.sublist List.filter_sublist).imp_of_mem fun {i j} hi hj h2 e => ?_)
  have hi := List.mem_range.mp (List.mem_filter.mp hi).1
  have hj := List.mem_range.mp (List.mem_filter.mp hj).1
  have := getD_inj h hi hj e
  omega
def leT (a b : Str) : Bool := decide (a.cps.toList ≤ b.cps.toList)
theorem leT_eq : dataLe false PyData.str = leT := PySem.W.dataLe_str (fun b : Str => b)
theorem leT_trans (a b c : Str) (h1 : leT a b = true) (h2 : leT b c = true) : leT a c = true := decide_eq_true (List.le_trans (of_decide_eq_true h1) (of_decide_eq_true h2))
theorem leT_total (a b : Str) : (leT a b || leT b a) = true := by
  unfold leT
  rcases List.le_total a.cps.toList b.cps.toList with h | h <;> simp [h]
theorem mk_ok {xs : List Int} {names : List Str} (h : names.Nodup) : (mkX xs names).length ≤ 4 ∧ (∀ s ∈ mkX xs names, s ∈ names) ∧ (mkX xs names).Pairwise fun a b => a.cps.toList < b.cps.toList := by
  unfold mkX
  rw [leT_eq]
  refine ⟨by rw [List.length_take]; omega, fun s hs => some_in (List.mem_mergeSort.mp (List.mem_of_mem_take hs)), ?_⟩
  have h1 := List.pairwise_mergeSort (le := leT) leT_trans leT_total (someX xs names)
  have h2 : ((someX xs names).mergeSort leT).Nodup := (List.mergeSort_perm _ _).nodup_iff.mpr (some_nd h)
  refine ((h1.and h2).sublist (List.take_sublist _ _)).imp fun ⟨a, b⟩ => ?_
  have a' := of_decide_eq_true a
  refine Classical.byContradiction fun q => b (leS_anti ?_ ?_)
  · unfold leS
    rw [decide_eq_false (List.not_lt.mpr a')] <;> rfl
  · unfold leS
    rw [decide_eq_false q] <;> rfl
theorem gi_nn {xs : List Int} {k : Nat} (h : ∀ i ∈ xs, 0 ≤ i) : 0 ≤ gi xs k := by
  unfold gi
  by_cases q : k < xs.length
  · rw [show xs.getD k 0 = xs[k] by simp [List.getD, List.getElem?_eq_getElem q]]
    exact h _ (List.getElem_mem q)
  · rw [show xs.getD k 0 = 0 by simp [List.getD, List.getElem?_eq_none (by omega : xs.length ≤ k)]]
    exact Int.le_refl _
theorem kindX_ok {xs : List Int} {p : PoolS} (h : PoolGood p) : nameB (kindX xs p.kinds) = true := by
  have := h.k
  exact h.kn _ (getD_at (Int.emod_nonneg _ (by omega)) (Int.emod_lt_of_pos _ (by omega)))
theorem nameX_ok {xs : List Int} {l : List Str} (h : 2 ≤ l.length) (hn : ∀ s ∈ l, nameB s = true) : nameB (nameX xs l) = true :=
  hn _ (getD_at (Int.emod_nonneg _ (by omega)) (Int.emod_lt_of_pos _ (by omega)))
theorem units_in : ∀ far : Bool, ∀ i : Nat, i < 3 → (if far = true then (["days", "months", "years"] : List Str).getD i "" else (["days", "days", "months"] : List Str).getD i "") ∈ (["days", "months", "years"] : List Str) := by
  intro far i hi
  have : i = 0 ∨ i = 1 ∨ i = 2 := by omega
  cases far <;> rcases this with rfl | rfl | rfl <;> simp
theorem parts_ok {xs : List Int} {p : PoolS} (h : PoolGood p) (far : Bool) : (partsX xs p.kinds p.words far).ok := by
  unfold partsX
  split
  · rename_i h4
    refine ⟨getD_in ?_, kindX_ok h⟩
    show _ < 3
    omega
  · refine ⟨kindX_ok h, ?_, ?_, ?_⟩
    · have hw := h.w
      have hz : 0 ≤ gi xs 7 / 3 % 2 ∧ gi xs 7 / 3 % 2 < (p.words.length : Int) := by omega
      unfold sinceM
      split
      · trivial
      · split
        · exact h.wn _ (getD_at hz.1 hz.2)
        · exact h.wn _ (getD_at hz.1 hz.2)
    · unfold manyX
      split
      · split <;> omega
      · split <;> omega
    · unfold unitX
      exact units_in far _ (by omega)
theorem deedX_ok {w : Str} {xs : List Int} {p : PoolS} {far : Bool} (h : PoolGood p) (hx : ∀ i ∈ xs, 0 ≤ i) : (deedX w xs p far).ok := by
  have hd := lawDay_ok (gi_nn (k := 0) hx) far
  have hn := h.n
  have hk := h.k
  have hr := h.r
  have hw := h.w
  have nm : nameB (nameX xs p.names) = true := nameX_ok hn.1 h.nn
  have rl : nameB (nameX xs p.rules) = true := nameX_ok hr.1 h.rn
  have r2 : nameB (p.rules.getD (gi xs 1 % 2).toNat "") = true := h.rn _ (getD_at (by omega) (by omega))
  unfold deedX
  split
  · obtain ⟨m1, m2, m3⟩ := mk_ok (xs := xs) h.nd
    exact ⟨hd, nm, kindX_ok h, m1, fun x hx => h.nn _ (m2 x hx), m3⟩
  split
  · exact ⟨hd, nm, h.wn _ (getD_at (by omega) (by omega))⟩
  split
  · exact ⟨hd, rl, parts_ok h far⟩
  split
  · refine ⟨hd, r2, ?_, ?_⟩
    · split <;> simp
    · unfold aimX
      split
      · exact h.nn _ (getD_at (Int.emod_nonneg _ (by omega)) (Int.emod_lt_of_pos _ (by omega)))
      · exact h.kn _ (getD_at (Int.emod_nonneg _ (by omega)) (Int.emod_lt_of_pos _ (by omega)))
  split
  · exact ⟨hd, nm, kindX_ok h⟩
  split
  · exact ⟨hd, r2, trivial⟩
  · exact ⟨hd, rl, trivial⟩
end G
namespace G
open PySem PySem.Spec PyProof.Rows L2 Evl
def xsAt (ns : List Int) (a : Int) (k : Nat) : List Int := numbersM (cellM ns (a + 1 + (k : Int))) 9
def headM (ns : List Int) (a : Int) : List Int := numbersM (cellM ns a) 4
def deedAt (ns : List Int) (a : Int) (far : Bool) (k : Nat) : Deed := deedX (sortsL.getD k "") (xsAt ns a k) (poolS (gi (headM ns a) 1)) far
def stepF (ns : List Int) (a : Int) (far : Bool) (f : List Deed) (k : Nat) : List Deed :=
  if (decide (0 < gi (xsAt ns a k) 8 % 4) && !(f.any fun y => lawQ (deedAt ns a far k) y)) = true then f ++ [deedAt ns a far k] else f
def foundM (ns : List Int) (a : Int) (far : Bool) (n : Nat) : List Deed := (List.range n).foldl (stepF ns a far) []
def turnX (ns : List Int) (a : Int) (far : Bool) : Nat := (gi (headM ns a) 2 % ((foundM ns a far 19).length + 1)).toNat
def deedsM (ns : List Int) (a : Int) (far : Bool) : List Deed := (foundM ns a far 19).drop (turnX ns a far) ++ (foundM ns a far 19).take (turnX ns a far)
theorem found_step (ns : List Int) (a : Int) (far : Bool) (n : Nat) : foundM ns a far (n + 1) = stepF ns a far (foundM ns a far n) n := by
  unfold foundM
  rw [range_snoc, List.foldl_append] <;> rfl
theorem xs_ok (ns : List Int) (a : Int) (k : Nat) : (xsAt ns a k).length = 9 ∧ ∀ i ∈ xsAt ns a k, 0 ≤ i := ⟨(numbers_ok _ _).1, fun i hi => ((numbers_ok _ _).2 i hi).1⟩
theorem at_ok (ns : List Int) (a : Int) (far : Bool) (k : Nat) : (deedAt ns a far k).ok := deedX_ok (pool_good _) (xs_ok ns a k).2
theorem found_len (ns : List Int) (a : Int) (far : Bool) : ∀ n, (foundM ns a far n).length ≤ n
  | 0 => Nat.le_refl _
  | n + 1 => by
    rw [found_step]
    have := found_len ns a far n
    unfold stepF
    split
    · rw [List.length_append]
      simp only [List.length_cons, List.length_nil]
      omega
    · omega
theorem found_ok (ns : List Int) (a : Int) (far : Bool) : ∀ n, ∀ x ∈ foundM ns a far n, x.ok
  | 0 => fun _ h => by cases h
  | n + 1 => fun x hx => by
    rw [found_step] at hx
    unfold stepF at hx
    split at hx
    · rcases List.mem_append.mp hx with q | q
      · exact found_ok ns a far n x q
      · rw [List.mem_singleton.mp q]
        exact at_ok ns a far n
    · exact found_ok ns a far n x hx
theorem sort_in {k : Nat} (h : k < 19) : sortsL.getD k "" ∈ (["paper", "rule", "happens", "hold", "end", "lift", "leave"] : List Str) := by
  have h1 := getD_in (l := sortsL) h
  have : sortsL.all (fun s => decide (s ∈ (["paper", "rule", "happens", "hold", "end", "lift", "leave"] : List Str))) = true := by decide +kernel
  exact of_decide_eq_true (List.all_eq_true.mp this _ h1)
section
variable {P : Program} {w : World} {K : PySem.W.Frag} {mg : Str → Option Value} {base : Heap}
theorem c_ldeeds (T : Txt K mg) : Cal P w K mg base 4 "_law_deeds" ["_law_script", "_law_at", "_law_far_here"] (SpD K (fun a : Addr × List Int × Int × Bool => [.v (.ref a.1), .d (.int a.2.2.1), .d (.bool a.2.2.2)])
    (fun a H => SqL K H a.1 (a.2.1.map .int) ∧ 0 ≤ a.2.2.1 ∧ a.2.2.1 ≤ 900 ∧ a.2.1.length ≤ 63) (fun a => dd (deedsM a.2.1 a.2.2.1 a.2.2.2))) := by
  obtain ⟨fd, F⟩ := T.f__law_deeds
  refine mkCal F T.g__law_deeds S__law_deeds H__law_deeds (fun _ _ _ _ _ _ us hl => match us, hl with | [_, _, _], _ => rfl) (fun _ => rfl) ?_
  rintro X rfl rfl rfl rfl rfl D ⟨sa, ns, a, far⟩ vs H Q hv ⟨hs, a0, a1, hl⟩ hq
  dsimp only at hv hs a0 a1 hl hq
  obtain ⟨v1, rfl, q1⟩ := hv.cv
  obtain ⟨u2, u3, rfl, t2', t3'⟩ := q1.d2
  obtain rfl := t2'.int_iff
  have hn4 := numbers_ok (cellM ns a) 4
  refine ssc (asgL (ds := (headM ns a).map .int) D 3 (lcall D (c_numbers T) (cellM ns a, 4) (ead (dcall D (c_cell T) (sa, ns, a) (eav (en D 0) (ead (dni D 1) ean)) fun H1 x1 => ⟨ex_l x1 hs, a0, Int.le_trans a1 (by decide), hl⟩) (ead di ean)) fun _ _ => (by decide : 4 ≤ 20)) fun ha hx H1 ha0 x1 hha thx => ?_)
  obtain rfl := thx.ints
  refine ssc (asgR (R := fun H2 v => ∃ t, v = .ref t ∧ PoolsAt X.K H2 t (poolS (gi (headM ns a) 1))) D 4 (rcall D (c_lpools T) (by decide) (gi (headM ns a) 1) (ead (dixV (en D 3) (.inl (.inl hha)) (TDs.of_ints _) di (atNs (j := 1) (by rw [show (headM ns a).length = 4 from hn4.1]; decide))) ean) (fun _ _ => trivial) (hR := fun H2 H3 v x2 x3 r => by
    obtain ⟨t, a1, a2, a3, a4, e, s, h1, h2, h3, h4⟩ := r
    exact ⟨t, e, a1, a2, a3, a4, s, h1, h2, h3, h4⟩)) fun v4 H2 x2 r4 => ?_)
  obtain ⟨ta, rfl, hp⟩ := r4
  have y2 := x1.trans x2
  refine ssc (asg0 D 5 fun fa hfa => ?_)
  have hp3 : ∀ {H3 : Hp}, Ex H2 H3 → PoolsAt X.K H3 ta (poolS (gi (headM ns a) 1)) := fun e => by
    obtain ⟨a1, a2, a3, a4, s, h1, h2, h3, h4⟩ := hp
    exact ⟨a1, a2, a3, a4, ex_t e s, e _ _ h1, e _ _ h2, e _ _ h3, e _ _ h4⟩
  have fresh : ∀ {H3 : Hp}, Ex (upd H2 fa (.lst [])) H3 → Ex H2 H3 := fun e => (Ex.new hfa).trans e
  refine ssc (forEn (xs := sortsL.map .str) D T.m_enumerate (lcall0 D (c_lsorts T)) (fun p H4 i σ' H' => p ≠ fa ∧ (∃ w6 w7 w8 w9, σ' = [some (.ref sa), some (.int a), some u3, some (.ref ha), some (.ref ta), some (.ref fa), w6, w7, w8, w9, none, none]) ∧ Ex H2 H' ∧ Mo [fa] H4 H' ∧ ∃ acc, H' fa = some (.lst acc) ∧ TDs X.K H' acc ((foundM ns a far i).map Deed.d))
    (fun p H4 hp0 x4 => ⟨(fun e => by rw [e, upd_same] at hp0; cases hp0), ⟨none, none, none, none, rfl⟩, fresh x4, Mo.refl _ _, [], x4 _ _ upd_same, .nil⟩) (fun _ _ _ _ _ h => h.2.2.2.1.tm) (fun p H4 vs i σ' H' _ _ h1 h => h.2.2.2.1.keep _ _ (by simpa using h.1) h1) ?_ ?_)
  · rintro p H4 i d v σ' H5 H6 x4 hi ⟨hpf, ⟨w6, w7, w8, w9, rfl⟩, x5, M, acc, hacc, tacc⟩ x6 tv
    obtain ⟨so, hso, rfl⟩ := map_at hi
    have hi19 : i < 19 := (List.getElem?_eq_some_iff.mp hso).1
    have eso : so = sortsL.getD i "" := by
      rw [List.getD, hso] <;> rfl
    refine g2 D 6 7 tv fun u w tu tw => ?_
    obtain rfl := tu.int_iff
    obtain rfl := tw.str_iff
    have y6 := x5.trans x6
    refine ssc (asgL (ds := (xsAt ns a i).map .int) D 8 (lcall D (c_numbers T) (cellM ns (a + 1 + (i : Int)), 9) (ead (dcall D (c_cell T) (sa, ns, a + 1 + (i : Int)) (eav (en D 0) (ead (dadd (dadd (dni D 1) di) (dni D 6)) ean)) fun H1 xx => ⟨ex_l (((x1.trans x2).trans y6).trans xx) hs, by show 0 ≤ a + 1 + (i : Int); omega, by show a + 1 + (i : Int) ≤ 1000; omega, hl⟩) (ead di ean)) fun _ _ => (by decide : 9 ≤ 20)) fun xa xv H7 hxa0 x7 hxa txv => ?_)
    obtain rfl := txv.ints
    have hxl := (xs_ok ns a i).1
    refine ssc (asgD (d := (deedAt ns a far i).d) D 9 (ED.to (dcall D (c_ldeed T) ((xa, ta), so, xsAt ns a i, poolS (gi (headM ns a) 1), far) (ead (dns D 7) (eav (en D 8) (eav (en D 4) (ead (dn D 2 (t3'.ex (((x1.trans x2).trans y6).trans x7))) ean)))) fun H8 x8 => ⟨.inl (.inl (x8 _ _ hxa)), hp3 ((y6.trans x7).trans x8), (pool_good _).toPoolsOk, hxl, eso ▸ sort_in hi19⟩) (by rw [eso] <;> rfl)) fun v9 H8 x8 t9 => ?_)
    have z8 := x6.trans (x7.trans x8)
    have oka := at_ok ns a far i
    have okf := found_ok ns a far i
    have lf := found_len ns a far i
    refine ss1 (sif (EW.et (tandc (gtI (dmod (by decide) (dixV (en D 8) (.inl (.inl (x8 _ _ hxa))) (TDs.of_ints _) di (atNs (j := 8) (by rw [hxl]; decide))) di) di) fun _ => tand1 (tnot (tval (dany (bs := (foundM ns a far i).map fun y => lawQ (deedAt ns a far i) y) D T.m_any (by
        rw [List.map_map]
        exact lcV0 Deed.d (foundM ns a far i) (fun y => .bool (lawQ (deedAt ns a far i) y)) D [("_law_other", 11)] (en D 5) (.inl (.inl (z8 _ _ hacc))) (tacc.ex z8) (by omega) fun H9 y v10 x9 hj tv10 => t1 D 11 (fun _ => rfl) fun _ b => dcall (D.b b) (c_lquarrel T) (deedAt ns a far i, y) (ead (dn (D.b b) 9 (t9.ex x9)) (ead (dn (D.b b) 11 tv10) ean)) fun _ _ => ⟨oka, okf y hj⟩)))))) (fun hb H9 x9 => ?_) fun hb H9 x9 => ss0 ?_)
    · have hb2 : (decide (0 < gi (xsAt ns a i) 8 % 4) && !((foundM ns a far i).any fun y => lawQ (deedAt ns a far i) y)) = true := by
        rw [List.any_map] at hb
        exact hb
      have xx := z8.trans x9
      refine ss1 (sapp (d := (deedAt ns a far i).d) (en D 5) (xx _ _ hacc) (by rw [tacc.length, List.length_map]; omega) (dn D 9 (t9.ex x9)) fun v10 H10 x10 t10 => ?_)
      have h10 := (xx.trans x10) _ _ hacc
      refine ⟨hpf, ⟨_, _, _, _, rfl⟩, Ex.mut (x5.trans (xx.trans x10)) hfa, (M.then (xx.trans x10)).put h10 nt_lst (by simp), _, upd_same, ?_⟩
      rw [found_step]
      unfold stepF
      rw [if_pos hb2, List.map_append]
      exact (tacc.tm ((Tm.ex (xx.trans x10)).trans (Tm.lst h10))).append (.cons (t10.tm (Tm.lst h10)) .nil)
    · have hb2 : ¬ (decide (0 < gi (xsAt ns a i) 8 % 4) && !((foundM ns a far i).any fun y => lawQ (deedAt ns a far i) y)) = true := by
        rw [List.any_map] at hb
        intro z
        have hb' : (decide (0 < gi (xsAt ns a i) 8 % 4) && !((foundM ns a far i).any fun y => lawQ (deedAt ns a far i) y)) = false := hb
        rw [hb'] at z
        cases z
      have xx := z8.trans x9
      refine ⟨hpf, ⟨_, _, _, _, rfl⟩, x5.trans xx, M.then xx, acc, xx _ _ hacc, ?_⟩
      rw [found_step]
      unfold stepF
      rw [if_neg hb2]
      exact tacc.ex xx
  · rintro p H4 σ' H5 x4 ⟨hpf, ⟨w6, w7, w8, w9, rfl⟩, x5, M, acc, hacc, tacc⟩
    have tacc : TDs X.K H5 acc ((foundM ns a far 19).map Deed.d) := tacc
    have al : acc.length = (foundM ns a far 19).length := by rw [tacc.length, List.length_map]
    have lf := found_len ns a far 19
    have et : gi (headM ns a) 2 % ((acc.length : Int) + 1) = ((turnX ns a far : Nat) : Int) := by
      unfold turnX
      rw [al, Int.toNat_of_nonneg (Int.emod_nonneg _ (by omega))]
    refine ssc (asgD D 10 (ED.to (dmod (i := gi (headM ns a) 2) (j := (acc.length : Int) + 1) (by omega) (dixV (en D 3) (.inl (.inl ((x2.trans x5) _ _ hha))) (TDs.of_ints _) di (atNs (j := 2) (by rw [show (headM ns a).length = 4 from hn4.1]; decide))) (dadd (dlenV D T.m_len (en D 5) (.inl (.inl hacc))) di)) (congrArg PyData.int et)) fun u10 H6 x6 t6 => ?_)
    obtain rfl := t6.int_iff
    have sl : SqL X.K H6 fa acc := .inl (.inl (x6 _ _ hacc))
    have tl := tacc.ex x6
    have e1 : cutD ((foundM ns a far 19).map Deed.d) (some ((turnX ns a far : Nat) : Int)) none = ((foundM ns a far 19).drop (turnX ns a far)).map Deed.d := (cut_drop _ _).trans List.map_drop.symm
    have e2 : cutD ((foundM ns a far 19).map Deed.d) none (some ((turnX ns a far : Nat) : Int)) = ((foundM ns a far 19).take (turnX ns a far)).map Deed.d := (cut_take _ _).trans List.map_take.symm
    refine ss1 (retD (ED.to (dtuple D T.m_tuple (lcat (xs := ((foundM ns a far 19).drop (turnX ns a far)).map Deed.d) (ys := ((foundM ns a far 19).take (turnX ns a far)).map Deed.d) (e1 ▸ lsliceV (en D 5) sl tl (os (dni D 10)) on) (e2 ▸ lsliceV (en D 5) sl tl on (os (dni D 10))) (by simp only [List.length_map, List.length_drop, List.length_take]; omega))) (by unfold deedsM dd; rw [List.map_append])) fun v H7 x7 r => hq v H7 ((y2.trans x5).trans (x6.trans x7)) r)
end
end G
namespace G
open PySem PySem.Spec PyProof.Rows L2 Evl
section
variable {P : Program} {w : World} {K : PySem.W.Frag} {mg : Str → Option Value} {base : Heap}
structure RightPre (K : PySem.W.Frag) (a : AA × (Int × Int) × List Deed) (H : Hp) : Prop where
  h : ArchI K H a.1 a.2.1.1 a.2.1.2 a.2.2 (belowM a.2.2 a.2.1.2) (belowM a.2.2 a.2.1.2)
  W : WF a.2.2
  few : Few a.2.2
theorem c_lright (T : Txt K mg) : Cal P w K mg base 13 "_law_right" ["_law_archive", "_law_deeds_here", "_law_rows"] (SpD K (fun a : AA × (Int × Int) × List Deed => [.v (.ref a.1.a), .d (dd a.2.2), .d (.tuple ((papersM a.2.2).map (rowD (planM a.2.2))))])
    (RightPre K) (fun _ => .bool true)) := by
  obtain ⟨fd, F⟩ := T.f__law_right
  refine mkCal F T.g__law_right S__law_right H__law_right (fun _ _ _ _ _ _ us hl => match us, hl with | [_, _, _], _ => rfl) (fun _ => rfl) ?_
  rintro X rfl rfl rfl rfl rfl D ⟨A, ⟨first, t⟩, l⟩ vs H Q hv ⟨hi, W, few⟩ hq
  dsimp only at hv hi W few hq
  obtain ⟨ws, rfl, hv2⟩ := hv.cv
  obtain ⟨v1, v2, rfl, a1, a2⟩ := hv2.d2
  have l40 := W.len
  have pl := papers_len l
  have gl := (below_ok (l := l) (t := t)).len W
  refine ssc (asgR (R := fun H2 v => TD X.K H2 v (.int t)) D 3 (dmeth0 (R' := fun H2 v => TD X.K H2 v (.int t)) D (c_present T) T.k_Archive (by decide) (en D 0) hi.i (by kernel_rfl) fun H1 x1 => ⟨(A, (first, t), l, belowM l t), rfl, hi.ex x1, fun v H2 r => r⟩) fun v3 H1 x1 t3' => ?_)
  obtain rfl := t3'.int_iff
  -- what is due
  refine ssc (asgLcT (rowD (planM l)) (papersM l) (dueRowB l t) (enc3 (dueKi l) (dueKj l) (rowD (planM l))) D 4 [("_law_row_here", 7)] (dn D 2 (a2.ex x1)) (by omega) (fun H2 p v x2 hp tv => t1 D 7 (fun b => dueT (g := getG (goneOf (planM l)) p) (dix (dn (D.b b) 7 tv) di at1) (dix (dn (D.b b) 7 tv) di at1) (dni (D.b b) 3) rfl) fun hc b => dtup (xs := [.int (dueKi l p), .int (dueKj l p), rowD (planM l) p]) (ead (ED.to (dix (dn (D.b b) 7 tv) di at1) ?_) (ead (lindex (lcall (D.b b) (c_lorder T) l (ead (dn (D.b b) 1 (a1.ex (x1.trans x2))) ean) fun _ _ => l40) (dix (dn (D.b b) 7 tv) di at0) hp) (ead (dn (D.b b) 7 tv) ean)))) fun qd xd H2 hqd x2 hqs td => ?_)
  · have hc : dueRowB l t p = true := hc
    unfold dueRowB at hc
    unfold dueKi
    cases e : getG (goneOf (planM l)) p with
    | none => rw [e] at hc; cases hc
    | some d => rfl
  have td : TDs X.K H2 xd ((dueL l t).map (enc3 (dueKi l) (dueKj l) (rowD (planM l)))) := td
  have y2 := x1.trans x2
  have dl : (dueL l t).length ≤ 40 := Nat.le_trans (List.length_filter_le _ _) (by omega)
  have es := due_sorted W t
  refine ssc (sif (c := false) (ET.to (EW.et (torc (neDt D (d1 := .tuple ((belowM l t).map doneD)) (d2 := .tuple ((belowM l t).map doneD)) (dmeth0 (R' := fun H2 v => TD X.K H2 v (.tuple ((belowM l t).map doneD))) D (c_done T) T.k_Archive (by decide) (en D 0) (hi.ex y2).i (by kernel_rfl) fun H3 x3 => ⟨(A, (first, t), l, belowM l t), rfl, ⟨hi.ex (y2.trans x3), by show (belowM l t).length ≤ 1000; omega⟩, fun v H4 r => r⟩)
      (ED.to (dtuple D T.m_tuple (lcL0 (enc3 (dueKi l) (dueKj l) (rowD (planM l))) ((dueL l t).mergeSort (PySem.W.dataLe false (key2 (dueKi l) (dueKj l)))) (rowD (planM l)) D [("_law_at", 8), ("_law_place", 9), ("_law_row_here", 7)] (lsorted3 D T.m_sorted (en D 4) (.inl (.inl hqs)) td (due_rows3 l t)) (by rw [List.length_mergeSort]; omega) fun H3 p v x3 hp tv => t3 D 8 9 7 tv fun u w r tu tw tr => ⟨fun b => rfl, fun _ b => dn (D.b b) 7 tr⟩)) ?_) (done_shp W t) (done_shp W t)) fun _ => tor1 (neDt D (d1 := .tuple []) (d2 := .tuple []) (dmeth0 (R' := fun H2 v => TD X.K H2 v (.tuple [])) D (c_wrong T) T.k_Archive (by decide) (en D 0) (hi.ex y2).i (by kernel_rfl) fun H3 x3 => ⟨(A, (first, t), l, belowM l t), rfl, ⟨hi.ex (y2.trans x3), l40, by show (belowM l t).length ≤ 1000; omega⟩, fun v H4 r => r⟩) (dtup (xs := []) ean) shp_nil shp_nil))) ?_) (fun hb _ _ => nomatch hb) fun _ H3 x3 => ss0 ?_)
  · rw [es, List.map_map]
    refine congrArg PyData.tuple (List.map_congr_left fun g hg => ?_)
    exact row_done hg
  · rw [eqv_self fun g _ => alike_done g]
    rfl
  have y3 := y2.trans x3
  -- who is gone
  refine ssc (asgL (ds := (dueL l t).map .str) D 5 (lcT (rowD (planM l)) (papersM l) (dueRowB l t) (fun p => .str p) D [("_law_row_here", 7)] (dn D 2 (a2.ex y3)) (by omega) fun H4 p v x4 hp tv => t1 D 7 (fun b => dueT (g := getG (goneOf (planM l)) p) (dix (dn (D.b b) 7 tv) di at1) (dix (dn (D.b b) 7 tv) di at1) (dni (D.b b) 3) rfl) fun hc b => dix (dn (D.b b) 7 tv) di at0) (hs := swC D (by decide +kernel)) fun qg xg H4 hqg x4 hgs tg => ?_)
  obtain rfl := tg.strs
  have y4 := y3.trans x4
  -- who is there
  refine ssc (asgL (ds := (comeL l t).map .str) D 6 (lcL (fun p : Str => .str p) (papersM l) (fun p => decide (comeM l p ≤ t) && !decide (p ∈ dueL l t)) (fun p => .str p) D [("_law_name", 10)] (lcall D (c_lorder T) l (ead (dn D 1 (a1.ex y4)) ean) fun _ _ => l40) (by omega) fun H5 p v x5 hp tv => ?_) (hs := swC D (by decide +kernel)) fun qc xc H5 hqc x5 hcs tc => ?_)
  · obtain rfl := tv.str_iff
    obtain ⟨d, kd, mk, hr⟩ := row_of_mem hp
    have ec : comeM l p = d := by
      unfold comeM
      rw [hr] <;> rfl
    rw [ec]
    exact t1 D 10 (fun b => EW.et (tandc (leI (dix (dcall (D.b b) (c_lrow T) (l, p, .paper d p kd mk) (ead (dn (D.b b) 1 (a1.ex (y4.trans x5))) (ead (dns (D.b b) 10) ean)) fun _ _ => hr) di at1) (dni (D.b b) 3)) fun _ => tand1 (notInL (dns (D.b b) 10) (en (D.b b) 5) (.inl (.inl (x5 _ _ hgs)))))) fun _ b => dns (D.b b) 10
  obtain rfl := tc.strs
  have y5 := y4.trans x5
  refine ssc (sif (c := false) (ET.to (neDt D (d1 := .tuple ((comeL l t).map .str)) (d2 := .tuple ((comeL l t).map .str)) (dmeth0 (R' := fun H2 v => TD X.K H2 v (.tuple ((comeL l t).map .str))) D (c_now T) T.k_Archive (by decide) (en D 0) (hi.ex y5).i (by kernel_rfl) fun H6 x6 => ⟨(A, (first, t), l, belowM l t), rfl, ⟨hi.ex (y5.trans x6), W⟩, fun v H7 r => ⟨r.1, now_come l t ▸ r.2⟩⟩) (dtupleV D T.m_tuple (en D 6) (.inl (.inl hcs)) (TDs.of_strs _)) (come_shp W t) (come_shp W t)) ?_) (fun hb _ _ => nomatch hb) fun _ H6 x6 => ss0 ?_)
  · rw [eqv_self fun g _ => alike_s g]
    rfl
  have y6 := y5.trans x6
  refine ss1 (retD (ED.to (vor (eqIv (dni D 3) di) fun hz => vone (dall (bs := (thereM l (t - 1) (goneOf (planM l))).map fun p => decide (p ∈ comeL l t)) D T.m_all (by
    rw [List.map_map]
    exact lcT0 (fun p : Str => .str p) (thereM l (t - 1) (goneOf (planM l))) (fun p => .bool (decide (p ∈ comeL l t))) D [("_law_name", 10)] (dcall D (c_there T) (l, t - 1) (ead (dn D 1 (a1.ex y6)) (ead (dsub (dni D 3) di) ean)) fun _ _ => ⟨W, few⟩) (Nat.lt_of_le_of_lt (List.length_filter_le _ _) (by omega)) fun H7 p v x7 hp tv => by
      obtain rfl := tv.str_iff
      exact t1 D 10 (fun _ => rfl) fun _ b => inLv (dns (D.b b) 10) (en (D.b b) 6) (.inl (.inl ((x6.trans x7) _ _ hcs)))))) ?_) fun v H7 x7 r => hq v H7 (y6.trans x7) r)
  refine congrArg PyData.bool ?_
  rw [List.all_map]
  have ha : (thereM l (t - 1) (goneOf (planM l))).all (id ∘ fun p => decide (p ∈ comeL l t)) = true := List.all_eq_true.mpr fun p hp => decide_eq_true (there_come hp)
  rw [ha, Bool.or_true]
end
end G
/-! What the law draws goes together, and is small. Plain Lean. -/
namespace G
open PySem
open PySem.W (dataLe)
/-! ### quarrels -/
theorem dec_comm {α : Type} [DecidableEq α] (a b : α) : decide (a = b) = decide (b = a) := decide_eq_decide.mpr ⟨Eq.symm, Eq.symm⟩
theorem quarrel_comm (x y : Deed) : quarrelM x y = quarrelM y x := by
  unfold quarrelM
  have e1 : (decide (x.word = y.word) && decide (x.word ∈ (["paper", "leave"] : List Str))) = (decide (y.word = x.word) && decide (y.word ∈ (["paper", "leave"] : List Str))) := by
    by_cases h : x.word = y.word
    · rw [h]
    · rw [decide_eq_false h, decide_eq_false fun q => h (Eq.symm q)] <;> rfl
  rw [PySem.W.eqv_comm x.d y.d, dec_comm x.name y.name, dec_comm x.day y.day, e1, Bool.and_comm (decide (x.word ∈ (["rule", "end"] : List Str))) (decide (y.word ∈ (["rule", "end"] : List Str))), Bool.and_comm (decide (x.word ∈ (["hold", "lift"] : List Str))) (decide (y.word ∈ (["hold", "lift"] : List Str)))]
theorem eqv_dn (i : Int) (s : Str) : PyData.eqv (.tuple [.int i, .str s]) (.tuple [.int i, .str s]) = true := by
  refine PySem.W.eqv_refl_alike _ ?_
  simp [PySem.W.alike, PySem.W.alikeAll]
theorem w_apart : (["paper", "leave"] : List Str).all (fun w => !decide (w ∈ (["rule", "end"] : List Str)) && !decide (w ∈ (["hold", "lift"] : List Str))) = true := by decide +kernel
theorem quarrel_law {x y : Deed} (h : quarrelM x y = true) : lawQ x y = true := by
  unfold quarrelM at h
  unfold lawQ
  by_cases e : PyData.eqv x.d y.d = true
  · rw [if_pos e]
  · rw [if_neg e]
    rw [show PyData.eqv x.d y.d = false by simpa using e, Bool.false_or, Bool.and_eq_true] at h
    obtain ⟨hn, h⟩ := h
    have hn : x.name = y.name := of_decide_eq_true hn
    rw [Bool.or_eq_true] at h
    rcases h with h | h
    · obtain ⟨h1, h2⟩ := Bool.and_eq_true_iff.mp h
      have a := Bool.and_eq_true_iff.mp (List.all_eq_true.mp w_apart _ (of_decide_eq_true h2))
      have a1 : decide (x.word ∈ (["rule", "end"] : List Str)) = false := by simpa using a.1
      have a2 : decide (x.word ∈ (["hold", "lift"] : List Str)) = false := by simpa using a.2
      rw [if_neg (by rw [a1, Bool.false_and]; decide), if_neg (by rw [a2, Bool.false_and]; decide), h1, h2, decide_eq_true hn] <;> rfl
    · obtain ⟨h1, h2⟩ := Bool.and_eq_true_iff.mp h
      have h1 : x.day = y.day := of_decide_eq_true h1
      have ed : PyData.eqv (.tuple [.int x.day, .str x.name]) (.tuple [.int y.day, .str y.name]) = true := by
        rw [h1, hn]
        exact eqv_dn _ _
      split
      · exact ed
      · split
        · exact ed
        · rename_i n1 n2
          rw [Bool.or_eq_true] at h2
          rcases h2 with q | q
          · exact absurd q n1
          · exact absurd q n2
/-! ### what is drawn -/
theorem found_apart (ns : List Int) (a : Int) (far : Bool) : ∀ n, (foundM ns a far n).Pairwise fun x y => quarrelM x y = false
  | 0 => .nil
  | n + 1 => by
    rw [found_step]
    unfold stepF
    split
    · rename_i h
      refine List.pairwise_append.mpr ⟨found_apart ns a far n, List.pairwise_singleton _ _, fun y hy z hz => ?_⟩
      rw [List.mem_singleton.mp hz]
      obtain ⟨_, h2⟩ := Bool.and_eq_true_iff.mp h
      cases e : quarrelM y (deedAt ns a far n) with
      | false => rfl
      | true =>
        rw [quarrel_comm] at e
        have e2 := quarrel_law e
        have : ((foundM ns a far n).any fun y => lawQ (deedAt ns a far n) y) = true := List.any_eq_true.mpr ⟨y, hy, e2⟩
        rw [this] at h2
        cases h2
    · exact found_apart ns a far n
theorem deeds_perm (ns : List Int) (a : Int) (far : Bool) : (deedsM ns a far).Perm (foundM ns a far 19) := by
  unfold deedsM
  refine List.perm_append_comm.trans ?_
  rw [List.take_append_drop]
theorem deeds_wf (ns : List Int) (a : Int) (far : Bool) : WF (deedsM ns a far) := by
  have p := deeds_perm ns a far
  refine ⟨by rw [p.length_eq]; have := found_len ns a far 19; omega, fun x hx => found_ok ns a far 19 x (p.mem_iff.mp hx), ?_⟩
  exact p.symm.pairwise (found_apart ns a far 19) fun {x y} h => by rw [quarrel_comm]; exact h
theorem wordX {w : Str} (h : w ∈ (["paper", "rule", "happens", "hold", "end", "lift", "leave"] : List Str)) (xs : List Int) (p : PoolS) (far : Bool) : (deedX w xs p far).word = w := by
  unfold deedX
  split
  · rename_i e; rw [e] <;> rfl
  split
  · rename_i e; rw [e] <;> rfl
  split
  · rename_i e; rw [e] <;> rfl
  split
  · rename_i e; rw [e] <;> rfl
  split
  · rename_i e; rw [e] <;> rfl
  split
  · rename_i e; rw [e] <;> rfl
  · rename_i n1 n2 n3 n4 n5 n6
    simp only [List.mem_cons, List.not_mem_nil, or_false] at h
    rcases h with h | h | h | h | h | h | h
    · exact absurd h n1
    · exact absurd h n3
    · exact absurd h n2
    · exact absurd h n4
    · rw [h] <;> rfl
    · exact absurd h n6
    · exact absurd h n5
theorem found_words (ns : List Int) (a : Int) (far : Bool) : ∀ n, n ≤ 19 → ((foundM ns a far n).map Deed.word).Sublist (sortsL.take n)
  | 0, _ => by
    show ([] : List Str).Sublist _
    exact List.nil_sublist _
  | n + 1, h => by
    have ih := found_words ns a far n (by omega)
    have hl : n < sortsL.length := by
      show n < 19
      omega
    have ht : sortsL.take (n + 1) = sortsL.take n ++ [sortsL.getD n ""] := by
      rw [List.take_add_one, List.getElem?_eq_getElem hl]
      simp [List.getD, List.getElem?_eq_getElem hl]
    rw [found_step, ht]
    unfold stepF
    split
    · rw [List.map_append]
      refine ih.append ?_
      show [(deedAt ns a far n).word].Sublist _
      rw [show (deedAt ns a far n).word = sortsL.getD n "" from wordX (sort_in (by omega)) _ _ _]
      exact List.Sublist.refl _
    · exact ih.trans (List.sublist_append_left _ _)
def cntW (w : Str) (l : List Deed) : Nat := (l.filter (isW w)).length
theorem cnt_word (w : Str) (l : List Deed) : cntW w l = ((l.map Deed.word).filter fun v => decide (v = w)).length := by
  unfold cntW
  rw [List.filter_map, List.length_map] <;> rfl
theorem cnt_found (w : Str) (ns : List Int) (a : Int) (far : Bool) : cntW w (foundM ns a far 19) ≤ (sortsL.filter fun v => decide (v = w)).length := by
  rw [cnt_word]
  have h := (found_words ns a far 19 (Nat.le_refl _)).filter fun v => decide (v = w)
  exact h.length_le
theorem cnt_pre (w : Str) (ns : List Int) (a : Int) (far : Bool) (i : Nat) : cntW w ((deedsM ns a far).take i) ≤ (sortsL.filter fun v => decide (v = w)).length := by
  have h1 : cntW w ((deedsM ns a far).take i) ≤ cntW w (deedsM ns a far) := ((List.take_sublist i (deedsM ns a far)).filter _).length_le
  have h2 : cntW w (deedsM ns a far) = cntW w (foundM ns a far 19) := ((deeds_perm ns a far).filter _).length_eq
  have h3 := cnt_found w ns a far
  omega
/-! ### the days on which anything turns are few -/
theorem sum_zero {α : Type} {f : α → Nat} : ∀ {l : List α}, (∀ x ∈ l, f x = 0) → (l.map f).sum = 0
  | [], _ => rfl
  | x :: r, h => by
    rw [List.map_cons, List.sum_cons, h x List.mem_cons_self, sum_zero fun y hy => h y (List.mem_cons_of_mem _ hy)]
theorem sum_le {α : Type} {f g : α → Nat} : ∀ {l : List α}, (∀ x ∈ l, f x ≤ g x) → (l.map f).sum ≤ (l.map g).sum
  | [], _ => Nat.le_refl _
  | x :: r, h => by
    rw [List.map_cons, List.sum_cons, List.map_cons, List.sum_cons]
    have a := h x List.mem_cons_self
    have b := sum_le (l := r) fun y hy => h y (List.mem_cons_of_mem _ hy)
    omega
theorem sum_add {α : Type} {f g : α → Nat} : ∀ l : List α, (l.map fun x => f x + g x).sum = (l.map f).sum + (l.map g).sum
  | [] => rfl
  | x :: r => by
    simp only [List.map_cons, List.sum_cons]
    rw [sum_add r]
    omega
theorem sum_const {α : Type} (c : Nat) : ∀ l : List α, (l.map fun _ => c).sum = l.length * c
  | [] => by simp
  | x :: r => by
    simp only [List.map_cons, List.sum_cons, List.length_cons]
    rw [sum_const c r, Nat.succ_mul]
    omega
theorem flat_len {α : Type} {f : α → List Int} (l : List α) : (l.flatMap f).length = (l.map fun x => (f x).length).sum := by
  rw [List.length_flatMap]
theorem one_at {g : Str → Deed → Bool} {h : Deed → Bool} {x : Deed} (hg : ∀ p, g p x = true → h x = true ∧ x.name = p) : ∀ {ps : List Str}, ps.Nodup → (ps.map fun p => if g p x = true then 1 else 0).sum ≤ (if h x = true then 1 else 0)
  | [], _ => Nat.zero_le _
  | p :: r, nd => by
    obtain ⟨n1, n2⟩ := List.nodup_cons.mp nd
    rw [List.map_cons, List.sum_cons]
    by_cases e : g p x = true
    · obtain ⟨e1, e2⟩ := hg p e
      have hz : (r.map fun p => if g p x = true then 1 else 0).sum = 0 := sum_zero fun q hq => if_neg fun z => by
        have := (hg q z).2
        rw [e2] at this
        exact n1 (this ▸ hq)
      rw [if_pos e, if_pos e1, hz]
      exact Nat.le_refl _
    · rw [if_neg e, Nat.zero_add]
      exact one_at hg n2
theorem sum_apart {g : Str → Deed → Bool} {h : Deed → Bool} (hg : ∀ x p, g p x = true → h x = true ∧ x.name = p) {ps : List Str} (nd : ps.Nodup) : ∀ l : List Deed, (ps.map fun p => (l.filter (g p)).length).sum ≤ (l.filter h).length
  | [] => by
    have hz : (ps.map fun p => (([] : List Deed).filter (g p)).length).sum = 0 := sum_zero fun p _ => rfl
    rw [hz]
    exact Nat.zero_le _
  | x :: r => by
    have ih := sum_apart hg nd r
    have e1 : (ps.map fun p => ((x :: r).filter (g p)).length) = ps.map fun p => (if g p x = true then 1 else 0) + (r.filter (g p)).length := List.map_congr_left fun p _ => by
      by_cases q : g p x = true
      · rw [List.filter_cons_of_pos q, List.length_cons, if_pos q]
        omega
      · rw [List.filter_cons_of_neg q, if_neg q]
        omega
    have e2 : ((x :: r).filter h).length = (if h x = true then 1 else 0) + (r.filter h).length := by
      by_cases q : h x = true
      · rw [List.filter_cons_of_pos q, List.length_cons, if_pos q]
        omega
      · rw [List.filter_cons_of_neg q, if_neg q]
        omega
    rw [e1, sum_add, e2]
    have := one_at (hg x) nd
    omega
theorem hap_name {p h : Str} {x : Deed} (q : hapB p h x = true) : isW "happens" x = true ∧ x.name = p := by
  unfold hapB at q
  obtain ⟨q1, q2⟩ := Bool.and_eq_true_iff.mp q
  refine ⟨q1, ?_⟩
  obtain ⟨d, n, k, rfl⟩ := isW_happens q1
  have q2 : PyData.eqv (.tuple [.str n, .str k]) (.tuple [.str p, .str h]) = true := q2
  simp only [PyData.eqv, PyData.eqvAll, Bool.and_eq_true, beq_iff_eq] at q2
  exact q2.1
theorem reck_len {l : List Deed} (W : WF l) (k : Bool) (kd : Str) (s : Since) (m : Int) (u : Str) : (reckonsM l (.span k kd s m u)).length ≤ max (papersM l).length (cntW "happens" l) := by
  show (((papersM l).filter fun p => decide (kindM l p = kd)).flatMap fun p => (basesM l s p).map fun b => laterM b m u).length ≤ _
  rw [flat_len]
  simp only [List.length_map]
  have nd := (papers_nodup W).sublist (List.filter_sublist (p := fun p => decide (kindM l p = kd)))
  have hl : ((papersM l).filter fun p => decide (kindM l p = kd)).length ≤ (papersM l).length := List.length_filter_le _ _
  generalize (papersM l).filter (fun p => decide (kindM l p = kd)) = ps at nd hl
  cases s with
  | coming =>
    have : (ps.map fun p => (basesM l .coming p).length).sum ≤ (ps.map fun _ => 1).sum := sum_le fun p _ => Nat.le_refl _
    rw [sum_const] at this
    omega
  | first h =>
    have : (ps.map fun p => (basesM l (.first h) p).length).sum ≤ (ps.map fun _ => 1).sum := sum_le fun p _ => by
      show ((heardM l p h).take 1).length ≤ 1
      rw [List.length_take]
      omega
    rw [sum_const] at this
    omega
  | last h =>
    have e : (ps.map fun p => (basesM l (.last h) p).length) = ps.map fun p => (l.filter (hapB p h)).length := List.map_congr_left fun p _ => by
      show (heardM l p h).length = _
      unfold heardM
      rw [List.length_map, List.length_mergeSort]
    rw [e]
    have := sum_apart (g := fun p => hapB p h) (h := isW "happens") (fun x p q => hap_name q) nd l
    unfold cntW
    omega
theorem papers_cnt (l : List Deed) : (papersM l).length = cntW "paper" l := by
  unfold papersM paperDeeds cntW
  rw [List.length_map, List.length_mergeSort]
theorem turns_len {l : List Deed} (W : WF l) : (turnSet l).length ≤ l.length + cntW "rule" l * max (papersM l).length (cntW "happens" l) := by
  unfold turnSet
  have h1 := (putsI_len (l.flatMap (turnsOf l)) []).2
  rw [List.length_nil, Nat.zero_add, flat_len] at h1
  refine Nat.le_trans h1 ?_
  have h2 : ∀ x : Deed, (turnsOf l x).length ≤ 1 + (if isW "rule" x = true then max (papersM l).length (cntW "happens" l) else 0) := fun x => by
    unfold turnsOf
    rw [List.length_cons]
    by_cases q : isSpan x = true
    · obtain ⟨q1, k, kd, s, m, u, e⟩ := span_rule q
      rw [if_pos q, if_pos q1, e]
      have := reck_len W k kd s m u
      omega
    · rw [if_neg q]
      simp only [List.length_nil]
      omega
  have h3 : (l.map fun x => (turnsOf l x).length).sum ≤ (l.map fun x => 1 + (if isW "rule" x = true then max (papersM l).length (cntW "happens" l) else 0)).sum := sum_le fun x _ => h2 x
  have h4 : ∀ r : List Deed, (r.map fun x => 1 + (if isW "rule" x = true then max (papersM l).length (cntW "happens" l) else 0)).sum = r.length + cntW "rule" r * max (papersM l).length (cntW "happens" l) := by
    intro r
    induction r with
    | nil => simp [cntW]
    | cons x r ih =>
      rw [List.map_cons, List.sum_cons, ih, List.length_cons]
      unfold cntW
      by_cases q : isW "rule" x = true
      · rw [if_pos q, List.filter_cons_of_pos q, List.length_cons, Nat.succ_mul]
        omega
      · rw [if_neg q, List.filter_cons_of_neg q]
        omega
  rw [h4] at h3
  exact h3
theorem deeds_few (ns : List Int) (a : Int) (far : Bool) (i : Nat) : Few ((deedsM ns a far).take i) := by
  have W0 := deeds_wf ns a far
  have W : WF ((deedsM ns a far).take i) := ⟨by have := W0.len; rw [List.length_take]; omega, fun x hx => W0.ok x (List.mem_of_mem_take hx), W0.apart.sublist (List.take_sublist _ _)⟩
  have h1 := turns_len W
  have hp := papers_cnt ((deedsM ns a far).take i)
  have c1 := cnt_pre "paper" ns a far i
  have c2 := cnt_pre "rule" ns a far i
  have c3 := cnt_pre "happens" ns a far i
  have e1 : (sortsL.filter fun v : Str => decide (v = "paper")).length = 5 := by decide +kernel
  have e2 : (sortsL.filter fun v : Str => decide (v = "rule")).length = 5 := by decide +kernel
  have e3 : (sortsL.filter fun v : Str => decide (v = "happens")).length = 3 := by decide +kernel
  have hl : ((deedsM ns a far).take i).length ≤ 19 := by
    rw [List.length_take, (deeds_perm ns a far).length_eq]
    have := found_len ns a far 19
    omega
  rw [e1] at c1
  rw [e2] at c2
  rw [e3] at c3
  show (turnSet ((deedsM ns a far).take i)).length ≤ 59
  have hm : max (papersM ((deedsM ns a far).take i)).length (cntW "happens" ((deedsM ns a far).take i)) ≤ 5 := by omega
  have := Nat.mul_le_mul c2 hm
  omega
end G
/-! Tests that move the heap; min of ints. -/
namespace G
open PySem PySem.Spec PyProof.Rows L2 Evl
section
variable {X : Cx} {N : List Str} {sc : Scope} {k : Nat} {e o a a2 b : Expr} {σ : L2.St} {H : Hp} {pos p p' p1 p2 : Pos} {j : Nat} {Q : Bool → Hp → Prop} {Dn : Ends} {t u : List Stmt}
theorem EL.to {d d' : List PyData} (h : EL X e σ H d) (q : d = d') : EL X e σ H d' := q ▸ h
theorem twval (h : wE X e σ H fun v H1 => ∃ c, v = .bl c ∧ Q c H1) (he : ∀ whole, isTrue e X.env whole = (do let v ← whole; standAt e.pos; holding [v] (truthy v)) := by intro _; rfl) : wT X e σ H Q := pt_le (pt_val (we e) he) h
theorem twnot (h : wT X e σ H fun c H1 => Q (!c) H1) : wT X (.UnaryOp .Not e pos) σ H Q := pt_le (pt_not (wt e)) h
theorem twand (h : wT X a σ H fun c H1 => if c = true then wT X b σ H1 Q else Q false H1) : wT X (.BoolOp .And [a, b] pos) σ H Q := pt_le (PW.pt (pw_and (wt a) (pw_and1 (wt b)))) h
theorem twnotN (h : wE X a σ H fun v H1 => ∃ c, V.bl (!decide (v = .non)) = .bl c ∧ Q c H1) : wT X (.Compare a [.IsNot] [.Constant .none j p'] pos) σ H Q := pt_le (pt_cmp (pc_notN (we a))) h
theorem tw {c : Bool} (h : ET X e σ H c) (q : ∀ H1, Ex H H1 → Q c H1) : wT X e σ H Q := h H (Ex.refl H) Q q
theorem sifW (h : wT X e σ H fun c H1 => if c = true then wSs X t Dn σ H1 else wSs X u Dn σ H1) : wS X (.If e t u pos) Dn σ H := ps_le (ps_if (wt e) (wss t) (wss u)) h
theorem min_ex : ∀ {ns : List Int}, ns ≠ [] → ∃ m ∈ ns, ∀ y ∈ ns, m ≤ y
  | [], h => absurd rfl h
  | [x], _ => ⟨x, List.mem_singleton.mpr rfl, fun y hy => by rw [List.mem_singleton.mp hy]; exact Int.le_refl _⟩
  | x :: z :: r, _ => by
    obtain ⟨m, hm, hl⟩ := min_ex (ns := z :: r) (by simp)
    by_cases q : x ≤ m
    · refine ⟨x, List.mem_cons_self, fun y hy => ?_⟩
      rcases List.mem_cons.mp hy with e | hy
      · rw [e]; exact Int.le_refl _
      · have := hl y hy; omega
    · refine ⟨m, List.mem_cons_of_mem _ hm, fun y hy => ?_⟩
      rcases List.mem_cons.mp hy with e | hy
      · rw [e]; omega
      · exact hl y hy
/-- min(l), l a list of ints that stands -/
theorem dminI {q : Addr} {ns : List Int} {m : Int} (D : DC X N sc k) (hm : X.mg "min" = none) (h : EV X e σ H (.ref q)) (s : SqL X.K H q (ns.map .int)) (h1 : m ∈ ns) (h2 : ∀ y ∈ ns, m ≤ y) (hg : glB sc "min" = true := by decide +kernel)
    (hs : starEach (e :: []) X.env = (false, eval e X.env) :: starEach [] X.env := by rfl) : ED X (.Call (.Name "min" p) [e] [] pos) σ H (.int m) :=
  dB1 (R1 := fun H2 v => v = .ref q ∧ Ex H H2) D (cr_min D.calm) hm (by decide +kernel) (fun H1 x Q k => h H1 x Q fun H2 y => k _ _ y ⟨rfl, x.trans y⟩) (fun H1 v x z Q k => by
    obtain ⟨rfl, y⟩ := z
    refine ⟨q, ns, rfl, ex_l y s, List.length_pos_of_mem h1, fun m' hm' hall => ?_⟩
    have e : m' = m := Int.le_antisymm (hall m h1) (h2 m' hm')
    rw [e]
    exact k _ _ (Ex.refl _) (.int _)) hg (by decide +kernel) (by decide +kernel) hs
end
end G
namespace G
open PySem PySem.Spec PyProof.Rows L2 Evl
theorem below_none {l : List Deed} {t : Int} (h : ∀ p ∈ papersM l, t ≤ comeM l p) : belowM l t = [] := by
  rcases hb : belowM l t with _ | ⟨g, r⟩
  · rfl
  · have hg : g ∈ belowM l t := by rw [hb]; exact List.mem_cons_self
    have h1 := below_days hg
    have h2 := h _ (below_ok.sub g hg)
    omega
def daysL (l : List Deed) : List Int := ((l.filter (isW "paper")).map Deed.day) ++ [9999]
theorem come_days {l : List Deed} {p : Str} (h : p ∈ papersM l) : comeM l p ∈ daysL l := by
  obtain ⟨d, k, m, hr⟩ := row_of_mem h
  obtain ⟨h1, h2, _⟩ := row_some hr
  have e : comeM l p = d := by
    unfold comeM
    rw [hr] <;> rfl
  rw [e]
  exact List.mem_append_left _ (List.mem_map.mpr ⟨_, List.mem_filter.mpr ⟨h1, h2⟩, rfl⟩)
theorem days_nn {l : List Deed} (W : WF l) : ∀ y ∈ daysL l, 0 ≤ y := fun y hy => by
  rcases List.mem_append.mp hy with q | q
  · obtain ⟨x, hx, rfl⟩ := List.mem_map.mp q
    exact (W.ok x (List.mem_filter.mp hx).1).1.1
  · rw [List.mem_singleton.mp q]
    decide
section
variable {P : Program} {w : World} {K : PySem.W.Frag} {mg : Str → Option Value} {base : Heap}
abbrev LawSp (K : PySem.W.Frag) : Sp := SpG K (fun a : Addr × List Int => [.v (.ref a.1)]) (fun a H => SqL K H a.1 (a.2.map .int) ∧ a.2.length ≤ 63) (fun _ _ _ v => v = .bl true)
theorem fn_law (T : Txt K mg) (gm : GmTxt K) (Fm : Frm K w) {fd : FuncData} (F : FunD K "law" "law" (defArgs s_law) (defBody s_law) (defScope s_law) [] [] (He.ga K "law") fd) : FnOk P w K mg base CX0 16 (He.ga K "law") fd ["_law_script"] (LawSp K) := by
  refine (mkFn (as := fun a : Addr × List Int => [.v (.ref a.1)]) (pre := fun a H => SqL K H a.1 (a.2.map .int) ∧ a.2.length ≤ 63) (R := fun _ _ _ v => v = .bl true) (k := 15) F S_law H_law (fun _ _ _ _ _ _ us hl => match us, hl with | [_], _ => rfl) (fun _ => rfl) ?_).1
  rintro X rfl rfl rfl rfl rfl D ⟨sa, ns⟩ vs H Q hv ⟨hs, hl⟩ hq
  dsimp only at hv hs hl hq
  obtain ⟨ws, rfl, hv2⟩ := hv.cv
  obtain rfl := hv2.n
  refine ssc (asgD D 1 (dcall D (c_far T) (sa, ns, 0) (eav (en D 0) (ead di ean)) fun H1 x1 => ⟨ex_l x1 hs, (by decide : (0 : Int) ≤ 0), (by decide : (0 : Int) ≤ 1000), hl⟩) fun v1 H1 x1 t1' => ?_)
  obtain rfl := t1'.bl_iff
  generalize farM ns 0 = far at *
  refine ssc (asgD D 2 (dcall D (c_ldeeds T) (sa, ns, 0, far) (eav (en D 0) (ead di (ead (dn D 1 (.bl far)) ean))) fun H2 x2 => ⟨ex_l (x1.trans x2) hs, (by decide : (0 : Int) ≤ 0), (by decide : (0 : Int) ≤ 900), hl⟩) fun v2 H2 x2 a2 => ?_)
  have a2 : TD X.K H2 v2 (dd (deedsM ns 0 far)) := a2
  have W := deeds_wf ns 0 far
  have fews := deeds_few ns 0 far
  have few : Few (deedsM ns 0 far) := by
    have := fews (deedsM ns 0 far).length
    rw [List.take_length] at this
    exact this
  generalize deedsM ns 0 far = l at *
  have l40 := W.len
  have y2 := x1.trans x2
  have ed : ((l.filter (isW "paper")).map fun x => PyData.int x.day) ++ [.int 9999] = (daysL l).map .int := by
    unfold daysL
    rw [List.map_append, List.map_map] <;> rfl
  have lz : ((l.filter (isW "paper")).map fun x => PyData.int x.day).length + [PyData.int 9999].length ≤ 60000 := by
    have := List.length_filter_le (isW "paper") l
    rw [List.length_map]
    show _ + 1 ≤ 60000
    omega
  refine ssc (asgL (ds := ((l.filter (isW "paper")).map fun x => PyData.int x.day) ++ [.int 9999]) D 3 (lcat (xs := (l.filter (isW "paper")).map fun x => .int x.day) (ys := [.int 9999]) (lcT Deed.d l (isW "paper") (fun x => .int x.day) D [("_law_deed_here", 8)] (dn D 2 a2) (by omega) ?_) (llst (ead di ean)) lz) fun q3 xs3 H3 hq3 x3 hqs3 tx3 => ?_)
  · exact fun H3 x v x3 hx tv => t1 D 8 (fun b => eqS (dix (dn (D.b b) 8 tv) di at0) ds) fun _ b => dix (dn (D.b b) 8 tv) di at1
  rw [ed] at tx3
  obtain rfl := tx3.ints
  obtain ⟨m, hm1, hm2⟩ := min_ex (ns := daysL l) (by unfold daysL; simp)
  have m0 := days_nn W m hm1
  have m9 := hm2 9999 (List.mem_append_right _ (List.mem_singleton.mpr rfl))
  have n21 := numbers_ok (cellM ns 21) 1
  have b0 : 0 ≤ (numbersM (cellM ns 21) 1).getD 0 0 % 2 ∧ (numbersM (cellM ns 21) 1).getD 0 0 % 2 < 2 := by omega
  generalize hb : (numbersM (cellM ns 21) 1).getD 0 0 % 2 = b at b0
  have f0 : m * b = 0 ∨ m * b = m := by
    have : b = 0 ∨ b = 1 := by omega
    rcases this with e | e <;> rw [e] <;> simp
  have y3 := y2.trans x3
  have s3 : ∀ {H' : Hp}, Ex H3 H' → SqL X.K H' sa (ns.map .int) := fun e => ex_l (y3.trans e) hs
  refine ssc (asgR (R := fun H' v => ∃ A : AA, v = .ref A.a ∧ ArchI X.K H' A (m * b) (m * b) [] [] [] ∧ H3 A.a = none ∧ H3 A.la = none ∧ H3 A.ga = none ∧ H3 A.ua = none ∧ H3 A.gg = none) D 4
    (dmake D (c_Archive_init T) (by decide) (ead (dmul (i := m) (j := b) (.inl ⟨by omega, by omega⟩) (dminI D T.m_min (en D 3) (.inl (.inl hqs3)) hm1 hm2) (hb ▸ dmod (by decide) (lix (lcall D (c_numbers T) (cellM ns 21, 1) (ead (dcall D (c_cell T) (sa, ns, 21) (eav (en D 0) (ead di ean)) fun H4 x4 => ⟨s3 x4, (by decide : (0 : Int) ≤ 21), (by decide : (21 : Int) ≤ 1000), hl⟩) (ead di ean)) fun _ _ => (by decide : 1 ≤ 20)) di (atNs (j := 0) (by rw [n21.1]; decide))) di)) ean)
      (fun H4 q dx x4 hq0 hdx hne => ⟨((q, dx), m * b), rfl, ⟨upd_same, by show 0 ≤ m * b; omega, by show m * b ≤ 99999; omega⟩, fun v H5 ⟨r1, r2, A, e, hA, g1, g2, g3, g4⟩ => ⟨r1, fun c o ec => r2.keep c o (not_mem1 hq0 ec) (by
        rw [upd_ne (ne_of_none ec hq0), upd_ne (ne_of_none ec hdx)]
        exact ec), A, by rw [e], hA, by rw [e]; exact fresh_back x4 hq0, make_fr x4 g1, make_fr x4 g2, make_fr x4 g3, make_fr x4 g4⟩⟩)) fun v4 H4 x4 r4 => ?_)
  obtain ⟨A, rfl, hA4, na, nla, nga, nua, ngg⟩ := r4
  -- entered
  refine ssc (sifW (twnot (twval (gcall D (c_entered T gm Fm) (by decide) (eav (en D 4) (ead (dn D 2 (a2.ex (x3.trans x4))) ean)) fun H5 x5 => ⟨(A, (m * b, m * b), l), rfl, ⟨hA4.ex x5, W, fews⟩, fun v H6 r6 => ?_⟩))))
  rcases r6 with rfl | ⟨rfl, M6, hA6⟩
  · exact ⟨false, rfl, ss1 (retD db fun v H7 _ r => hq v H7 r.bl_iff)⟩
  refine ⟨true, rfl, ss0 ?_⟩
  dsimp only at M6 hA6
  have y6 : Ex H3 H6 := ((Mo.ex (x4.trans x5)).trans M6).to_ex (by simpa using nla)
  have a6 : TD X.K H6 v2 (dd l) := a2.ex (x3.trans y6)
  have hbel : belowM l (m * b) = [] := below_none fun p hp => by
    have h1 := come_days hp
    have h2 := hm2 _ h1
    have h3 := days_nn W _ h1
    omega
  -- the plan
  refine ssc (asgD D 5 (dcall D (c_plan T) l (ead (dn D 2 a6) ean) fun _ _ => ⟨W, few⟩) fun v5 H7 x7 a7 => ?_)
  have a7 : TD X.K H7 v5 (.tuple ((papersM l).map (rowD (planM l)))) := a7
  have y7 := y6.trans x7
  have hA7 := hA6.ex x7
  rw [← hbel] at hA7
  have n20 := numbers_ok (cellM ns 20) 10
  refine ssc (forL (xs := (numbersM (cellM ns 20) 10).map .int) D (lcall D (c_numbers T) (cellM ns 20, 10) (ead (dcall D (c_cell T) (sa, ns, 20) (eav (en D 0) (ead di ean)) fun H8 x8 => ⟨s3 (y7.trans x8), (by decide : (0 : Int) ≤ 20), (by decide : (20 : Int) ≤ 1000), hl⟩) (ead di ean)) fun _ _ => (by decide : 10 ≤ 20))
    (fun p H8 i σ' H' => (p ∉ A.a :: movL A) ∧ ∃ t, (∃ w6 w7, σ' = [some (.ref sa), some (.bl far), some v2, some (.ref q3), some (.ref A.a), some v5, w6, w7, none]) ∧ (0 ≤ t ∧ t ≤ 99999 ∧ (far = false → t ≤ 9999 + 30 * (i : Int))) ∧ ArchI X.K H' A (m * b) t l (belowM l t) (belowM l t) ∧ Ex H3 H' ∧ TD X.K H' v5 (.tuple ((papersM l).map (rowD (planM l)))) ∧ Mo (A.a :: movL A) H8 H')
    (fun p H8 hp x8 => ⟨?_, m * b, ⟨none, none, rfl⟩, ⟨by omega, by omega, fun _ => by omega⟩, hA7.ex x8, y7.trans x8, a7.ex x8, Mo.refl _ _⟩) (fun p H8 i σ' H' h => by
      obtain ⟨_, t, _, _, _, _, _, M⟩ := h
      exact M.tm) (fun p H8 vs i σ' H' _ _ h1 h => by
      obtain ⟨hp, t, _, _, _, _, _, M⟩ := h
      exact M.keep _ _ hp h1) ?_ ?_)
  · simp only [List.mem_cons, List.not_mem_nil, or_false, not_or]
    refine ⟨fun e => ?_, fun e => ?_, fun e => ?_, fun e => ?_⟩
    · rw [e, hA7.i] at hp; cases hp
    · rw [e, hA7.ga] at hp; cases hp
    · rw [e, hA7.ua] at hp; cases hp
    · obtain ⟨vs, h5, _⟩ := hA7.gg
      rw [e, h5] at hp; cases hp
  · rintro p H8 i d v σ' H9 x8 hi ⟨hps, t, ⟨w6, w7, rfl⟩, ⟨t0, t1, t2⟩, hA, y9, a9, M9⟩ tv
    obtain ⟨z, hz, rfl⟩ := map_at hi
    have z0 : 0 ≤ z := ((numbers_ok _ _).2 z (List.mem_of_getElem? hz)).1
    obtain rfl := tv.int_iff
    have aD : TD X.K H9 v2 (dd l) := a2.ex (x3.trans y9)
    refine g1 D 6 (ssc (sif (c := false) (tnot (tval (c := true) (dcall D (c_lright T) (A, (m * b, t), l) (eav (en D 4) (ead (dn D 2 aD) (ead (dn D 5 a9) ean))) fun H10 x10 => ⟨hA.ex x10, W, few⟩))) (fun h => nomatch h) fun _ H10 x10 => ss0 ?_))
    have hA10 := hA.ex x10
    have jp : (if far = true then PyData.int 15000 else .int 30) = .int (if far = true then 15000 else 30) := by cases far <;> rfl
    have jb : 0 < (if far = true then (15000 : Int) else 30) := by cases far <;> decide
    refine ssc (asgD D 7 (dmin2 D T.m_min di (dadd (dadd (dmeth0 (R' := fun H2 v => TD X.K H2 v (.int t)) D (c_present T) T.k_Archive (by decide) (en D 4) (hA10).i (by kernel_rfl) fun H1 x1 => ⟨(A, (m * b, t), l, belowM l t), rfl, (hA10).ex x1, fun v H2 r => r⟩) di) (dmod (i := z) (j := if far = true then (15000 : Int) else 30) jb (dni D 6) (ED.to (dpickB (c := far) (llst (xs := [.int 30, .int 15000]) (ead di (ead di ean))) (dint D T.m_int (dn D 1 (.bl far)))) jp)))) fun v7 H11 x11 t7 => ?_)
    obtain rfl := t7.int_iff
    have zm := Int.emod_nonneg z (b := if far = true then (15000 : Int) else 30) (by omega)
    have zl := Int.emod_lt_of_pos z jb
    have d1 : (if t + 1 + z % (if far = true then (15000 : Int) else 30) < 99999 then t + 1 + z % (if far = true then (15000 : Int) else 30) else 99999) ≤ 99999 := by
      split <;> omega
    have d2 : far = false → (if t + 1 + z % (if far = true then (15000 : Int) else 30) < 99999 then t + 1 + z % (if far = true then (15000 : Int) else 30) else 99999) ≤ 9999 + 30 * ((i + 1 : Nat) : Int) := fun hf => by
      have := t2 hf
      subst hf
      simp only [Bool.false_eq_true, if_false] at zl ⊢
      split <;> omega
    generalize (if t + 1 + z % (if far = true then (15000 : Int) else 30) < 99999 then t + 1 + z % (if far = true then (15000 : Int) else 30) else 99999) = day at d1 d2
    have hA11 := hA10.ex x11
    have xx := x10.trans x11
    refine ss1 (sifW (twand (tw (gtI (dni D 7) (dmeth0 (R' := fun H2 v => TD X.K H2 v (.int t)) D (c_present T) T.k_Archive (by decide) (en D 4) (hA11).i (by kernel_rfl) fun H1 x1 => ⟨(A, (m * b, t), l, belowM l t), rfl, (hA11).ex x1, fun v H2 r => r⟩)) fun H12 x12 => ?_)))
    have hA12 := hA11.ex x12
    have xy := xx.trans x12
    by_cases ht : t < day
    · rw [decide_eq_true ht]
      refine twnotN (gmeth D (c_turn T) T.k_Archive (by decide) (en D 4) hA12.i (by kernel_rfl) (ead (dni D 7) ean) fun H13 x13 => ⟨(A, (m * b, t), (l, belowM l t), day), rfl, ⟨⟨hA12.ex x13, W, below_ok⟩, few, ht, t0, d1⟩, fun v H14 r => ?_⟩)
      obtain ⟨rfl, M14, hA14⟩ := r
      dsimp only at M14 hA14
      rw [turn_below W ht] at hA14
      refine ⟨false, rfl, ss0 ⟨hps, day, ⟨_, _, rfl⟩, ⟨by omega, d1, d2⟩, hA14, ((Mo.ex ((y9.trans xy).trans x13)).trans M14).to_ex ?_, (a9.ex (xy.trans x13)).tm M14.tm, (M9.then (xy.trans x13)).trans M14⟩⟩
      intro c hc
      simp only [List.mem_cons, List.not_mem_nil, or_false] at hc
      rcases hc with rfl | rfl | rfl | rfl
      · exact na
      · exact nga
      · exact nua
      · exact ngg
    · rw [decide_eq_false ht]
      exact ss0 ⟨hps, t, ⟨_, _, rfl⟩, ⟨t0, t1, fun hf => by have := t2 hf; omega⟩, hA12, y9.trans xy, a9.ex xy, M9.then xy⟩
  · rintro p H8 σ' H9 x8 ⟨hps, t, ⟨w6, w7, rfl⟩, ⟨t0, t1, t2⟩, hA, y9, a9, M9⟩
    have el : ((numbersM (cellM ns 20) 10).map PyData.int).length = 10 := by rw [List.length_map, n20.1]
    rw [el] at t2
    refine ssc (sifM (fun σ' H' => ∃ t', σ' = [some (.ref sa), some (.bl far), some v2, some (.ref q3), some (.ref A.a), some v5, w6, w7, none] ∧ ArchI X.K H' A (m * b) t' l (belowM l t') (belowM l t') ∧ Tm H9 H') (ltI (dmeth0 (R' := fun H2 v => TD X.K H2 v (.int t)) D (c_present T) T.k_Archive (by decide) (en D 4) (hA).i (by kernel_rfl) fun H1 x1 => ⟨(A, (m * b, t), l, belowM l t), rfl, (hA).ex x1, fun v H2 r => r⟩) di) (fun hlt H10 x10 => ?_) (fun _ H10 x10 => ss0 ⟨t, rfl, hA.ex x10, .ex x10⟩) ?_)
    · have hlt : t < 99999 := of_decide_eq_true hlt
      have hA10 := hA.ex x10
      have jp : (if far = true then PyData.int 99999 else .int (t + 80)) = .int (if far = true then 99999 else t + 80) := by cases far <;> rfl
      have dl : t < (if far = true then 99999 else t + 80) ∧ (if far = true then 99999 else t + 80) ≤ 99999 := by
        cases far with
        | true => exact ⟨hlt, Int.le_refl _⟩
        | false =>
          have := t2 rfl
          simp only [Bool.false_eq_true, if_false]
          omega
      refine ss1 (exprW (gmeth D (c_turn T) T.k_Archive (by decide) (en D 4) hA10.i (by kernel_rfl) (ead (ED.to (dpickB (c := far) (llst (xs := [.int (t + 80), .int 99999]) (ead (dadd (dmeth0 (R' := fun H2 v => TD X.K H2 v (.int t)) D (c_present T) T.k_Archive (by decide) (en D 4) (hA10).i (by kernel_rfl) fun H1 x1 => ⟨(A, (m * b, t), l, belowM l t), rfl, (hA10).ex x1, fun v H2 r => r⟩) di) (ead di ean))) (dint D T.m_int (dn D 1 (.bl far)))) jp) ean) fun H11 x11 => ⟨(A, (m * b, t), (l, belowM l t), if far = true then 99999 else t + 80), rfl, ⟨⟨hA10.ex x11, W, below_ok⟩, few, dl.1, t0, dl.2⟩, fun v H12 r => ?_⟩))
      obtain ⟨_, M12, hA12⟩ := r
      dsimp only at M12 hA12
      rw [turn_below W dl.1] at hA12
      exact ⟨_, rfl, hA12, (Tm.ex (x10.trans x11)).trans M12.tm⟩
    · rintro σ' H10 ⟨t', rfl, hA10, tm⟩
      exact ss1 (retD (dcall D (c_lright T) (A, (m * b, t'), l) (eav (en D 4) (ead (dn D 2 ((a2.ex (x3.trans y9)).tm tm)) (ead (dn D 5 (a9.tm tm)) ean))) fun H11 x11 => ⟨hA10.ex x11, W, few⟩) fun v H11 _ r => hq v H11 r.bl_iff)
end
end G
set_option maxHeartbeats 0
open PySem PySem.W PySem.Calls PyProof.Rows
theorem PySem.Challenge.cw_goneday_k69_whole_archive_does_the_plan_holds : PySem.Challenge.rw_goneday_k69_whole_archive_does_the_plan.Holds := by
  w_on; o_law
  refine HandSHeadRun.head_any (r := G.RR) (q := view G.RR.prog [108]) (H := G.hookZ) (ob := G.obZ) (M := 6000) (loose := G.loose) (d := HandSHeadRun.topDef G.RR.prog 108) (kwd := []) G.obZ_eq
    (by kernel_rfl) (fun s => by kernel_rfl) G.run (by kernel_rfl) (by kernel_rfl) (by kernel_rfl) (by rfl) (by first | assumption | decide +kernel) (by decide +kernel) ⟨rfl, rfl, rfl, rfl, rfl, by decide +kernel⟩ ?hw ?hc
  case hw => w_witness2
  case hc =>
    refine L2.walk_ofE (l := PySem.Challenge.rw_goneday_k69_whole_archive_does_the_plan) (n := 63) (k := 16) (x := "_law_script") (CX := L2.CX0) rfl (by decide) (by kernel_rfl) ⟨rfl, by decide, by decide⟩ ?F (fun _ _ _ _ z => z)
    intro w mg fa h Y G0 hmg0
    obtain ⟨K, KX, c⟩ := Y
    have hmg : mg ("law" : PySem.Str) = some (.ref fa) := by
      have e : (HandSHeadRun.topDef G.RR.prog 108).name = ("law" : PySem.Str) := by kernel_rfl
      rw [← e]
      exact hmg0
    obtain ⟨T, gm, Fm⟩ := G.says_ok KX G0 c
    obtain ⟨fd, F⟩ := T.f_law
    have e := hmg.symm.trans T.g_law
    cases e
    have b := L2.FunD.bindsA (ps := ["_law_script"]) F fun _ _ _ _ _ _ us hl => match us, hl with | [_], _ => rfl
    exact ⟨K, fd, G.LawSp K, KX, fun s v => b s [v] rfl, fun H a ns hl _ hS => ⟨(a, ns), .v .nil, ⟨hS, hl⟩, fun _ _ r => r⟩, fun base _ _ => G.fn_law T gm Fm F⟩
