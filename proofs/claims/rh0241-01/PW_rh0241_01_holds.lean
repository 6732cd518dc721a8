import PyProof.Rows.All
import Wide.All
import OpenK.AllK
import Wide.FinOn
import Lean
import PySem.Challenge.RW_rh0241_01
section
set_option Elab.async false
set_option maxRecDepth 100000
set_option maxHeartbeats 0
namespace Mine
open Lean Meta Elab Tactic PySem PySem.W PySem.Calls PyProof.Rows

/-- a trap's body -/
def trapBody : PySem.FuncBody → Bool
  | .stmts [.Expr (.Call (.Name n _) _ _ _) _] => n == PySem.Str.ofString "_wall"
  | _ => false
def wantObj (codes : List Nat) (a : Nat) (o : PySem.Obj) : Bool := match o.data with
  | .func f => !trapBody f.body
  | .cls _ => true
  | .dict .. => a == 3 || o.cls == .type "dict"
  | .seq .. => codes.contains a
  | .fields .. => codes.contains a
  | _ => false
/-- the objects that are written out: the defs that no trap stands for, their code, the classes, the tables -/
def pick (l : List (Addr × PySem.Obj × Lean.Expr)) : List (Addr × PySem.Obj × Lean.Expr) :=
  let codes : List Nat := l.flatMap fun (x : Addr × PySem.Obj × Lean.Expr) => match x.2.1.data with
    | .func f => if trapBody f.body then [] else refOf f.code ++ refOf f.defaults
    | .dict es _ => if x.1 == 3 then es.toList.flatMap fun (e : PySem.DictEntry) => refOf e.val else []
    | _ => []
  let more : List Nat := l.flatMap fun (x : Addr × PySem.Obj × Lean.Expr) => match x.2.1.data with
    | .seq vs _ => if codes.contains x.1 then vs.toList.flatMap refOf else []
    | _ => []
  l.filter fun x => wantObj (codes ++ more) x.1 x.2.1
def fragPart (i n : Nat) : TacticM Unit := do
  let pE ← whnfR (← mkAppM ``OpenLaw.prog #[mkConst ``PySem.Challenge.rw_rh0241_01])
  let p ← progOf pE
  let some (h, h') ← twoRuns p | throwError "no runs"
  let pr := mkApp2 (mkConst ``Prod [0, 0]) (mkConst ``Nat) (mkConst ``PySem.Obj)
  let v ← withLocalDeclD `P (mkConst ``Params) fun P => do
    let fr := pick (fragOf P (some "law") h h')
    let k := (fr.length + n - 1) / n
    let fr := (fr.drop (i * k)).take k
    logInfo m!"part {i}: {fr.length} objects"
    mkLambdaFVars #[P] (listE pr (fr.map fun (a, _, e) => mkApp4 (mkConst ``Prod.mk [0, 0]) (mkConst ``Nat) (mkConst ``PySem.Obj) (mkRawNatLit a) e))
  (← getMainGoal).assign v
noncomputable def KA : Params → Frag := by run_tac fragPart 0 4
noncomputable def KB : Params → Frag := by run_tac fragPart 1 4
noncomputable def KC : Params → Frag := by run_tac fragPart 2 4
noncomputable def KD : Params → Frag := by run_tac fragPart 3 4
def asOf (n : Name) : TacticM Unit := do
  let l ← kPairs n (mkConst ``Nat.zero)
  (← getMainGoal).assign (listE (mkConst ``Nat) (l.map fun x => mkRawNatLit x.1))
def asA : List Addr := by run_tac asOf ``KA
def asB : List Addr := by run_tac asOf ``KB
def asC : List Addr := by run_tac asOf ``KC
def asD : List Addr := by run_tac asOf ``KD
noncomputable def KK (P : Params) : Frag := KA P ++ (KB P ++ (KC P ++ KD P))

abbrev pw : Program := PySem.Challenge.pw_rh0241_01
def qq : Program := view pw [96]
def theLoose : List PySem.Str := by
  run_tac do
    let pE ← whnfR (← mkAppM ``OpenLaw.prog #[mkConst ``PySem.Challenge.rw_rh0241_01])
    let p ← progOf pE
    let some (h, _) ← twoRuns p | throwError "no runs"
    let keys := (h.nsKeys mainGlobals).filter fun k => !startupNames.contains k && k != PySem.Str.ofString "law"
    (← getMainGoal).assign (listE (mkConst ``PySem.Str) (keys.map fun k => mkApp (mkConst ``PySem.Str.ofString) (mkStrLit k.toString)))
end Mine
end
section
set_option Elab.async false
set_option maxRecDepth 100000
set_option maxHeartbeats 0
namespace Mine
open Lean Meta Elab Tactic PySem PySem.W PySem.Calls PyProof.Rows
theorem left : LeftO pw qq theLoose (fun s => xlAt qq [] s && recOk [] s)
    (fun s => (asA.map s.heap.get?, asB.map s.heap.get?, asC.map s.heap.get?, asD.map s.heap.get?))
    (fun w => ((KA w.params).map (fun p => some p.2), (KB w.params).map (fun p => some p.2), (KC w.params).map (fun p => some p.2), (KD w.params).map (fun p => some p.2))) 16692 := by
  run_tac do
    let pE := mkConst ``PySem.Challenge.pw_rh0241_01
    let p ← progOf pE
    leftByPieces (← getMainGoal) pE p []
    replaceMainGoal []
end Mine
end
section
open PySem PySem.W PySem.Calls PyProof.Rows
set_option Elab.async false
set_option linter.unusedVariables false
set_option maxRecDepth 100000
namespace Mine

/-- a reckoned value: tuples are data, mutable objects are their addresses, what stands at the top is itself -/
inductive AV where
  | none
  | bool (b : Bool)
  | int (i : Int)
  | str (x : Str)
  | bytes (b : List UInt8)
  | tup (vs : List AV)
  | rng (i j k : Int)
  | ref (a : Addr)
  | raw (v : Value)

mutual
inductive VR (h : Heap) : AV → Value → Prop
  | none : VR h .none .none
  | bool (b : Bool) : VR h (.bool b) (.bool b)
  | int (i : Int) (t : Tok) : VR h (.int i) (.int i t)
  | str (x : Str) (t : Tok) : VR h (.str x) (.str x t)
  | bytes (b : List UInt8) (t : Tok) : VR h (.bytes b) (.bytes b.toArray t)
  | tup {a : Addr} {ws : List Value} {n : Nat} {vs : List AV} : h.get? a = some { cls := .type "tuple", data := .seq ws.toArray n } → VRs h vs ws → VR h (.tup vs) (.ref a)
  | rng {a : Addr} {i j k : Int} {t u v : Tok} : h.get? a = some { cls := .type "range", dict := none, data := .fields #[.int i t, .int j u, .int k v], slots := #[] } → VR h (.rng i j k) (.ref a)
  | ref (a : Addr) : VR h (.ref a) (.ref a)
  | raw (v : Value) : VR h (.raw v) v
inductive VRs (h : Heap) : List AV → List Value → Prop
  | nil : VRs h [] []
  | cons {v : AV} {vs : List AV} {x : Value} {xs : List Value} : VR h v x → VRs h vs xs → VRs h (v :: vs) (x :: xs)
end

/-- tuples and ranges stay -/
def Fixed (o : Obj) : Prop := (o.cls = .type "tuple" ∨ o.cls = .type "range") ∧ (∀ es n, o.data ≠ .dict es n) ∧ ∀ v, o.data ≠ .cell v
def TupKeep (h h' : Heap) : Prop := ∀ a o, h.get? a = some o → Fixed o → h'.get? a = some o
theorem VR.keep {h h' : Heap} (k : TupKeep h h') {v : AV} {x : Value} (r : VR h v x) : VR h' v x :=
  VR.rec (motive_1 := fun v x _ => VR h' v x) (motive_2 := fun vs xs _ => VRs h' vs xs) .none (fun b => .bool b) (fun i t => .int i t) (fun x t => .str x t) (fun b t => .bytes b t) (fun e _ r => .tup (k _ _ e ⟨.inl rfl, (fun _ _ q => by cases q), fun _ q => by cases q⟩) r) (fun e => .rng (k _ _ e ⟨.inr rfl, (fun _ _ q => by cases q), fun _ q => by cases q⟩)) (fun a => .ref a) (fun v => .raw v) .nil (fun _ _ a r => .cons a r) r
theorem VRs.keep {h h' : Heap} (k : TupKeep h h') {vs : List AV} {xs : List Value} (r : VRs h vs xs) : VRs h' vs xs :=
  VRs.rec (motive_1 := fun v x _ => VR h' v x) (motive_2 := fun vs xs _ => VRs h' vs xs) .none (fun b => .bool b) (fun i t => .int i t) (fun x t => .str x t) (fun b t => .bytes b t) (fun e _ r => .tup (k _ _ e ⟨.inl rfl, (fun _ _ q => by cases q), fun _ q => by cases q⟩) r) (fun e => .rng (k _ _ e ⟨.inr rfl, (fun _ _ q => by cases q), fun _ q => by cases q⟩)) (fun a => .ref a) (fun v => .raw v) .nil (fun _ _ a r => .cons a r) r
theorem VRs.length {h : Heap} : ∀ {vs : List AV} {xs : List Value}, VRs h vs xs → vs.length = xs.length
  | [], _, H => by cases H; rfl
  | _ :: _, _, H => by cases H with | cons a r => rw [List.length_cons, List.length_cons, r.length]
theorem VRs.get {h : Heap} : ∀ {vs : List AV} {xs : List Value}, VRs h vs xs → ∀ {i : Nat} {v : AV}, vs[i]? = some v → ∃ x, xs[i]? = some x ∧ VR h v x
  | [], _, _, i, v, e => by simp at e
  | u :: vs, _, H, i, v, e => by
    cases H with
    | cons a r =>
      cases i with
      | zero => simp at e; subst e; exact ⟨_, rfl, a⟩
      | succ i => simp at e; obtain ⟨x, h1, h2⟩ := r.get e; exact ⟨x, by simpa using h1, h2⟩
theorem VRs.append {h : Heap} : ∀ {vs : List AV} {xs : List Value}, VRs h vs xs → ∀ {us : List AV} {ys : List Value}, VRs h us ys → VRs h (vs ++ us) (xs ++ ys)
  | [], _, H, _, _, G => by cases H; exact G
  | _ :: _, _, H, _, _, G => by cases H with | cons a r => exact .cons a (r.append G)
theorem VRs.take {h : Heap} : ∀ {vs : List AV} {xs : List Value}, VRs h vs xs → ∀ n, VRs h (vs.take n) (xs.take n)
  | [], _, H, n => by cases H; simpa using VRs.nil
  | _ :: _, _, H, n => by
    cases H with
    | cons a r => cases n with
      | zero => exact .nil
      | succ n => exact .cons a (r.take n)
theorem VRs.drop {h : Heap} : ∀ {vs : List AV} {xs : List Value}, VRs h vs xs → ∀ n, VRs h (vs.drop n) (xs.drop n)
  | [], _, H, n => by cases H; simpa using VRs.nil
  | _ :: _, _, H, n => by
    cases H with
    | cons a r => cases n with
      | zero => exact .cons a r
      | succ n => exact r.drop n
theorem VRs.set {h : Heap} {v : AV} {x : Value} (hv : VR h v x) : ∀ {vs : List AV} {xs : List Value}, VRs h vs xs → ∀ n, VRs h (vs.set n v) (xs.set n x)
  | [], _, H, n => by cases H; simpa using VRs.nil
  | _ :: _, _, H, n => by
    cases H with
    | cons a r => cases n with
      | zero => exact .cons hv r
      | succ n => exact .cons a (VRs.set hv r n)

/-- fields, elementwise; also a dict's pairs -/
inductive FR {κ : Type} (h : Heap) : List (κ × AV) → List (κ × Value) → Prop
  | nil : FR h [] []
  | cons {x : κ} {v : AV} {fs : List (κ × AV)} {y : Value} {gs : List (κ × Value)} : VR h v y → FR h fs gs → FR h ((x, v) :: fs) ((x, y) :: gs)
theorem FR.keep {κ : Type} {h h' : Heap} (k : TupKeep h h') {fs : List (κ × AV)} {gs : List (κ × Value)} (r : FR h fs gs) : FR h' fs gs := by
  induction r with
  | nil => exact .nil
  | cons a _ ih => exact .cons (a.keep k) ih
theorem FR.length {κ : Type} {h : Heap} {fs : List (κ × AV)} {gs : List (κ × Value)} (r : FR h fs gs) : fs.length = gs.length := by
  induction r with
  | nil => rfl
  | cons _ _ ih => exact congrArg Nat.succ ih

/-- a name's value among pairs -/
def look {κ : Type} [DecidableEq κ] (x : κ) : List (κ × AV) → Option AV
  | [] => none
  | (y, v) :: r => if y = x then some v else look x r
/-- stored among pairs -/
def put {κ : Type} [DecidableEq κ] (x : κ) (v : AV) : List (κ × AV) → List (κ × AV)
  | [] => [(x, v)]
  | (y, u) :: r => if y = x then (y, v) :: r else (y, u) :: put x v r

def entOf (w : World) (tk : Str → Tok) (p : Str × Value) : DictEntry := ⟨PyData.keyHash w.params p.1, .str p.1 (tk p.1), p.2⟩

/-- what an address of the call's own holds -/
inductive AO where
  | list (vs : List AV)
  | dict (es : List (Str × AV))
  | inst (C dx : Addr) (fs : List (Str × AV))
  | idict (es : List (Int × AV))
  | bdict (es : List (List UInt8 × AV))
  | cell (v : Option AV)

abbrev AH := Addr → Option AO

def mu (a : Addr) : AO → Addr
  | .inst _ dx _ => dx
  | _ => a
def AH.set (σ : AH) (a : Addr) (o : AO) : AH := fun b => if b = a then some o else σ b
theorem AH.set_same {σ : AH} {a : Addr} {o : AO} : (σ.set a o) a = some o := by simp [AH.set]
theorem AH.set_ne {σ : AH} {a b : Addr} {o : AO} (h : b ≠ a) : (σ.set a o) b = σ b := by simp [AH.set, h]

/-- the entries of an instance's dict -/
inductive ER (w : World) : List (Str × Value) → List DictEntry → Prop
  | nil : ER w [] []
  | cons {x : Str} {t : Tok} {v : Value} {gs : List (Str × Value)} {es : List DictEntry} : ER w gs es → ER w ((x, v) :: gs) (⟨PyData.keyHash w.params x, .str x t, v⟩ :: es)

/-- a cell's value -/
inductive OV (h : Heap) : Option AV → Option Value → Prop
  | none : OV h none none
  | some {v : AV} {x : Value} : VR h v x → OV h (some v) (some x)
theorem OV.keep {h h' : Heap} (k : TupKeep h h') {v : Option AV} {x : Option Value} (r : OV h v x) : OV h' v x := by
  cases r with
  | none => exact .none
  | some a => exact .some (a.keep k)

def ORel (prog : Program) (w : World) (h : Heap) (a : Addr) : AO → Prop
  | .list vs => ∃ ws n, h.get? a = some { cls := .type "list", data := .seq ws.toArray n } ∧ VRs h vs ws
  | .dict es => ∃ kvs, h.DictOf (strKind prog w) a kvs ∧ FR h es kvs
  | .inst C dx fs => ∃ sl gs es n, h.get? a = some ⟨.ref C, some dx, .plain, sl⟩ ∧ h.get? dx = some (dictOf es n) ∧ ER w gs es ∧ FR h fs gs
  | .idict es => ∃ kvs, h.DictOf (intKind prog w) a kvs ∧ FR h es kvs
  | .bdict es => ∃ kvs, h.DictOf (bytesKind prog w) a kvs ∧ FR h es kvs
  | .cell v => ∃ y, h.IsCell a y ∧ OV h v y

structure St (prog : Program) (w : World) (h₀ : Heap) (σ : AH) (h : Heap) : Prop where
  keep : ∀ b o, h₀.get? b = some o → h.get? b = some o
  obj : ∀ a o, σ a = some o → ORel prog w h a o
  own : ∀ a o, σ a = some o → h₀.objs.size ≤ mu a o
  inj : ∀ a b oa ob, σ a = some oa → σ b = some ob → mu a oa = mu b ob → a = b

/-- what a step keeps: all but the own objects and the frame at L; what is new was not there -/
structure Ext (L : Addr) (σ : AH) (h : Heap) (σ' : AH) (h' : Heap) : Prop where
  keep : ∀ b o, h.get? b = some o → b ≠ L → (∀ a oa, σ a = some oa → mu a oa ≠ b) → h'.get? b = some o
  dom : ∀ a o', σ' a = some o' → (∃ o, σ a = some o ∧ mu a o = mu a o') ∨ h.get? (mu a o') = none
  there : ∀ b o, h.get? b = some o → ∃ o', h'.get? b = some o'

theorem Ext.refl (L : Addr) (σ : AH) (h : Heap) : Ext L σ h σ h := ⟨fun _ _ e _ _ => e, fun _ _ e => .inl ⟨_, e, rfl⟩, fun _ o e => ⟨o, e⟩⟩
theorem Ext.trans {L : Addr} {σ σ' σ'' : AH} {h h' h'' : Heap} (x : Ext L σ h σ' h') (y : Ext L σ' h' σ'' h'') : Ext L σ h σ'' h'' := by
  refine ⟨fun b o e hL hm => y.keep b o (x.keep b o e hL hm) hL fun a oa ea q => ?_, fun a o' e => ?_, fun b o e => ?_⟩
  · rcases x.dom a oa ea with ⟨o₁, e₁, q₁⟩ | n
    · exact hm a o₁ e₁ (q₁.trans q)
    · rw [q, e] at n; cases n
  · rcases y.dom a o' e with ⟨o₁, e₁, q₁⟩ | n
    · rcases x.dom a o₁ e₁ with ⟨o₂, e₂, q₂⟩ | n'
      · exact .inl ⟨o₂, e₂, q₂.trans q₁⟩
      · exact .inr (q₁ ▸ n')
    · right
      cases q : h.get? (mu a o') with
      | none => rfl
      | some o => obtain ⟨o₂, e₂⟩ := x.there _ _ q; rw [n] at e₂; cases e₂
  · obtain ⟨o₁, e₁⟩ := x.there b o e
    exact y.there b o₁ e₁

/-- what an own object's mutable part looks like: neither tuple nor range -/
theorem St.noFix {prog : Program} {w : World} {h₀ : Heap} {σ : AH} {h : Heap} (S : St prog w h₀ σ h) {a : Addr} {oa : AO} (e : σ a = some oa) {o : Obj} (ho : h.get? (mu a oa) = some o) : ¬ Fixed o := by
  have z := S.obj a oa e
  have key : ∀ T : String, o.cls = .type T → (T = "list" ∨ T = "dict") → ¬ Fixed o := fun T c q x => by
    rcases q with rfl | rfl <;> rcases x.1 with y | y <;> · rw [c] at y; revert y; decide
  cases oa with
  | list vs => obtain ⟨ws, n, h1, _⟩ := z; rw [show mu a (.list vs) = a from rfl, h1] at ho; cases ho; exact key _ rfl (.inl rfl)
  | dict es => obtain ⟨kvs, ⟨o', es', ep, h1, h2, _⟩, _⟩ := z; rw [show mu a (.dict es) = a from rfl, h1] at ho; cases ho; exact key _ h2.1 (.inr rfl)
  | inst C dx fs => obtain ⟨sl, gs, es, n, h1, h2, _⟩ := z; rw [show mu a (.inst C dx fs) = dx from rfl, h2] at ho; cases ho; exact key _ rfl (.inr rfl)
  | idict es => obtain ⟨kvs, ⟨o', es', ep, h1, h2, _⟩, _⟩ := z; rw [show mu a (.idict es) = a from rfl, h1] at ho; cases ho; exact key _ h2.1 (.inr rfl)
  | bdict es => obtain ⟨kvs, ⟨o', es', ep, h1, h2, _⟩, _⟩ := z; rw [show mu a (.bdict es) = a from rfl, h1] at ho; cases ho; exact key _ h2.1 (.inr rfl)
  | cell v => obtain ⟨y, ⟨o', h1, h2⟩, _⟩ := z; rw [show mu a (.cell v) = a from rfl, h1] at ho; cases ho; exact fun x => x.2.2 _ h2

/-- the frame's locals -/
structure Frm (h₀ : Heap) (σ : AH) (h : Heap) (L : Addr) (ℓ : List (Str × AV)) : Prop where
  fr : ∃ m, Fr h₀ L h m ∧ ∀ x v, look x ℓ = some v → ∃ y, m x = some y ∧ VR h v y
  off : ∀ a o, σ a = some o → mu a o ≠ L
  plain : ∃ o es n, h.get? L = some o ∧ o.data = .dict es n

theorem Frm.tup {h₀ : Heap} {σ : AH} {h : Heap} {L : Addr} {ℓ : List (Str × AV)} (F : Frm h₀ σ h L ℓ) {prog : Program} {w : World} (S : St prog w h₀ σ h) {σ' : AH} {h' : Heap} (x : Ext L σ h σ' h') : TupKeep h h' := by
  intro a o e fx
  refine x.keep a o e ?_ fun b ob eb q => ?_
  · rintro rfl
    obtain ⟨m, hm, _⟩ := F.fr
    obtain ⟨o', es, ep, h1, h2, _⟩ := hm.ns
    rw [e] at h1; cases h1; exact fx.2.1 _ _ h2
  · rw [← q] at e
    exact S.noFix eb e fx

structure Cx where
  prog : Program
  w : World
  K : Frag
structure Cx.Base (c : Cx) (h₀ : Heap) : Prop where
  k : c.K.In h₀
  sys : sysModules < h₀.objs.size
  top : ∃ p loose mg mb, TopRead p loose mg mb h₀
structure Lv (n : Nat) (A : Around) : Prop where
  handled : A.handled = none
  depth : A.depth + 2 * n + 2 < recursionLimit
  units : A.units + 16 * n + 80 < cLine

abbrev Loc := List (Str × AV)
abbrev Cont {α β : Type} (c : Cx) (R : Heap → β → α → Prop) (h₀ : Heap) (L : Addr) (σ : AH) (s : Shared) (K : β → Loc → AH → Prop) (Q : α → Shared → Prop) : Prop :=
  ∀ b a ℓ' σ' h' tk, K b ℓ' σ' → St c.prog c.w h₀ σ' h' → Frm h₀ σ' h' L ℓ' → Ext L σ s.heap σ' h' → R h' b a → Q a { s with heap := h', toks := tk }

/-- one tree, run from a reckoned state: all its ends are ends of K -/
def J {α β ι : Type} (c : Cx) (R : Heap → β → α → Prop) (n : Nat) (P : Heap → ι → Prop) (t : Addr → ι → Sem α) (ℓ : Loc) (σ : AH) (K : β → Loc → AH → Prop) : Prop :=
  ∀ (h₀ : Heap) (A : Around) (L : Addr) (s : Shared) (i : ι) (Q : α → Shared → Prop) (E : Value → Shared → Prop), c.Base h₀ → Lv n A → St c.prog c.w h₀ σ s.heap → Frm h₀ σ s.heap L ℓ → P s.heap i →
    Cont c R h₀ L σ s K Q → wpAny (model c.prog c.w) A (t L i) Q E s

def RB (_ : Heap) (b b' : Bool) : Prop := b = b'
def RU (_ : Heap) (_ _ : Unit) : Prop := True
inductive AF where
  | next | brk | cont
  | ret (v : AV)
inductive RF (h : Heap) : AF → Flow → Prop
  | next : RF h .next .next
  | brk : RF h .brk .brk
  | cont : RF h .cont .cont
  | ret {v : AV} {x : Value} : VR h v x → RF h (.ret v) (.ret x)
abbrev P0 : Heap → Unit → Prop := fun _ _ => True
abbrev P1 (v : AV) : Heap → Value → Prop := fun h x => VR h v x
abbrev P2 (u v : AV) : Heap → Value × Value → Prop := fun h x => VR h u x.1 ∧ VR h v x.2
abbrev P3 (u v y : AV) : Heap → Value × Value × Value → Prop := fun h x => VR h u x.1 ∧ VR h v x.2.1 ∧ VR h y x.2.2
abbrev PL (vs : List AV) : Heap → List Value → Prop := fun h x => VRs h vs x

/-- a def's frame -/
structure Fe where
  env : Addr → Env
  kind : ∀ L, (env L).scope.kind = .function
  loc : ∀ L, (env L).locals = L
  glob : ∀ L, (env L).globals = mainGlobals
  bins : ∀ L, (env L).builtins = builtinsNs
/-- a def's frame -/
def Fe.fn (nm : Str) (sc : Scope) (a : Addr) (cd : Value) (cl : List (Str × Addr)) (hk : sc.kind = .function) : Fe := ⟨fun L => envX nm sc L a cd cl, fun _ => hk, fun _ => rfl, fun _ => rfl, fun _ => rfl⟩

/-- an expression -/
def Ev (c : Cx) (n : Nat) (f : Fe) (e : Expr) (ℓ : Loc) (σ : AH) (K : AV → Loc → AH → Prop) : Prop := J c VR n P0 (fun L _ => eval e (f.env L)) ℓ σ K
/-- a test -/
def Ts (c : Cx) (n : Nat) (f : Fe) (e : Expr) (ℓ : Loc) (σ : AH) (K : Bool → Loc → AH → Prop) : Prop := J c RB n P0 (fun L _ => isTrue e (f.env L) (eval e (f.env L))) ℓ σ K
/-- a statement; a block -/
def Ex (c : Cx) (n : Nat) (f : Fe) (st : Stmt) (ℓ : Loc) (σ : AH) (K : AF → Loc → AH → Prop) : Prop := J c RF n P0 (fun L _ => exec st (f.env L)) ℓ σ K
def Exs (c : Cx) (n : Nat) (f : Fe) (sts : List Stmt) (ℓ : Loc) (σ : AH) (K : AF → Loc → AH → Prop) : Prop := J c RF n P0 (fun L _ => execs sts (f.env L)) ℓ σ K
/-- expressions in a row -/
def Els (c : Cx) (n : Nat) (f : Fe) (pos : Pos) (es : List Expr) (ℓ : Loc) (σ : AH) (K : List AV → Loc → AH → Prop) : Prop := J c VRs n P0 (fun L _ => spliced (backTo pos (starEach es (f.env L)))) ℓ σ K
def O1 (c : Cx) (n : Nat) (g : Value → Sem Value) (v : AV) (ℓ : Loc) (σ : AH) (K : AV → Loc → AH → Prop) : Prop := J c VR n (P1 v) (fun _ x => g x) ℓ σ K
def O2 (c : Cx) (n : Nat) (g : Value → Value → Sem Value) (u v : AV) (ℓ : Loc) (σ : AH) (K : AV → Loc → AH → Prop) : Prop := J c VR n (P2 u v) (fun _ x => g x.1 x.2) ℓ σ K
def OL (c : Cx) (n : Nat) (g : List Value → Sem Value) (vs : List AV) (ℓ : Loc) (σ : AH) (K : AV → Loc → AH → Prop) : Prop := J c VR n (PL vs) (fun _ x => g x) ℓ σ K
def Tr (c : Cx) (n : Nat) (v : AV) (ℓ : Loc) (σ : AH) (K : Bool → Loc → AH → Prop) : Prop := J c RB n (P1 v) (fun _ x => truthy x) ℓ σ K
/-- a def's call -/
def Ca (c : Cx) (n : Nat) (f : Value) (vs : List AV) (ℓ : Loc) (σ : AH) (K : AV → Loc → AH → Prop) : Prop := OL c n (fun xs => PySem.call f xs) vs ℓ σ K

section
variable {c : Cx} {n : Nat} {f : Fe} {ℓ : Loc} {σ : AH}

theorem J.mono {α β ι : Type} {R : Heap → β → α → Prop} {P : Heap → ι → Prop} {t : Addr → ι → Sem α} {K K' : β → Loc → AH → Prop} (h : J c R n P t ℓ σ K) (k : ∀ b ℓ' σ', K b ℓ' σ' → K' b ℓ' σ') : J c R n P t ℓ σ K' :=
  fun h₀ A L s i Q E hB hA hS hF hP hC => h h₀ A L s i Q E hB hA hS hF hP fun b a ℓ' σ' h' tk hK => hC b a ℓ' σ' h' tk (k _ _ _ hK)

/-- a value at once -/
theorem J.now {α β ι : Type} {R : Heap → β → α → Prop} {P : Heap → ι → Prop} {t : Addr → ι → Sem α} {K : β → Loc → AH → Prop} {b : β} (hK : K b ℓ σ)
    (h : ∀ (h₀ : Heap) (A : Around) (L : Addr) (s : Shared) (i : ι) (Q : α → Shared → Prop) (E : Value → Shared → Prop), c.Base h₀ → Lv n A → St c.prog c.w h₀ σ s.heap → Frm h₀ σ s.heap L ℓ → P s.heap i →
      (∀ a tk, R s.heap b a → Q a { s with toks := tk }) → wpAny (model c.prog c.w) A (t L i) Q E s) : J c R n P t ℓ σ K :=
  fun h₀ A L s i Q E hB hA hS hF hP hC => h h₀ A L s i Q E hB hA hS hF hP fun a tk r => hC b a ℓ σ s.heap tk hK hS hF (Ext.refl _ _ _) r

theorem Ev.int {i : Int} {k : Nat} {pos : Pos} {K : AV → Loc → AH → Prop} (h : K (.int i) ℓ σ) : Ev c n f (.Constant (.int i) k pos) ℓ σ K :=
  J.now h fun _ _ _ _ _ _ _ _ _ _ _ _ q => wpAny_Constant_int (q _ _ (.int _ _))
theorem Ev.str {x : Str} {k : Nat} {pos : Pos} {K : AV → Loc → AH → Prop} (h : K (.str x) ℓ σ) : Ev c n f (.Constant (.str x) k pos) ℓ σ K :=
  J.now h fun _ _ _ _ _ _ _ _ _ _ _ _ q => wpAny_Constant_str (q _ _ (.str _ _))
theorem Ev.bool {b : Bool} {k : Nat} {pos : Pos} {K : AV → Loc → AH → Prop} (h : K (.bool b) ℓ σ) : Ev c n f (.Constant (.bool b) k pos) ℓ σ K :=
  J.now h fun _ _ _ s _ _ _ _ _ _ _ _ q => wpAny_Constant_bool (q _ s.toks (.bool _))
theorem Ev.non {k : Nat} {pos : Pos} {K : AV → Loc → AH → Prop} (h : K .none ℓ σ) : Ev c n f (.Constant .none k pos) ℓ σ K :=
  J.now h fun _ _ _ s _ _ _ _ _ _ _ _ q => wpAny_Constant_none (q _ s.toks .none)

/-- a local name -/
theorem Ev.loc {x : Str} {pos : Pos} {v : AV} {K : AV → Loc → AH → Prop} (hl : ∀ L, (f.env L).kindOf x = some .local) (hd : (x == ("__debug__" : Str)) = false) (hv : look x ℓ = some v) (h : K v ℓ σ) :
    Ev c n f (.Name x pos) ℓ σ K := by
  refine J.now h fun h₀ A L s _ Q E hB hA hS hF _ q => ?_
  obtain ⟨m, hm, hl'⟩ := hF.fr
  obtain ⟨y, e, r⟩ := hl' x v hv
  exact wpAny_Name (wpAny_loadName_local (f.kind L) (hl L) (by rw [f.loc L]; exact hm.ns) e (q _ s.toks r)) hd
/-- a cell's name -/
theorem Ev.cell {x : Str} {pos : Pos} {v : AV} {a : Addr} {K : AV → Loc → AH → Prop} (hl : ∀ L, (f.env L).kindOf x = some .cell) (hd : (x == ("__debug__" : Str)) = false) (hc : ∀ L, (f.env L).cells.lookup x = some a) (ha : σ a = some (.cell (some v))) (h : K v ℓ σ) :
    Ev c n f (.Name x pos) ℓ σ K := by
  refine J.now h fun h₀ A L s _ Q E hB hA hS hF _ q => ?_
  obtain ⟨y, h1, h2⟩ := hS.obj a _ ha
  cases h2 with
  | some r => exact wpAny_Name (wpAny_loadName_cell (f.kind L) (hl L) (hc L) h1 (q _ s.toks r)) hd
theorem Ev.free {x : Str} {pos : Pos} {v : AV} {a : Addr} {K : AV → Loc → AH → Prop} (hl : ∀ L, (f.env L).kindOf x = some .free) (hd : (x == ("__debug__" : Str)) = false) (hn : (x == ("__classdict__" : Str)) = false) (hc : ∀ L, (f.env L).cells.lookup x = some a) (ha : σ a = some (.cell (some v))) (h : K v ℓ σ) :
    Ev c n f (.Name x pos) ℓ σ K := by
  refine J.now h fun h₀ A L s _ Q E hB hA hS hF _ q => ?_
  obtain ⟨y, h1, h2⟩ := hS.obj a _ ha
  cases h2 with
  | some r => exact wpAny_Name (wpAny_loadName_free (f.kind L) (hl L) (hc L) h1 (q _ s.toks r) hn) hd
end
end Mine
end
section
open PySem PySem.W PySem.Calls PyProof.Rows
set_option Elab.async false
set_option linter.unusedVariables false
set_option maxRecDepth 100000
namespace Mine
section
variable {c : Cx} {n : Nat} {f : Fe} {ℓ : Loc} {σ : AH}

theorem Cont.after {α β : Type} {R : Heap → β → α → Prop} {h₀ : Heap} {L : Addr} {σ' : AH} {s : Shared} {K : β → Loc → AH → Prop} {Q : α → Shared → Prop} (hC : Cont c R h₀ L σ s K Q) {h' : Heap} (x : Ext L σ s.heap σ' h') (tk : Nat) :
    Cont c R h₀ L σ' { s with heap := h', toks := tk } K Q := fun b a ℓ' σ'' h'' tk' hK hS hF hX hR => hC b a ℓ' σ'' h'' tk' hK hS hF (x.trans hX) hR

/-- one tree, then another with its answer -/
theorem J.bind {α β γ δ : Type} {R : Heap → β → α → Prop} {R' : Heap → δ → γ → Prop} {m : Addr → Sem α} {g : Addr → α → Sem γ} {K : δ → Loc → AH → Prop}
    (h : J c R n P0 (fun L _ => m L) ℓ σ fun b ℓ' σ' => J c R' n (fun h a => R h b a) (fun L a => g L a) ℓ' σ' K) : J c R' n P0 (fun L _ => m L >>= g L) ℓ σ K :=
  fun h₀ A L s _ Q E hB hA hS hF _ hC => wpAny_bind (h h₀ A L s () _ E hB hA hS hF trivial fun _ a _ _ _ tk hK hS' hF' hX hR => hK h₀ A L _ a _ E hB hA hS' hF' hR (hC.after hX tk))

theorem J.tree {α β ι : Type} {R : Heap → β → α → Prop} {P : Heap → ι → Prop} {t t' : Addr → ι → Sem α} {K : β → Loc → AH → Prop} (e : ∀ L i, t L i = t' L i) (h : J c R n P t' ℓ σ K) : J c R n P t ℓ σ K := by
  have : t = t' := funext fun L => funext fun i => e L i
  rw [this]; exact h

theorem Ev.glob {x : Str} {pos : Pos} {v : Value} {K : AV → Loc → AH → Prop} (hl : ∀ L, (f.env L).kindOf x = some .globalImplicit) (hd : (x == ("__debug__" : Str)) = false)
    (hv : nsIn c.K mainGlobals x = some (some v)) (av : AV) (hav : ∀ h : Heap, c.K.In h → VR h av v) (h : K av ℓ σ) : Ev c n f (.Name x pos) ℓ σ K := by
  refine J.now h fun h₀ A L s _ Q E hB hA hS hF _ q => ?_
  obtain ⟨m, hm, _⟩ := hF.fr
  obtain ⟨p, loose, mg, mb, T⟩ := hB.top
  exact nameG_K hm hB.k T hv (q _ s.toks (hav _ (hB.k.keeps hS.keep))) (f.glob L) (f.kind L) (hl L) hd
theorem Ev.builtin {x : Str} {pos : Pos} {v : Value} {K : AV → Loc → AH → Prop} (hl : ∀ L, (f.env L).kindOf x = some .globalImplicit) (hd : (x == ("__debug__" : Str)) = false)
    (hv : nsIn c.K mainGlobals x = some none) (hb : bootBuiltins x = some v) (hn : x ≠ "__name__") (h : K (.raw v) ℓ σ) : Ev c n f (.Name x pos) ℓ σ K := by
  refine J.now h fun h₀ A L s _ Q E hB hA hS hF _ q => ?_
  obtain ⟨m, hm, _⟩ := hF.fr
  obtain ⟨p, loose, mg, mb, T⟩ := hB.top
  exact Name_function_global (f.kind L) (hl L) (loadGlobal_builtin (by rw [f.glob L]; exact T.g.keeps hm.keep) (mg_none_of hB.k T.g hv) (by rw [f.bins L]; exact T.b.keeps hm.keep) ((T.builtins x hn).trans hb) (q _ s.toks (.raw _))) hd

theorem Ev.bin {op : Operator} {l r : Expr} {pos : Pos} {K : AV → Loc → AH → Prop} (h : Ev c n f l ℓ σ fun u ℓ₁ σ₁ => Ev c n f r ℓ₁ σ₁ fun v ℓ₂ σ₂ => O2 c n (binaryOp op) u v ℓ₂ σ₂ K) : Ev c n f (.BinOp l op r pos) ℓ σ K :=
  fun h₀ A L s _ Q E hB hA hS hF _ hC => wpAny_BinOp (h h₀ A L s () _ E hB hA hS hF trivial fun _ x _ _ _ tk₁ hK₁ hS₁ hF₁ hX₁ hR₁ =>
    hK₁ h₀ A L _ () _ E hB hA hS₁ hF₁ trivial fun _ y _ _ _ tk₂ hK₂ hS₂ hF₂ hX₂ hR₂ => hK₂ h₀ A L _ (x, y) _ E hB hA hS₂ hF₂ ⟨hR₁.keep (hF₁.tup hS₁ hX₂), hR₂⟩ (hC.after (hX₁.trans hX₂) tk₂))

theorem Ev.un {op : UnaryOp} {e : Expr} {pos : Pos} {K : AV → Loc → AH → Prop} (h : Ev c n f e ℓ σ fun u ℓ₁ σ₁ => O1 c n (unaryOp op) u ℓ₁ σ₁ K) : Ev c n f (.UnaryOp op e pos) ℓ σ K :=
  fun h₀ A L s _ Q E hB hA hS hF _ hC => wpAny_UnaryOp (h h₀ A L s () _ E hB hA hS hF trivial fun _ x _ _ _ tk₁ hK₁ hS₁ hF₁ hX₁ hR₁ =>
    hK₁ h₀ A L _ x _ E hB hA hS₁ hF₁ hR₁ (hC.after hX₁ tk₁))

theorem Ev.cmp {op : CmpOp} {l r : Expr} {pos : Pos} {K : AV → Loc → AH → Prop} (hm : behindInMarks op r = false) (h : Ev c n f l ℓ σ fun u ℓ₁ σ₁ => Ev c n f r ℓ₁ σ₁ fun v ℓ₂ σ₂ => O2 c n (compareOp op) u v ℓ₂ σ₂ K) :
    Ev c n f (.Compare l [op] [r] pos) ℓ σ K :=
  fun h₀ A L s _ Q E hB hA hS hF _ hC => wpAny_Compare1 (h h₀ A L s () _ E hB hA hS hF trivial fun _ x _ _ _ tk₁ hK₁ hS₁ hF₁ hX₁ hR₁ =>
    hK₁ h₀ A L _ () _ E hB hA hS₁ hF₁ trivial fun _ y _ _ _ tk₂ hK₂ hS₂ hF₂ hX₂ hR₂ => hK₂ h₀ A L _ (x, y) _ E hB hA hS₂ hF₂ ⟨hR₁.keep (hF₁.tup hS₁ hX₂), hR₂⟩ (hC.after (hX₁.trans hX₂) tk₂)) hm

/-- a value's truth -/
theorem Ts.val {e : Expr} {K : Bool → Loc → AH → Prop} (he : ∀ env whole, isTrue e env whole = (do let v ← whole; standAt e.pos; holding [v] (truthy v))) (h : Ev c n f e ℓ σ fun v ℓ₁ σ₁ => Tr c n v ℓ₁ σ₁ K) : Ts c n f e ℓ σ K :=
  fun h₀ A L s _ Q E hB hA hS hF _ hC => wpAny_isTrue_value (h h₀ A L s () _ E hB hA hS hF trivial fun _ x _ _ _ tk₁ hK₁ hS₁ hF₁ hX₁ hR₁ =>
    hK₁ h₀ A L _ x _ E hB hA hS₁ hF₁ hR₁ (hC.after hX₁ tk₁)) (he _ _)
theorem Ts.cmp {op : CmpOp} {l r : Expr} {pos : Pos} {K : Bool → Loc → AH → Prop} (hm : behindInMarks op r = false) (h : Ev c n f l ℓ σ fun u ℓ₁ σ₁ => Ev c n f r ℓ₁ σ₁ fun v ℓ₂ σ₂ => O2 c n (compareOp op) u v ℓ₂ σ₂ fun y ℓ₃ σ₃ => Tr c n y ℓ₃ σ₃ K) :
    Ts c n f (.Compare l [op] [r] pos) ℓ σ K :=
  fun h₀ A L s _ Q E hB hA hS hF _ hC => wpAny_isTrue_Compare1 (h h₀ A L s () _ E hB hA hS hF trivial fun _ x _ _ _ tk₁ hK₁ hS₁ hF₁ hX₁ hR₁ =>
    hK₁ h₀ A L _ () _ E hB hA hS₁ hF₁ trivial fun _ y _ _ _ tk₂ hK₂ hS₂ hF₂ hX₂ hR₂ => hK₂ h₀ A L _ (x, y) _ E hB hA hS₂ hF₂ ⟨hR₁.keep (hF₁.tup hS₁ hX₂), hR₂⟩ fun _ z _ _ _ tk₃ hK₃ hS₃ hF₃ hX₃ hR₃ =>
      hK₃ h₀ A L _ z _ E hB hA hS₃ hF₃ hR₃ (hC.after ((hX₁.trans hX₂).trans hX₃) tk₃)) hm
theorem Ts.not {e : Expr} {pos : Pos} {K : Bool → Loc → AH → Prop} (h : Ts c n f e ℓ σ fun b ℓ₁ σ₁ => K (!b) ℓ₁ σ₁) : Ts c n f (.UnaryOp .Not e pos) ℓ σ K :=
  fun h₀ A L s _ Q E hB hA hS hF _ hC => wpAny_isTrue_Not (h h₀ A L s () _ E hB hA hS hF trivial fun b a _ _ _ tk₁ hK₁ hS₁ hF₁ hX₁ hR₁ => hC (!b) (!a) _ _ _ tk₁ hK₁ hS₁ hF₁ hX₁ (by rw [show b = a from hR₁]; exact rfl))

/-- a chain of two comparisons -/
theorem Ts.chain {op op' : CmpOp} {l r r' : Expr} {pos : Pos} {K : Bool → Loc → AH → Prop} (hm : lastMarks [op, op'] [r, r'] = false)
    (h : Ev c n f l ℓ σ fun u ℓ₁ σ₁ => Ev c n f r ℓ₁ σ₁ fun v ℓ₂ σ₂ => O2 c n (compareOp op) u v ℓ₂ σ₂ fun y ℓ₃ σ₃ => Tr c n y ℓ₃ σ₃ fun b ℓ₄ σ₄ =>
      if b then Ev c n f r' ℓ₄ σ₄ fun z ℓ₅ σ₅ => O2 c n (compareOp op') v z ℓ₅ σ₅ fun y ℓ₃ σ₃ => Tr c n y ℓ₃ σ₃ K else K false ℓ₄ σ₄) : Ts c n f (.Compare l [op, op'] [r, r'] pos) ℓ σ K :=
  fun h₀ A L s _ Q E hB hA hS hF _ hC => isTrue_chain (h h₀ A L s () _ E hB hA hS hF trivial fun _ x _ _ _ tk₁ hK₁ hS₁ hF₁ hX₁ hR₁ => test_link
    (hK₁ h₀ A L _ () _ E hB hA hS₁ hF₁ trivial fun _ y _ _ _ tk₂ hK₂ hS₂ hF₂ hX₂ hR₂ => hK₂ h₀ A L _ (x, y) _ E hB hA hS₂ hF₂ ⟨hR₁.keep (hF₁.tup hS₁ hX₂), hR₂⟩ fun _ z _ _ _ tk₃ hK₃ hS₃ hF₃ hX₃ hR₃ =>
      hK₃ h₀ A L _ z _ E hB hA hS₃ hF₃ hR₃ fun b b' _ _ _ tk₄ hK₄ hS₄ hF₄ hX₄ hR₄ => by
        obtain rfl : b = b' := hR₄
        have hX := ((hX₁.trans hX₂).trans hX₃).trans hX₄
        cases b with
        | false => simp only [Bool.false_eq_true, if_false] at hK₄ ⊢; exact hC _ _ _ _ _ tk₄ hK₄ hS₄ hF₄ hX rfl
        | true =>
          simp only [if_true] at hK₄ ⊢
          exact test_last (hK₄ h₀ A L _ () _ E hB hA hS₄ hF₄ trivial fun _ q _ _ _ tk₅ hK₅ hS₅ hF₅ hX₅ hR₅ => hK₅ h₀ A L _ (y, q) _ E hB hA hS₅ hF₅ ⟨hR₂.keep (hF₂.tup hS₂ ((hX₃.trans hX₄).trans hX₅)), hR₅⟩ fun _ z _ _ _ tk₆ hK₆ hS₆ hF₆ hX₆ hR₆ =>
            hK₆ h₀ A L _ z _ E hB hA hS₆ hF₆ hR₆ (hC.after ((hX.trans hX₅).trans hX₆) tk₆))) ) hm
theorem Ev.chain {op op' : CmpOp} {l r r' : Expr} {pos : Pos} {K : AV → Loc → AH → Prop} (hm : lastMarks [op, op'] [r, r'] = false)
    (h : Ev c n f l ℓ σ fun u ℓ₁ σ₁ => Ev c n f r ℓ₁ σ₁ fun v ℓ₂ σ₂ => O2 c n (compareOp op) u v ℓ₂ σ₂ fun y ℓ₃ σ₃ => Tr c n y ℓ₃ σ₃ fun b ℓ₄ σ₄ =>
      if b then Ev c n f r' ℓ₄ σ₄ fun z ℓ₅ σ₅ => O2 c n (compareOp op') v z ℓ₅ σ₅ K else K y ℓ₄ σ₄) : Ev c n f (.Compare l [op, op'] [r, r'] pos) ℓ σ K :=
  fun h₀ A L s _ Q E hB hA hS hF _ hC => Compare_chain (h h₀ A L s () _ E hB hA hS hF trivial fun _ x _ _ _ tk₁ hK₁ hS₁ hF₁ hX₁ hR₁ => chain_link
    (hK₁ h₀ A L _ () _ E hB hA hS₁ hF₁ trivial fun _ y _ _ _ tk₂ hK₂ hS₂ hF₂ hX₂ hR₂ => hK₂ h₀ A L _ (x, y) _ E hB hA hS₂ hF₂ ⟨hR₁.keep (hF₁.tup hS₁ hX₂), hR₂⟩ fun _ z _ _ _ tk₃ hK₃ hS₃ hF₃ hX₃ hR₃ =>
      hK₃ h₀ A L _ z _ E hB hA hS₃ hF₃ hR₃ fun b b' _ _ _ tk₄ hK₄ hS₄ hF₄ hX₄ hR₄ => by
        obtain rfl : b = b' := hR₄
        have hX := ((hX₁.trans hX₂).trans hX₃).trans hX₄
        cases b with
        | false => simp only [Bool.false_eq_true, if_false] at hK₄ ⊢; exact hC _ _ _ _ _ tk₄ hK₄ hS₄ hF₄ hX (hR₃.keep (hF₃.tup hS₃ hX₄))
        | true =>
          simp only [if_true] at hK₄ ⊢
          exact chain_last (hK₄ h₀ A L _ () _ E hB hA hS₄ hF₄ trivial fun _ q _ _ _ tk₅ hK₅ hS₅ hF₅ hX₅ hR₅ => hK₅ h₀ A L _ (y, q) _ E hB hA hS₅ hF₅ ⟨hR₂.keep (hF₂.tup hS₂ ((hX₃.trans hX₄).trans hX₅)), hR₅⟩ (hC.after (hX.trans hX₅) tk₅)))) hm

/-- and, or of tests -/
def Tall (c : Cx) (n : Nat) (f : Fe) (op : BoolOp) (es : List Expr) (ℓ : Loc) (σ : AH) (K : Bool → Loc → AH → Prop) : Prop := J c RB n P0 (fun L _ => allTrue op es (f.env L)) ℓ σ K
theorem Ts.boolOp {op : BoolOp} {es : List Expr} {pos : Pos} {K : Bool → Loc → AH → Prop} (h : Tall c n f op es ℓ σ K) : Ts c n f (.BoolOp op es pos) ℓ σ K :=
  fun h₀ A L s _ Q E hB hA hS hF _ hC => wpAny_isTrue_BoolOp (h h₀ A L s () Q E hB hA hS hF trivial hC)
theorem Tall.andNil {K : Bool → Loc → AH → Prop} (h : K true ℓ σ) : Tall c n f .And [] ℓ σ K := J.now h fun _ _ _ s _ _ _ _ _ _ _ _ q => wpAny_allTrue_And_nil (q _ s.toks rfl)
theorem Tall.orNil {K : Bool → Loc → AH → Prop} (h : K false ℓ σ) : Tall c n f .Or [] ℓ σ K := J.now h fun _ _ _ s _ _ _ _ _ _ _ _ q => wpAny_allTrue_Or_nil (q _ s.toks rfl)
theorem Tall.and {e : Expr} {es : List Expr} {K : Bool → Loc → AH → Prop} (h : Ts c n f e ℓ σ fun b ℓ₁ σ₁ => if b then Tall c n f .And es ℓ₁ σ₁ K else K false ℓ₁ σ₁) : Tall c n f .And (e :: es) ℓ σ K :=
  fun h₀ A L s _ Q E hB hA hS hF _ hC => wpAny_allTrue_And_cons (h h₀ A L s () _ E hB hA hS hF trivial fun b b' _ _ _ tk hK hS₁ hF₁ hX hR => by
    obtain rfl : b = b' := hR
    cases b with
    | false => simp only [Bool.false_eq_true, if_false] at hK ⊢; exact hC _ _ _ _ _ tk hK hS₁ hF₁ hX rfl
    | true => simp only [if_true] at hK ⊢; exact hK h₀ A L _ () Q E hB hA hS₁ hF₁ trivial (hC.after hX tk))
theorem Tall.or {e : Expr} {es : List Expr} {K : Bool → Loc → AH → Prop} (h : Ts c n f e ℓ σ fun b ℓ₁ σ₁ => if b then K true ℓ₁ σ₁ else Tall c n f .Or es ℓ₁ σ₁ K) : Tall c n f .Or (e :: es) ℓ σ K :=
  fun h₀ A L s _ Q E hB hA hS hF _ hC => wpAny_allTrue_Or_cons (h h₀ A L s () _ E hB hA hS hF trivial fun b b' _ _ _ tk hK hS₁ hF₁ hX hR => by
    obtain rfl : b = b' := hR
    cases b with
    | true => simp only [if_true] at hK ⊢; exact hC _ _ _ _ _ tk hK hS₁ hF₁ hX rfl
    | false => simp only [Bool.false_eq_true, if_false] at hK ⊢; exact hK h₀ A L _ () Q E hB hA hS₁ hF₁ trivial (hC.after hX tk))

/-- and, or of values -/
theorem Ev.boolOp1 {op : BoolOp} {e : Expr} {pos : Pos} {K : AV → Loc → AH → Prop} (h : Ev c n f e ℓ σ K) : J c VR n P0 (fun L _ => boolOp pos op (evalEach [e] (f.env L))) ℓ σ K := h
theorem Ev.and {e e' : Expr} {es : List Expr} {pos : Pos} {K : AV → Loc → AH → Prop}
    (h : Ev c n f e ℓ σ fun v ℓ₁ σ₁ => Tr c n v ℓ₁ σ₁ fun b ℓ₂ σ₂ => if b then Ev c n f (.BoolOp .And (e' :: es) pos) ℓ₂ σ₂ K else K v ℓ₂ σ₂) : Ev c n f (.BoolOp .And (e :: e' :: es) pos) ℓ σ K := by
  intro h₀ A L s _ Q E hB hA hS hF _ hC
  show wpAny _ A (do
    let v ← eval e (f.env L)
    standAt pos
    let t ← holding [v] (truthy v)
    match BoolOp.And, t with
    | .And, false | .Or, true => pure v
    | _, _ => boolOp pos .And (evalEach (e' :: es) (f.env L))) Q E s
  refine wpAny_bind (h h₀ A L s () _ E hB hA hS hF trivial fun _ x _ _ _ tk hK hS₁ hF₁ hX hR => wpAny_bind (wpAny_standAt (wpAny_bind (wpAny_holding (hK h₀ A L _ x _ E hB hA hS₁ hF₁ hR fun b b' _ _ _ tk₂ hK₂ hS₂ hF₂ hX₂ hR₂ => ?_)))))
  obtain rfl : b = b' := hR₂
  cases b with
  | false => simp only [Bool.false_eq_true, if_false] at hK₂; exact wpAny_pure (hC _ _ _ _ _ tk₂ hK₂ hS₂ hF₂ (hX.trans hX₂) (hR.keep (hF₁.tup hS₁ hX₂)))
  | true => simp only [if_true] at hK₂; exact hK₂ h₀ A L _ () Q E hB hA hS₂ hF₂ trivial (hC.after (hX.trans hX₂) tk₂)
theorem Ev.or {e e' : Expr} {es : List Expr} {pos : Pos} {K : AV → Loc → AH → Prop}
    (h : Ev c n f e ℓ σ fun v ℓ₁ σ₁ => Tr c n v ℓ₁ σ₁ fun b ℓ₂ σ₂ => if b then K v ℓ₂ σ₂ else Ev c n f (.BoolOp .Or (e' :: es) pos) ℓ₂ σ₂ K) : Ev c n f (.BoolOp .Or (e :: e' :: es) pos) ℓ σ K := by
  intro h₀ A L s _ Q E hB hA hS hF _ hC
  show wpAny _ A (do
    let v ← eval e (f.env L)
    standAt pos
    let t ← holding [v] (truthy v)
    match BoolOp.Or, t with
    | .And, false | .Or, true => pure v
    | _, _ => boolOp pos .Or (evalEach (e' :: es) (f.env L))) Q E s
  refine wpAny_bind (h h₀ A L s () _ E hB hA hS hF trivial fun _ x _ _ _ tk hK hS₁ hF₁ hX hR => wpAny_bind (wpAny_standAt (wpAny_bind (wpAny_holding (hK h₀ A L _ x _ E hB hA hS₁ hF₁ hR fun b b' _ _ _ tk₂ hK₂ hS₂ hF₂ hX₂ hR₂ => ?_)))))
  obtain rfl : b = b' := hR₂
  cases b with
  | true => simp only [if_true] at hK₂; exact wpAny_pure (hC _ _ _ _ _ tk₂ hK₂ hS₂ hF₂ (hX.trans hX₂) (hR.keep (hF₁.tup hS₁ hX₂)))
  | false => simp only [Bool.false_eq_true, if_false] at hK₂; exact hK₂ h₀ A L _ () Q E hB hA hS₂ hF₂ trivial (hC.after (hX.trans hX₂) tk₂)
theorem Ev.boolOpLast {op : BoolOp} {e : Expr} {pos : Pos} {K : AV → Loc → AH → Prop} (h : Ev c n f e ℓ σ K) : Ev c n f (.BoolOp op [e] pos) ℓ σ K := h

theorem Ev.ifExp {t b o : Expr} {pos : Pos} {K : AV → Loc → AH → Prop} (h : Ts c n f t ℓ σ fun x ℓ₁ σ₁ => if x then Ev c n f b ℓ₁ σ₁ K else Ev c n f o ℓ₁ σ₁ K) : Ev c n f (.IfExp t b o pos) ℓ σ K :=
  fun h₀ A L s _ Q E hB hA hS hF _ hC => wpAny_IfExp (h h₀ A L s () _ E hB hA hS hF trivial fun b b' _ _ _ tk hK hS₁ hF₁ hX hR => by
    obtain rfl : b = b' := hR
    cases b with
    | true => simp only [if_true] at hK ⊢; exact hK h₀ A L _ () Q E hB hA hS₁ hF₁ trivial (hC.after hX tk)
    | false => simp only [Bool.false_eq_true, if_false] at hK ⊢; exact hK h₀ A L _ () Q E hB hA hS₁ hF₁ trivial (hC.after hX tk))
theorem Ts.ifExp {t b o : Expr} {pos : Pos} {K : Bool → Loc → AH → Prop} (h : Ts c n f t ℓ σ fun x ℓ₁ σ₁ => if x then Ts c n f b ℓ₁ σ₁ K else Ts c n f o ℓ₁ σ₁ K) : Ts c n f (.IfExp t b o pos) ℓ σ K := by
  intro h₀ A L s _ Q E hB hA hS hF _ hC
  show wpAny _ A (isTrue _ _ _) Q E s
  rw [arm_isTrue_IfExp]
  refine wpAny_bind (h h₀ A L s () _ E hB hA hS hF trivial fun b b' _ _ _ tk hK hS₁ hF₁ hX hR => ?_)
  obtain rfl : b = b' := hR
  cases b with
  | true => simp only [if_true] at hK ⊢; exact hK h₀ A L _ () Q E hB hA hS₁ hF₁ trivial (hC.after hX tk)
  | false => simp only [Bool.false_eq_true, if_false] at hK ⊢; exact hK h₀ A L _ () Q E hB hA hS₁ hF₁ trivial (hC.after hX tk)

/-- expressions in a row -/
theorem Els.nil {pos : Pos} {K : List AV → Loc → AH → Prop} (h : K [] ℓ σ) : Els c n f pos [] ℓ σ K := J.now h fun _ _ _ s _ _ _ _ _ _ _ _ q => wpAny_items_nil (q _ s.toks .nil)
theorem Els.cons {pos : Pos} {e : Expr} {es : List Expr} {K : List AV → Loc → AH → Prop} (he : ∀ env, starEach (e :: es) env = (false, eval e env) :: starEach es env)
    (h : Ev c n f e ℓ σ fun v ℓ₁ σ₁ => Els c n f pos es ℓ₁ σ₁ fun vs ℓ₂ σ₂ => K (v :: vs) ℓ₂ σ₂) : Els c n f pos (e :: es) ℓ σ K :=
  fun h₀ A L s _ Q E hB hA hS hF _ hC => wpAny_items_cons (h h₀ A L s () _ E hB hA hS hF trivial fun _ x _ _ _ tk₁ hK₁ hS₁ hF₁ hX₁ hR₁ =>
    hK₁ h₀ A L _ () _ E hB hA hS₁ hF₁ trivial fun _ y _ _ _ tk₂ hK₂ hS₂ hF₂ hX₂ hR₂ => hC _ _ _ _ _ tk₂ hK₂ hS₂ hF₂ (hX₁.trans hX₂) (.cons (hR₁.keep (hF₁.tup hS₁ hX₂)) hR₂)) (he _)

theorem Ev.attr {o : Expr} {attr : Str} {pos : Pos} {K : AV → Loc → AH → Prop}
    (he : ∀ env, eval (.Attribute o attr pos) env = (do
      let ov ← eval o env
      standAt pos.atName
      let r ← holding [ov] (getAttr ov attr true)
      letTemporaryGo o ov r
      pure r))
    (h : Ev c n f o ℓ σ fun v ℓ₁ σ₁ => O1 c n (fun x => getAttr x attr true) v ℓ₁ σ₁ K) : Ev c n f (.Attribute o attr pos) ℓ σ K :=
  fun h₀ A L s _ Q E hB hA hS hF _ hC => Attribute_any_ (h h₀ A L s () _ E hB hA hS hF trivial fun _ x _ _ _ tk₁ hK₁ hS₁ hF₁ hX₁ hR₁ =>
    hK₁ h₀ A L _ x _ E hB hA hS₁ hF₁ hR₁ (hC.after hX₁ tk₁)) (he _)

theorem Ev.sub {o i : Expr} {pos : Pos} {K : AV → Loc → AH → Prop} (h : Ev c n f o ℓ σ fun u ℓ₁ σ₁ => Ev c n f i ℓ₁ σ₁ fun v ℓ₂ σ₂ => O2 c n (subscriptTail o i) u v ℓ₂ σ₂ K) : Ev c n f (.Subscript o i pos) ℓ σ K :=
  fun h₀ A L s _ Q E hB hA hS hF _ hC => Subscript_ (h h₀ A L s () _ E hB hA hS hF trivial fun _ x _ _ _ tk₁ hK₁ hS₁ hF₁ hX₁ hR₁ =>
    hK₁ h₀ A L _ () _ E hB hA hS₁ hF₁ trivial fun _ y _ _ _ tk₂ hK₂ hS₂ hF₂ hX₂ hR₂ => hK₂ h₀ A L _ (x, y) _ E hB hA hS₂ hF₂ ⟨hR₁.keep (hF₁.tup hS₁ hX₂), hR₂⟩ (hC.after (hX₁.trans hX₂) tk₂))

/-- blocks -/
theorem Exs.nil {K : AF → Loc → AH → Prop} (h : K .next ℓ σ) : Exs c n f [] ℓ σ K := J.now h fun _ _ _ s _ _ _ _ _ _ _ _ q => wpAny_execs_nil (q _ s.toks .next)
theorem Exs.cons {st : Stmt} {sts : List Stmt} {K : AF → Loc → AH → Prop} (h : Ex c n f st ℓ σ fun fl ℓ₁ σ₁ => match fl with | .next => Exs c n f sts ℓ₁ σ₁ K | fl => K fl ℓ₁ σ₁) : Exs c n f (st :: sts) ℓ σ K :=
  fun h₀ A L s _ Q E hB hA hS hF _ hC => wpAny_execs_cons (h h₀ A L s () _ E hB hA hS hF trivial fun _ x _ _ _ tk₁ hK₁ hS₁ hF₁ hX₁ hR₁ => by
    cases hR₁ with
    | next => exact hK₁ h₀ A L _ () Q E hB hA hS₁ hF₁ trivial (hC.after hX₁ tk₁)
    | brk => exact hC _ _ _ _ _ tk₁ hK₁ hS₁ hF₁ hX₁ .brk
    | cont => exact hC _ _ _ _ _ tk₁ hK₁ hS₁ hF₁ hX₁ .cont
    | ret r => exact hC _ _ _ _ _ tk₁ hK₁ hS₁ hF₁ hX₁ (.ret r))
theorem Ex.pass {pos : Pos} {K : AF → Loc → AH → Prop} (h : K .next ℓ σ) : Ex c n f (.Pass pos) ℓ σ K := J.now h fun _ _ _ s _ _ _ _ _ _ _ _ q => wpAny_Pass (q _ s.toks .next)
theorem Ex.if_ {t : Expr} {b o : List Stmt} {pos : Pos} {K : AF → Loc → AH → Prop} (h : Ts c n f t ℓ σ fun x ℓ₁ σ₁ => if x then Exs c n f b ℓ₁ σ₁ K else Exs c n f o ℓ₁ σ₁ K) : Ex c n f (.If t b o pos) ℓ σ K :=
  fun h₀ A L s _ Q E hB hA hS hF _ hC => wpAny_If (h h₀ A L s () _ E hB hA hS hF trivial fun b b' _ _ _ tk hK hS₁ hF₁ hX hR => by
    obtain rfl : b = b' := hR
    cases b with
    | true => simp only [if_true] at hK ⊢; exact hK h₀ A L _ () Q E hB hA hS₁ hF₁ trivial (hC.after hX tk)
    | false => simp only [Bool.false_eq_true, if_false] at hK ⊢; exact hK h₀ A L _ () Q E hB hA hS₁ hF₁ trivial (hC.after hX tk))
theorem Ex.ret {e : Expr} {pos : Pos} {K : AF → Loc → AH → Prop} (h : Ev c n f e ℓ σ fun v ℓ₁ σ₁ => K (.ret v) ℓ₁ σ₁) : Ex c n f (.Return (some e) pos) ℓ σ K :=
  fun h₀ A L s _ Q E hB hA hS hF _ hC => wpAny_Return_some (h h₀ A L s () _ E hB hA hS hF trivial fun _ x _ _ _ tk hK hS₁ hF₁ hX hR => hC _ _ _ _ _ tk hK hS₁ hF₁ hX (.ret hR))
theorem Ex.ret0 {pos : Pos} {K : AF → Loc → AH → Prop} (h : K (.ret .none) ℓ σ) : Ex c n f (.Return none pos) ℓ σ K := J.now h fun _ _ _ s _ _ _ _ _ _ _ _ q => wpAny_Return_none (q _ s.toks (.ret .none))
end
end Mine
end
section
open PySem PySem.W PySem.Calls PyProof.Rows
set_option Elab.async false
set_option linter.unusedVariables false
set_option maxRecDepth 100000
namespace Mine

theorem ER.getL {w : World} (x : Str) {gs : List (Str × Value)} {es : List DictEntry} (r : ER w gs es) : getL x es = some ((gs.find? fun p => p.1 = x).map (·.2)) := by
  induction r with
  | nil => rfl
  | @cons y t v gs es r ih =>
    unfold PySem.W.getL at ih ⊢
    simp only [List.find?_cons, Value.isStr, List.any_cons, DictEntry.refKey, Bool.false_or] at ih ⊢
    by_cases h : y = x
    · subst h; simp
    · have h1 : (y == x) = false := by simpa using h
      simp only [h1, h, decide_false]
      exact ih
theorem FR.find {κ : Type} [DecidableEq κ] {h : Heap} (x : κ) {fs : List (κ × AV)} {gs : List (κ × Value)} (r : FR h fs gs) : ∀ {v : AV}, look x fs = some v → ∃ y, (gs.find? fun p => p.1 = x).map (·.2) = some y ∧ VR h v y := by
  induction r with
  | nil => exact fun e => by cases e
  | @cons y u fs _ _ a r ih =>
    intro v e
    rw [look] at e
    by_cases q : y = x
    · rw [if_pos q] at e; cases e; exact ⟨_, by simp [q], a⟩
    · rw [if_neg q] at e
      obtain ⟨z, h1, h2⟩ := ih e
      exact ⟨z, by simpa [List.find?_cons, q] using h1, h2⟩
theorem FR.none {κ : Type} [DecidableEq κ] {h : Heap} (x : κ) {fs : List (κ × AV)} {gs : List (κ × Value)} (r : FR h fs gs) : look x fs = none → (gs.find? fun p => p.1 = x).map (·.2) = none := by
  induction r with
  | nil => exact fun _ => rfl
  | @cons y u fs _ _ a r ih =>
    intro e
    rw [look] at e
    by_cases q : y = x
    · rw [if_pos q] at e; cases e
    · rw [if_neg q] at e
      simpa [List.find?_cons, q] using ih e

/-- no built-in of its own -/
def AV.plain : AV → Bool
  | .raw v => handedIn v
  | _ => true
theorem VR.handed {h : Heap} {v : AV} {x : Value} (r : VR h v x) (p : v.plain = true) : handedIn x = true := by
  cases r <;> first | rfl | exact p

section
variable {c : Cx} {n : Nat} {f : Fe} {ℓ : Loc} {σ : AH}

/-- a field read -/
theorem O1.field {a C dx : Addr} {fs : List (Str × AV)} {x : Str} {v : AV} {at' : Option Value} {K : AV → Loc → AH → Prop} (ha : σ a = some (.inst C dx fs)) (hv : look x fs = some v)
    (hg : plainGet c.K C x = true) (hh : hasDictIn c.K C = true) (hf : findIn c.K (.ref C) x = some at') (hn : noGet c.K at' = true) (hp : v.plain = true) (h : K v ℓ σ) :
    O1 c n (fun y => getAttr y x true) (.ref a) ℓ σ K := by
  refine J.now h fun h₀ A L s y Q E hB hA hS hF hP q => ?_
  cases hP
  obtain ⟨m, hm, _⟩ := hF.fr
  obtain ⟨sl, gs, es, k, h1, h2, h3, h4⟩ := hS.obj a _ ha
  obtain ⟨y, e, r⟩ := h4.find x hv
  exact get_own hm hB.k ⟨h1, rfl, rfl, h2⟩ hg hh hf hn (by rw [h3.getL, e]) (r.handed hp) (q _ _ r)

theorem evalArgs_all {M : Model} {A : Around} {E : Value → Shared → Prop} {s : Shared} {g : Value} {l : List (Bool × Sem Value)} {Q : Args → Shared → Prop} (hp : l.any (·.1) = false)
    (h : wpAny M A (spliced l) (fun vs s' => Q ⟨vs, []⟩ s') E s) : wpAny M A (evalArgs g true l []) Q E s := by
  cases l with
  | nil => unfold evalArgs; show wpAny M A (spliced [] >>= _) Q E s; refine wpAny_bind (wpAny_mono h (fun vs s' h' => ?_) fun _ _ x => x); refine wpAny_bind (wpAny_pure ?_); exact wpAny_holding (wpAny_bind (wpAny_pure (wpAny_bind (wpAny_pure (wpAny_pure h')))))
  | cons x rest =>
    obtain ⟨b, t⟩ := x
    cases b with
    | true => simp at hp
    | false => exact evalArgs_plain h

/-- how a callable is kept -/
def Kept (c : Cx) (g : Value) : Prop := ∀ h : Heap, c.K.In h → ∃ k, (k = Keeper.frame ∨ k = Keeper.machine ∨ k = Keeper.boundFrame) ∧ Looks (model c.prog c.w) h (keeperOf g) k
theorem Kept.top {g : Value} (h : keepIn c.K g = true) : Kept c g := fun x X => keeps_K h x X
theorem Kept.builtin {id : String} : Kept c (.builtin id) := fun _ _ => ⟨.machine, .inr (.inl rfl), Looks.of_pure rfl⟩
theorem Kept.type {id : String} : Kept c (.type id) := fun _ _ => ⟨.machine, .inr (.inl rfl), Looks.of_pure rfl⟩

/-- a method found -/
def Meth (c : Cx) (n : Nat) (x : Str) (u : AV) (ℓ : Loc) (σ : AH) (g : Value) : Prop :=
  ∀ (pl : Sem Bool) (h₀ : Heap) (A : Around) (L : Addr) (s : Shared) (y : Value) (Q : Value × List Value → Shared → Prop) (E : Value → Shared → Prop), c.Base h₀ → Lv n A → St c.prog c.w h₀ σ s.heap → Frm h₀ σ s.heap L ℓ → VR s.heap u y →
    (∀ tk, Q (g, [y]) { s with toks := tk }) → wpAny (model c.prog c.w) A (getMethod y x pl) Q E s

/-- a method's call -/
theorem Ev.mcall {o : Expr} {x : Str} {apos pos : Pos} {args : List Expr} {K : AV → Loc → AH → Prop} {pl : Env → Sem Bool}
    (he : ∀ env, eval (.Call (.Attribute o x apos) args [] pos) env = (do
      let ov ← eval o env
      standAt apos.atName
      let (g, first) ← holding [ov] (getMethod ov x (pl env))
      callWith pos g first (backTo pos (starEach args env)) (backToKw pos (keywordEach [] env))))
    (hp : ∀ env, (backTo pos (starEach args env)).any (·.1) = false)
    (h : Ev c n f o ℓ σ fun u ℓ₁ σ₁ => ∃ g, (Kept c g ∧ Meth c n x u ℓ₁ σ₁ g) ∧ Els c n f pos args ℓ₁ σ₁ fun vs ℓ₂ σ₂ => OL c n (fun xs => PySem.call g xs) (u :: vs) ℓ₂ σ₂ K) :
    Ev c n f (.Call (.Attribute o x apos) args [] pos) ℓ σ K := by
  intro h₀ A L s _ Q E hB hA hS hF _ hC
  refine methodCall_KW (h h₀ A L s () _ E hB hA hS hF trivial fun u y ℓ₁ σ₁ h₁ tk₁ hK₁ hS₁ hF₁ hX₁ hR₁ => ?_) (he _)
  obtain ⟨g, ⟨hk, hm⟩, hE⟩ := hK₁
  refine hm _ h₀ A L _ y _ E hB hA hS₁ hF₁ hR₁ fun tk₂ => ?_
  refine callWith_of (P := fun h => c.K.In h) (by rw [hp _]; rfl) hk (evalArgs_all (hp _) ?_)
  exact hE h₀ A L _ () _ E hB hA hS₁ hF₁ trivial fun vs xs ℓ₃ σ₃ h₃ tk₃ hK₃ hS₃ hF₃ hX₃ hR₃ => ⟨hB.k.keeps hS₃.keep,
      hK₃ h₀ A L _ (y :: xs) Q E hB hA hS₃ hF₃ (.cons (hR₁.keep (hF₁.tup hS₁ hX₃)) hR₃) (hC.after (hX₁.trans hX₃) tk₃)⟩

/-- a plain call -/
theorem Ev.call {o : Expr} {pos : Pos} {args : List Expr} {K : AV → Loc → AH → Prop}
    (he : ∀ env, eval (.Call o args [] pos) env = (do callWith pos (← eval o env) [] (backTo pos (starEach args env)) (backToKw pos (keywordEach [] env))))
    (hp : ∀ env, (backTo pos (starEach args env)).any (·.1) = false)
    (h : Ev c n f o ℓ σ fun u ℓ₁ σ₁ => ∃ g, (u = .raw g ∧ Kept c g) ∧ Els c n f pos args ℓ₁ σ₁ fun vs ℓ₂ σ₂ => OL c n (fun xs => PySem.call g xs) vs ℓ₂ σ₂ K) :
    Ev c n f (.Call o args [] pos) ℓ σ K := by
  intro h₀ A L s _ Q E hB hA hS hF _ hC
  refine Call_ (h h₀ A L s () _ E hB hA hS hF trivial fun u y ℓ₁ σ₁ h₁ tk₁ hK₁ hS₁ hF₁ hX₁ hR₁ => ?_) (he _)
  obtain ⟨g, ⟨rfl, hk⟩, hE⟩ := hK₁
  cases hR₁
  refine callWith_of (P := fun h => c.K.In h) (by rw [hp _]; rfl) hk (evalArgs_all (hp _) ?_)
  exact hE h₀ A L _ () _ E hB hA hS₁ hF₁ trivial fun vs xs ℓ₃ σ₃ h₃ tk₃ hK₃ hS₃ hF₃ hX₃ hR₃ => ⟨hB.k.keeps hS₃.keep,
      hK₃ h₀ A L _ xs Q E hB hA hS₃ hF₃ hR₃ (hC.after (hX₁.trans hX₃) tk₃)⟩

/-- a class's own method on an instance -/
theorem Meth.inst {a C dx : Addr} {fs : List (Str × AV)} {x : Str} {g : Addr} (ha : σ a = some (.inst C dx fs)) (hv : look x fs = none)
    (hg : plainGet c.K C x = true) (hf : findIn c.K (.ref C) x = some (some (.ref g))) (ht : isFn c.K (.ref g) = true) : Meth c n x (.ref a) ℓ σ (.ref g) := by
  intro pl h₀ A L s y Q E hB hA hS hF hP q
  cases hP
  obtain ⟨m, hm, _⟩ := hF.fr
  obtain ⟨sl, gs, es, k, h1, h2, h3, h4⟩ := hS.obj a _ ha
  exact method_inst hm hB.k ⟨h1, rfl, rfl, h2⟩ hg hf ht (by rw [h3.getL, h4.none x hv]) (q s.toks)

theorem _root_.PyProof.Rows.News.nil' {h₀ h : Heap} {L : Addr} : News h₀ L h [] := News.nil

theorem zip_names_look {h : Heap} : ∀ {names : List Str} {vs : List AV} {xs : List Value}, names.Nodup → VRs h vs xs → ∀ {x : Str} {v : AV}, look x (names.zip vs) = some v → ∃ y, (names.zip xs).lookup x = some y ∧ VR h v y
  | [], _, _, _, _, _, _, e => by cases e
  | _ :: _, [], _, _, H, _, _, e => by cases H; cases e
  | y :: names, u :: vs, _, hn, H, x, v, e => by
    cases H with
    | cons a r =>
      rename_i z zs
      simp only [List.zip_cons_cons, look] at e
      by_cases q : y = x
      · rw [if_pos q] at e; cases e; exact ⟨z, by simp [List.lookup_cons, q], a⟩
      · rw [if_neg q] at e
        obtain ⟨w, h1, h2⟩ := zip_names_look (List.nodup_cons.mp hn).2 r e
        refine ⟨w, ?_, h2⟩
        rw [List.zip_cons_cons, List.lookup_cons]
        have : (x == y) = false := by simpa using fun h => q h.symm
        rw [this]; exact h1

theorem lookup_reverse_nodup : ∀ {l : List (Str × Value)} {x : Str}, (l.map (·.1)).Nodup → l.reverse.lookup x = l.lookup x
  | [], _, _ => rfl
  | (y, v) :: l, x, hn => by
    rw [List.map_cons, List.nodup_cons] at hn
    rw [List.reverse_cons, List.lookup_append, lookup_reverse_nodup hn.2, List.lookup_cons]
    by_cases q : x = y
    · subst q
      have : l.lookup x = none := by
        rw [List.lookup_eq_none_iff]
        intro p hp
        have : p.1 ≠ x := fun e => hn.1 (List.mem_map.mpr ⟨p, hp, e⟩)
        simpa using fun h => this h.symm
      simp [this]
    · have h1 : (x == y) = false := by simpa using q
      simp [List.lookup_cons, h1]

end
end Mine
end
section
open PySem PySem.W PySem.Calls PyProof.Rows
set_option Elab.async false
set_option linter.unusedVariables false
set_option maxRecDepth 100000
namespace Mine

theorem Frm.carry {prog : Program} {w : World} {h₀ : Heap} {σ σ' : AH} {h h' : Heap} {L : Addr} {ℓ : Loc} (F : Frm h₀ σ h L ℓ) (S' : St prog w h₀ σ' h')
    (hd : ∀ a o', σ' a = some o' → (∃ o, σ a = some o ∧ mu a o = mu a o') ∨ h.get? (mu a o') = none) (hL : ∀ o, h.get? L = some o → h'.get? L = some o) (ht : TupKeep h h') : Frm h₀ σ' h' L ℓ := by
  obtain ⟨⟨m, hm, hl⟩, off, o, es, k, hLo, hdat⟩ := F
  obtain ⟨oL, es', ep, g1, g2, g3⟩ := hm.ns
  refine ⟨⟨m, ⟨⟨oL, es', ep, hL _ g1, g2, g3⟩, S'.keep, hm.above⟩, fun x v e => ?_⟩, fun a o' e q => ?_, o, es, k, hL _ hLo, hdat⟩
  · obtain ⟨y, h1, h2⟩ := hl x v e
    exact ⟨y, h1, h2.keep ht⟩
  · rcases hd a o' e with ⟨o₁, e₁, q₁⟩ | nn
    · exact off a o₁ e₁ (q₁.trans q)
    · rw [q, hLo] at nn; cases nn

/-- the state stands in a heap that keeps all -/
theorem ORel.keep {prog : Program} {w : World} {h h' : Heap} (k : ∀ b o, h.get? b = some o → h'.get? b = some o) {a : Addr} {o : AO} (r : ORel prog w h a o) : ORel prog w h' a o := by
  have kt : TupKeep h h' := fun a o e _ => k a o e
  cases o with
  | list vs => obtain ⟨ws, n, h1, h2⟩ := r; exact ⟨ws, n, k _ _ h1, h2.keep kt⟩
  | dict es => obtain ⟨kvs, ⟨o', es', ep, h1, r⟩, h2⟩ := r; exact ⟨kvs, ⟨o', es', ep, k _ _ h1, r⟩, h2.keep kt⟩
  | inst C dx fs => obtain ⟨sl, gs, es, m, h1, h2, h3, h4⟩ := r; exact ⟨sl, gs, es, m, k _ _ h1, k _ _ h2, h3, h4.keep kt⟩
  | idict es => obtain ⟨kvs, ⟨o', es', ep, h1, r⟩, h2⟩ := r; exact ⟨kvs, ⟨o', es', ep, k _ _ h1, r⟩, h2.keep kt⟩
  | bdict es => obtain ⟨kvs, ⟨o', es', ep, h1, r⟩, h2⟩ := r; exact ⟨kvs, ⟨o', es', ep, k _ _ h1, r⟩, h2.keep kt⟩
  | cell v => obtain ⟨y, ⟨o', h1, r⟩, h2⟩ := r; exact ⟨y, ⟨o', k _ _ h1, r⟩, h2.keep kt⟩
theorem St.keepAll {prog : Program} {w : World} {h₀ : Heap} {σ : AH} {h h' : Heap} (S : St prog w h₀ σ h) (k : ∀ b o, h.get? b = some o → h'.get? b = some o) : St prog w h₀ σ h' :=
  ⟨fun b o e => k b o (S.keep b o e), fun a o e => (S.obj a o e).keep k, S.own, S.inj⟩
theorem St.there {prog : Program} {w : World} {h₀ : Heap} {σ : AH} {h : Heap} (S : St prog w h₀ σ h) {a : Addr} {o : AO} (e : σ a = some o) : ∃ ob, h.get? (mu a o) = some ob := by
  have z := S.obj a o e
  cases o with
  | list vs => obtain ⟨ws, n, h1, _⟩ := z; exact ⟨_, h1⟩
  | dict es => obtain ⟨kvs, ⟨o', es', ep, h1, _⟩, _⟩ := z; exact ⟨_, h1⟩
  | inst C dx fs => obtain ⟨sl, gs, es, m, h1, h2, _⟩ := z; exact ⟨_, h2⟩
  | idict es => obtain ⟨kvs, ⟨o', es', ep, h1, _⟩, _⟩ := z; exact ⟨_, h1⟩
  | bdict es => obtain ⟨kvs, ⟨o', es', ep, h1, _⟩, _⟩ := z; exact ⟨_, h1⟩
  | cell v => obtain ⟨y, ⟨o', h1, _⟩, _⟩ := z; exact ⟨_, h1⟩
theorem St.there' {prog : Program} {w : World} {h₀ : Heap} {σ : AH} {h : Heap} (S : St prog w h₀ σ h) {a : Addr} {o : AO} (e : σ a = some o) : ∃ ob, h.get? a = some ob := by
  have z := S.obj a o e
  cases o with
  | list vs => obtain ⟨ws, n, h1, _⟩ := z; exact ⟨_, h1⟩
  | dict es => obtain ⟨kvs, ⟨o', es', ep, h1, _⟩, _⟩ := z; exact ⟨_, h1⟩
  | inst C dx fs => obtain ⟨sl, gs, es, m, h1, h2, _⟩ := z; exact ⟨_, h1⟩
  | idict es => obtain ⟨kvs, ⟨o', es', ep, h1, _⟩, _⟩ := z; exact ⟨_, h1⟩
  | bdict es => obtain ⟨kvs, ⟨o', es', ep, h1, _⟩, _⟩ := z; exact ⟨_, h1⟩
  | cell v => obtain ⟨y, ⟨o', h1, _⟩, _⟩ := z; exact ⟨_, h1⟩

section
variable {c : Cx} {n : Nat} {f : Fe} {ℓ : Loc} {σ : AH}

theorem Lv.mono {A : Around} (h : Lv (n + 1) A) : Lv n A := ⟨h.handled, by have := h.depth; omega, by have := h.units; omega⟩
theorem Lv.deeper {A : Around} {env : Env} (h : Lv (n + 1) A) : Lv n (A.deeper env) := ⟨h.handled, by have := h.depth; show A.depth + 1 + 2 * n + 2 < _; omega, by have := h.units; show A.units + 3 + 16 * n + 80 < _; omega⟩

theorem zip_keys : ∀ (names : List Str) (xs : List Value), List.Sublist ((names.zip xs).map (·.1)) names
  | [], _ => by simp
  | _ :: _, [] => by simp
  | y :: names, x :: xs => by
    rw [List.zip_cons_cons, List.map_cons]
    exact (zip_keys names xs).cons_cons y

/-- what a def's call hands on -/
def Back (K : AV → Loc → AH → Prop) (ℓ : Loc) : AF → Loc → AH → Prop := fun fl _ σ' => match fl with | .ret v => K v ℓ σ' | _ => K .none ℓ σ'

/-- a def's call is its block's run, in a frame of its own -/
theorem code_call {g : Addr} {vs : List AV} {name qual : Str} {params : Arguments} {body : List Stmt} {scope : Scope} {dV kV doc pm cdv ct oc : Value} {an od : Option Addr} {osl : Array (Option Value)} {K : AV → Loc → AH → Prop} (names : List Str)
    (hf : c.K.lookup g = some ⟨oc, od, .func (fnOf name qual params body scope dV kV doc pm an cdv ct), osl⟩) (hcd : codeIn c.K cdv qual = true)
    (hb : ∀ (s : Shared) (xs : List Value), c.K.In s.heap → xs.length = vs.length → BindsTo s (fnOf name qual params body scope dV kV doc pm an cdv ct) ⟨xs, []⟩ (names.zip xs))
    (hn : names.Nodup) (hl : ∀ y ∈ names, scope.names.lookup y = some .local) (hcell : ∀ x ∈ scope.names, x.2 ≠ .cell) (hco : scope.isCoroutine = false) (hgen : scope.isGenerator = false) (hk : scope.kind = .function)
    (h : Exs c n (Fe.fn qual scope g cdv [] hk) body (names.zip vs) σ (Back K ℓ)) :
    ∀ (h₀ : Heap) (A : Around) (L : Addr) (s : Shared) (xs : List Value) (R : Result → Shared → Prop), c.Base h₀ → Lv (n + 1) A → St c.prog c.w h₀ σ s.heap → Frm h₀ σ s.heap L ℓ → VRs s.heap vs xs →
      (∀ v x ℓ' σ' h' tk, K v ℓ' σ' → St c.prog c.w h₀ σ' h' → Frm h₀ σ' h' L ℓ' → Ext L σ s.heap σ' h' → VR h' v x → R (.ok (.ret x)) { s with heap := h', toks := tk }) →
      codeAny (model c.prog c.w) A (.call (.ref g) ⟨xs, []⟩) R s := by
  intro h₀ A L s xs R hB hA hS hF hP hC
  have X := hB.k.keeps hS.keep
  obtain ⟨p, loose, mg, mb, T⟩ := hB.top
  refine codeAny_call_def (fd := fnOf name qual params body scope dV kV doc pm an cdv ct) (body := body) (binds := names.zip xs) (by have := hA.depth; omega) (X _ _ hf) rfl (T.nolimit.keeps hS.keep)
    (codeRec_of X hcd) rfl (hb s xs X hP.length.symm) hcell (fun y hy => hl _ (List.of_mem_zip hy).1) (fun h₁ hns hk₁ => ?_) hco hgen hk
  have S₁ : St c.prog c.w h₀ σ h₁ := hS.keepAll hk₁
  have kt : TupKeep s.heap h₁ := fun a o e _ => hk₁ a o e
  obtain ⟨⟨m, hm, hlm⟩, hoff, oL, esL, kL, hLo, hdL⟩ := id hF
  have hLlt : L < s.heap.objs.size := Heap.lt_size hLo
  obtain ⟨o', es', ep', g1, g2, _⟩ := id hns
  have hz : ((names.zip xs).map (·.1)).Nodup := by
    exact hn.sublist (zip_keys names xs)
  have F₁ : Frm h₀ σ h₁ s.heap.objs.size (names.zip vs) := by
    refine ⟨⟨_, ⟨hns, S₁.keep, Nat.le_trans hm.above (Nat.le_of_lt hLlt)⟩, fun x v e => ?_⟩, fun a o e q => ?_, o', es', ep', g1, g2⟩
    · obtain ⟨y, e1, e2⟩ := zip_names_look hn hP e
      exact ⟨y, by rw [lookup_reverse_nodup hz]; exact e1, e2.keep kt⟩
    · obtain ⟨ob, hob⟩ := hS.there e
      exact absurd (Heap.lt_size hob) (by rw [q]; exact Nat.lt_irrefl _)
  refine h h₀ _ s.heap.objs.size _ () _ _ hB hA.deeper S₁ F₁ trivial fun fl x ℓ' σ' h' tk hK hS' hF' hX hR => ?_
  have hX' : Ext L σ s.heap σ' h' := by
    refine ⟨fun b o e hbL hbm => hX.keep b o (hk₁ b o e) (Nat.ne_of_lt (Heap.lt_size e)) hbm, fun a o' e => ?_, fun b o e => hX.there b o (hk₁ b o e)⟩
    rcases hX.dom a o' e with z | nn
    · exact .inl z
    · right
      cases q : s.heap.get? (mu a o') with
      | none => rfl
      | some ob => rw [hk₁ _ _ q] at nn; cases nn
  have hFL : Frm h₀ σ' h' L ℓ := by
    refine hF.carry hS' hX'.dom (fun o e => hX.keep L o (hk₁ L o e) (Nat.ne_of_lt (Heap.lt_size e)) fun a oa ea => hoff a oa ea) (hF.tup hS hX')
  cases hR with
  | next => exact hC _ _ ℓ σ' h' tk hK hS' hFL hX' .none
  | brk => exact hC _ _ ℓ σ' h' tk hK hS' hFL hX' .none
  | cont => exact hC _ _ ℓ σ' h' tk hK hS' hFL hX' .none
  | ret r => exact hC _ _ ℓ σ' h' tk hK hS' hFL hX' r

theorem Ca.def_ {g : Addr} {vs : List AV} {name qual : Str} {params : Arguments} {body : List Stmt} {scope : Scope} {dV kV doc pm cdv ct oc : Value} {an od : Option Addr} {osl : Array (Option Value)} {K : AV → Loc → AH → Prop} (names : List Str)
    (hf : c.K.lookup g = some ⟨oc, od, .func (fnOf name qual params body scope dV kV doc pm an cdv ct), osl⟩) (hcd : codeIn c.K cdv qual = true)
    (hb : ∀ (s : Shared) (xs : List Value), c.K.In s.heap → xs.length = vs.length → BindsTo s (fnOf name qual params body scope dV kV doc pm an cdv ct) ⟨xs, []⟩ (names.zip xs))
    (hn : names.Nodup) (hl : ∀ y ∈ names, scope.names.lookup y = some .local) (hcell : ∀ x ∈ scope.names, x.2 ≠ .cell) (hco : scope.isCoroutine = false) (hgen : scope.isGenerator = false) (hk : scope.kind = .function)
    (h : Exs c n (Fe.fn qual scope g cdv [] hk) body (names.zip vs) σ (Back K ℓ)) : Ca c (n + 1) (.ref g) vs ℓ σ K :=
  fun h₀ A L s xs Q E hB hA hS hF hP hC => wpAny_call (code_call names hf hcd hb hn hl hcell hco hgen hk h h₀ A L s xs _ hB hA hS hF hP fun v x ℓ' σ' h' tk hK hS' hF' hX hR => hC v x ℓ' σ' h' tk hK hS' hF' hX hR)

/-- two new objects at once: an instance and its dict -/
theorem St.newInst {prog : Program} {w : World} {h₀ : Heap} {h : Heap} {C : Addr} (S : St prog w h₀ σ h) (hle : h₀.objs.size ≤ h.objs.size) :
    St prog w h₀ (AH.set σ (h.objs.size + 1) (.inst C h.objs.size [])) ((h.push emptyDict).push (instObj C h.objs.size)) := by
  have k : ∀ b o, h.get? b = some o → ((h.push emptyDict).push (instObj C h.objs.size)).get? b = some o := fun b o e => Heap.get?_push_of_some _ (Heap.get?_push_of_some _ e)
  have hd : ((h.push emptyDict).push (instObj C h.objs.size)).get? h.objs.size = some emptyDict := Heap.get?_push_of_some _ (Heap.get?_push_size _ rfl)
  have hx : ((h.push emptyDict).push (instObj C h.objs.size)).get? (h.objs.size + 1) = some (instObj C h.objs.size) := by
    have := Heap.get?_push_size (h.push emptyDict) (o := instObj C h.objs.size) rfl
    rwa [Heap.size_push] at this
  refine ⟨fun b o e => k b o (S.keep b o e), fun a o e => ?_, fun a o e => ?_, fun a b oa ob ea eb q => ?_⟩
  · by_cases z : a = h.objs.size + 1
    · subst z
      rw [AH.set_same] at e; cases e
      exact ⟨_, [], [], 0, hx, hd, .nil, .nil⟩
    · rw [AH.set_ne z] at e; exact (S.obj a o e).keep k
  · by_cases z : a = h.objs.size + 1
    · subst z
      rw [AH.set_same] at e; cases e
      exact hle
    · rw [AH.set_ne z] at e; exact S.own a o e
  · have lt : ∀ a oa, σ a = some oa → mu a oa ≠ h.objs.size := fun a oa e q => by
      obtain ⟨ob, hob⟩ := S.there e
      exact absurd (Heap.lt_size hob) (by rw [q]; exact Nat.lt_irrefl _)
    by_cases z : a = h.objs.size + 1
    · by_cases z' : b = h.objs.size + 1
      · rw [z, z']
      · subst z
        rw [AH.set_same] at ea; cases ea
        rw [AH.set_ne z'] at eb
        exact absurd q.symm (lt b ob eb)
    · rw [AH.set_ne z] at ea
      by_cases z' : b = h.objs.size + 1
      · subst z'
        rw [AH.set_same] at eb; cases eb
        exact absurd q (lt a oa ea)
      · rw [AH.set_ne z'] at eb
        exact S.inj a b oa ob ea eb q

/-- a call's run, as code -/
def Cd (c : Cx) (n : Nat) (g : Value) (vs : List AV) (ℓ : Loc) (σ : AH) (K : AV → Loc → AH → Prop) : Prop :=
  ∀ (h₀ : Heap) (A : Around) (L : Addr) (s : Shared) (xs : List Value) (R : Result → Shared → Prop), c.Base h₀ → Lv n A → St c.prog c.w h₀ σ s.heap → Frm h₀ σ s.heap L ℓ → VRs s.heap vs xs →
      (∀ v x ℓ' σ' h' tk, K v ℓ' σ' → St c.prog c.w h₀ σ' h' → Frm h₀ σ' h' L ℓ' → Ext L σ s.heap σ' h' → VR h' v x → R (.ok (.ret x)) { s with heap := h', toks := tk }) →
      codeAny (model c.prog c.w) A (.call g ⟨xs, []⟩) R s
theorem Cd.ca {g : Value} {vs : List AV} {K : AV → Loc → AH → Prop} (h : Cd c n g vs ℓ σ K) : Ca c n g vs ℓ σ K :=
  fun h₀ A L s xs Q E hB hA hS hF hP hC => wpAny_call (h h₀ A L s xs _ hB hA hS hF hP fun v x ℓ' σ' h' tk hK hS' hF' hX hR => hC v x ℓ' σ' h' tk hK hS' hF' hX hR)
theorem Cd.mono {g : Value} {vs : List AV} {K K' : AV → Loc → AH → Prop} (h : Cd c n g vs ℓ σ K) (k : ∀ v ℓ' σ', K v ℓ' σ' → K' v ℓ' σ') : Cd c n g vs ℓ σ K' :=
  fun h₀ A L s xs Q hB hA hS hF hP hC => h h₀ A L s xs Q hB hA hS hF hP fun v x ℓ' σ' h' tk hK => hC v x ℓ' σ' h' tk (k _ _ _ hK)

/-- an own class is called: a new instance, then its __init__ -/
theorem Ca.cls {C fI : Addr} {vs : List AV} {K : AV → Loc → AH → Prop}
    (hm : makesIn c.K C = true) (hi : findIn c.K (.ref C) "__init__" = some (some (.ref fI))) (ht : typeIn c.K (.ref fI) = some (.type "function"))
    (h : ∀ x dx, σ x = none → Cd c n (.ref fI) (.ref x :: vs) ℓ (AH.set σ x (.inst C dx [])) (fun v ℓ' σ' => v = .none ∧ K (.ref x) ℓ' σ')) : Ca c (n + 1) (.ref C) vs ℓ σ K := by
  intro h₀ A L s xs Q E hB hA hS hF hP hC
  have X := hB.k.keeps hS.keep
  obtain ⟨hh, gg, d, t, os⟩ := s
  refine wpAny_call (make_core (makes_of X hm) (looks_findIn X hi) (fun self => bind_fn X self ht) (.inl rfl) ?_)
  obtain ⟨m, hm', hlm⟩ := hF.fr
  have hLlt : L < hh.objs.size := hm'.ns.lt
  have hle : h₀.objs.size ≤ hh.objs.size := Nat.le_trans hm'.above (Nat.le_of_lt hLlt)
  have k : ∀ b o, hh.get? b = some o → ((hh.push emptyDict).push (instObj C hh.objs.size)).get? b = some o := fun b o e => Heap.get?_push_of_some _ (Heap.get?_push_of_some _ e)
  have S₁ := hS.newInst (C := C) hle
  have kt : TupKeep hh ((hh.push emptyDict).push (instObj C hh.objs.size)) := fun a o e _ => k a o e
  have free : σ (hh.objs.size + 1) = none := by
    cases q : σ (hh.objs.size + 1) with
    | none => rfl
    | some o =>
      obtain ⟨ob, hob⟩ := hS.there' q
      exact absurd (Heap.lt_size hob) (by show ¬ (hh.objs.size + 1 < hh.objs.size); omega)
  have X₁ : Ext L σ hh (AH.set σ (hh.objs.size + 1) (.inst C hh.objs.size [])) ((hh.push emptyDict).push (instObj C hh.objs.size)) := by
    refine ⟨fun b o e _ _ => k b o e, fun a o' e => ?_, fun b o e => ⟨o, k b o e⟩⟩
    by_cases z : a = hh.objs.size + 1
    · subst z
      rw [AH.set_same] at e; cases e
      exact .inr (Heap.get?_none_of_le (Nat.le_refl _))
    · rw [AH.set_ne z] at e; exact .inl ⟨o', e, rfl⟩
  have F₁ : Frm h₀ (AH.set σ (hh.objs.size + 1) (.inst C hh.objs.size [])) ((hh.push emptyDict).push (instObj C hh.objs.size)) L ℓ := hF.carry S₁ X₁.dom (fun o e => k L o e) kt
  have hA' : Lv n (A.under (.builtin "type.__call__" ⟨.ref C :: xs, []⟩)) := by
    refine ⟨hA.handled, ?_, ?_⟩
    · have := hA.depth
      show A.depth + 1 + 2 * n + 2 < _
      omega
    · have := hA.units
      show A.units + 1 + 16 * n + 80 < _
      omega
  refine h _ _ free h₀ _ L ⟨_, gg, d, t, os⟩ _ _ hB hA' S₁ F₁ (.cons (.ref _) (hP.keep kt)) fun v x ℓ' σ' h' tk hK hS' hF' hX hR => ?_
  obtain ⟨rfl, hK⟩ := hK
  cases hR
  exact ⟨rfl, hC _ _ ℓ' σ' h' tk hK hS' hF' (X₁.trans hX) (.ref _)⟩
end
end Mine
end
section
open PySem PySem.W PySem.Calls PyProof.Rows
set_option Elab.async false
set_option linter.unusedVariables false
set_option maxRecDepth 100000
namespace Mine

theorem St.muCls {prog : Program} {w : World} {h₀ : Heap} {σ : AH} {h : Heap} (S : St prog w h₀ σ h) {a : Addr} {oa : AO} (e : σ a = some oa) {o : Obj} (ho : h.get? (mu a oa) = some o) : o.data ≠ .plain ∧ (∀ fs, o.data ≠ .fields fs) ∧ ¬ Fixed o := by
  refine ⟨?_, ?_, S.noFix e ho⟩ <;>
  · have z := S.obj a oa e
    cases oa with
    | list vs => obtain ⟨ws, n, h1, _⟩ := z; rw [show mu a (.list vs) = a from rfl, h1] at ho; cases ho; intros; intro q; cases q
    | dict es => obtain ⟨kvs, ⟨o', es', ep, h1, h2, h3, _⟩, _⟩ := z; rw [show mu a (.dict es) = a from rfl, h1] at ho; cases ho; intros; intro q; rw [h3] at q; cases q
    | inst C dx fs => obtain ⟨sl, gs, es, n, h1, h2, _⟩ := z; rw [show mu a (.inst C dx fs) = dx from rfl, h2] at ho; cases ho; intros; intro q; cases q
    | idict es => obtain ⟨kvs, ⟨o', es', ep, h1, h2, h3, _⟩, _⟩ := z; rw [show mu a (.idict es) = a from rfl, h1] at ho; cases ho; intros; intro q; rw [h3] at q; cases q
    | bdict es => obtain ⟨kvs, ⟨o', es', ep, h1, h2, h3, _⟩, _⟩ := z; rw [show mu a (.bdict es) = a from rfl, h1] at ho; cases ho; intros; intro q; rw [h3] at q; cases q
    | cell v => obtain ⟨y, ⟨o', h1, h3⟩, _⟩ := z; rw [show mu a (.cell v) = a from rfl, h1] at ho; cases ho; intros; intro q; rw [h3] at q; cases q

/-- an own object is turned -/
theorem St.update {prog : Program} {w : World} {h₀ : Heap} {σ : AH} {h h' : Heap} (S : St prog w h₀ σ h) {a : Addr} {oa ob : AO} (e : σ a = some oa) (hm : mu a ob = mu a oa) (hs : Heap.SameBut (mu a oa) h h') (ho : ∃ o, h'.get? (mu a oa) = some o) (r : ORel prog w h' a ob) :
    St prog w h₀ (AH.set σ a ob) h' ∧ (∀ L, Ext L σ h (AH.set σ a ob) h') ∧ TupKeep h h' := by
  have kt : TupKeep h h' := fun b o eb fx => (hs.2 b fun q => S.noFix e (q ▸ eb) fx).trans eb
  refine ⟨⟨fun b o eb => (hs.2 b fun q => ?_).trans (S.keep b o eb), fun b o eb => ?_, fun b o eb => ?_, fun b d x y eb ed q => ?_⟩, fun L => ⟨fun b o eb _ hn => (hs.2 b fun q => hn a oa e q.symm).trans eb, fun b o eb => ?_, fun b o eb => ?_⟩, kt⟩
  · exact absurd (Heap.lt_size eb) (by rw [q]; exact Nat.not_lt.mpr (S.own a oa e))
  · by_cases z : b = a
    · subst z; rw [AH.set_same] at eb; cases eb; exact r
    · rw [AH.set_ne z] at eb
      have ne : mu b o ≠ mu a oa := fun q => z (S.inj b a o oa eb e q)
      have R := S.obj b o eb
      cases o with
      | list vs => obtain ⟨ws, n, h1, h2⟩ := R; exact ⟨ws, n, (hs.2 b ne).trans h1, h2.keep kt⟩
      | dict es => obtain ⟨kvs, ⟨o', es', ep, h1, r⟩, h2⟩ := R; exact ⟨kvs, ⟨o', es', ep, (hs.2 b ne).trans h1, r⟩, h2.keep kt⟩
      | inst C dx fs =>
        obtain ⟨sl, gs, es, m, h1, h2, h3, h4⟩ := R
        refine ⟨sl, gs, es, m, (hs.2 b fun q => ?_).trans h1, (hs.2 dx ne).trans h2, h3, h4.keep kt⟩
        exact (S.muCls e (q ▸ h1)).1 rfl
      | idict es => obtain ⟨kvs, ⟨o', es', ep, h1, r⟩, h2⟩ := R; exact ⟨kvs, ⟨o', es', ep, (hs.2 b ne).trans h1, r⟩, h2.keep kt⟩
      | bdict es => obtain ⟨kvs, ⟨o', es', ep, h1, r⟩, h2⟩ := R; exact ⟨kvs, ⟨o', es', ep, (hs.2 b ne).trans h1, r⟩, h2.keep kt⟩
      | cell v => obtain ⟨y, ⟨o', h1, r⟩, h2⟩ := R; exact ⟨y, ⟨o', (hs.2 b ne).trans h1, r⟩, h2.keep kt⟩
  · by_cases z : b = a
    · subst z; rw [AH.set_same] at eb; cases eb; rw [hm]; exact S.own _ oa e
    · rw [AH.set_ne z] at eb; exact S.own b o eb
  · have back : ∀ b x, AH.set σ a ob b = some x → ∃ x', σ b = some x' ∧ mu b x' = mu b x := fun b x eb => by
      by_cases z : b = a
      · subst z; rw [AH.set_same] at eb; cases eb; exact ⟨oa, e, hm.symm⟩
      · rw [AH.set_ne z] at eb; exact ⟨x, eb, rfl⟩
    obtain ⟨x', e1, q1⟩ := back b x eb
    obtain ⟨y', e2, q2⟩ := back d y ed
    exact S.inj b d x' y' e1 e2 (q1.trans (q.trans q2.symm))
  · by_cases z : b = a
    · subst z; rw [AH.set_same] at eb; cases eb; exact .inl ⟨oa, e, hm.symm⟩
    · rw [AH.set_ne z] at eb; exact .inl ⟨o, eb, rfl⟩
  · by_cases z : b = mu a oa
    · subst z; exact ho
    · exact ⟨o, (hs.2 b z).trans eb⟩

/-- a new own object -/
theorem St.new {prog : Program} {w : World} {h₀ : Heap} {σ : AH} {h h' : Heap} (S : St prog w h₀ σ h) (hle : h₀.objs.size ≤ h.objs.size) (k : ∀ b o, h.get? b = some o → h'.get? b = some o) {a : Addr} (ha : h.get? a = none) (ha' : h.objs.size ≤ a) {ob : AO} (hm : mu a ob = a) (r : ORel prog w h' a ob) :
    St prog w h₀ (AH.set σ a ob) h' ∧ (∀ L, Ext L σ h (AH.set σ a ob) h') ∧ TupKeep h h' ∧ σ a = none := by
  have kt : TupKeep h h' := fun b o e _ => k b o e
  have free : σ a = none := by
    cases q : σ a with
    | none => rfl
    | some o => obtain ⟨ob, hob⟩ := S.there' q; rw [ha] at hob; cases hob
  have off : ∀ b o, σ b = some o → mu b o ≠ a := fun b o e q => by
    obtain ⟨ob, hob⟩ := S.there e
    rw [q, ha] at hob; cases hob
  refine ⟨⟨fun b o eb => k b o (S.keep b o eb), fun b o eb => ?_, fun b o eb => ?_, fun b d x y eb ed q => ?_⟩, fun L => ⟨fun b o eb _ _ => k b o eb, fun b o eb => ?_, fun b o eb => ⟨o, k b o eb⟩⟩, kt, free⟩
  · by_cases z : b = a
    · subst z; rw [AH.set_same] at eb; cases eb; exact r
    · rw [AH.set_ne z] at eb; exact (S.obj b o eb).keep k
  · by_cases z : b = a
    · subst z; rw [AH.set_same] at eb; cases eb; rw [hm]; exact Nat.le_trans hle ha'
    · rw [AH.set_ne z] at eb; exact S.own b o eb
  · by_cases z : b = a
    · by_cases z' : d = a
      · rw [z, z']
      · subst z
        rw [AH.set_same] at eb; cases eb
        rw [AH.set_ne z'] at ed
        exact absurd (q.symm.trans hm) (off d y ed)
    · rw [AH.set_ne z] at eb
      by_cases z' : d = a
      · subst z'
        rw [AH.set_same] at ed; cases ed
        exact absurd (q.trans hm) (off b x eb)
      · rw [AH.set_ne z'] at ed
        exact S.inj b d x y eb ed q
  · by_cases z : b = a
    · subst z; rw [AH.set_same] at eb; cases eb; rw [hm]; exact .inr ha
    · rw [AH.set_ne z] at eb; exact .inl ⟨o, eb, rfl⟩

theorem Frm.le {h₀ : Heap} {σ : AH} {h : Heap} {L : Addr} {ℓ : Loc} (F : Frm h₀ σ h L ℓ) : h₀.objs.size ≤ h.objs.size := by
  obtain ⟨m, hm, _⟩ := F.fr
  exact Nat.le_trans hm.above (Nat.le_of_lt hm.ns.lt)

section
variable {c : Cx} {n : Nat} {f : Fe} {ℓ : Loc} {σ : AH}

/-- the end of a step that turns an own object -/
theorem Cont.upd {α β : Type} {R : Heap → β → α → Prop} {h₀ : Heap} {L : Addr} {s : Shared} {K : β → Loc → AH → Prop} {Q : α → Shared → Prop} (hC : Cont c R h₀ L σ s K Q) (S : St c.prog c.w h₀ σ s.heap) (F : Frm h₀ σ s.heap L ℓ)
    {a : Addr} {oa ob : AO} (e : σ a = some oa) (hm : mu a ob = mu a oa) {h' : Heap} (hs : Heap.SameBut (mu a oa) s.heap h') (ho : ∃ o, h'.get? (mu a oa) = some o) (r : TupKeep s.heap h' → ORel c.prog c.w h' a ob) {b : β} {x : α}
    (hK : K b ℓ (AH.set σ a ob)) (hR : TupKeep s.heap h' → R h' b x) (tk : Nat) : Q x { s with heap := h', toks := tk } := by
  have kt : TupKeep s.heap h' := fun b o eb fx => (hs.2 b fun q => S.noFix e (q ▸ eb) fx).trans eb
  obtain ⟨S', X, _⟩ := S.update e hm hs ho (r kt)
  have hL : ∀ o, s.heap.get? L = some o → h'.get? L = some o := fun o eo => (hs.2 L fun q => F.off a oa e q.symm).trans eo
  exact hC b x ℓ _ h' tk hK S' (F.carry S' (X L).dom hL kt) (X L) (hR kt)

/-- the end of a step that makes an own object -/
theorem Cont.new {α β : Type} {R : Heap → β → α → Prop} {h₀ : Heap} {L : Addr} {s : Shared} {K : β → Loc → AH → Prop} {Q : α → Shared → Prop} (hC : Cont c R h₀ L σ s K Q) (S : St c.prog c.w h₀ σ s.heap) (F : Frm h₀ σ s.heap L ℓ)
    {h' : Heap} (k : ∀ b o, s.heap.get? b = some o → h'.get? b = some o) {a : Addr} (ha' : s.heap.objs.size ≤ a) {ob : AO} (hm : mu a ob = a) (r : TupKeep s.heap h' → ORel c.prog c.w h' a ob) {b : β} {x : α}
    (hK : σ a = none → K b ℓ (AH.set σ a ob)) (hR : TupKeep s.heap h' → R h' b x) (tk : Nat) : Q x { s with heap := h', toks := tk } := by
  have kt : TupKeep s.heap h' := fun b o e _ => k b o e
  obtain ⟨S', X, _, free⟩ := S.new F.le k (Heap.get?_none_of_le ha') ha' hm (r kt)
  exact hC b x ℓ _ h' tk (hK free) S' (F.carry S' (X L).dom (fun o e => k L o e) kt) (X L) (hR kt)

/-- the end of a step that only adds what nobody owns -/
theorem Cont.add {α β : Type} {R : Heap → β → α → Prop} {h₀ : Heap} {L : Addr} {s : Shared} {K : β → Loc → AH → Prop} {Q : α → Shared → Prop} (hC : Cont c R h₀ L σ s K Q) (S : St c.prog c.w h₀ σ s.heap) (F : Frm h₀ σ s.heap L ℓ)
    {h' : Heap} (k : ∀ b o, s.heap.get? b = some o → h'.get? b = some o) {b : β} {x : α} (hK : K b ℓ σ) (hR : TupKeep s.heap h' → R h' b x) (tk : Nat) : Q x { s with heap := h', toks := tk } := by
  have kt : TupKeep s.heap h' := fun b o e _ => k b o e
  have S' := S.keepAll k
  have X : Ext L σ s.heap σ h' := ⟨fun b o e _ _ => k b o e, fun a o e => .inl ⟨o, e, rfl⟩, fun b o e => ⟨o, k b o e⟩⟩
  exact hC b x ℓ σ h' tk hK S' (F.carry S' X.dom (fun o e => k L o e) kt) X (hR kt)

theorem Ev.tuple {es : List Expr} {k : Nat} {pos : Pos} {K : AV → Loc → AH → Prop} (hz : es.length ≤ 1000) (h : Els c n f pos es ℓ σ fun vs ℓ₁ σ₁ => vs.length ≤ sizeLine ∧ K (.tup vs) ℓ₁ σ₁) : Ev c n f (.Tuple es k pos) ℓ σ K :=
  fun h₀ A L s _ Q E hB hA hS hF _ hC => wpAny_Tuple (h h₀ A L s () _ E hB hA hS hF trivial fun vs xs ℓ₁ σ₁ h₁ tk hK hS₁ hF₁ hX hR =>
    ⟨by rw [← hR.length]; exact hK.1, (hC.after hX tk).add hS₁ hF₁ (fun b o e => Heap.get?_push_of_some _ e) hK.2 (fun kt => .tup (Heap.get?_push_size _ rfl) (hR.keep kt)) tk⟩)
theorem Ev.list {es : List Expr} {pos : Pos} {K : AV → Loc → AH → Prop} (h : Els c n f pos es ℓ σ fun vs ℓ₁ σ₁ => vs.length ≤ sizeLine ∧ ∀ a, σ₁ a = none → K (.ref a) ℓ₁ (AH.set σ₁ a (.list vs))) : Ev c n f (.List es pos) ℓ σ K :=
  fun h₀ A L s _ Q E hB hA hS hF _ hC => wpAny_List (h h₀ A L s () _ E hB hA hS hF trivial fun vs xs ℓ₁ σ₁ h₁ tk hK hS₁ hF₁ hX hR =>
    ⟨by rw [← hR.length]; exact hK.1, (hC.after hX tk).new (ob := .list vs) hS₁ hF₁ (fun b o e => Heap.get?_push_of_some _ e) (Nat.le_refl _) rfl (fun kt => ⟨xs, 0, Heap.get?_push_size _ rfl, hR.keep kt⟩) (hK.2 _) (fun _ => .ref _) tk⟩)

/-- ints -/
theorem O2.int {g : Value → Value → Sem Value} {i j : Int} {v : AV} {K : AV → Loc → AH → Prop} (hg : ∀ (A : Around) (E : Value → Shared → Prop) (s : Shared) (t u : Tok) (Q : Value → Shared → Prop), (∀ x tk, VR s.heap v x → Q x { s with toks := tk }) → wpAny (model c.prog c.w) A (g (.int i t) (.int j u)) Q E s)
    (h : K v ℓ σ) : O2 c n g (.int i) (.int j) ℓ σ K := by
  refine J.now h fun h₀ A L s y Q E hB hA hS hF hP q => ?_
  obtain ⟨y1, y2⟩ := y
  obtain ⟨p1, p2⟩ := hP
  cases p1; cases p2
  exact hg A E s _ _ Q q
theorem O2.add {i j : Int} {K : AV → Loc → AH → Prop} (h : K (.int (i + j)) ℓ σ) : O2 c n (binaryOp .Add) (.int i) (.int j) ℓ σ K := O2.int (fun A E s t u Q q => add_int (q _ _ (.int _ _))) h
theorem O2.sub {i j : Int} {K : AV → Loc → AH → Prop} (h : K (.int (i - j)) ℓ σ) : O2 c n (binaryOp .Sub) (.int i) (.int j) ℓ σ K := O2.int (fun A E s t u Q q => sub_int (q _ _ (.int _ _))) h
theorem O2.mod {i j : Int} {K : AV → Loc → AH → Prop} (hj : j ≠ 0) (h : K (.int (i.fmod j)) ℓ σ) : O2 c n (binaryOp .Mod) (.int i) (.int j) ℓ σ K := O2.int (fun A E s t u Q q => mod_int hj (q _ _ (.int _ _))) h
theorem O2.div {i j : Int} {K : AV → Loc → AH → Prop} (hj : j ≠ 0) (hp : Builtin.divisionGoesByPylong i j = false) (h : K (.int (i.fdiv j)) ℓ σ) : O2 c n (binaryOp .FloorDiv) (.int i) (.int j) ℓ σ K :=
  O2.int (fun A E s t u Q q => floordiv_int hj (q _ _ (.int _ _)) (.inl hp)) h
theorem O2.mul {i j : Int} {K : AV → Loc → AH → Prop} (hm : IntMulOk i j) (h : K (.int (i * j)) ℓ σ) : O2 c n (binaryOp .Mult) (.int i) (.int j) ℓ σ K := O2.int (fun A E s t u Q q => mul_int (q _ _ (.int _ _)) hm) h
theorem O2.lt {i j : Int} {K : AV → Loc → AH → Prop} (h : K (.bool (decide (i < j))) ℓ σ) : O2 c n (compareOp .Lt) (.int i) (.int j) ℓ σ K := O2.int (fun A E s t u Q q => lt_int (q _ s.toks (.bool _))) h
theorem O2.gt {i j : Int} {K : AV → Loc → AH → Prop} (h : K (.bool (decide (j < i))) ℓ σ) : O2 c n (compareOp .Gt) (.int i) (.int j) ℓ σ K := O2.int (fun A E s t u Q q => gt_int (q _ s.toks (.bool _))) h
theorem O2.eqi {i j : Int} {K : AV → Loc → AH → Prop} (h : K (.bool (i == j)) ℓ σ) : O2 c n (compareOp .Eq) (.int i) (.int j) ℓ σ K := O2.int (fun A E s t u Q q => eq_int (q _ s.toks (.bool _))) h
theorem O2.nei {i j : Int} {K : AV → Loc → AH → Prop} (h : K (.bool (i != j)) ℓ σ) : O2 c n (compareOp .NotEq) (.int i) (.int j) ℓ σ K := O2.int (fun A E s t u Q q => ne_int (q _ s.toks (.bool _))) h
theorem Tr.bool {b : Bool} {K : Bool → Loc → AH → Prop} (h : K b ℓ σ) : Tr c n (.bool b) ℓ σ K := by
  refine J.now h fun h₀ A L s y Q E hB hA hS hF hP q => ?_
  cases hP
  exact wpAny_truthy_bool (q _ s.toks rfl)
end
end Mine
end
section
open PySem PySem.W PySem.Calls PyProof.Rows
set_option Elab.async false
set_option linter.unusedVariables false
set_option maxRecDepth 100000
namespace Mine

theorem look_put {κ : Type} [DecidableEq κ] (x y : κ) (v : AV) : ∀ ℓ : List (κ × AV), look y (put x v ℓ) = if x = y then some v else look y ℓ
  | [] => by simp [put, look]
  | (z, u) :: r => by
    have ih := look_put x y v r
    by_cases h : z = x
    · subst h
      by_cases q : z = y
      · simp [put, look, q]
      · simp [put, look, q]
    · by_cases q : z = y
      · subst q; simp [put, look, h, Ne.symm h]
      · simp [put, look, h, q, ih]

/-- the frame's dict turned: the state stands -/
theorem St.frame {prog : Program} {w : World} {h₀ : Heap} {σ : AH} {h h' : Heap} {L : Addr} {ℓ : Loc} (S : St prog w h₀ σ h) (F : Frm h₀ σ h L ℓ) (hs : Heap.SameBut L h h') (ho : ∃ o, h'.get? L = some o) :
    St prog w h₀ σ h' ∧ Ext L σ h σ h' ∧ TupKeep h h' := by
  obtain ⟨⟨m, hm, hl⟩, off, oL, esL, kL, hLo, hdL⟩ := F
  have kt : TupKeep h h' := fun b o eb fx => (hs.2 b fun q => by subst q; rw [hLo] at eb; cases eb; exact fx.2.1 _ _ hdL).trans eb
  refine ⟨⟨fun b o eb => (hs.2 b (Nat.ne_of_lt (Nat.lt_of_lt_of_le (Heap.lt_size eb) hm.above))).trans (S.keep b o eb), fun b o eb => ?_, S.own, S.inj⟩, ⟨fun b o e hb _ => (hs.2 b hb).trans e, fun a o e => .inl ⟨o, e, rfl⟩, fun b o e => ?_⟩, kt⟩
  · have ne := off b o eb
    have R := S.obj b o eb
    cases o with
    | list vs => obtain ⟨ws, n, h1, h2⟩ := R; exact ⟨ws, n, (hs.2 b ne).trans h1, h2.keep kt⟩
    | dict es => obtain ⟨kvs, ⟨o', es', ep, h1, r⟩, h2⟩ := R; exact ⟨kvs, ⟨o', es', ep, (hs.2 b ne).trans h1, r⟩, h2.keep kt⟩
    | inst C dx fs =>
      obtain ⟨sl, gs, es, m, h1, h2, h3, h4⟩ := R
      refine ⟨sl, gs, es, m, (hs.2 b fun q => ?_).trans h1, (hs.2 dx ne).trans h2, h3, h4.keep kt⟩
      subst q; rw [hLo] at h1; cases h1; cases hdL
    | idict es => obtain ⟨kvs, ⟨o', es', ep, h1, r⟩, h2⟩ := R; exact ⟨kvs, ⟨o', es', ep, (hs.2 b ne).trans h1, r⟩, h2.keep kt⟩
    | bdict es => obtain ⟨kvs, ⟨o', es', ep, h1, r⟩, h2⟩ := R; exact ⟨kvs, ⟨o', es', ep, (hs.2 b ne).trans h1, r⟩, h2.keep kt⟩
    | cell v => obtain ⟨y, ⟨o', h1, r⟩, h2⟩ := R; exact ⟨y, ⟨o', (hs.2 b ne).trans h1, r⟩, h2.keep kt⟩
  · by_cases z : b = L
    · subst z; exact ho
    · exact ⟨o, (hs.2 b z).trans e⟩

section
variable {c : Cx} {n : Nat} {f : Fe} {ℓ : Loc} {σ : AH}

/-- the end of a step that stores a local -/
theorem Cont.loc {α β : Type} {R : Heap → β → α → Prop} {h₀ : Heap} {L : Addr} {s : Shared} {K : β → Loc → AH → Prop} {Q : α → Shared → Prop} (hC : Cont c R h₀ L σ s K Q) (S : St c.prog c.w h₀ σ s.heap) (F : Frm h₀ σ s.heap L ℓ)
    {m : Str → Option Value} (hm : Fr h₀ L s.heap m) (hl : ∀ x v, look x ℓ = some v → ∃ y, m x = some y ∧ VR s.heap v y)
    {x : Str} {v : AV} {y : Value} (hv : VR s.heap v y) {h' : Heap} (hn : h'.Ns L (fun z => if z = x then some y else m z)) (hs : Heap.SameBut L s.heap h') {b : β} {a : α}
    (hK : K b (put x v ℓ) σ) (hR : R h' b a) (tk : Nat) : Q a { s with heap := h', toks := tk } := by
  obtain ⟨oL, esL, kL, g1, g2, _⟩ := id hn
  obtain ⟨S', X, kt⟩ := S.frame F hs ⟨_, g1⟩
  refine hC b a _ σ h' tk hK S' ⟨⟨_, hm.set hn hs, fun z u e => ?_⟩, F.off, oL, esL, kL, g1, g2⟩ X hR
  rw [look_put] at e
  by_cases q : x = z
  · subst q; rw [if_pos rfl] at e; cases e; exact ⟨y, by simp, hv.keep kt⟩
  · rw [if_neg q] at e
    obtain ⟨y', h1, h2⟩ := hl z u e
    exact ⟨y', by simp [Ne.symm q, h1], h2.keep kt⟩

/-- a store in a target -/
def As (c : Cx) (n : Nat) (f : Fe) (t : Expr) (v : AV) (ℓ : Loc) (σ : AH) (K : Loc → AH → Prop) : Prop := J c RU n (P1 v) (fun L x => assign t (f.env L) x) ℓ σ (fun _ => K)
def Asl (c : Cx) (n : Nat) (f : Fe) (ts : List Expr) (vs : List AV) (ℓ : Loc) (σ : AH) (K : Loc → AH → Prop) : Prop := J c RU n (PL vs) (fun L xs => assignInOrder ((assignEach ts (f.env L)).map (·.2)) xs) ℓ σ (fun _ => K)
def S2 (c : Cx) (n : Nat) (g : Value → Value → Sem Unit) (u v : AV) (ℓ : Loc) (σ : AH) (K : Loc → AH → Prop) : Prop := J c RU n (P2 u v) (fun _ x => g x.1 x.2) ℓ σ (fun _ => K)
def S3 (c : Cx) (n : Nat) (g : Value → Value → Value → Sem Unit) (u v y : AV) (ℓ : Loc) (σ : AH) (K : Loc → AH → Prop) : Prop := J c RU n (P3 u v y) (fun _ x => g x.1 x.2.1 x.2.2) ℓ σ (fun _ => K)

theorem As.name {x : Str} {pos : Pos} {v : AV} {K : Loc → AH → Prop} (hl : ∀ L, (f.env L).kindOf x = some .local) (h : K (put x v ℓ) σ) : As c n f (.Name x pos) v ℓ σ K := by
  intro h₀ A L s y Q E hB hA hS hF hP hC
  obtain ⟨m, hm, hl'⟩ := hF.fr
  show wpAny _ A (assign (.Name x pos) (f.env L) y) Q E s
  refine PyProof.Rows.assign_Name (wpAny_storeName_local (hl L) (by rw [f.loc L]; exact hm.ns) (fun h' hn hs => hC.loc (b := ()) hS hF hm hl' hP (by rw [f.loc L] at hn; exact hn) (by rw [f.loc L] at hs; exact hs) h trivial _) ?_)
  rw [f.kind L]; rfl
/-- a cell's name is stored -/
theorem As.cell {x : Str} {pos : Pos} {v : AV} {v₀ : Option AV} {a : Addr} {K : Loc → AH → Prop} (hl : ∀ L, (f.env L).kindOf x = some .cell) (hc : ∀ L, (f.env L).cells.lookup x = some a) (ha : σ a = some (.cell v₀)) (h : K ℓ (AH.set σ a (.cell (some v)))) : As c n f (.Name x pos) v ℓ σ K := by
  intro h₀ A L s y Q E hB hA hS hF hP hC
  show wpAny _ A (assign (.Name x pos) (f.env L) y) Q E s
  obtain ⟨z, h1, h2⟩ := hS.obj a _ ha
  refine PyProof.Rows.assign_Name (wpAny_storeName_cell (f.kind L) (hl L) (hc L) h1 fun h' hv hs => ?_)
  exact hC.upd (oa := .cell v₀) (b := ()) hS hF ha (ob := .cell (some v)) rfl hs (by obtain ⟨o, e, _⟩ := hv; exact ⟨o, e⟩) (fun kt => ⟨_, hv, .some (VR.keep kt hP)⟩) h (fun _ => trivial) s.toks

theorem As.attr {o : Expr} {x : Str} {pos : Pos} {v : AV} {K : Loc → AH → Prop}
    (h : Ev c n f o ℓ σ fun u ℓ₁ σ₁ => S2 c n (fun y z => setAttr y x z) u v ℓ₁ σ₁ K) : As c n f (.Attribute o x pos) v ℓ σ K := by
  intro h₀ A L s y Q E hB hA hS hF hP hC
  show wpAny _ A (assign _ _ _) Q E s
  rw [arm_assign_Attribute]
  exact wpAny_bind (wpAny_holding (h h₀ A L s () _ E hB hA hS hF trivial fun u z _ _ _ tk₁ hK₁ hS₁ hF₁ hX₁ hR₁ => wpAny_bind (wpAny_standAt (wpAny_bind (wpAny_holding
    (hK₁ h₀ A L _ (z, y) _ E hB hA hS₁ hF₁ ⟨hR₁, hP.keep (hF.tup hS hX₁)⟩ fun _ _ _ _ _ tk₂ hK₂ hS₂ hF₂ hX₂ hR₂ => wpAny_release (hC () () _ _ _ tk₂ hK₂ hS₂ hF₂ (hX₁.trans hX₂) trivial)))))))

theorem As.sub {o i : Expr} {pos : Pos} {v : AV} {K : Loc → AH → Prop}
    (h : Ev c n f o ℓ σ fun u ℓ₁ σ₁ => Ev c n f i ℓ₁ σ₁ fun k ℓ₂ σ₂ => S3 c n setItem u k v ℓ₂ σ₂ K) : As c n f (.Subscript o i pos) v ℓ σ K := by
  intro h₀ A L s y Q E hB hA hS hF hP hC
  show wpAny _ A (assign _ _ _) Q E s
  rw [arm_assign_Subscript]
  exact wpAny_bind (wpAny_holding (h h₀ A L s () _ E hB hA hS hF trivial fun u z _ _ _ tk₁ hK₁ hS₁ hF₁ hX₁ hR₁ => wpAny_bind (wpAny_holding (hK₁ h₀ A L _ () _ E hB hA hS₁ hF₁ trivial fun k z₂ _ _ _ tk₂ hK₂ hS₂ hF₂ hX₂ hR₂ => wpAny_bind (wpAny_standAt (wpAny_bind (wpAny_holding
    (hK₂ h₀ A L _ (z, z₂, y) _ E hB hA hS₂ hF₂ ⟨hR₁.keep (hF₁.tup hS₁ hX₂), hR₂, hP.keep (hF.tup hS (hX₁.trans hX₂))⟩ fun _ _ _ _ _ tk₃ hK₃ hS₃ hF₃ hX₃ hR₃ => wpAny_release (hC () () _ _ _ tk₃ hK₃ hS₃ hF₃ ((hX₁.trans hX₂).trans hX₃) trivial)))))))))

theorem Asl.nil {vs : List AV} {K : Loc → AH → Prop} (h : K ℓ σ) : Asl c n f [] vs ℓ σ K := J.now (b := ()) h fun _ _ _ s _ _ _ _ _ _ _ _ q => assignInOrder_nil (q _ s.toks trivial)
theorem Asl.cons {t : Expr} {ts : List Expr} {v : AV} {vs : List AV} {K : Loc → AH → Prop} (he : ∀ env, assignEach (t :: ts) env = (false, assign t env) :: assignEach ts env)
    (h : As c n f t v ℓ σ fun ℓ₁ σ₁ => Asl c n f ts vs ℓ₁ σ₁ K) : Asl c n f (t :: ts) (v :: vs) ℓ σ K := by
  intro h₀ A L s xs Q E hB hA hS hF hP hC
  cases hP with
  | cons p ps =>
    show wpAny _ A (assignInOrder ((assignEach _ _).map _) _) Q E s
    rw [he, List.map_cons]
    exact assignInOrder_cons (h h₀ A L s _ _ E hB hA hS hF p fun _ _ _ _ _ tk₁ hK₁ hS₁ hF₁ hX₁ hR₁ => hK₁ h₀ A L _ _ Q E hB hA hS₁ hF₁ (VRs.keep (hF.tup hS hX₁) ps) (hC.after hX₁ tk₁))

theorem As.tup {ts : List Expr} {k : Nat} {pos : Pos} {vs : List AV} {K : Loc → AH → Prop} (hn : ∀ env, (assignEach ts env).length = vs.length) (hs : ∀ env, (assignEach ts env).findIdx? (·.1) = none)
    (h : Asl c n f ts vs ℓ σ K) : As c n f (.Tuple ts k pos) (.tup vs) ℓ σ K := by
  intro h₀ A L s y Q E hB hA hS hF hP hC
  cases hP with
  | tup e r =>
    rename_i a ws m
    refine assign_Tuple_tuple hA.handled ⟨_, e, rfl, _, rfl⟩ (by rw [hn, r.length]; simp) (hs _) fun h' he => ?_
    have k : ∀ b o, s.heap.get? b = some o → h'.get? b = some o := fun b o e => he b o (Nat.ne_of_lt (Heap.lt_size e)) e
    have kt : TupKeep s.heap h' := fun b o e _ => k b o e
    have X : Ext L σ s.heap σ h' := ⟨fun b o e _ _ => k b o e, fun a o e => .inl ⟨o, e, rfl⟩, fun b o e => ⟨o, k b o e⟩⟩
    have S' := hS.keepAll k
    exact h h₀ A L _ _ Q E hB hA S' (hF.carry S' X.dom (fun o e => k L o e) kt) (r.keep kt) (hC.after X s.toks)

theorem Ex.assign {t value : Expr} {pos : Pos} {K : AF → Loc → AH → Prop} (he : ∀ env, (assignEach [t] env).map (·.2) = [assign t env])
    (hs : ∀ env, swapsWithSole [t] value pos.line env = pure false) (hw : ∀ L, swappedStores [t] value (f.env L) = pure none)
    (h : Ev c n f value ℓ σ fun v ℓ₁ σ₁ => As c n f t v ℓ₁ σ₁ fun ℓ₂ σ₂ => K .next ℓ₂ σ₂) : Ex c n f (.Assign [t] value pos) ℓ σ K :=
  fun h₀ A L s _ Q E hB hA hS hF _ hC => wpAny_Assign_stores (h h₀ A L s () _ E hB hA hS hF trivial fun v x _ _ _ tk₁ hK₁ hS₁ hF₁ hX₁ hR₁ => by
    rw [he]
    exact hK₁ h₀ A L _ x _ E hB hA hS₁ hF₁ hR₁ fun _ _ _ _ _ tk₂ hK₂ hS₂ hF₂ hX₂ _ => hC _ _ _ _ _ tk₂ hK₂ hS₂ hF₂ (hX₁.trans hX₂) .next) (hs _) (hw _)

theorem Ex.swap {ts : List Expr} {k : Nat} {tpos pos : Pos} {value : Expr} {names : List Str} {K : AF → Loc → AH → Prop}
    (hs : ∀ env, swapsWithSole [.Tuple ts k tpos] value pos.line env = pure false) (hw : ∀ L, swappedStores [.Tuple ts k tpos] value (f.env L) = pure (some names)) (ps : List Expr) (hps : ∀ env, (names.reverse.map fun n => bindName env n) = (assignEach ps env).map (·.2)) (vs : List AV)
    (h : Ev c n f value ℓ σ fun v ℓ₁ σ₁ => ∃ vs, (v = .tup vs ∧ names.length = vs.length) ∧ Asl c n f ps vs.reverse ℓ₁ σ₁ fun ℓ₂ σ₂ => K .next ℓ₂ σ₂) : Ex c n f (.Assign [.Tuple ts k tpos] value pos) ℓ σ K := by
  intro h₀ A L s _ Q E hB hA hS hF _ hC
  refine Assign_Tuple_swapped (names := names) (h h₀ A L s () _ E hB hA hS hF trivial fun v x ℓ₁ σ₁ h₁ tk₁ hK₁ hS₁ hF₁ hX₁ hR₁ => ?_) (hs _) (hw _)
  obtain ⟨vs, ⟨rfl, hl⟩, hK⟩ := hK₁
  cases hR₁ with
  | tup e r =>
    rename_i a ws m
    rw [show names.length = ws.toArray.size by rw [hl, r.length]; simp]
    refine unpackItems_tuple hA.handled ⟨_, e, rfl, _, rfl⟩ fun h' he => ?_
    have k : ∀ b o, h₁.get? b = some o → h'.get? b = some o := fun b o e => he b o (Nat.ne_of_lt (Heap.lt_size e)) e
    have kt : TupKeep h₁ h' := fun b o e _ => k b o e
    have X : Ext L σ₁ h₁ σ₁ h' := ⟨fun b o e _ _ => k b o e, fun a o e => .inl ⟨o, e, rfl⟩, fun b o e => ⟨o, k b o e⟩⟩
    have S' := hS₁.keepAll k
    rw [hps]
    have rr : ∀ {us : List AV} {ys : List Value}, VRs h' us ys → VRs h' us.reverse ys.reverse := by
      intro us ys q
      induction us generalizing ys with
      | nil => cases q; exact .nil
      | cons u us ih => cases q with | cons a b => rw [List.reverse_cons, List.reverse_cons]; exact (ih b).append (.cons a .nil)
    exact hK h₀ A L _ _ _ E hB hA S' (hF₁.carry S' X.dom (fun o e => k L o e) kt) (rr (r.keep kt)) fun _ _ _ _ _ tk₂ hK₂ hS₂ hF₂ hX₂ _ => hC _ _ _ _ _ tk₂ hK₂ hS₂ hF₂ ((hX₁.trans X).trans hX₂) .next

theorem Ex.expr {e : Expr} {pos : Pos} {K : AF → Loc → AH → Prop} (hs : ∀ env, swapsWith e none pos.line env = pure false) (h : Ev c n f e ℓ σ fun _ ℓ₁ σ₁ => K .next ℓ₁ σ₁) : Ex c n f (.Expr e pos) ℓ σ K :=
  fun h₀ A L s _ Q E hB hA hS hF _ hC => wpAny_Expr_any (h h₀ A L s () _ E hB hA hS hF trivial fun _ x _ _ _ tk hK hS₁ hF₁ hX hR => hC _ _ _ _ _ tk hK hS₁ hF₁ hX .next) (by show ((f.env L).scope.kind == .module && _) = false; rw [f.kind L]; rfl) (hs _)
end
end Mine
end
section
open PySem PySem.W PySem.Calls PyProof.Rows PySem.Builtin PySem.Builtin.ObjectAttr
set_option Elab.async false
set_option linter.unusedVariables false
set_option maxRecDepth 100000
namespace Mine

theorem ER.isRef {w : World} (x : Str) {gs : List (Str × Value)} {es : List DictEntry} (r : ER w gs es) : (es.any (·.refKey)) = false := by
  induction r with
  | nil => rfl
  | cons _ ih => rw [List.any_cons, ih]; rfl
theorem ER.put {w : World} (x : Str) (tk : Tok) (v : Value) : ∀ {gs : List (Str × Value)} {es : List DictEntry}, ER w gs es → ∃ gs', ER w gs' (putL x (PyData.keyHash w.params x) (.str x tk) v es) ∧
    ∀ {h : Heap} {fs : List (Str × AV)} {u : AV}, FR h fs gs → VR h u v → FR h (put x u fs) gs'
  | _, _, .nil => ⟨[(x, v)], .cons .nil, fun f r => by cases f; exact .cons r .nil⟩
  | _, _, .cons (x := y) (t := t) (v := z) (gs := gs) (es := es) r => by
    obtain ⟨gs', h1, h2⟩ := r.put x tk v
    by_cases q : y = x
    · subst q
      refine ⟨(y, v) :: gs, ?_, fun f u => ?_⟩
      · simp only [putL, Value.isStr, beq_self_eq_true, if_true]; exact .cons r
      · cases f with | cons a b => simp only [Mine.put, if_true]; exact .cons u b
    · refine ⟨(y, z) :: gs', ?_, fun f u => ?_⟩
      · have : (y == x) = false := by simpa using q
        simp only [putL, Value.isStr, this, Bool.false_eq_true, if_false]; exact .cons h1
      · cases f with | cons a b => simp only [Mine.put, q, if_false]; exact .cons a (h2 b u)
theorem ER.length {w : World} {gs : List (Str × Value)} {es : List DictEntry} (r : ER w gs es) : es.length = gs.length := by
  induction r with
  | nil => rfl
  | cons _ ih => exact congrArg Nat.succ ih
theorem putL_length (x : Str) (hs : Int) (k v : Value) : ∀ es : List DictEntry, (putL x hs k v es).length ≤ es.length + 1
  | [] => by simp [putL]
  | e :: r => by
    have := putL_length x hs k v r
    simp only [putL]
    split <;> simp <;> omega

/-- an instance's own dict is written, and nothing else -/
theorem store_own {prog : Program} {w : World} {A : Around} {K : Frag} {R : Result → Shared → Prop} {s : Shared} {x C dx : Addr} {ox od : Obj} {name : Str} {tk : Tok} {v : Value} {es : List DictEntry} {k : Nat} {es' : List DictEntry} {k' : Nat} (X : K.In s.heap)
    (I : InstAt s.heap x ox C (some od)) (hd : ox.dict = some dx) (D : s.heap.get? dx = some od) (eo : od = dictOf es k) (hp : plainOver K C = true) (ht : takerIn K C name = some none) (hh : (clsIn K C).any (·.hasDict) = true)
    (hr : es.any (·.refKey) = false) (e : putL name (PyData.keyHash w.params name) (.str name s.toks) v es = es') (e' : putN name es k = k') (hz : es'.length ≤ 1000)
    (h : ∀ h', Heap.SameBut dx s.heap h' → h'.get? dx = some (dictOf es' k') → R (.ok (.ret .none)) { s with heap := h', toks := s.toks + 1 }) :
    codeAny (model prog w) A (.call (.builtin "object.__setattr__") ⟨[.ref x, .str name tk, v], []⟩) R s := by
  refine osa_open X I hp ht fun b => ?_
  obtain ⟨cd, hc, hd'⟩ := any_some hh
  have D' : (s.heap.update dx (Obj.putName name (PyData.keyHash w.params name) (.str name s.toks) v)).get? dx = some (dictOf es' k') := by
    subst eo
    rw [Heap.get?_update_self _ D (by rw [putName_dict]; rfl), putName_dict, e, e']
  obtain ⟨hx, hcl, hn, -⟩ := I
  obtain ⟨oc, odi, oda, osl⟩ := ox
  dsimp only at hcl hd
  subst hcl hd
  refine wpAny_bind (wpAny_pure (wpAny_bind (wpAny_bind (wpAny_loadPart hx (wpAny_bind ((looks_clsIn X hc).here ?_))))))
  rw [hd']
  refine wpAny_pure (a := some dx) (wpAny_bind (wpAny_pure (wpAny_bind ?_)))
  unfold nsSet
  refine wpAny_bind (wpAny_bind (wpAny_askSetting (wpAny_pure (wpAny_bind (wpAny_mkText (wpAny_bind (wpAny_loadPart D ?_)))))))
  have c0 : (!es.toArray.any (·.key.isStr name) && es.toArray.any (·.refKey)) = false := by
    rw [← Array.any_toList, ← Array.any_toList]
    show (!es.any _ && es.any _) = false
    rw [hr, Bool.and_false]
  subst eo
  dsimp only
  rw [aRefKeyMayBeTheName_at, c0]
  refine wpAny_updatePart D ?_
  refine wpAny_bind (wpAny_lookBehind D' (pastItsLine_dict (by rw [List.size_toArray, sizeLine_eq]; omega)) ?_)
  exact wpAny_pure (h _ (Heap.SameBut.update ..) D')

section
variable {c : Cx} {n : Nat} {f : Fe} {ℓ : Loc} {σ : AH}

/-- an instance's own attribute is stored -/
theorem S2.field {a C dx : Addr} {fs : List (Str × AV)} {x : Str} {v : AV} {K : Loc → AH → Prop} (ha : σ a = some (.inst C dx fs))
    (hs : findIn c.K (.ref C) "__setattr__" = some (some (.builtin "object.__setattr__"))) (hp : plainOver c.K C = true) (ht : takerIn c.K C x = some none) (hh : hasDictIn c.K C = true) (hz : fs.length ≤ 900)
    (h : K ℓ (AH.set σ a (.inst C dx (put x v fs)))) : S2 c n (fun y z => setAttr y x z) (.ref a) v ℓ σ K := by
  intro h₀ A L s i Q E hB hA hS hF hP hC
  obtain ⟨y, z⟩ := i
  obtain ⟨p1, p2⟩ := hP
  cases p1
  obtain ⟨sl, gs, es, k, h1, h2, h3, h4⟩ := hS.obj a _ ha
  have X := hB.k.keeps hS.keep
  have I : InstAt s.heap a ⟨.ref C, some dx, .plain, sl⟩ C (some (dictOf es k)) := ⟨h1, rfl, rfl, h2⟩
  obtain ⟨gs', g1, g2⟩ := h3.put x (s.toks + 1) z
  refine set_plain X I hs (store_own (s := { s with toks := s.toks + 1 }) X I rfl h2 rfl hp ht hh (h3.isRef x) rfl rfl ?_ fun h' hs' D' => ?_)
  · have e1 := putL_length x (PyData.keyHash c.w.params x) (.str x (s.toks + 1)) z es
    have e2 := h3.length
    have e3 := h4.length
    show (putL x (PyData.keyHash c.w.params x) (.str x (s.toks + 1)) z es).length ≤ 1000
    omega
  · exact hC.upd (oa := .inst C dx fs) (b := ()) hS hF ha (ob := .inst C dx (put x v fs)) rfl hs' ⟨_, D'⟩
      (fun kt => ⟨sl, gs', _, _, (hs'.2 a (fun q => by subst q; rw [h1] at h2; cases h2)).trans h1, D', g1, (g2 h4 p2).keep kt⟩) h (fun _ => trivial) _
end
end Mine
end
section
open PySem PySem.W PySem.Calls PyProof.Rows PySem.SeqAt
set_option Elab.async false
set_option linter.unusedVariables false
set_option maxRecDepth 100000
namespace Mine

theorem VRs.size {h : Heap} {vs : List AV} {xs : List Value} (r : VRs h vs xs) : xs.toArray.size = vs.length := by rw [List.size_toArray, r.length]

section
variable {c : Cx} {n : Nat} {f : Fe} {ℓ : Loc} {σ : AH}

theorem isList_of {h : Heap} {a : Addr} {ws : List Value} {m : Nat} (e : h.get? a = some { cls := .type "list", data := .seq ws.toArray m }) : h.IsList a ws.toArray := ⟨_, e, rfl, _, rfl⟩
theorem isTup_of {h : Heap} {a : Addr} {ws : List Value} {m : Nat} (e : h.get? a = some { cls := .type "tuple", data := .seq ws.toArray m }) : IsTup h a ws.toArray := ⟨_, e, rfl, _, rfl⟩

/-- a list's item -/
theorem O2.listItem {o sl : Expr} {a : Addr} {vs : List AV} {i : Int} {v : AV} {K : AV → Loc → AH → Prop} (hs : ∀ x y, subscripted sl false x y = operate [x, y] (getItem x y)) (ha : σ a = some (.list vs)) (h0 : 0 ≤ i) (hz : i < 2 ^ 63)
    (hv : vs[i.toNat]? = some v) (h : K v ℓ σ) : O2 c n (subscriptTail o sl) (.ref a) (.int i) ℓ σ K := by
  refine J.now h fun h₀ A L s y Q E hB hA hS hF hP q => ?_
  obtain ⟨y1, y2⟩ := y
  obtain ⟨p1, p2⟩ := hP
  cases p1; cases p2
  obtain ⟨ws, m, h1, h2⟩ := hS.obj a _ ha
  obtain ⟨x, e, r⟩ := h2.get hv
  exact tail_any (isList_of h1).typeIs slot_list_getitem.lookup (wpAny_getItem_list (isList_of h1) h0 hz (by simpa using e) (q _ s.toks r)) (hs _ _)
theorem O2.listItemNeg {o sl : Expr} {a : Addr} {vs : List AV} {i : Int} {v : AV} {K : AV → Loc → AH → Prop} (hs : ∀ x y, subscripted sl false x y = operate [x, y] (getItem x y)) (ha : σ a = some (.list vs)) (h0 : i < 0) (h1 : -(vs.length : Int) ≤ i) (hz : -(2 ^ 63) ≤ i)
    (hv : vs[(i + vs.length).toNat]? = some v) (h : K v ℓ σ) : O2 c n (subscriptTail o sl) (.ref a) (.int i) ℓ σ K := by
  refine J.now h fun h₀ A L s y Q E hB hA hS hF hP q => ?_
  obtain ⟨y1, y2⟩ := y
  obtain ⟨p1, p2⟩ := hP
  cases p1; cases p2
  obtain ⟨ws, m, g1, h2⟩ := hS.obj a _ ha
  obtain ⟨x, e, r⟩ := h2.get hv
  exact tail_any (isList_of g1).typeIs slot_list_getitem.lookup (wpAny_getItem_list_neg (isList_of g1) h0 (by rw [h2.size]; exact h1) hz (by rw [h2.size]; simpa using e) (q _ s.toks r)) (hs _ _)
/-- a tuple's item -/
theorem O2.tupItem {o sl : Expr} {vs : List AV} {i : Int} {k : Nat} {v : AV} {K : AV → Loc → AH → Prop} (hs : ∀ x y, subscripted sl false x y = operate [x, y] (getItem x y)) (hlo : -(2 ^ 63) ≤ i) (hhi : i < 2 ^ 63) (hk : seqIndex? i vs.length = some k)
    (hv : vs[k]? = some v) (h : K v ℓ σ) : O2 c n (subscriptTail o sl) (.tup vs) (.int i) ℓ σ K := by
  refine J.now h fun h₀ A L s y Q E hB hA hS hF hP q => ?_
  obtain ⟨y1, y2⟩ := y
  obtain ⟨p1, p2⟩ := hP
  cases p2
  cases p1 with
  | tup e r =>
    obtain ⟨x, e', r'⟩ := r.get hv
    exact tail_any (isTup_of e).typeIs slot_tuple_getitem.lookup (PyProof.Rows.getItem_tuple (isTup_of e) hlo hhi (by rw [r.size]; exact hk) (by simpa using e') (q _ s.toks r')) (hs _ _)

/-- a list's item is stored -/
theorem S3.listItem {a : Addr} {vs : List AV} {i : Int} {v : AV} {K : Loc → AH → Prop} (ha : σ a = some (.list vs)) (h0 : 0 ≤ i) (hz : i < 2 ^ 63) (hn : i < vs.length) (h : K ℓ (AH.set σ a (.list (vs.set i.toNat v)))) :
    S3 c n setItem (.ref a) (.int i) v ℓ σ K := by
  intro h₀ A L s y Q E hB hA hS hF hP hC
  obtain ⟨y1, y2, y3⟩ := y
  obtain ⟨p1, p2, p3⟩ := hP
  cases p1; cases p2
  obtain ⟨ws, m, h1, h2⟩ := hS.obj a _ ha
  have hl := isList_of h1
  have hlen := h2.length
  show wpAny _ _ (setItem (.ref a) (.int i _) y3) _ _ s
  unfold setItem
  refine wpAny_holding ?_
  refine wpAny_bind (wpAny_sequenceKey hl.typeIs (by decide) ?_)
  refine wpAny_bind (wpAny_callSpecial?_slot (name := Str.ofString "__setitem__") hl.typeIs slot_list_setitem
    (wpAny_call_entry slot_list_setitem hl.typeIs entry_list_setitem ?_ (args_list_setitem _ _ _)))
  show wpAny _ _ (Builtin.List.listSubscript? (.int i _) >>= _) _ _ s
  refine wpAny_bind (wpAny_listSubscript_int (fitsIndex_of h0 hz) ?_)
  clear hz
  obtain ⟨j, rfl⟩ := Int.eq_ofNat_of_zero_le h0
  have hj : j < ws.toArray.size := by rw [List.size_toArray]; omega
  show wpAny _ _ ((seqItemAt a j >>= fun r => pure (r.map (j, ·))) >>= _) _ _ s
  refine wpAny_bind (wpAny_bind (wpAny_seqItemAt h1 rfl (wpAny_pure ?_)))
  rw [Array.getElem?_eq_getElem hj]
  show wpAny _ _ (setSeqItemAt a j y3 >>= _) _ _ s
  have D : (s.heap.update a (Obj.mapSeq (·.setIfInBounds j y3))).get? a = some { cls := .type "list", data := .seq (ws.set j y3).toArray m } := by
    rw [Heap.get?_update_self _ h1 (by simp [Obj.mapSeq, Obj.isFreed])]; simp [Obj.mapSeq]
  refine wpAny_bind (wpAny_setSeqItemAt h1 rfl ?_)
  refine wpAny_pure ⟨.none, rfl, wpAny_pure ?_⟩
  exact hC.upd (oa := .list vs) (b := ()) hS hF ha (ob := .list (vs.set j v)) rfl (Heap.SameBut.update ..) ⟨_, D⟩
      (fun kt => ⟨ws.set j y3, _, D, (VRs.set (p3.keep kt) (h2.keep kt) j)⟩) h (fun _ => trivial) s.toks
end
end Mine
end
section
open PySem PySem.W PySem.Calls PyProof.Rows PySem.SeqAt
set_option Elab.async false
set_option linter.unusedVariables false
set_option maxRecDepth 100000
namespace Mine

mutual
/-- what a value reads as -/
inductive DV (σ : AH) : AV → PyData → Prop
  | none : DV σ .none .none
  | bool (b : Bool) : DV σ (.bool b) (.bool b)
  | int (i : Int) : DV σ (.int i) (.int i)
  | str (x : Str) : DV σ (.str x) (.str x)
  | tup {vs : List AV} {ds : List PyData} : DVs σ vs ds → DV σ (.tup vs) (.tuple ds)
  | list {a : Addr} {vs : List AV} {ds : List PyData} : σ a = some (.list vs) → DVs σ vs ds → DV σ (.ref a) (.list ds)
inductive DVs (σ : AH) : List AV → List PyData → Prop
  | nil : DVs σ [] []
  | cons {v : AV} {d : PyData} {vs : List AV} {ds : List PyData} : DV σ v d → DVs σ vs ds → DVs σ (v :: vs) (d :: ds)
end
mutual
theorem DV.reads {prog : Program} {w : World} {h₀ : Heap} {σ : AH} {h : Heap} (S : St prog w h₀ σ h) : ∀ {v : AV} {d : PyData} {x : Value}, DV σ v d → VR h v x → ∃ as, Reads h x d as
  | _, _, _, .none, r => by cases r; exact ⟨_, .none⟩
  | _, _, _, .bool b, r => by cases r; exact ⟨_, .bool b⟩
  | _, _, _, .int i, r => by cases r; exact ⟨_, .int i _⟩
  | _, _, _, .str x, r => by cases r; exact ⟨_, .str x _⟩
  | _, _, _, .tup p, r => by
    cases r with
    | tup e q => obtain ⟨as, z⟩ := DVs.reads S p q; exact ⟨_, reads_tuple_at e rfl rfl (by simpa using z)⟩
  | _, _, _, .list e p, r => by
    cases r with
    | ref =>
      obtain ⟨ws, m, h1, h2⟩ := S.obj _ _ e
      obtain ⟨as, z⟩ := DVs.reads S p h2; exact ⟨_, reads_list_at h1 rfl rfl (by simpa using z)⟩
theorem DVs.reads {prog : Program} {w : World} {h₀ : Heap} {σ : AH} {h : Heap} (S : St prog w h₀ σ h) : ∀ {vs : List AV} {ds : List PyData} {xs : List Value}, DVs σ vs ds → VRs h vs xs → ∃ as, ReadsAll h xs ds as
  | _, _, _, .nil, r => by cases r; exact ⟨_, .nil⟩
  | _, _, _, .cons p q, r => by
    cases r with
    | cons a b =>
      obtain ⟨as, z⟩ := DV.reads S p a
      obtain ⟨bs, z'⟩ := DVs.reads S q b
      exact ⟨_, .cons z z'⟩
end

section
variable {c : Cx} {n : Nat} {f : Fe} {ℓ : Loc} {σ : AH}

theorem O2.le {i j : Int} {K : AV → Loc → AH → Prop} (h : K (.bool (decide (i ≤ j))) ℓ σ) : O2 c n (compareOp .LtE) (.int i) (.int j) ℓ σ K := O2.int (fun A E s t u Q q => PyProof.Rows.le_int (q _ s.toks (.bool _))) h
theorem O2.ge {i j : Int} {K : AV → Loc → AH → Prop} (h : K (.bool (decide (j ≤ i))) ℓ σ) : O2 c n (compareOp .GtE) (.int i) (.int j) ℓ σ K := O2.int (fun A E s t u Q q => PyProof.Rows.ge_int (q _ s.toks (.bool _))) h
theorem O1.neg {i : Int} {K : AV → Loc → AH → Prop} (h : K (.int (-i)) ℓ σ) : O1 c n (unaryOp .USub) (.int i) ℓ σ K := by
  refine J.now h fun h₀ A L s y Q E hB hA hS hF hP q => ?_
  cases hP
  exact PyProof.Rows.neg_int (q _ _ (.int _ _))
theorem O1.not {b : Bool} {K : AV → Loc → AH → Prop} (h : K (.bool (!b)) ℓ σ) : O1 c n (unaryOp .Not) (.bool b) ℓ σ K := by
  refine J.now h fun h₀ A L s y Q E hB hA hS hF hP q => ?_
  cases hP
  exact PySem.not_value (wpAny_truthy_bool (q _ s.toks (.bool _)))

/-- None or not -/
def AV.isNo : AV → Option Bool
  | .none => some true
  | .raw _ => Option.none
  | _ => some false
theorem VR.isNo {h : Heap} {v : AV} {x : Value} {b : Bool} (r : VR h v x) (e : v.isNo = some b) : (x == .none) = b := by
  cases r <;> cases e <;> rfl
theorem O2.isNone {v : AV} {b : Bool} {K : AV → Loc → AH → Prop} (e : v.isNo = some b) (h : K (.bool b) ℓ σ) : O2 c n (compareOp .Is) v .none ℓ σ K := by
  refine J.now h fun h₀ A L s y Q E hB hA hS hF hP q => ?_
  obtain ⟨y1, y2⟩ := y
  obtain ⟨p1, p2⟩ := hP
  cases p2
  exact PySem.is_none (by rw [VR.isNo p1 e]; exact q _ s.toks (.bool _))
theorem O2.isNotNone {v : AV} {b : Bool} {K : AV → Loc → AH → Prop} (e : v.isNo = some b) (h : K (.bool (!b)) ℓ σ) : O2 c n (compareOp .IsNot) v .none ℓ σ K := by
  refine J.now h fun h₀ A L s y Q E hB hA hS hF hP q => ?_
  obtain ⟨y1, y2⟩ := y
  obtain ⟨p1, p2⟩ := hP
  cases p2
  exact PySem.isNot_none (by rw [VR.isNo p1 e]; exact q _ s.toks (.bool _))

/-- data compared -/
theorem O2.eq {u v : AV} {d e : PyData} {K : AV → Loc → AH → Prop} (hu : DV σ u d) (hv : DV σ v e) (sd : shaped d = true) (se : shaped e = true) (h : K (.bool (PyData.eqv d e)) ℓ σ) : O2 c n (compareOp .Eq) u v ℓ σ K := by
  refine J.now h fun h₀ A L s y Q E hB hA hS hF hP q => ?_
  obtain ⟨as, ra⟩ := hu.reads hS hP.1
  obtain ⟨bs, rb⟩ := hv.reads hS hP.2
  exact eq_dataH ra rb sd se (by have := hA.units; omega) (q _ s.toks (.bool _))
theorem O2.ne {u v : AV} {d e : PyData} {K : AV → Loc → AH → Prop} (hu : DV σ u d) (hv : DV σ v e) (sd : shaped d = true) (se : shaped e = true) (h : K (.bool (!PyData.eqv d e)) ℓ σ) : O2 c n (compareOp .NotEq) u v ℓ σ K := by
  refine J.now h fun h₀ A L s y Q E hB hA hS hF hP q => ?_
  obtain ⟨as, ra⟩ := hu.reads hS hP.1
  obtain ⟨bs, rb⟩ := hv.reads hS hP.2
  exact ne_dataH ra rb sd se (by have := hA.units; omega) (q _ s.toks (.bool _))
theorem O2.inTup {u : AV} {vs : List AV} {d : PyData} {xs : List PyData} {K : AV → Loc → AH → Prop} (hu : DV σ u d) (hv : DVs σ vs xs) (sd : shaped d = true) (se : PyData.canLayAll0 xs = true) (h : K (.bool (xs.any fun y => PyData.eqv y d)) ℓ σ) :
    O2 c n (compareOp .In) u (.tup vs) ℓ σ K := by
  refine J.now h fun h₀ A L s y Q E hB hA hS hF hP q => ?_
  obtain ⟨as, ra⟩ := hu.reads hS hP.1
  obtain ⟨bs, rb⟩ := DV.reads hS (.tup hv) hP.2
  exact in_tuple_reads rb ra se (canLay_of_shaped sd) (room_in_shaped sd (by have := hA.units; omega)) (q _ s.toks (.bool _))

/-- a list against an empty one -/
theorem O2.eqLen {a b : Addr} {vs us : List AV} {K : AV → Loc → AH → Prop} (ha : σ a = some (.list vs)) (hb : σ b = some (.list us)) (hne : vs.length ≠ us.length) (h : K (.bool false) ℓ σ) : O2 c n (compareOp .Eq) (.ref a) (.ref b) ℓ σ K := by
  refine J.now h fun h₀ A L s y Q E hB hA hS hF hP q => ?_
  obtain ⟨y1, y2⟩ := y
  obtain ⟨p1, p2⟩ := hP
  cases p1; cases p2
  obtain ⟨ws, m, h1, h2⟩ := hS.obj a _ ha
  obtain ⟨zs, k, g1, g2⟩ := hS.obj b _ hb
  exact eq_list_lengthsAt (isList_of h1) (isList_of g1) (by rw [h2.size, g2.size]; simpa using hne) (by have := hA.units; omega) (q _ s.toks (.bool _))
theorem O2.neLen {a b : Addr} {vs us : List AV} {K : AV → Loc → AH → Prop} (ha : σ a = some (.list vs)) (hb : σ b = some (.list us)) (hne : vs.length ≠ us.length) (h : K (.bool true) ℓ σ) : O2 c n (compareOp .NotEq) (.ref a) (.ref b) ℓ σ K := by
  refine J.now h fun h₀ A L s y Q E hB hA hS hF hP q => ?_
  obtain ⟨y1, y2⟩ := y
  obtain ⟨p1, p2⟩ := hP
  cases p1; cases p2
  obtain ⟨ws, m, h1, h2⟩ := hS.obj a _ ha
  obtain ⟨zs, k, g1, g2⟩ := hS.obj b _ hb
  exact RcNeAt.lists_lengths (isList_of h1) (isList_of g1) (by rw [h2.size, g2.size]; simpa using hne) (by have := hA.units; omega) c.prog c.w E Q (q _ s.toks (.bool _))
theorem canEmpty : shaped (.list []) = true := by decide
theorem O2.eqEmpty {a b : Addr} {vs : List AV} {K : AV → Loc → AH → Prop} (ha : σ a = some (.list vs)) (hb : σ b = some (.list [])) (h : K (.bool vs.isEmpty) ℓ σ) : O2 c n (compareOp .Eq) (.ref a) (.ref b) ℓ σ K := by
  cases vs with
  | nil => exact O2.eq (.list ha .nil) (.list hb .nil) canEmpty canEmpty h
  | cons v vs => exact O2.eqLen ha hb (by simp) h
theorem O2.neEmpty {a b : Addr} {vs : List AV} {K : AV → Loc → AH → Prop} (ha : σ a = some (.list vs)) (hb : σ b = some (.list [])) (h : K (.bool (!vs.isEmpty)) ℓ σ) : O2 c n (compareOp .NotEq) (.ref a) (.ref b) ℓ σ K := by
  cases vs with
  | nil => exact O2.ne (.list ha .nil) (.list hb .nil) canEmpty canEmpty h
  | cons v vs => exact O2.neLen ha hb (by simp) h

/-- len -/
theorem Ca.lenList {a : Addr} {vs : List AV} {K : AV → Loc → AH → Prop} (ha : σ a = some (.list vs)) (hz : (vs.length : Int) < 2 ^ 63) (h : K (.int vs.length) ℓ σ) : Ca c n (.builtin "len") [.ref a] ℓ σ K := by
  refine J.now h fun h₀ A L s y Q E hB hA hS hF hP q => ?_
  obtain ⟨ws, m, h1, h2⟩ := hS.obj a _ ha
  cases hP with | cons p ps => cases p; cases ps; exact call_len_list (isList_of h1) (by rw [h2.size]; exact hz) (by rw [h2.size]; exact q _ _ (.int _ _))
theorem Ca.lenTup {vs : List AV} {K : AV → Loc → AH → Prop} (hz : (vs.length : Int) < 2 ^ 63) (h : K (.int vs.length) ℓ σ) : Ca c n (.builtin "len") [.tup vs] ℓ σ K := by
  refine J.now h fun h₀ A L s y Q E hB hA hS hF hP q => ?_
  cases hP with
  | cons p ps => cases p with
    | tup e r => cases ps; exact PyProof.Rows.len_tuple (isTup_of e) (by rw [r.size]; exact hz) (by rw [r.size]; exact q _ _ (.int _ _))
theorem Ca.max {i j : Int} {K : AV → Loc → AH → Prop} (h : K (.int (Max.max i j)) ℓ σ) : Ca c n (.builtin "max") [.int i, .int j] ℓ σ K := by
  intro h₀ A L s y Q E hB hA hS hF hP hC
  cases hP with
  | cons p ps => cases p; cases ps with
    | cons p ps => cases p; cases ps; exact max_two_ints hA.handled fun h' tk hk => by
                    by_cases z : j > i
                    · rw [if_pos z]; exact hC.add hS hF hk (by rwa [show Max.max i j = j by omega] at h) (fun _ => .int _ _) _
                    · rw [if_neg z]; exact hC.add hS hF hk (by rwa [show Max.max i j = i by omega] at h) (fun _ => .int _ _) _
theorem Ca.min {i j : Int} {K : AV → Loc → AH → Prop} (h : K (.int (Min.min i j)) ℓ σ) : Ca c n (.builtin "min") [.int i, .int j] ℓ σ K := by
  intro h₀ A L s y Q E hB hA hS hF hP hC
  cases hP with
  | cons p ps => cases p; cases ps with
    | cons p ps => cases p; cases ps; exact min_two_ints hA.handled fun h' tk hk => by
                    by_cases z : j < i
                    · rw [if_pos z]; exact hC.add hS hF hk (by rwa [show Min.min i j = j by omega] at h) (fun _ => .int _ _) _
                    · rw [if_neg z]; exact hC.add hS hF hk (by rwa [show Min.min i j = i by omega] at h) (fun _ => .int _ _) _

/-- list(x), tuple(x) -/
theorem Ca.listList {a : Addr} {vs : List AV} {K : AV → Loc → AH → Prop} (ha : σ a = some (.list vs)) (hz : vs.length ≤ sizeLine) (h : ∀ b, σ b = none → K (.ref b) ℓ (AH.set σ b (.list vs))) : Ca c n (.type "list") [.ref a] ℓ σ K := by
  intro h₀ A L s y Q E hB hA hS hF hP hC
  obtain ⟨ws, m, h1, h2⟩ := hS.obj a _ ha
  cases hP with
  | cons p ps => cases p; cases ps; exact call_list_seq a (.inl rfl) h1 rfl rfl (fun h' c' hk hn => hC.new (ob := .list vs) hS hF hk (Nat.le_refl _) rfl (fun kt => ⟨ws, _, hn, h2.keep kt⟩) (h _) (fun _ => .ref _) s.toks) (by rw [h2.size]; exact hz)
theorem Ca.listTup {vs : List AV} {K : AV → Loc → AH → Prop} (hz : vs.length ≤ sizeLine) (h : ∀ b, σ b = none → K (.ref b) ℓ (AH.set σ b (.list vs))) : Ca c n (.type "list") [.tup vs] ℓ σ K := by
  intro h₀ A L s y Q E hB hA hS hF hP hC
  cases hP with
  | cons p ps => cases p with
    | tup e r => cases ps; exact call_list_seq _ (.inr rfl) e rfl rfl (fun h' c' hk hn => hC.new (ob := .list vs) hS hF hk (Nat.le_refl _) rfl (fun kt => ⟨_, _, hn, r.keep kt⟩) (h _) (fun _ => .ref _) s.toks) (by rw [r.size]; exact hz)
theorem Ca.tupList {a : Addr} {vs : List AV} {K : AV → Loc → AH → Prop} (ha : σ a = some (.list vs)) (hz : vs.length ≤ sizeLine) (h : K (.tup vs) ℓ σ) : Ca c n (.type "tuple") [.ref a] ℓ σ K := by
  intro h₀ A L s y Q E hB hA hS hF hP hC
  obtain ⟨ws, m, h1, h2⟩ := hS.obj a _ ha
  cases hP with
  | cons p ps => cases p; cases ps; exact call_tuple_list (isList_of h1) (fun h' hk => hC.add hS hF (fun b o e => Heap.get?_push_of_some _ (hk b o e)) h (fun kt => .tup (Heap.get?_push_size _ rfl) (h2.keep kt)) s.toks) (by rw [h2.size]; exact hz)
theorem Ca.tupTup {vs : List AV} {K : AV → Loc → AH → Prop} (h : K (.tup vs) ℓ σ) : Ca c n (.type "tuple") [.tup vs] ℓ σ K := by
  refine J.now h fun h₀ A L s y Q E hB hA hS hF hP q => ?_
  cases hP with
  | cons p ps => cases p with
    | tup e r => cases ps; exact call_tuple_same ⟨_, e, rfl, _, rfl⟩ (q _ s.toks (.tup e r))
end
end Mine
end
section
open PySem PySem.W PySem.Calls PyProof.Rows PySem.SeqAt
set_option Elab.async false
set_option linter.unusedVariables false
set_option maxRecDepth 100000
namespace Mine

def clipN (v : Option Int) (d n : Nat) : Nat := match v with
  | none => d
  | some i => (max 0 (min (if i < 0 then i + n else i) (n : Int))).toNat
/-- a slice -/
def cut {α : Type} (lo hi : Option Int) (vs : List α) : List α := (vs.drop (clipN lo 0 vs.length)).take (clipN hi vs.length vs.length - clipN lo 0 vs.length)
theorem bounds_cut (lo hi : Option Int) (n : Nat) : sliceBounds lo hi none n = (((clipN lo 0 n : Nat) : Int), ((clipN hi n n : Nat) : Int), 1) := by
  simp only [sliceBounds, Option.getD_none, show (1 : Int) > 0 by decide, if_true]
  congr 1
  · cases lo with
    | none => rfl
    | some i => simp only [clipN]; split <;> omega
  · congr 1
    cases hi with
    | none => rfl
    | some i => simp only [clipN]; split <;> omega
theorem slicePick_cut (ws : List Value) (lo hi : Option Int) : slicePick ws.toArray lo hi none = (cut lo hi ws).toArray := by
  unfold slicePick
  rw [bounds_cut]
  simp only [sliceRange_one, pick_run, List.size_toArray, cut]
theorem VRs.cut {h : Heap} {vs : List AV} {ws : List Value} (r : VRs h vs ws) (lo hi : Option Int) : VRs h (cut lo hi vs) (cut lo hi ws) := by
  unfold Mine.cut; rw [r.length]; exact (r.drop _).take _

/-- repeated -/
def reps {α : Type} (vs : List α) : Nat → List α
  | 0 => []
  | k + 1 => vs ++ reps vs k
theorem VRs.reps {h : Heap} {vs : List AV} {ws : List Value} (r : VRs h vs ws) : ∀ k, VRs h (reps vs k) (reps ws k)
  | 0 => .nil
  | k + 1 => r.append (VRs.reps r k)
theorem fold_app (ws : List Value) : ∀ (k : Nat) (z : Array Value), List.foldl (fun x1 x2 => x1 ++ x2) z (List.replicate k ws.toArray) = z ++ (reps ws k).toArray
  | 0, z => by simp [reps]
  | k + 1, z => by rw [List.replicate_succ, List.foldl_cons, fold_app ws k]; simp [reps]
theorem reps_nil {α : Type} : ∀ k, reps ([] : List α) k = []
  | 0 => rfl
  | k + 1 => by simp [reps, reps_nil k]

section
variable {c : Cx} {n : Nat} {f : Fe} {ℓ : Loc} {σ : AH}

theorem O2.addList {a b : Addr} {vs us : List AV} {K : AV → Loc → AH → Prop} (ha : σ a = some (.list vs)) (hb : σ b = some (.list us)) (hz : vs.length + us.length ≤ sizeLine) (h : ∀ x, σ x = none → K (.ref x) ℓ (AH.set σ x (.list (vs ++ us)))) :
    O2 c n (binaryOp .Add) (.ref a) (.ref b) ℓ σ K := by
  intro h₀ A L s y Q E hB hA hS hF hP hC
  obtain ⟨y1, y2⟩ := y
  obtain ⟨p1, p2⟩ := hP
  cases p1; cases p2
  obtain ⟨ws, m, h1, h2⟩ := hS.obj a _ ha
  obtain ⟨zs, k, g1, g2⟩ := hS.obj b _ hb
  have e : ws.toArray ++ zs.toArray = (ws ++ zs).toArray := by simp
  refine concat_meets ⟨_, h1, rfl⟩ ⟨_, g1, rfl⟩ noFill_list_add seq_list_add PySem.F.slot_list_add PySem.F.entry_list_add (PySem.F.args_list_add_2 _ _) (list_addW a b ws.toArray zs.toArray m k none none #[] #[] (by rw [h2.size, g2.size]; exact hz)) ⟨h1, g1, ?_⟩
  rw [e]
  exact hC.new (ob := .list (vs ++ us)) hS hF (fun b o e => Heap.get?_push_of_some _ e) (Nat.le_refl _) rfl (fun kt => ⟨ws ++ zs, 0, Heap.get?_push_size _ rfl, (h2.append g2).keep kt⟩) (h _) (fun _ => .ref _) s.toks

theorem O2.mulList {a : Addr} {vs : List AV} {x : Int} {K : AV → Loc → AH → Prop} (ha : σ a = some (.list vs)) (hlo : -(2 ^ 63 : Int) ≤ x) (hhi : x < 2 ^ 63) (hz : vs.length * x.toNat ≤ 2 ^ 24) (h : ∀ b, σ b = none → K (.ref b) ℓ (AH.set σ b (.list (reps vs x.toNat)))) :
    O2 c n (binaryOp .Mult) (.ref a) (.int x) ℓ σ K := by
  intro h₀ A L s y Q E hB hA hS hF hP hC
  obtain ⟨y1, y2⟩ := y
  obtain ⟨p1, p2⟩ := hP
  cases p1
  cases p2 with
  | int _ u =>
    obtain ⟨ws, m, h1, h2⟩ := hS.obj a _ ha
    have hz' : ws.toArray.size * x.toNat ≤ 2 ^ 24 := by rw [h2.size]; exact hz
    have e : List.foldl (fun x1 x2 => x1 ++ x2) #[] (List.replicate (if ws.toArray.isEmpty = true then 0 else x.toNat) ws.toArray) = (reps ws x.toNat).toArray := by
      rw [fold_app]
      cases ws with
      | nil => simp [reps_nil]
      | cons w ws => simp
    refine wpAny_binaryOp_repeat_ref (T := "list") (U := "int") (by decide) ⟨_, h1, rfl⟩ (fun s' => typeIs_int s' x u) noFill_list_mul F.fills_int_mul F.slot_int_rmul repeat_list F.slot_int_index.lookup
      (call_meets F.slot_int_rmul (typeIs_int s x u) F.entry_int_rmul (F.args_int_rmul_2 _ _) (int___rmul___int_list x u a ws.toArray m)
      ⟨h1, rfl, ⟨_, h1, rfl⟩, call_meets F.slot_list_mul ⟨_, h1, rfl⟩ F.entry_list_mul (F.args_list_mul_2 _ _)
        (AutoListH.list___mul___list_int_3 a ws.toArray m x u (by simp [Builtin.List.listFitsIndex]; omega) (by omega) (by simp [Builtin.List.listTooLong, sizeLine] at *; omega))
        ⟨h1, ?_⟩⟩)
    rw [e]
    exact hC.new (ob := .list (reps vs x.toNat)) hS hF (fun b o e => Heap.get?_push_of_some _ e) (Nat.le_refl _) rfl (fun kt => ⟨reps ws x.toNat, 0, Heap.get?_push_size _ rfl, (h2.reps _).keep kt⟩) (h _) (fun _ => .ref _) s.toks

/-- list.append, on an own list -/
theorem Meth.append {a : Addr} {vs : List AV} (ha : σ a = some (.list vs)) : Meth c n "append" (.ref a) ℓ σ (.builtin "list.append") := by
  intro pl h₀ A L s y Q E hB hA hS hF hP q
  cases hP
  obtain ⟨ws, m, h1, h2⟩ := hS.obj a _ ha
  exact Calls.getMethod_list_append h1 rfl rfl (q s.toks)
theorem Ca.append {a : Addr} {vs : List AV} {v : AV} {K : AV → Loc → AH → Prop} (ha : σ a = some (.list vs)) (hz : vs.length ≤ sizeLine) (h : K .none ℓ (AH.set σ a (.list (vs ++ [v])))) : Ca c n (.builtin "list.append") [.ref a, v] ℓ σ K := by
  intro h₀ A L s y Q E hB hA hS hF hP hC
  obtain ⟨ws, m, h1, h2⟩ := hS.obj a _ ha
  cases hP with
  | cons p ps => cases p; cases ps with
    | cons p ps => cases ps; exact append_at h1 (fun h' hs ho => hC.upd (oa := .list vs) hS hF ha (ob := .list (vs ++ [v])) rfl hs ⟨_, ho⟩
        (fun kt => ⟨ws ++ [_], _, by rw [ho]; simp; rfl, (h2.append (.cons p .nil)).keep kt⟩) h (fun _ => .none) s.toks) (by rw [h2.size]; exact hz)

/-- a slice's part -/
def Pt (c : Cx) (n : Nat) (f : Fe) (e : Option Expr) (ℓ : Loc) (σ : AH) (K : Option Int → Loc → AH → Prop) : Prop := J c (fun _ k v => IsPart v k) n P0 (fun L _ => evalPart e (f.env L)) ℓ σ K
theorem Pt.none {K : Option Int → Loc → AH → Prop} (h : K .none ℓ σ) : Pt c n f .none ℓ σ K := J.now h fun _ _ _ s _ _ _ _ _ _ _ _ q => wpAny_pure (q _ s.toks .none)
theorem Pt.some {e : Expr} {K : Option Int → Loc → AH → Prop} (h : Ev c n f e ℓ σ fun v ℓ₁ σ₁ => ∃ i, v = .int i ∧ K (some i) ℓ₁ σ₁) : Pt c n f (.some e) ℓ σ K :=
  fun h₀ A L s _ Q E hB hA hS hF _ hC => h h₀ A L s () _ E hB hA hS hF trivial fun v x _ _ _ tk hK hS₁ hF₁ hX hR => by
    obtain ⟨i, rfl, hK⟩ := hK
    cases hR
    exact hC _ _ _ _ _ tk hK hS₁ hF₁ hX (.int _ _)

/-- a list's slice -/
theorem Ev.sliceList {o : Expr} {lo hi : Option Expr} {p pos : Pos} {K : AV → Loc → AH → Prop}
    (h : Ev c n f o ℓ σ fun u ℓ₁ σ₁ => Pt c n f lo ℓ₁ σ₁ fun i ℓ₂ σ₂ => Pt c n f hi ℓ₂ σ₂ fun j ℓ₃ σ₃ => ∃ a vs, (u = .ref a ∧ σ₃ a = some (.list vs) ∧ vs.length ≤ sizeLine) ∧ ∀ b, σ₃ b = none → K (.ref b) ℓ₃ (AH.set σ₃ b (.list (cut i j vs)))) :
    Ev c n f (.Subscript o (.Slice lo hi none p) pos) ℓ σ K := by
  intro h₀ A L s _ Q E hB hA hS hF _ hC
  refine Subscript_ (h h₀ A L s () _ E hB hA hS hF trivial fun u x _ _ _ tk₁ hK₁ hS₁ hF₁ hX₁ hR₁ => wpAny_Slice (hK₁ h₀ A L _ () _ E hB hA hS₁ hF₁ trivial fun i y _ _ _ tk₂ hK₂ hS₂ hF₂ hX₂ hR₂ =>
    hK₂ h₀ A L _ () _ E hB hA hS₂ hF₂ trivial fun j z ℓ₃ σ₃ h₃ tk₃ hK₃ hS₃ hF₃ hX₃ hR₃ => wpAny_pure ?_))
  obtain ⟨a, vs, ⟨rfl, ha, hz⟩, hK⟩ := hK₃
  cases hR₁
  obtain ⟨ws, m, h1, h2⟩ := hS₃.obj a _ ha
  have h1' := Heap.get?_push_of_some { cls := .type "slice", data := .fields #[y, z, .none] } h1
  refine tail_any (isList_of h1').typeIs slot_list_getitem.lookup (wpAny_getItem_list_slice (isList_of h1') (Heap.IsSliceOf.new ..) hR₂ hR₃ .none (by simp) ?_ (by rw [h2.size]; exact hz)) rfl
  rw [slicePick_cut]
  have hX := (hX₁.trans hX₂).trans hX₃
  exact (hC.after hX tk₃).new (ob := .list (cut i j vs)) hS₃ hF₃ (fun b o e => Heap.get?_push_of_some _ (Heap.get?_push_of_some _ e)) (by rw [Heap.size_push]; exact Nat.le_succ _) rfl (fun kt => ⟨cut i j ws, 0, Heap.get?_push_size _ rfl, (h2.cut i j).keep kt⟩) (hK _) (fun _ => .ref _) tk₃

/-- tuples joined -/
theorem O2.addTup {vs us : List AV} {K : AV → Loc → AH → Prop} (hz : vs.length + us.length ≤ sizeLine) (h : K (.tup (vs ++ us)) ℓ σ) : O2 c n (binaryOp .Add) (.tup vs) (.tup us) ℓ σ K := by
  intro h₀ A L s y Q E hB hA hS hF hP hC
  obtain ⟨y1, y2⟩ := y
  obtain ⟨p1, p2⟩ := hP
  cases p1 with
  | tup h1 h2 => cases p2 with
    | tup g1 g2 =>
      rename_i a ws m b zs k
      have e : ws.toArray ++ zs.toArray = (ws ++ zs).toArray := by simp
      have l1 := h2.length
      have l2 := g2.length
      cases vs with
      | nil => exact concat_meets ⟨_, h1, rfl⟩ ⟨_, g1, rfl⟩ noFill_tuple_add seq_tuple_add PySem.F.slot_tuple_add PySem.F.entry_tuple_add (PySem.F.args_tuple_add_2 _ _) (tuple_addW0 a b ws.toArray zs.toArray m k none none #[] #[] (by cases h2; rfl)) ⟨h1, g1, hC _ _ ℓ σ s.heap s.toks h hS hF (Ext.refl _ _ _) (.tup g1 g2)⟩
      | cons v vs => cases us with
        | nil => exact concat_meets ⟨_, h1, rfl⟩ ⟨_, g1, rfl⟩ noFill_tuple_add seq_tuple_add PySem.F.slot_tuple_add PySem.F.entry_tuple_add (PySem.F.args_tuple_add_2 _ _) (tuple_addW1 a b ws.toArray zs.toArray m k none none #[] #[] (by cases h2; simp) (by cases g2; rfl)) ⟨h1, g1, hC _ _ ℓ σ s.heap s.toks h hS hF (Ext.refl _ _ _) (by rw [List.append_nil]; exact .tup h1 h2)⟩
        | cons u us =>
          refine concat_meets ⟨_, h1, rfl⟩ ⟨_, g1, rfl⟩ noFill_tuple_add seq_tuple_add PySem.F.slot_tuple_add PySem.F.entry_tuple_add (PySem.F.args_tuple_add_2 _ _) (tuple_addW2 a b ws.toArray zs.toArray m k none none #[] #[] (by cases h2; simp) (by cases g2; simp) (by rw [h2.size, g2.size]; exact hz)) ⟨h1, g1, ?_⟩
          rw [e]
          exact hC.add hS hF (fun b o e => Heap.get?_push_of_some _ e) h (fun kt => .tup (Heap.get?_push_size _ rfl) ((h2.append g2).keep kt)) s.toks
end
end Mine
end
section
open PySem PySem.W PySem.Calls PyProof.Rows PySem.SeqAt
set_option Elab.async false
set_option linter.unusedVariables false
set_option maxRecDepth 100000
namespace Mine

/-- a slice replaced -/
def splice {α : Type} (lo hi : Option Int) (vs us : List α) : List α := vs.take (clipN lo 0 vs.length) ++ us ++ vs.drop (max (clipN lo 0 vs.length) (clipN hi vs.length vs.length))
theorem VRs.splice {h : Heap} {vs us : List AV} {ws zs : List Value} (r : VRs h vs ws) (q : VRs h us zs) (lo hi : Option Int) : VRs h (splice lo hi vs us) (splice lo hi ws zs) := by
  unfold Mine.splice; rw [r.length]; exact ((r.take _).append q).append (r.drop _)
theorem splice_arr (ws zs : List Value) (lo hi : Option Int) :
    ws.toArray.extract 0 ((clipN lo 0 ws.length : Nat) : Int).toNat ++ zs.toArray ++ ws.toArray.extract (max ((clipN lo 0 ws.length : Nat) : Int) ((clipN hi ws.length ws.length : Nat) : Int)).toNat ws.toArray.size = (splice lo hi ws zs).toArray := by
  have e : (max ((clipN lo 0 ws.length : Nat) : Int) ((clipN hi ws.length ws.length : Nat) : Int)).toNat = max (clipN lo 0 ws.length) (clipN hi ws.length ws.length) := by omega
  rw [e]
  simp [splice]
  exact List.take_of_length_le (by simp)

section
variable {prog : Program} {w : World} {A : Around} {E : Value → Shared → Prop} {s : Shared}
theorem setItem_slice {l sl b : Addr} {ws zs : List Value} {m k : Nat} {vl vu : Value} {lo hi : Option Int} {Q : Unit → Shared → Prop} (hl : s.heap.get? l = some { cls := .type "list", data := .seq ws.toArray m }) (hb : s.heap.get? b = some { cls := .type "list", data := .seq zs.toArray k }) (hne : l ≠ b)
    (hs : s.heap.IsSliceOf sl vl vu .none) (pl : IsPart vl lo) (pu : IsPart vu hi) (hsz : ws.length + zs.length ≤ sizeLine)
    (h : ∀ h' m', Heap.SameBut l s.heap h' → h'.get? l = some { cls := .type "list", data := .seq (splice lo hi ws zs).toArray m' } → Q () { s with heap := h' }) : wpAny (model prog w) A (setItem (.ref l) (.ref sl) (.ref b)) Q E s := by
  have hL := isList_of hl
  obtain ⟨os, hos, hcs, hds⟩ := id hs
  have hTs : s.TypeIs (.ref sl) "slice" := ⟨os, hos, hcs⟩
  unfold setItem
  refine wpAny_holding ?_
  refine wpAny_bind (wpAny_sequenceKey hL.typeIs (by decide) ?_)
  refine wpAny_bind (wpAny_callSpecial?_slot (name := Str.ofString "__setitem__") hL.typeIs slot_list_setitem
    (wpAny_call_entry slot_list_setitem hL.typeIs entry_list_setitem ?_ (args_list_setitem _ _ _)))
  show wpAny _ _ (Builtin.List.listSubscript? (.ref sl) >>= _) _ _ s
  refine wpAny_bind ?_
  unfold Builtin.List.listSubscript?
  refine wpAny_bind (wpAny_specialOf hTs slice_no_index ?_)
  simp only [Option.isNone_none, if_true]
  refine wpAny_pure ?_
  show wpAny _ _ (typeOf (.ref sl) >>= _) _ _ s
  refine wpAny_bind (wpAny_typeOf hTs ?_)
  rw [if_neg (by decide)]
  rw [listSliceParts_eq]
  refine wpAny_bind (wpAny_bind (wpAny_field hos hds (x := .none) rfl (wpAny_bind (wpAny_listPart .none ?_))))
  have hstep : ¬ ((rawPart Option.none == rawInt 0) = true) := Bool.false_ne_true
  rw [if_neg hstep]
  refine wpAny_bind (wpAny_field hos hds (x := vl) rfl (wpAny_bind (wpAny_listPart pl ?_)))
  refine wpAny_bind (wpAny_field hos hds (x := vu) rfl (wpAny_bind (wpAny_listPart pu (wpAny_pure ?_))))
  have hn : (Builtin.List.listSameRef (.ref l) (.ref b)) = false := by show (l == b) = false; simpa using hne
  dsimp only
  rw [hn]
  simp only [Bool.false_eq_true, if_false]
  refine wpAny_bind ?_
  unfold Builtin.List.listAllItems
  refine wpAny_bind (wpAny_typeOf (isList_of hb).typeIs ?_)
  rw [if_pos (by decide)]
  refine wpAny_bind ?_
  unfold Builtin.List.listItems
  refine wpAny_seqItems hb rfl (wpAny_pure ?_)
  refine wpAny_bind (wpAny_bind (wpAny_seqItems hl rfl (wpAny_pure ?_)))
  refine wpAny_bind (wpAny_of_eq (sliceIndices_raw lo hi none ws.toArray.size (by simp)) ?_)
  rw [bounds_cut]
  dsimp only
  rw [if_pos (by decide)]
  refine wpAny_bind (wpAny_rule ?_)
  have ht : ¬ (Builtin.List.listTooLong (ws.toArray.size + zs.toArray.size) = true) := by
    simp only [Builtin.List.listTooLong, List.size_toArray, decide_eq_true_eq]; omega
  rw [if_neg ht]
  unfold Builtin.List.listUpdate
  dsimp only
  refine wpAny_bind (wpAny_updateSeq hl rfl ?_)
  obtain ⟨m', D⟩ : ∃ m', (s.heap.update l (Obj.mapSeq fun xs => xs.extract 0 (((clipN lo 0 ws.toArray.size : Nat) : Int)).toNat ++ zs.toArray ++ xs.extract (max ((clipN lo 0 ws.toArray.size : Nat) : Int) ((clipN hi ws.toArray.size ws.toArray.size : Nat) : Int)).toNat xs.size)).get? l
      = some { cls := .type "list", data := .seq (splice lo hi ws zs).toArray m' } := by
    have e : ∀ (f : Array Value → Array Value), ∃ m', (s.heap.update l (Obj.mapSeq f)).get? l = some { cls := .type "list", data := .seq (f ws.toArray) m' } := fun f => ⟨_, Heap.get?_update_self _ hl (by simp [Obj.mapSeq, Obj.isFreed])⟩
    obtain ⟨m', e'⟩ := e fun xs => xs.extract 0 (((clipN lo 0 ws.toArray.size : Nat) : Int)).toNat ++ zs.toArray ++ xs.extract (max ((clipN lo 0 ws.toArray.size : Nat) : Int) ((clipN hi ws.toArray.size ws.toArray.size : Nat) : Int)).toNat xs.size
    exact ⟨m', e'.trans (congrArg (fun z => some (Obj.mk (Value.type "list") none (Data.seq z m') #[])) (splice_arr ws zs lo hi))⟩
  refine wpAny_bind (wpAny_letGo ?_)
  exact wpAny_pure ⟨.none, rfl, wpAny_pure (h _ _ (Heap.SameBut.update ..) D)⟩

theorem adjust_to (a n : Nat) (hi : Option Int) (ha : a ≤ n) (hh : ∀ i, hi = some i → 0 ≤ i) : Builtin.Slice.sliceAdjust (some (a : Int)) hi 1 (n : Int) = ((a : Int), ((clipN hi n n : Nat) : Int)) := by
  unfold Builtin.Slice.sliceAdjust
  have h1 : ¬ ((1 : Int) < 0) := by omega
  have h2 : ¬ ((a : Int) < 0) := by omega
  simp only [h1, h2, if_false]
  congr 1
  · omega
  · cases hi with
    | none => rfl
    | some i =>
      have := hh i rfl
      simp only [clipN]
      have h3 : ¬ (i < 0) := by omega
      simp only [h3, if_false]
      omega
theorem places_to (a b : Nat) : Builtin.Slice.slicePlaces (a : Int) (b : Int) 1 = b - a := by
  unfold Builtin.Slice.slicePlaces
  have h1 : (1 : Int) > 0 := by omega
  simp only [h1, if_true, Int.ediv_one]
  split <;> omega
theorem part_of {v : Value} {k : Option Int} {Q : Option Int → Shared → Prop} (p : IsPart v k) (h : Q k s) : wpAny (model prog w) A (Builtin.Slice.slicePartIndex v) Q E s := by
  cases p with
  | none => exact slicePart_none h
  | int => exact slicePart_int h
theorem applied_to {sl : Addr} {a n : Nat} {vl vu : Value} {hi : Option Int} {Q : Int × Int × Nat → Shared → Prop} (hs : s.heap.IsSliceOf sl vl vu .none) (pl : IsPart vl (some (a : Int))) (pu : IsPart vu hi) (ha : a ≤ n) (hh : ∀ i, hi = some i → 0 ≤ i) (h : Q ((a : Int), 1, clipN hi n n - a) s) :
    wpAny (model prog w) A (Builtin.Slice.sliceApplied (.ref sl) (pure (n : Int))) Q E s := by
  obtain ⟨os, hos, hcs, hds⟩ := id hs
  unfold Builtin.Slice.sliceApplied Builtin.Slice.sliceFields
  refine wpAny_bind (wpAny_bind (wpAny_field hos hds (x := vl) rfl (wpAny_bind (wpAny_field hos hds (x := vu) rfl (wpAny_bind (wpAny_field hos hds (x := .none) rfl (wpAny_pure ?_)))))))
  refine wpAny_bind (slicePart_none ?_)
  show wpAny _ _ (if ((1 : Int) == 0) = true then _ else _) _ _ s
  rw [if_neg (by decide)]
  refine wpAny_bind (part_of pl (wpAny_bind (part_of pu (wpAny_bind (wpAny_pure ?_)))))
  show wpAny _ _ (match Builtin.Slice.sliceAdjust (some (a : Int)) hi 1 (n : Int) with | (lo, hi) => pure (lo, (1 : Int), Builtin.Slice.slicePlaces lo hi 1)) _ _ s
  rw [adjust_to a n hi ha hh]
  show wpAny _ _ (pure ((a : Int), (1 : Int), Builtin.Slice.slicePlaces (a : Int) ((clipN hi n n : Nat) : Int) 1)) _ _ s
  rw [places_to]
  exact wpAny_pure h
theorem getItem_tuple_cut {t sl : Addr} {ws : List Value} {a : Nat} {vl vu : Value} {hi : Option Int} {Q : Value → Shared → Prop} (ht : IsTup s.heap t ws.toArray) (hs : s.heap.IsSliceOf sl vl vu .none) (pl : IsPart vl (some (a : Int))) (pu : IsPart vu hi) (h1 : 1 ≤ a) (ha : a ≤ ws.length) (hh : ∀ i, hi = some i → 0 ≤ i)
    (h : Q (.ref s.heap.objs.size) { s with heap := s.heap.push { cls := .type "tuple", data := .seq (cut (some (a : Int)) hi ws).toArray } })
    (hsz : ws.length ≤ sizeLine) : wpAny (model prog w) A (getItem (.ref t) (.ref sl)) Q E s := by
  obtain ⟨os, hos, hcs, hds⟩ := id hs
  have hTs : s.TypeIs (.ref sl) "slice" := ⟨os, hos, hcs⟩
  have ea : clipN (some (a : Int)) 0 ws.length = a := by simp only [clipN]; rw [if_neg (by omega)]; omega
  have ec : ((List.range (clipN hi ws.length ws.length - a)).filterMap fun (k : Nat) => ws.toArray[((a : Int) + (k : Int) * 1).toNat]?).toArray = (cut (some (a : Int)) hi ws).toArray := by
    have e : (fun (k : Nat) => ws.toArray[((a : Int) + (k : Int) * 1).toNat]?) = fun k => ws.toArray[a + k]? := by
      funext k
      have : ((a : Int) + (k : Int) * 1).toNat = a + k := by omega
      rw [this]
    rw [e]
    have := pick_run ws.toArray a (clipN hi ws.length ws.length - a)
    rw [List.filterMap_map] at this
    have e2 : ((fun x => ws.toArray[x]?) ∘ fun x => a + x) = fun k => ws.toArray[a + k]? := rfl
    rw [e2] at this
    rw [this, Mine.cut, ea]
  have hdrop : sizeOk (.seq (cut (some (a : Int)) hi ws).toArray) := by
    show (cut (some (a : Int)) hi ws).toArray.size ≤ sizeLine
    rw [List.size_toArray, Mine.cut, List.length_take, List.length_drop]
    omega
  unfold getItem
  refine wpAny_holding ?_
  refine wpAny_bind (wpAny_sequenceKey ht.typeIs (by decide) ?_)
  refine wpAny_bind (wpAny_callSpecial?_slot (name := Str.ofString "__getitem__") ht.typeIs slot_tuple_getitem
    (wpAny_call_entry slot_tuple_getitem ht.typeIs entry_tuple_getitem ?_ (args_tuple_getitem _ _)))
  show wpAny _ _ (Builtin.Tuple.tupleItemsOf (.ref t) >>= _) _ _ s
  refine wpAny_bind (tupleItemsOf_ ht ?_)
  refine wpAny_bind (wpAny_typeOf hTs ?_)
  rw [if_pos (by decide)]
  refine wpAny_bind (applied_to (n := ws.toArray.size) hs pl pu (by rw [List.size_toArray]; exact ha) hh ?_)
  have hno : ¬ (((a : Int) == 0 && (1 : Int) == 1 && (clipN hi ws.toArray.size ws.toArray.size - a) == ws.toArray.size) = true) := by
    have : ((a : Int) == 0) = false := by rw [beq_eq_false_iff_ne]; omega
    rw [this]; simp
  show wpAny _ _ (if ((a : Int) == 0 && (1 : Int) == 1 && (clipN hi ws.toArray.size ws.toArray.size - a) == ws.toArray.size) = true then _ else _) _ _ s
  rw [if_neg hno, List.size_toArray, ec]
  first
    | exact wpAny_bind (m := Builtin.Tuple.tupleExact _) (wpAny_newObj_type (wpAny_pure ⟨_, rfl, wpAny_pure h⟩) hdrop)
    | exact wpAny_bind (wpAny_bind (m := Builtin.Tuple.tupleExact _) (wpAny_newObj_type (wpAny_pure ⟨_, rfl, wpAny_pure h⟩) hdrop))
end

section
variable {c : Cx} {n : Nat} {f : Fe} {ℓ : Loc} {σ : AH}

/-- a tuple's slice from a place past the first -/
theorem Ev.sliceTup {o : Expr} {lo hi : Option Expr} {p pos : Pos} {K : AV → Loc → AH → Prop}
    (h : Ev c n f o ℓ σ fun u ℓ₁ σ₁ => Pt c n f lo ℓ₁ σ₁ fun i ℓ₂ σ₂ => Pt c n f hi ℓ₂ σ₂ fun j ℓ₃ σ₃ => ∃ (a : Nat) (vs : List AV), (u = .tup vs ∧ i = some (a : Int) ∧ 1 ≤ a ∧ a ≤ vs.length ∧ (∀ b, j = some b → 0 ≤ b) ∧ vs.length ≤ sizeLine) ∧ K (.tup (cut i j vs)) ℓ₃ σ₃) :
    Ev c n f (.Subscript o (.Slice lo hi none p) pos) ℓ σ K := by
  intro h₀ A L s _ Q E hB hA hS hF _ hC
  refine Subscript_ (h h₀ A L s () _ E hB hA hS hF trivial fun u x ℓ₁ σ₁ h₁ tk₁ hK₁ hS₁ hF₁ hX₁ hR₁ => wpAny_Slice (hK₁ h₀ A L _ () _ E hB hA hS₁ hF₁ trivial fun i y ℓ₂ σ₂ h₂ tk₂ hK₂ hS₂ hF₂ hX₂ hR₂ =>
    hK₂ h₀ A L _ () _ E hB hA hS₂ hF₂ trivial fun j z ℓ₃ σ₃ h₃ tk₃ hK₃ hS₃ hF₃ hX₃ hR₃ => wpAny_pure ?_))
  obtain ⟨a, vs, ⟨rfl, rfl, l1, l2, hh, hz⟩, hK⟩ := hK₃
  have r := hR₁.keep (hF₁.tup hS₁ (hX₂.trans hX₃))
  cases r with
  | tup e r =>
    have h1' := Heap.get?_push_of_some { cls := .type "slice", data := .fields #[y, z, .none] } e
    have hlen := r.length
    refine tail_any (isTup_of h1').typeIs slot_tuple_getitem.lookup (getItem_tuple_cut (isTup_of h1') (Heap.IsSliceOf.new ..) hR₂ hR₃ l1 (by omega) hh ?_ (by omega)) rfl
    have hX := (hX₁.trans hX₂).trans hX₃
    exact (hC.after hX tk₃).add hS₃ hF₃ (fun b o e => Heap.get?_push_of_some _ (Heap.get?_push_of_some _ e)) hK (fun kt => .tup (Heap.get?_push_size _ rfl) ((r.cut _ _).keep kt)) tk₃

/-- a slice is stored -/
theorem As.slice {o : Expr} {lo hi : Option Expr} {p pos : Pos} {v : AV} {K : Loc → AH → Prop}
    (h : Ev c n f o ℓ σ fun u ℓ₁ σ₁ => Pt c n f lo ℓ₁ σ₁ fun i ℓ₂ σ₂ => Pt c n f hi ℓ₂ σ₂ fun j ℓ₃ σ₃ => ∃ a b vs us, (u = .ref a ∧ v = .ref b ∧ a ≠ b ∧ σ₃ a = some (.list vs) ∧ σ₃ b = some (.list us) ∧ vs.length + us.length ≤ sizeLine) ∧ K ℓ₃ (AH.set σ₃ a (.list (splice i j vs us)))) :
    As c n f (.Subscript o (.Slice lo hi none p) pos) v ℓ σ K := by
  intro h₀ A L s y₀ Q E hB hA hS hF hP hC
  show wpAny _ A (assign _ _ _) Q E s
  rw [arm_assign_Subscript]
  refine wpAny_bind (wpAny_holding (h h₀ A L s () _ E hB hA hS hF trivial fun u x ℓ₁ σ₁ h₁ tk₁ hK₁ hS₁ hF₁ hX₁ hR₁ => wpAny_bind (wpAny_holding (wpAny_Slice (hK₁ h₀ A L _ () _ E hB hA hS₁ hF₁ trivial fun i y ℓ₂ σ₂ h₂ tk₂ hK₂ hS₂ hF₂ hX₂ hR₂ =>
    hK₂ h₀ A L _ () _ E hB hA hS₂ hF₂ trivial fun j z ℓ₃ σ₃ h₃ tk₃ hK₃ hS₃ hF₃ hX₃ hR₃ => wpAny_pure ?_)))))
  obtain ⟨a, b, vs, us, ⟨rfl, rfl, hne, ha, hb, hz⟩, hK⟩ := hK₃
  cases hR₁; cases hP
  obtain ⟨ws, m, h1, h2⟩ := hS₃.obj a _ ha
  obtain ⟨zs, k, g1, g2⟩ := hS₃.obj b _ hb
  have S' := hS₃.keepAll (h' := h₃.push { cls := .type "slice", data := .fields #[y, z, .none] }) (fun b o e => Heap.get?_push_of_some _ e)
  have X' : Ext L σ₃ h₃ σ₃ (h₃.push { cls := .type "slice", data := .fields #[y, z, .none] }) := ⟨fun b o e _ _ => Heap.get?_push_of_some _ e, fun a o e => .inl ⟨o, e, rfl⟩, fun b o e => ⟨o, Heap.get?_push_of_some _ e⟩⟩
  have kt : TupKeep h₃ (h₃.push { cls := .type "slice", data := .fields #[y, z, .none] }) := fun b o e _ => Heap.get?_push_of_some _ e
  have F' := hF₃.carry S' X'.dom (fun o e => Heap.get?_push_of_some _ e) kt
  have l1 := h2.length
  have l2 := g2.length
  refine wpAny_bind (wpAny_standAt (wpAny_bind (wpAny_holding (setItem_slice (Heap.get?_push_of_some _ h1) (Heap.get?_push_of_some _ g1) hne (Heap.IsSliceOf.new ..) hR₂ hR₃ (by omega) fun h' m' hs' D => wpAny_release ?_))))
  have hX := ((hX₁.trans hX₂).trans hX₃).trans X'
  exact (hC.after hX tk₃).upd (oa := .list vs) (b := ()) S' F' ha (ob := .list (splice i j vs us)) rfl hs' ⟨_, D⟩ (fun kt' => ⟨_, _, D, ((h2.keep kt).splice (g2.keep kt) i j).keep kt'⟩) hK (fun _ => trivial) tk₃
end
end Mine
end
section
open PySem PySem.W PySem.Calls PyProof.Rows PySem.SeqAt
set_option Elab.async false
set_option linter.unusedVariables false
set_option maxRecDepth 100000
namespace Mine

/-- stored in a dict -/
def puts {κ : Type} [DecidableEq κ] (x : κ) (v : AV) (es : List (κ × AV)) : List (κ × AV) :=
  if es.any (fun p => decide (p.1 = x)) then es.map (fun p => if p.1 = x then (p.1, v) else p) else es ++ [(x, v)]
theorem FR.append {κ : Type} {h : Heap} {fs : List (κ × AV)} {gs : List (κ × Value)} (r : FR h fs gs) {fs' : List (κ × AV)} {gs' : List (κ × Value)} (q : FR h fs' gs') : FR h (fs ++ fs') (gs ++ gs') := by
  induction r with
  | nil => exact q
  | cons a _ ih => exact .cons a ih
theorem FR.any {κ : Type} [DecidableEq κ] {h : Heap} (x : κ) {fs : List (κ × AV)} {gs : List (κ × Value)} (r : FR h fs gs) : (fs.any fun p => decide (p.1 = x)) = gs.any fun p => decide (p.1 = x) := by
  induction r with
  | nil => rfl
  | cons a _ ih => rw [List.any_cons, List.any_cons, ih]
theorem FR.mapSet {κ : Type} [DecidableEq κ] {h : Heap} (x : κ) {v : AV} {y : Value} (q : VR h v y) {fs : List (κ × AV)} {gs : List (κ × Value)} (r : FR h fs gs) : FR h (fs.map fun p => if p.1 = x then (p.1, v) else p) (gs.map fun p => if p.1 = x then (p.1, y) else p) := by
  induction r with
  | nil => exact .nil
  | @cons z _ _ _ _ a _ ih =>
    rw [List.map_cons, List.map_cons]
    by_cases c : z = x
    · rw [if_pos c, if_pos c]; exact .cons q ih
    · rw [if_neg c, if_neg c]; exact .cons a ih
theorem FR.stored {κ : Type} [DecidableEq κ] {h : Heap} {x : κ} {v : AV} {y : Value} (q : VR h v y) {fs : List (κ × AV)} {gs : List (κ × Value)} (r : FR h fs gs) : FR h (puts x v fs) (stored gs x y) := by
  unfold puts PySem.stored
  rw [r.any x]
  split
  · exact r.mapSet x q
  · exact r.append (.cons q .nil)
def putAll {κ : Type} [DecidableEq κ] (es ps : List (κ × AV)) : List (κ × AV) := ps.foldl (fun acc p => puts p.1 p.2 acc) es
theorem FR.merged {κ : Type} [DecidableEq κ] {h : Heap} {ps : List (κ × AV)} {more : List (κ × Value)} (p : FR h ps more) : ∀ {fs : List (κ × AV)} {gs : List (κ × Value)}, FR h fs gs → FR h (putAll fs ps) (merged gs more) := by
  induction p with
  | nil => exact fun r => r
  | cons a _ ih => exact fun r => ih (r.stored a)
theorem look_append {κ : Type} [DecidableEq κ] (y : κ) : ∀ (es fs : List (κ × AV)), look y (es ++ fs) = (look y es).orElse fun _ => look y fs
  | [], fs => rfl
  | (z, u) :: r, fs => by
    simp only [List.cons_append, look]
    by_cases q : z = y
    · simp [q]
    · simp only [q, if_false]; exact look_append y r fs
theorem look_none {κ : Type} [DecidableEq κ] (y : κ) : ∀ (es : List (κ × AV)), (es.any fun p => decide (p.1 = y)) = false → look y es = none
  | [], _ => rfl
  | (z, u) :: r, h => by
    simp only [List.any_cons, Bool.or_eq_false_iff, decide_eq_false_iff_not] at h
    simp only [look, h.1, if_false]; exact look_none y r h.2
theorem look_mapSet {κ : Type} [DecidableEq κ] (x y : κ) (v : AV) : ∀ (es : List (κ × AV)), look y (es.map fun p => if p.1 = x then (p.1, v) else p) = if x = y then (look y es).map fun _ => v else look y es
  | [] => by simp [look]
  | (z, u) :: r => by
    have ih := look_mapSet x y v r
    by_cases c : z = x
    · subst c
      by_cases q : z = y
      · subst q; simp [look]
      · simp only [List.map_cons, if_true, look, q, if_false] at ih ⊢; exact ih
    · by_cases q : z = y
      · subst q; simp [look, c, Ne.symm c]
      · simp only [List.map_cons, c, if_false, look, q] at ih ⊢; exact ih
theorem look_some {κ : Type} [DecidableEq κ] (y : κ) : ∀ (es : List (κ × AV)), (es.any fun p => decide (p.1 = y)) = true → ∃ v, look y es = some v
  | [], h => by simp at h
  | (z, u) :: r, h => by
    by_cases q : z = y
    · exact ⟨u, by simp [look, q]⟩
    · simp only [List.any_cons, q, decide_false, Bool.false_or] at h
      obtain ⟨v, e⟩ := look_some y r h
      exact ⟨v, by simp [look, q, e]⟩
theorem look_puts {κ : Type} [DecidableEq κ] (x y : κ) (v : AV) (es : List (κ × AV)) : look y (puts x v es) = if x = y then some v else look y es := by
  unfold puts
  split
  · rename_i h
    rw [look_mapSet]
    by_cases q : x = y
    · subst q; obtain ⟨u, e⟩ := look_some x es h; simp [e]
    · simp [q]
  · rename_i h
    rw [Bool.not_eq_true] at h
    rw [look_append]
    by_cases q : x = y
    · subst q; rw [look_none x es h]; simp [look]
    · simp [look, q]

section
variable {prog : Program} {w : World} {κ : Type} [DecidableEq κ] {knd : KeyKind prog w κ} {A : Around} {E : Value → Shared → Prop} {s : Shared}
/-- a dict's state, whatever its keys -/
def DRel (knd : KeyKind prog w κ) (h : Heap) (a : Addr) (es : List (κ × AV)) : Prop := ∃ kvs, h.DictOf knd a kvs ∧ FR h es kvs
theorem valueAt_find (kvs : List (κ × Value)) (k : κ) : valueAt kvs k = (kvs.find? fun p => p.1 = k).map (·.2) := rfl
end

section
variable {c : Cx} {n : Nat} {f : Fe} {ℓ : Loc} {σ : AH}

theorem O2.ditem {κ : Type} [DecidableEq κ] (knd : KeyKind c.prog c.w κ) {o sl : Expr} {a : Addr} {es : List (κ × AV)} {k : κ} {kv : AV} {v : AV} {K : AV → Loc → AH → Prop} (hs : ∀ x y, subscripted sl false x y = operate [x, y] (getItem x y))
    (ha : ∀ h₀ h, St c.prog c.w h₀ σ h → DRel knd h a es) (hk : ∀ h x, VR h kv x → knd.is k x = true) (hv : look k es = some v) (h : K v ℓ σ) : O2 c n (subscriptTail o sl) (.ref a) kv ℓ σ K := by
  refine J.now h fun h₀ A L s y Q E hB hA hS hF hP q => ?_
  obtain ⟨y1, y2⟩ := y
  obtain ⟨p1, p2⟩ := hP
  cases p1
  obtain ⟨kvs, h1, h2⟩ := ha _ _ hS
  obtain ⟨x, e, r⟩ := h2.find k hv
  exact tail_any h1.typeIs slot_dict_getitem.lookup (wpAny_getItem_of (hk _ _ p2) h1.mapOf e (q _ _ r)) (hs _ _)
theorem O2.dictItem {o sl : Expr} {a : Addr} {es : List (Str × AV)} {x : Str} {v : AV} {K : AV → Loc → AH → Prop} (hs : ∀ x y, subscripted sl false x y = operate [x, y] (getItem x y)) (ha : σ a = some (.dict es)) (hv : look x es = some v) (h : K v ℓ σ) :
    O2 c n (subscriptTail o sl) (.ref a) (.str x) ℓ σ K :=
  O2.ditem (strKind c.prog c.w) hs (fun h₀ h S => S.obj a _ ha) (fun h y r => by cases r; exact strKind_is _ _ _ _) hv h
theorem O2.bdictItem {o sl : Expr} {a : Addr} {es : List (List UInt8 × AV)} {x : List UInt8} {v : AV} {K : AV → Loc → AH → Prop} (hs : ∀ x y, subscripted sl false x y = operate [x, y] (getItem x y)) (ha : σ a = some (.bdict es)) (hv : look x es = some v) (h : K v ℓ σ) :
    O2 c n (subscriptTail o sl) (.ref a) (.bytes x) ℓ σ K :=
  O2.ditem (bytesKind c.prog c.w) hs (fun h₀ h S => S.obj a _ ha) (fun h y r => by cases r; simp [bytesKind, isBytes]) hv h

theorem not_sys {h₀ : Heap} (hB : c.Base h₀) {h : Heap} (S : St c.prog c.w h₀ σ h) {a : Addr} {o : AO} (e : σ a = some o) (hm : mu a o = a) : (a == sysModules) = false := by
  have h1 := S.own a o e
  have h2 := hB.sys
  rw [hm] at h1
  have : a ≠ sysModules := fun e => absurd h2 (Nat.not_lt.mpr (e ▸ h1))
  simpa using this
theorem O2.notInB {a : Addr} {es : List (List UInt8 × AV)} {x : List UInt8} {K : AV → Loc → AH → Prop} (ha : σ a = some (.bdict es)) (h : K (.bool (!(look x es).isSome)) ℓ σ) : O2 c n (compareOp .NotIn) (.bytes x) (.ref a) ℓ σ K := by
  refine J.now h fun h₀ A L s y Q E hB hA hS hF hP q => ?_
  obtain ⟨y1, y2⟩ := y
  obtain ⟨p1, p2⟩ := hP
  cases p2; cases p1
  obtain ⟨kvs, h1, h2⟩ := hS.obj a _ ha
  refine wpAny_notIn_of (k := x) (knd := bytesKind c.prog c.w) (by simp [bytesKind, isBytes]) (not_sys hB hS ha rfl) h1.mapOf (q _ _ ?_)
  have e : (valueAt kvs x).isSome = (look x es).isSome := by
    cases z : look x es with
    | none => rw [show valueAt kvs x = _ from h2.none x z]; rfl
    | some v => obtain ⟨y, e, r⟩ := h2.find x z; rw [show valueAt kvs x = _ from e]; rfl
  rw [e]; exact .bool _

theorem S3.ditem {κ : Type} [DecidableEq κ] (knd : KeyKind c.prog c.w κ) {a : Addr} {es : List (κ × AV)} {k : κ} {kv v : AV} {oa ob : AO} {K : Loc → AH → Prop} (ha : σ a = some oa) (hm : mu a oa = a) (hm' : mu a ob = a)
    (h1 : ∀ h, ORel c.prog c.w h a oa → DRel knd h a es) (h2 : ∀ h, DRel knd h a (puts k v es) → ORel c.prog c.w h a ob) (hk : ∀ h x, VR h kv x → knd.is k x = true) (hz : es.length ≤ sizeLine) (h : K ℓ (AH.set σ a ob)) : S3 c n setItem (.ref a) kv v ℓ σ K := by
  intro h₀ A L s y Q E hB hA hS hF hP hC
  obtain ⟨y1, y2, y3⟩ := y
  obtain ⟨p1, p2, p3⟩ := hP
  cases p1
  obtain ⟨kvs, g1, g2⟩ := h1 _ (hS.obj a _ ha)
  refine wpAny_setItem_pairs (hk _ _ p2) g1 (fun h' hd hs => ?_) (by rw [← g2.length]; exact hz)
  exact hC.upd (oa := oa) (b := ()) hS hF ha (ob := ob) (hm'.trans hm.symm) (by rw [hm]; exact hs) (by rw [hm]; obtain ⟨o, es, ep, ho, _⟩ := hd; exact ⟨o, ho⟩)
    (fun kt => h2 _ ⟨_, hd, (g2.keep kt).stored (p3.keep kt)⟩) h (fun _ => trivial) _
theorem S3.dictItem {a : Addr} {es : List (Str × AV)} {x : Str} {v : AV} {K : Loc → AH → Prop} (ha : σ a = some (.dict es)) (hz : es.length ≤ sizeLine) (h : K ℓ (AH.set σ a (.dict (puts x v es)))) : S3 c n setItem (.ref a) (.str x) v ℓ σ K :=
  S3.ditem (strKind c.prog c.w) (k := x) (es := es) (ob := .dict (puts x v es)) ha rfl rfl (fun _ r => r) (fun _ r => r) (fun h y r => by cases r; exact strKind_is _ _ _ _) hz h
theorem S3.idictItem {a : Addr} {es : List (Int × AV)} {x : Int} {v : AV} {K : Loc → AH → Prop} (ha : σ a = some (.idict es)) (hz : es.length ≤ sizeLine) (h : K ℓ (AH.set σ a (.idict (puts x v es)))) : S3 c n setItem (.ref a) (.int x) v ℓ σ K :=
  S3.ditem (intKind c.prog c.w) (k := x) (es := es) (ob := .idict (puts x v es)) ha rfl rfl (fun _ r => r) (fun _ r => r) (fun h y r => by cases r; exact intKind_is _ _ _ _) hz h
theorem S3.bdictItem {a : Addr} {es : List (List UInt8 × AV)} {x : List UInt8} {v : AV} {K : Loc → AH → Prop} (ha : σ a = some (.bdict es)) (hz : es.length ≤ sizeLine) (h : K ℓ (AH.set σ a (.bdict (puts x v es)))) : S3 c n setItem (.ref a) (.bytes x) v ℓ σ K :=
  S3.ditem (bytesKind c.prog c.w) (k := x) (es := es) (ob := .bdict (puts x v es)) ha rfl rfl (fun _ r => r) (fun _ r => r) (fun h y r => by cases r; simp [bytesKind, isBytes]) hz h

/-- dict.get with a default -/
theorem Meth.ofDict {κ : Type} [DecidableEq κ] (knd : KeyKind c.prog c.w κ) {x : Str} {id : String} {a : Addr} {es : List (κ × AV)} (slot : Slot "dict" x id) (hty : typeOf (.builtin id) = pure (.type "method_descriptor")) (ha : ∀ h₀ h, St c.prog c.w h₀ σ h → DRel knd h a es) :
    Meth c n x (.ref a) ℓ σ (.builtin id) := by
  intro pl h₀ A L s y Q E hB hA hS hF hP q
  cases hP
  obtain ⟨kvs, h1, h2⟩ := ha _ _ hS
  exact getMethod_builtin h1.typeIs PySem.F.plainAttrs_dict slot hty h1.mapOf.noDict (q s.toks)
theorem Ca.get2 {κ : Type} [DecidableEq κ] (knd : KeyKind c.prog c.w κ) {a : Addr} {oa : AO} {es : List (κ × AV)} {k : κ} {kv d : AV} {K : AV → Loc → AH → Prop} (hσ : σ a = some oa) (hm : mu a oa = a) (ha : ∀ h, ORel c.prog c.w h a oa → DRel knd h a es) (hk : ∀ h x, VR h kv x → knd.is k x = true)
    (h : K ((look k es).getD d) ℓ σ) : Ca c n (.builtin "dict.get") [.ref a, kv, d] ℓ σ K := by
  refine J.now h fun h₀ A L s y Q E hB hA hS hF hP q => ?_
  obtain ⟨kvs, h1, h2⟩ := ha _ (hS.obj a _ hσ)
  cases hP with
  | cons p ps => cases p; cases ps with
    | cons p2 ps => cases ps with
      | cons p3 ps => cases ps; exact call_meetsIn PySem.F.slot_dict_get h1.typeIs PySem.F.entry_dict_get (PySem.F.args_dict_get_3 _ _ _) (meets_dict_get_default knd a (hk _ _ p2) (not_sys hB hS hσ hm) _) ⟨_, h1.mapOf, q _ _ (by
          cases z : look k es with
          | none => rw [show valueAt kvs k = _ from h2.none k z]; exact p3
          | some v => obtain ⟨y, e, r⟩ := h2.find k z; rw [show valueAt kvs k = _ from e]; exact r)⟩

/-- an empty dict -/
theorem Ev.dict0 {pos : Pos} {K : AV → Loc → AH → Prop} (ob : Addr → AO) (hm : ∀ a, mu a (ob a) = a) (ho : ∀ h a, (∀ κ [DecidableEq κ] (knd : KeyKind c.prog c.w κ), h.DictOf knd a []) → ORel c.prog c.w h a (ob a)) (h : ∀ a, σ a = none → K (.ref a) ℓ (AH.set σ a (ob a))) : Ev c n f (.Dict [] [] pos) ℓ σ K :=
  fun h₀ A L s _ Q E hB hA hS hF _ hC => wpAny_Dict_empty (hC.new (ob := ob _) hS hF (fun b o e => Heap.get?_push_of_some _ e) (Nat.le_refl _) (hm _) (fun kt => ho _ _ fun κ _ knd => Heap.DictOf.new _) (h _) (fun _ => .ref _) s.toks)
theorem Ev.dict0s {pos : Pos} {K : AV → Loc → AH → Prop} (h : ∀ a, σ a = none → K (.ref a) ℓ (AH.set σ a (.dict []))) : Ev c n f (.Dict [] [] pos) ℓ σ K := Ev.dict0 (fun _ => .dict []) (fun _ => rfl) (fun h a d => ⟨[], d _ _, .nil⟩) h
theorem Ev.dict0i {pos : Pos} {K : AV → Loc → AH → Prop} (h : ∀ a, σ a = none → K (.ref a) ℓ (AH.set σ a (.idict []))) : Ev c n f (.Dict [] [] pos) ℓ σ K := Ev.dict0 (fun _ => .idict []) (fun _ => rfl) (fun h a d => ⟨[], d _ _, .nil⟩) h
theorem Ev.dict0b {pos : Pos} {K : AV → Loc → AH → Prop} (h : ∀ a, σ a = none → K (.ref a) ℓ (AH.set σ a (.bdict []))) : Ev c n f (.Dict [] [] pos) ℓ σ K := Ev.dict0 (fun _ => .bdict []) (fun _ => rfl) (fun h a d => ⟨[], d _ _, .nil⟩) h
end
end Mine
end
section
open PySem PySem.W PySem.Calls PyProof.Rows PySem.SeqAt
set_option Elab.async false
set_option linter.unusedVariables false
set_option maxRecDepth 100000
namespace Mine

/-- an iterator's object -/
def itCls (o : Obj) : Prop := ∃ T : String, o.cls = .type T ∧ (T = "list_iterator" ∨ T = "tuple_iterator" ∨ T = "range_iterator") ∧ ∃ fs, o.data = .fields fs
theorem itCls.ne {o : Obj} (x : itCls o) {T : String} (h : T = "list" ∨ T = "dict" ∨ T = "tuple" ∨ T = "range") : o.cls ≠ .type T := by
  obtain ⟨U, e, hu, _⟩ := x
  rw [e]
  rcases hu with rfl | rfl | rfl <;> rcases h with rfl | rfl | rfl | rfl <;> decide

section
variable {prog : Program} {w : World} {h₀ : Heap} {σ : AH} {h h' : Heap} {L I : Addr} {ℓ : Loc}

theorem St.offIt (S : St prog w h₀ σ h) {o : Obj} (ho : h.get? I = some o) (hc : itCls o) : ∀ a oa, σ a = some oa → mu a oa ≠ I ∧ a ≠ I := by
  intro a oa e
  obtain ⟨_, _, _, fs, hd⟩ := hc
  have n1 : mu a oa ≠ I := fun q => by subst q; exact (S.muCls e ho).2.1 _ hd
  refine ⟨n1, ?_⟩
  cases oa with
  | inst C dx fs' =>
    obtain ⟨sl, gs, es, n, h1, h2, _⟩ := S.obj a _ e
    intro q; subst q; rw [ho] at h1; cases h1; cases hd
  | _ => exact n1

/-- an iterator moves on: the state stands -/
theorem St.moved (S : St prog w h₀ σ h) (F : Frm h₀ σ h L ℓ) {o : Obj} (ho : h.get? I = some o) (hc : itCls o) (hI : h₀.objs.size ≤ I) (hk : ∀ b o, b ≠ I → h.get? b = some o → h'.get? b = some o) :
    St prog w h₀ σ h' ∧ Frm h₀ σ h' L ℓ ∧ TupKeep h h' := by
  have off := S.offIt ho hc
  have kt : TupKeep h h' := fun b o eb fx => hk b o (fun q => by
    subst q; rw [ho] at eb; cases eb; rcases fx.1 with y | y
    · exact hc.ne (T := "tuple") (by simp) y
    · exact hc.ne (T := "range") (by simp) y) eb
  have S' : St prog w h₀ σ h' := by
    refine ⟨fun b o e => hk b o (Nat.ne_of_lt (Nat.lt_of_lt_of_le (Heap.lt_size e) hI)) (S.keep b o e), fun a oa e => ?_, S.own, S.inj⟩
    have R := S.obj a oa e
    have ⟨n1, n2⟩ := off a oa e
    cases oa with
    | list vs => obtain ⟨ws, n, h1, h2⟩ := R; exact ⟨ws, n, hk _ _ n2 h1, h2.keep kt⟩
    | dict es => obtain ⟨kvs, ⟨o', es', ep, h1, r⟩, h2⟩ := R; exact ⟨kvs, ⟨o', es', ep, hk _ _ n2 h1, r⟩, h2.keep kt⟩
    | idict es => obtain ⟨kvs, ⟨o', es', ep, h1, r⟩, h2⟩ := R; exact ⟨kvs, ⟨o', es', ep, hk _ _ n2 h1, r⟩, h2.keep kt⟩
    | bdict es => obtain ⟨kvs, ⟨o', es', ep, h1, r⟩, h2⟩ := R; exact ⟨kvs, ⟨o', es', ep, hk _ _ n2 h1, r⟩, h2.keep kt⟩
    | cell v => obtain ⟨y, ⟨o', h1, r⟩, h2⟩ := R; exact ⟨y, ⟨o', hk _ _ n2 h1, r⟩, h2.keep kt⟩
    | inst C dx fs => obtain ⟨sl, gs, es, m, h1, h2, h3, h4⟩ := R; exact ⟨sl, gs, es, m, hk _ _ n2 h1, hk _ _ n1 h2, h3, h4.keep kt⟩
  obtain ⟨⟨m, hm, hl⟩, foff, oL, es, k, hLo, hdat⟩ := F
  have hL : L ≠ I := fun q => by subst q; rw [ho] at hLo; cases hLo; obtain ⟨_, _, _, fs, e⟩ := hc; rw [e] at hdat; cases hdat
  obtain ⟨oL', es', ep, g1, g2, g3⟩ := hm.ns
  exact ⟨S', ⟨⟨m, ⟨⟨oL', es', ep, hk L _ hL g1, g2, g3⟩, S'.keep, hm.above⟩, fun x v e => let ⟨y, a, b⟩ := hl x v e; ⟨y, a, b.keep kt⟩⟩, foff, oL, es, k, hk L _ hL hLo, hdat⟩, kt⟩
theorem Ext.moved {σ₀ : AH} {hs : Heap} (X : Ext L σ₀ hs σ h) (hI : hs.get? I = none) (hk : ∀ b o, b ≠ I → h.get? b = some o → h'.get? b = some o) : Ext L σ₀ hs σ h' := by
  have ne : ∀ b o, hs.get? b = some o → b ≠ I := fun b o e q => by rw [q, hI] at e; cases e
  exact ⟨fun b o e hL hm => hk b o (ne b o e) (X.keep b o e hL hm), X.dom, fun b o e => let ⟨o', e'⟩ := X.there b o e; ⟨o', hk b o' (ne b o e) e'⟩⟩
end

/-- what is walked -/
structure Itr (c : Cx) (vs : List AV) (G : AH → Prop) (IT : Heap → Addr → Nat → Prop) : Prop where
  obj : ∀ h I i, IT h I i → ∃ o, h.get? I = some o ∧ itCls o
  frame : ∀ h h' I i, IT h I i → (∀ o, h.get? I = some o → h'.get? I = some o) → TupKeep h h' → IT h' I i
  item : ∀ (h₀ : Heap) (σ : AH) (s : Shared) (A : Around) (E : Value → Shared → Prop) (I : Addr) (i : Nat) (v : AV) (Q : Option Value → Shared → Prop), St c.prog c.w h₀ σ s.heap → G σ → IT s.heap I i → vs[i]? = some v →
    (∀ h' x tk, Heap.SameBut I s.heap h' → IT h' I (i + 1) → VR s.heap v x → Q (some x) { s with heap := h', toks := tk }) → wpAny (model c.prog c.w) A (pyNext (.ref I)) Q E s
  self : ∀ (s : Shared) (A : Around) (E : Value → Shared → Prop) (I : Addr) (i : Nat) (Q : Value → Shared → Prop), IT s.heap I i → Q (.ref I) s → wpAny (model c.prog c.w) A (pyIter (.ref I)) Q E s
  done : ∀ (h₀ : Heap) (σ : AH) (s : Shared) (A : Around) (E : Value → Shared → Prop) (I : Addr) (Q : Option Value → Shared → Prop), A.handled = none → St c.prog c.w h₀ σ s.heap → G σ → IT s.heap I vs.length →
    (∀ h', (∀ b o, b ≠ I → s.heap.get? b = some o → h'.get? b = some o) → Q none { s with heap := h' }) → wpAny (model c.prog c.w) A (pyNext (.ref I)) Q E s

theorem Itr.list (c : Cx) (a : Addr) (vs : List AV) : Itr c vs (fun σ => σ a = some (.list vs)) (fun h I i => h.IsListIter I a i ∧ a ≠ I) where
  obj := fun h I i ⟨⟨o, h1, h2, h3⟩, _⟩ => ⟨o, h1, _, h2, .inl rfl, _, h3⟩
  frame := fun h h' I i ⟨⟨o, h1, r⟩, q⟩ k kt => ⟨⟨o, k _ h1, r⟩, q⟩
  item := fun h₀ σ s A E I i v Q S g it hv hQ => by
    obtain ⟨ws, n, h1, h2⟩ := S.obj a _ g
    obtain ⟨x, e, r⟩ := h2.get hv
    exact wpAny_pyNext_list_item it.1 (isList_of h1) (by simpa using e) fun h' hit' hs' => hQ h' x s.toks hs' ⟨hit', it.2⟩ r
  self := fun s A E I i Q it q => wpAny_pyIter_listiter it.1 q
  done := fun h₀ σ s A E I Q hh S g it hQ => by
    obtain ⟨ws, n, h1, h2⟩ := S.obj a _ g
    exact wpAny_pyNext_list_end hh it.1 (isList_of h1) (by rw [h2.length]; simp) fun h' he => hQ h' he
theorem Itr.tup (c : Cx) (vs : List AV) : Itr c vs (fun _ => True) (fun h I i => ∃ t ws n, h.IsTupleIter I t i ∧ h.get? t = some { cls := .type "tuple", data := .seq (List.toArray ws) n } ∧ VRs h vs ws) where
  obj := fun h I i ⟨t, ws, n, ⟨o, h1, h2, h3⟩, _⟩ => ⟨o, h1, _, h2, .inr (.inl rfl), _, h3⟩
  frame := fun h h' I i ⟨t, ws, n, ⟨o, h1, r⟩, e, q⟩ k kt => ⟨t, ws, n, ⟨o, k _ h1, r⟩, kt _ _ e ⟨.inl rfl, (fun _ _ q => by cases q), fun _ q => by cases q⟩, q.keep kt⟩
  item := fun h₀ σ s A E I i v Q S g it hv hQ => by
    obtain ⟨t, ws, n, h1, h2, h3⟩ := it
    obtain ⟨x, e, r⟩ := h3.get hv
    refine wpAny_pyNext_tuple_item h1 ⟨_, h2, rfl, _, rfl⟩ (by simpa using e) fun h' hit' hs' => ?_
    have hne : t ≠ I := fun q => by obtain ⟨o, e1, e2, _⟩ := h1; subst q; rw [h2] at e1; cases e1; exact absurd (show Value.type "tuple" = Value.type "tuple_iterator" from e2) (by decide)
    have kt : TupKeep s.heap h' := fun b o eb fx => (hs'.2 b fun q => by
      obtain ⟨o', e1, e2, _⟩ := h1
      subst q; rw [e1] at eb; cases eb
      rcases fx.1 with y | y <;> · rw [e2] at y; revert y; decide).trans eb
    exact hQ h' x s.toks hs' ⟨t, ws, n, hit', (hs'.2 t hne).trans h2, h3.keep kt⟩ r
  self := fun s A E I i Q it q => by obtain ⟨t, ws, n, h1, _⟩ := it; exact wpAny_pyIter_tupleiter h1 q
  done := fun h₀ σ s A E I Q hh S g it hQ => by
    obtain ⟨t, ws, n, h1, h2, h3⟩ := it
    exact wpAny_pyNext_tuple_end hh h1 ⟨_, h2, rfl, _, rfl⟩ (by rw [h3.length]; simp) fun h' he => hQ h' he
/-- a range's numbers -/
def rng (a k : Int) (n : Nat) : List AV := (List.range n).map fun i => .int (a + (i : Nat) * k)
theorem Itr.range (c : Cx) (a k : Int) (n : Nat) : Itr c (rng a k n) (fun _ => True) (fun h I i => IsRangeIter h I (a + (i : Nat) * k) ((n : Int) - (i : Nat)) k) where
  obj := fun h I i e => ⟨_, e, _, rfl, .inr (.inr rfl), _, rfl⟩
  frame := fun h h' I i e k kt => k _ e
  item := fun h₀ σ s A E I i v Q S g it hv hQ => by
    have hi : i < n := by
      have := (List.getElem?_eq_some_iff.mp hv).1
      simpa [rng] using this
    have ev : v = .int (a + (i : Nat) * k) := by
      simp [rng, hi] at hv; exact hv.symm
    subst ev
    refine wpAny_pyNext_range_item it (by omega) fun h' hit' hs' => hQ h' _ _ hs' ?_ (.int _ _)
    have e1 : a + ((i + 1 : Nat) : Int) * k = a + (i : Int) * k + k := by push_cast; rw [Int.add_mul, Int.one_mul, Int.add_assoc]
    have e2 : (n : Int) - ((i + 1 : Nat) : Int) = (n : Int) - (i : Int) - 1 := by push_cast; omega
    rw [e1, e2]; exact hit'
  self := fun s A E I i Q it q => wpAny_pyIter_rangeiter it q
  done := fun h₀ σ s A E I Q hh S g it hQ => wpAny_pyNext_range_end hh it (by simp [rng]) fun h' he => hQ h' he

section
variable {c : Cx} {n : Nat} {f : Fe} {ℓ : Loc} {σ : AH}

/-- a for's turns -/
def Lo (c : Cx) (n : Nat) (f : Fe) (t : Expr) (body : List Stmt) (G : AH → Prop) (K : AF → Loc → AH → Prop) : List AV → Loc → AH → Prop
  | [], ℓ, σ => K .next ℓ σ
  | v :: vs, ℓ, σ => As c n f t v ℓ σ fun ℓ₁ σ₁ => Exs c n f body ℓ₁ σ₁ fun fl ℓ₂ σ₂ => match fl with
    | .next => G σ₂ ∧ Lo c n f t body G K vs ℓ₂ σ₂
    | .cont => G σ₂ ∧ Lo c n f t body G K vs ℓ₂ σ₂
    | .brk => K .next ℓ₂ σ₂
    | .ret v => K (.ret v) ℓ₂ σ₂

theorem loop_run {t : Expr} {body : List Stmt} {G : AH → Prop} {K : AF → Loc → AH → Prop} {vs : List AV} {IT : Heap → Addr → Nat → Prop} (W : Itr c vs G IT) (ht : ∀ it v, letOwnedTupleGo t it v = pure ()) (hL : Lo c n f t body G K vs ℓ σ) (hG : G σ)
    {h₀ : Heap} {A : Around} {L I : Addr} {s : Shared} {hs : Heap} {Q : Flow → Shared → Prop} {R : Result → Shared → Prop} (hB : c.Base h₀) (hA : Lv n A) (hS : St c.prog c.w h₀ σ s.heap) (hF : Frm h₀ σ s.heap L ℓ) (hX : Ext L σ hs σ s.heap) (hI : IT s.heap I 0) (hIn : hs.get? I = none) (hI₀ : h₀.objs.size ≤ I)
    (hC : ∀ fl fl' ℓ' σ' h' tk, K fl ℓ' σ' → St c.prog c.w h₀ σ' h' → Frm h₀ σ' h' L ℓ' → Ext L σ hs σ' h' → RF h' fl fl' → R (.ok fl') { s with heap := h', toks := tk }) :
    codeAny (model c.prog c.w) A (.forLoop t (.ref I) body [] (f.env L)) R s := by
  refine codeAny_forLoop (fun k s' => ∃ ℓ' σ' h' tk i, s' = { s with heap := h', toks := tk } ∧ i ≤ vs.length ∧ k = vs.length - i ∧ G σ' ∧ Lo c n f t body G K (vs.drop i) ℓ' σ' ∧ St c.prog c.w h₀ σ' h' ∧ Frm h₀ σ' h' L ℓ' ∧ Ext L σ hs σ' h' ∧ IT h' I i) ?_ vs.length
    ⟨ℓ, σ, s.heap, s.toks, 0, rfl, Nat.zero_le _, rfl, hG, by simpa using hL, hS, hF, hX, hI⟩ (ht _)
  rintro k s' ⟨ℓ', σ', h', tk, i, rfl, hi, rfl, hG', hL', hS', hF', hX', hI'⟩
  by_cases hlt : i < vs.length
  · have ed : vs.drop i = vs[i] :: vs.drop (i + 1) := List.drop_eq_getElem_cons hlt
    rw [ed] at hL'
    obtain ⟨o, ho, hc⟩ := W.obj _ _ _ hI'
    refine W.item h₀ σ' _ A _ I i vs[i] _ hS' hG' hI' (List.getElem?_eq_getElem hlt) fun h₁ x tk₁ hs₁ hI₁ hv => ?_
    have hk : ∀ b o, b ≠ I → h'.get? b = some o → h₁.get? b = some o := fun b o hb e => (hs₁.2 b hb).trans e
    obtain ⟨S₁, F₁, kt₁⟩ := hS'.moved hF' ho hc hI₀ hk
    have X₁ := hX'.moved hIn hk
    refine hL' h₀ A L _ x _ _ hB hA S₁ F₁ (hv.keep kt₁) fun _ _ ℓ₂ σ₂ h₂ tk₂ hK₂ S₂ F₂ X₂ _ => ?_
    refine hK₂ h₀ A L _ () _ _ hB hA S₂ F₂ trivial fun fl fl' ℓ₃ σ₃ h₃ tk₃ hK₃ S₃ F₃ X₃ hR₃ => ?_
    have X₁₃ := X₂.trans X₃
    have kt₃ : TupKeep h₁ h₃ := F₁.tup S₁ X₁₃
    obtain ⟨oI, hoI, hcI⟩ := W.obj _ _ _ hI₁
    have hIL : I ≠ L := fun q => by
      obtain ⟨_, _, oL, es, k, hLo, hdat⟩ := F₁
      subst q; rw [hLo] at hoI; cases hoI
      obtain ⟨_, _, _, fs, e⟩ := hcI
      rw [e] at hdat; cases hdat
    have hI₃ : IT h₃ I (i + 1) := W.frame _ _ _ _ hI₁ (fun o e => X₁₃.keep I o e hIL fun a oa ea => (S₁.offIt hoI hcI a oa ea).1) kt₃
    have X₃' := X₁.trans X₁₃
    cases hR₃ with
    | next => exact ⟨_, by omega, ℓ₃, σ₃, h₃, tk₃, i + 1, rfl, hlt, rfl, hK₃.1, hK₃.2, S₃, F₃, X₃', hI₃⟩
    | cont => exact ⟨_, by omega, ℓ₃, σ₃, h₃, tk₃, i + 1, rfl, hlt, rfl, hK₃.1, hK₃.2, S₃, F₃, X₃', hI₃⟩
    | brk => exact hC _ _ _ _ _ _ hK₃ S₃ F₃ X₃' .next
    | ret r => exact hC _ _ _ _ _ _ hK₃ S₃ F₃ X₃' (.ret r)
  · have hin : i = vs.length := by omega
    subst hin
    rw [List.drop_length] at hL'
    obtain ⟨o, ho, hc⟩ := W.obj _ _ _ hI'
    refine W.done h₀ σ' _ A _ I _ hA.handled hS' hG' hI' fun h₁ hk => wpAny_execs_nil ?_
    obtain ⟨S₁, F₁, kt₁⟩ := hS'.moved hF' ho hc hI₀ hk
    exact hC _ _ _ _ _ _ hL' S₁ F₁ (hX'.moved hIn hk) .next
end
end Mine
end
section
open PySem PySem.W PySem.Calls PyProof.Rows PySem.SeqAt
set_option Elab.async false
set_option linter.unusedVariables false
set_option maxRecDepth 100000
namespace Mine

section
variable {c : Cx} {n : Nat} {f : Fe} {ℓ : Loc} {σ : AH}

theorem Frm.room {h₀ : Heap} {h : Heap} {L : Addr} (F : Frm h₀ σ h L ℓ) : h₀.objs.size ≤ h.objs.size := F.le

/-- a new object that nobody owns: the state stands -/
theorem St.pushed {prog : Program} {w : World} {h₀ h : Heap} {L : Addr} (S : St prog w h₀ σ h) (F : Frm h₀ σ h L ℓ) (o : Obj) : St prog w h₀ σ (h.push o) ∧ Frm h₀ σ (h.push o) L ℓ ∧ Ext L σ h σ (h.push o) ∧ TupKeep h (h.push o) := by
  have S' := S.keepAll (h' := h.push o) (fun b o e => Heap.get?_push_of_some _ e)
  have X' : Ext L σ h σ (h.push o) := ⟨fun b o e _ _ => Heap.get?_push_of_some _ e, fun a o e => .inl ⟨o, e, rfl⟩, fun b o e => ⟨o, Heap.get?_push_of_some _ e⟩⟩
  have kt : TupKeep h (h.push o) := fun b o e _ => Heap.get?_push_of_some _ e
  exact ⟨S', F.carry S' X'.dom (fun o e => Heap.get?_push_of_some _ e) kt, X', kt⟩

theorem Ex.for_ {t iter : Expr} {body : List Stmt} {pos : Pos} {K : AF → Loc → AH → Prop} (hs : ∀ env x, foldedSetIterable iter env x = pure x) (ht : ∀ it v, letOwnedTupleGo t it v = pure ())
    (h : Ev c n f iter ℓ σ fun u ℓ₁ σ₁ => ∃ (vs : List AV) (G : AH → Prop) (IT : Heap → Addr → Nat → Prop), Itr c vs G IT ∧
      (∀ (h₀ : Heap) (s : Shared) (A : Around) (E : Value → Shared → Prop) (x : Value) (Q : Value → Shared → Prop), St c.prog c.w h₀ σ₁ s.heap → VR s.heap u x →
        (∀ o, IT (s.heap.push o) s.heap.objs.size 0 → Q (.ref s.heap.objs.size) { s with heap := s.heap.push o }) → wpAny (model c.prog c.w) A (pyIter x) Q E s) ∧ G σ₁ ∧ Lo c n f t body G K vs ℓ₁ σ₁) : Ex c n f (.For t iter body [] pos) ℓ σ K := by
  intro h₀ A L s _ Q E hB hA hS hF _ hC
  refine wpAny_For (h h₀ A L s () _ E hB hA hS hF trivial fun u x ℓ₁ σ₁ h₁ tk₁ hK₁ hS₁ hF₁ hX₁ hR₁ => ?_) (hs _)
  obtain ⟨vs, G, IT, W, hi, hG, hLo⟩ := hK₁
  refine hi h₀ _ A E x _ hS₁ hR₁ fun o hI => ?_
  obtain ⟨S₂, F₂, X₂, _⟩ := hS₁.pushed hF₁ o
  exact loop_run (hs := h₁) (Q := Q) W ht hLo hG hB hA S₂ F₂ X₂ hI (Heap.get?_none_of_le (Nat.le_refl _)) hF₁.le fun fl fl' ℓ' σ' h' tk hK S' F' X' r => hC _ _ _ _ _ _ hK S' F' (hX₁.trans X') r

theorem Ex.forList {t iter : Expr} {body : List Stmt} {pos : Pos} {K : AF → Loc → AH → Prop} (hs : ∀ env x, foldedSetIterable iter env x = pure x) (ht : ∀ it v, letOwnedTupleGo t it v = pure ())
    (h : Ev c n f iter ℓ σ fun u ℓ₁ σ₁ => ∃ a vs, (u = .ref a ∧ σ₁ a = some (.list vs)) ∧ Lo c n f t body (fun σ => σ a = some (.list vs)) K vs ℓ₁ σ₁) : Ex c n f (.For t iter body [] pos) ℓ σ K := by
  refine Ex.for_ hs ht (J.mono h fun u ℓ₁ σ₁ ⟨a, vs, ⟨e, ha⟩, hL⟩ => ⟨vs, _, _, Itr.list c a vs, ?_, ha, hL⟩)
  intro h₀ s A E x Q S r q
  subst e
  cases r
  obtain ⟨ws, m, h1, h2⟩ := S.obj a _ ha
  exact wpAny_pyIter_list (isList_of h1) (q _ ⟨⟨_, Heap.get?_push_size _ rfl, rfl, rfl⟩, Nat.ne_of_lt (Heap.lt_size h1)⟩)
theorem Ex.forTup {t iter : Expr} {body : List Stmt} {pos : Pos} {K : AF → Loc → AH → Prop} (hs : ∀ env x, foldedSetIterable iter env x = pure x) (ht : ∀ it v, letOwnedTupleGo t it v = pure ())
    (h : Ev c n f iter ℓ σ fun u ℓ₁ σ₁ => ∃ vs, u = .tup vs ∧ Lo c n f t body (fun _ => True) K vs ℓ₁ σ₁) : Ex c n f (.For t iter body [] pos) ℓ σ K := by
  refine Ex.for_ hs ht (J.mono h fun u ℓ₁ σ₁ ⟨vs, e, hL⟩ => ⟨vs, _, _, Itr.tup c vs, ?_, trivial, hL⟩)
  intro h₀ s A E x Q S r q
  subst e
  cases r with
  | tup e r => exact wpAny_pyIter_tuple ⟨_, e, rfl, _, rfl⟩ (q _ ⟨_, _, _, ⟨_, Heap.get?_push_size _ rfl, rfl, rfl⟩, Heap.get?_push_of_some _ e, r.keep fun b o e _ => Heap.get?_push_of_some _ e⟩)
theorem Ex.forRng {t iter : Expr} {body : List Stmt} {pos : Pos} {K : AF → Loc → AH → Prop} (hs : ∀ env x, foldedSetIterable iter env x = pure x) (ht : ∀ it v, letOwnedTupleGo t it v = pure ())
    (h : Ev c n f iter ℓ σ fun u ℓ₁ σ₁ => ∃ i j k, (u = .rng i j k ∧ Builtin.Range.small i j k = true) ∧ Lo c n f t body (fun _ => True) K (rng i k (Builtin.Range.rangeSize i j k).toNat) ℓ₁ σ₁) : Ex c n f (.For t iter body [] pos) ℓ σ K := by
  refine Ex.for_ hs ht (J.mono h fun u ℓ₁ σ₁ ⟨i, j, k, ⟨e, hz⟩, hL⟩ => ⟨_, _, _, Itr.range c i k (Builtin.Range.rangeSize i j k).toNat, ?_, trivial, hL⟩)
  intro h₀ s A E x Q S r q
  subst e
  cases r with
  | rng e =>
    refine wpAny_pyIter_range e hz (q _ ?_)
    have h0 : 0 ≤ Builtin.Range.rangeSize i j k := by
      unfold Builtin.Range.rangeSize
      split
      · split
        · have : 0 ≤ (j - i - 1) / k := Int.ediv_nonneg (by omega) (by omega)
          omega
        · exact Int.le_refl _
      · split
        · have : 0 ≤ (i - j - 1) / (-k) := Int.ediv_nonneg (by omega) (by omega)
          omega
        · exact Int.le_refl _
    have e1 : i + ((0 : Nat) : Int) * k = i := by simp
    have e2 : (((Builtin.Range.rangeSize i j k).toNat : Nat) : Int) - ((0 : Nat) : Int) = Builtin.Range.rangeSize i j k := by omega
    show IsRangeIter _ _ (i + ((0 : Nat) : Int) * k) ((((Builtin.Range.rangeSize i j k).toNat : Nat) : Int) - ((0 : Nat) : Int)) k
    rw [e1, e2]
    exact Heap.get?_push_size _ rfl

/-- range(..) -/
theorem Ca.range1 {j : Int} {K : AV → Loc → AH → Prop} (h : K (.rng 0 j 1) ℓ σ) : Ca c n (.type "range") [.int j] ℓ σ K := by
  intro h₀ A L s y Q E hB hA hS hF hP hC
  cases hP with
  | cons p ps => cases p; cases ps; exact call_range_1 (hC.add hS hF (fun b o e => Heap.get?_push_of_some _ e) h (fun kt => .rng (Heap.get?_push_size _ rfl)) _)
theorem Ca.range2 {i j : Int} {K : AV → Loc → AH → Prop} (h : K (.rng i j 1) ℓ σ) : Ca c n (.type "range") [.int i, .int j] ℓ σ K := by
  intro h₀ A L s y Q E hB hA hS hF hP hC
  cases hP with
  | cons p ps => cases p; cases ps with
    | cons p ps => cases p; cases ps; exact call_range_2 (hC.add hS hF (fun b o e => Heap.get?_push_of_some _ e) h (fun kt => .rng (Heap.get?_push_size _ rfl)) _)
theorem typeCall_range_3 (a b d : Value) : checkTypeCall "range" ⟨[a, b, d], []⟩ = pure () := by kernel_rfl
theorem newCall_range_3 (a b d : Value) : checkBuiltinCall "range.__new__" ⟨[.type "range", a, b, d], []⟩ = pure () := by kernel_rfl
theorem initArgs_range_3 (obj a b d : Value) : argsOk "object.__init__" ⟨[obj, a, b, d], []⟩ := by
  unfold argsOk; rw [signature?_of (id := "object.__init__") (n := ['_', '_', 't', 'i', 'n', 'i', '_', '_']) (o := ['t', 'c', 'e', 'j', 'b', 'o']) (by kernel_rfl) PySem.F.owner_object]; kernel_rfl
theorem Ca.range3 {i j k : Int} {K : AV → Loc → AH → Prop} (hk : k ≠ 0) (hp : Builtin.divisionGoesByPylong (j - i) k = false) (h : K (.rng i j k) ℓ σ) : Ca c n (.type "range") [.int i, .int j, .int k] ℓ σ K := by
  intro h₀ A L s y Q E hB hA hS hF hP hC
  cases hP with
  | cons p ps => cases p; cases ps with
    | cons p ps => cases p; cases ps with
      | cons p ps => cases p; cases ps; exact callType_new F.called_range (by decide) (typeCall_range_3 _ _ _) (newCall_range_3 _ _ _) (fun obj => initArgs_range_3 obj _ _ _) F.entry_range_new
                                (AutoRange.range___new___type_int_int_int_1 i j k _ _ _ F.called_range.sub (by simpa using hk)) ⟨hp, ⟨_, Heap.get?_push_size _ rfl, rfl⟩, hC.add hS hF (fun b o e => Heap.get?_push_of_some _ e) h (fun kt => .rng (Heap.get?_push_size _ rfl)) _⟩

theorem Ca.intInt {i : Int} {K : AV → Loc → AH → Prop} (h : K (.int i) ℓ σ) : Ca c n (.type "int") [.int i] ℓ σ K := by
  refine J.now h fun h₀ A L s y Q E hB hA hS hF hP q => ?_
  cases hP with
  | cons p ps => cases p; cases ps; exact call_int_int (q _ s.toks (.int _ _))

theorem O2.eqBytes {b d : List UInt8} {K : AV → Loc → AH → Prop} (h : K (.bool (b == d)) ℓ σ) : O2 c n (compareOp .Eq) (.bytes b) (.bytes d) ℓ σ K := by
  refine J.now h fun h₀ A L s y Q E hB hA hS hF hP q => ?_
  obtain ⟨y1, y2⟩ := y
  obtain ⟨p1, p2⟩ := hP
  cases p1; cases p2
  exact PySem.W.eq_bytes (q _ s.toks (.bool _))
theorem Ev.bytes {b : List UInt8} {k : Nat} {pos : Pos} {K : AV → Loc → AH → Prop} (h : K (.bytes b) ℓ σ) : Ev c n f (.Constant (.bytes b) k pos) ℓ σ K := by
  refine J.now h fun h₀ A L s y Q E hB hA hS hF hP q => ?_
  exact Constant_bytes (q _ _ (.bytes _ _))

/-- while -/
theorem Ex.while_ {t : Expr} {body : List Stmt} {pos : Pos} {K : AF → Loc → AH → Prop} (I : Nat → Loc → AH → Prop)
    (step : ∀ k ℓ σ, I k ℓ σ → Ts c n f t ℓ σ fun b ℓ₁ σ₁ => if b then Exs c n f body ℓ₁ σ₁ fun fl ℓ₂ σ₂ => match fl with
        | .next => ∃ m, m < k ∧ I m ℓ₂ σ₂
        | .cont => ∃ m, m < k ∧ I m ℓ₂ σ₂
        | .brk => K .next ℓ₂ σ₂
        | .ret v => K (.ret v) ℓ₂ σ₂
      else K .next ℓ₁ σ₁) (k : Nat) (h : I k ℓ σ) : Ex c n f (.While t body [] pos) ℓ σ K := by
  intro h₀ A L s _ Q E hB hA hS hF _ hC
  refine wpAny_While (codeAny_whileLoop (fun k s' => ∃ ℓ' σ' h' tk, s' = { s with heap := h', toks := tk } ∧ I k ℓ' σ' ∧ St c.prog c.w h₀ σ' h' ∧ Frm h₀ σ' h' L ℓ' ∧ Ext L σ s.heap σ' h') ?_ k ⟨ℓ, σ, s.heap, s.toks, rfl, h, hS, hF, Ext.refl _ _ _⟩)
  rintro k s' ⟨ℓ', σ', h', tk, rfl, hI, hS', hF', hX'⟩
  refine step k ℓ' σ' hI h₀ A L _ () _ _ hB hA hS' hF' trivial fun b b' ℓ₁ σ₁ h₁ tk₁ hK₁ S₁ F₁ X₁ hR => ?_
  obtain rfl : b = b' := hR
  have X₁' := hX'.trans X₁
  cases b with
  | false => simp only [Bool.false_eq_true, if_false] at hK₁ ⊢; exact wpAny_execs_nil (hC _ _ _ _ _ _ hK₁ S₁ F₁ X₁' .next)
  | true =>
    simp only [if_true] at hK₁ ⊢
    refine hK₁ h₀ A L _ () _ _ hB hA S₁ F₁ trivial fun fl fl' ℓ₃ σ₃ h₃ tk₃ hK₃ S₃ F₃ X₃ hR₃ => ?_
    have X₃' := X₁'.trans X₃
    cases hR₃ with
    | next => obtain ⟨m, hm, hI⟩ := hK₃; exact ⟨m, hm, ℓ₃, σ₃, h₃, tk₃, rfl, hI, S₃, F₃, X₃'⟩
    | cont => obtain ⟨m, hm, hI⟩ := hK₃; exact ⟨m, hm, ℓ₃, σ₃, h₃, tk₃, rfl, hI, S₃, F₃, X₃'⟩
    | brk => exact hC _ _ _ _ _ _ hK₃ S₃ F₃ X₃' .next
    | ret r => exact hC _ _ _ _ _ _ hK₃ S₃ F₃ X₃' (.ret r)
end
end Mine
end
section
open PySem PySem.W PySem.Calls PyProof.Rows PySem.SeqAt
set_option Elab.async false
set_option linter.unusedVariables false
set_option maxRecDepth 100000
namespace Mine

theorem Ext.fixed {prog : Program} {w : World} {h₀ : Heap} {σ σ' : AH} {h h' : Heap} {C : Addr} (S : St prog w h₀ σ h) (X : Ext C σ h σ' h') (hC : h.get? C = none) : TupKeep h h' := by
  intro a o e fx
  refine X.keep a o e (fun q => ?_) fun b ob eb q => ?_
  · rw [q, hC] at e; cases e
  · rw [← q] at e; exact S.noFix eb e fx

/-- an unowned object turned or gone: the state stands -/
theorem St.but {prog : Program} {w : World} {h₀ h h' : Heap} {σ : AH} {I : Addr} (S : St prog w h₀ σ h) (off : ∀ a oa, σ a = some oa → mu a oa ≠ I ∧ a ≠ I) (hI : h₀.objs.size ≤ I) (hf : ∀ o, h.get? I = some o → ¬ Fixed o) (hk : ∀ b o, b ≠ I → h.get? b = some o → h'.get? b = some o) :
    St prog w h₀ σ h' ∧ TupKeep h h' := by
  have kt : TupKeep h h' := fun b o eb fx => hk b o (fun q => hf o (q ▸ eb) fx) eb
  refine ⟨⟨fun b o e => hk b o (Nat.ne_of_lt (Nat.lt_of_lt_of_le (Heap.lt_size e) hI)) (S.keep b o e), fun a oa e => ?_, S.own, S.inj⟩, kt⟩
  have R := S.obj a oa e
  have ⟨n1, n2⟩ := off a oa e
  cases oa with
  | list vs => obtain ⟨ws, n, h1, h2⟩ := R; exact ⟨ws, n, hk _ _ n2 h1, h2.keep kt⟩
  | dict es => obtain ⟨kvs, ⟨o', es', ep, h1, r⟩, h2⟩ := R; exact ⟨kvs, ⟨o', es', ep, hk _ _ n2 h1, r⟩, h2.keep kt⟩
  | idict es => obtain ⟨kvs, ⟨o', es', ep, h1, r⟩, h2⟩ := R; exact ⟨kvs, ⟨o', es', ep, hk _ _ n2 h1, r⟩, h2.keep kt⟩
  | bdict es => obtain ⟨kvs, ⟨o', es', ep, h1, r⟩, h2⟩ := R; exact ⟨kvs, ⟨o', es', ep, hk _ _ n2 h1, r⟩, h2.keep kt⟩
  | cell v => obtain ⟨y, ⟨o', h1, r⟩, h2⟩ := R; exact ⟨y, ⟨o', hk _ _ n2 h1, r⟩, h2.keep kt⟩
  | inst C dx fs => obtain ⟨sl, gs, es, m, h1, h2, h3, h4⟩ := R; exact ⟨sl, gs, es, m, hk _ _ n2 h1, hk _ _ n1 h2, h3, h4.keep kt⟩
theorem Frm.apart {prog : Program} {w : World} {h₀ h : Heap} {σ : AH} {L : Addr} {ℓ : Loc} (F : Frm h₀ σ h L ℓ) (S : St prog w h₀ σ h) : (∀ a oa, σ a = some oa → mu a oa ≠ L ∧ a ≠ L) ∧ ∀ o, h.get? L = some o → ¬ Fixed o := by
  obtain ⟨_, off, oL, es, k, hLo, hdL⟩ := F
  refine ⟨fun a oa e => ⟨off a oa e, ?_⟩, fun o e x => ?_⟩
  · cases oa with
    | inst C dx fs => obtain ⟨sl, gs, es', n, h1, _⟩ := S.obj a _ e; intro q; subst q; rw [hLo] at h1; cases h1; cases hdL
    | _ => exact off a _ e
  · rw [hLo] at e; cases e; exact x.2.1 _ _ hdL

section
variable {c : Cx} {n : Nat} {f : Fe} {ℓ : Loc} {σ : AH}

/-- a comprehension's block -/
def Fe.comp (f : Fe) (L : Addr) (sc : Scope) (cl : List (Str × Addr)) (hk : sc.kind = .function) : Fe := ⟨fun C => compEnvC sc cl C (f.env L), fun _ => hk, fun _ => rfl, fun _ => f.glob L, fun _ => f.bins L⟩

/-- a comprehension's tests -/
def Fs (c : Cx) (n : Nat) (f : Fe) (ifs : List Expr) (ℓ : Loc) (σ : AH) (K : Bool → Loc → AH → Prop) : Prop :=
  J c RB n P0 (fun L _ => forIn ifs true fun c r => if r = true then do let ok ← isTrue c (f.env L) (eval c (f.env L)); pure (ForInStep.yield ok) else pure (ForInStep.yield r)) ℓ σ K
theorem Fs.nil {K : Bool → Loc → AH → Prop} (h : K true ℓ σ) : Fs c n f [] ℓ σ K := J.now h fun _ _ _ s _ _ _ _ _ _ _ _ q => by rw [List.forIn_nil]; exact wpAny_pure (q _ s.toks rfl)
theorem Fs.one {e : Expr} {K : Bool → Loc → AH → Prop} (h : Ts c n f e ℓ σ K) : Fs c n f [e] ℓ σ K := by
  intro h₀ A L s _ Q E hB hA hS hF _ hC
  dsimp only
  rw [List.forIn_cons]
  simp only [if_true]
  refine wpAny_bind (wpAny_bind (h h₀ A L s () _ E hB hA hS hF trivial fun b b' _ _ _ tk hK hS₁ hF₁ hX hR => wpAny_pure ?_))
  dsimp only
  rw [List.forIn_nil]
  exact wpAny_pure (hC _ _ _ _ _ tk hK hS₁ hF₁ hX hR)

/-- a comprehension's turns -/
def Lc (c : Cx) (n : Nat) (f : Fe) (t : Expr) (ifs : List Expr) (elt : Expr) (D : Addr) (G : AH → Prop) (K : AH → Prop) : List AV → Loc → AH → Prop
  | [], ℓ, σ => K σ
  | v :: vs, ℓ, σ => As c n f t v ℓ σ fun ℓ₁ σ₁ => Fs c n f ifs ℓ₁ σ₁ fun ok ℓ₂ σ₂ => if ok then Ev c n f elt ℓ₂ σ₂ fun y ℓ₃ σ₃ =>
      ∃ ys, (σ₃ D = some (.list ys) ∧ ys.length ≤ sizeLine ∧ G (AH.set σ₃ D (.list (ys ++ [y])))) ∧ Lc c n f t ifs elt D G K vs ℓ₃ (AH.set σ₃ D (.list (ys ++ [y])))
    else G σ₂ ∧ Lc c n f t ifs elt D G K vs ℓ₂ σ₂

theorem comp_run {elt t iter : Expr} {ifs : List Expr} {sc : Scope} {pos : Pos} {D : Addr} {G : AH → Prop} {K : AH → Prop} {vs : List AV} {IT : Heap → Addr → Nat → Prop} (W : Itr c vs G IT) (ht : ∀ it v, letOwnedTupleGo t it v = pure ())
    (hL : Lc c n f t ifs elt D G K vs ℓ σ) (hG : G σ)
    {h₀ : Heap} {A : Around} {L I : Addr} {s : Shared} {hs : Heap} {σ₀ : AH} {R : Result → Shared → Prop} (hB : c.Base h₀) (hA : Lv n A) (hS : St c.prog c.w h₀ σ s.heap) (hF : Frm h₀ σ s.heap L ℓ) (hX : Ext L σ₀ hs σ s.heap) (hI : IT s.heap I 0) (hIn : hs.get? I = none) (hI₀ : h₀.objs.size ≤ I)
    (hC : ∀ ℓ' σ' h' tk, K σ' → St c.prog c.w h₀ σ' h' → Frm h₀ σ' h' L ℓ' → Ext L σ₀ hs σ' h' → R (.ok .next) { s with heap := h', toks := tk }) :
    codeAny (model c.prog c.w) A (.compLoop (.ListComp elt [⟨t, iter, ifs, 0⟩] sc pos) 0 (.ref I) (.ref D) (f.env L)) R s := by
  refine codeAny_compLoop_tests (fun k s' => ∃ ℓ' σ' h' tk i, s' = { s with heap := h', toks := tk } ∧ i ≤ vs.length ∧ k = vs.length - i ∧ G σ' ∧ Lc c n f t ifs elt D G K (vs.drop i) ℓ' σ' ∧ St c.prog c.w h₀ σ' h' ∧ Frm h₀ σ' h' L ℓ' ∧ Ext L σ₀ hs σ' h' ∧ IT h' I i) ?_ vs.length
    ⟨ℓ, σ, s.heap, s.toks, 0, rfl, Nat.zero_le _, rfl, hG, by simpa using hL, hS, hF, hX, hI⟩ (ht _)
  rintro k s' ⟨ℓ', σ', h', tk, i, rfl, hi, rfl, hG', hL', hS', hF', hX', hI'⟩
  by_cases hlt : i < vs.length
  · have ed : vs.drop i = vs[i] :: vs.drop (i + 1) := List.drop_eq_getElem_cons hlt
    rw [ed] at hL'
    obtain ⟨o, ho, hc⟩ := W.obj _ _ _ hI'
    refine W.item h₀ σ' _ A _ I i vs[i] _ hS' hG' hI' (List.getElem?_eq_getElem hlt) fun h₁ x tk₁ hs₁ hI₁ hv => ?_
    have hk : ∀ b o, b ≠ I → h'.get? b = some o → h₁.get? b = some o := fun b o hb e => (hs₁.2 b hb).trans e
    obtain ⟨S₁, F₁, kt₁⟩ := hS'.moved hF' ho hc hI₀ hk
    have X₁ := hX'.moved hIn hk
    obtain ⟨oI, hoI, hcI⟩ := W.obj _ _ _ hI₁
    have hIL : I ≠ L := fun q => by
      obtain ⟨_, _, oL, es, k, hLo, hdat⟩ := F₁
      subst q; rw [hLo] at hoI; cases hoI
      obtain ⟨_, _, _, fs, e⟩ := hcI
      rw [e] at hdat; cases hdat
    have next : ∀ σ₃ h₃, Ext L σ' h₁ σ₃ h₃ → IT h₃ I (i + 1) := fun σ₃ h₃ X₁₃ => W.frame _ _ _ _ hI₁ (fun o e => X₁₃.keep I o e hIL fun a oa ea => (S₁.offIt hoI hcI a oa ea).1) (F₁.tup S₁ X₁₃)
    refine hL' h₀ A L _ x _ _ hB hA S₁ F₁ (hv.keep kt₁) fun _ _ ℓ₂ σ₂ h₂ tk₂ hK₂ S₂ F₂ X₂ _ => ?_
    refine hK₂ h₀ A L _ () _ _ hB hA S₂ F₂ trivial fun b b' ℓ₃ σ₃ h₃ tk₃ hK₃ S₃ F₃ X₃ hR₃ => ?_
    obtain rfl : b = b' := hR₃
    cases b with
    | false =>
      simp only [Bool.false_eq_true, if_false] at hK₃ ⊢
      exact ⟨_, by omega, ℓ₃, σ₃, h₃, tk₃, i + 1, rfl, hlt, rfl, hK₃.1, hK₃.2, S₃, F₃, X₁.trans (X₂.trans X₃), next _ _ (X₂.trans X₃)⟩
    | true =>
      simp only [if_true] at hK₃ ⊢
      refine hK₃ h₀ A L _ () _ _ hB hA S₃ F₃ trivial fun y y' ℓ₄ σ₄ h₄ tk₄ hK₄ S₄ F₄ X₄ hR₄ => ?_
      obtain ⟨ys, ⟨e1, e2, e3⟩, hK₅⟩ := hK₄
      refine Ca.append (n := n) (K := fun _ ℓ' σ' => ℓ' = ℓ₄ ∧ σ' = AH.set σ₄ D (.list (ys ++ [y]))) e1 e2 ⟨rfl, rfl⟩ h₀ A L _ _ _ _ hB hA S₄ F₄ (.cons (.ref D) (.cons hR₄ .nil)) fun _ _ ℓ₅ σ₅ h₅ tk₅ hK S₅ F₅ X₅ _ => ?_
      obtain ⟨rfl, rfl⟩ := hK
      have X := (X₂.trans X₃).trans (X₄.trans X₅)
      exact ⟨_, by omega, ℓ₅, _, h₅, tk₅, i + 1, rfl, hlt, rfl, e3, hK₅, S₅, F₅, X₁.trans X, next _ _ X⟩
  · have hin : i = vs.length := by omega
    subst hin
    rw [List.drop_length] at hL'
    obtain ⟨o, ho, hc⟩ := W.obj _ _ _ hI'
    refine W.done h₀ σ' _ A _ I _ hA.handled hS' hG' hI' fun h₁ hk => ?_
    obtain ⟨S₁, F₁, kt₁⟩ := hS'.moved hF' ho hc hI₀ hk
    exact hC _ _ _ _ hL' S₁ F₁ (hX'.moved hIn hk)

/-- a list comprehension -/
theorem Ev.comp {elt t iter : Expr} {ifs : List Expr} {sc : Scope} {pos : Pos} {cl : List (Str × Addr)} {K : AV → Loc → AH → Prop} (hs : ∀ env x, foldedSetIterable iter env x = pure x) (ht : ∀ it v, letOwnedTupleGo t it v = pure ())
    (hclos : ∀ L, closureFor sc (f.env L) = pure cl) (hcell : ∀ y ∈ sc.names, y.2 ≠ .cell) (hk : sc.kind = .function) (hnames : ∀ y ∈ sc.names, y.2 = .local → sc.names.lookup y.1 = some .local)
    (h : Ev c n f iter ℓ σ fun u ℓ₁ σ₁ => ∃ (vs : List AV) (G : AH → Prop) (IT : Heap → Addr → Nat → Prop), Itr c vs G IT ∧
      (∀ (h₀ : Heap) (s : Shared) (A : Around) (E : Value → Shared → Prop) (x : Value) (Q : Value → Shared → Prop), St c.prog c.w h₀ σ₁ s.heap → VR s.heap u x →
        (∀ o, IT (s.heap.push o) s.heap.objs.size 0 → Q (.ref s.heap.objs.size) { s with heap := s.heap.push o }) → wpAny (model c.prog c.w) A (pyIter x) Q E s) ∧
      ∀ L D, σ₁ D = none → G (AH.set σ₁ D (.list [])) ∧ Lc c n (f.comp L sc cl hk) t ifs elt D G (fun σ' => K (.ref D) ℓ₁ σ') vs [] (AH.set σ₁ D (.list []))) :
    Ev c n f (.ListComp elt [⟨t, iter, ifs, 0⟩] sc pos) ℓ σ K := by
  intro h₀ A L s _ Q E hB hA hS hF _ hC
  show wpAny _ A (eval _ _) Q E s
  rw [eval_ListComp]
  refine wpAny_comprehension_free (use := none) rfl (hs _) (hclos L) hk hnames (h h₀ A L s () _ E hB hA hS hF trivial fun u x ℓ₁ σ₁ h₁ tk₁ hK₁ hS₁ hF₁ hX₁ hR₁ => ?_)
  obtain ⟨vs, G, IT, W, hi, hLc⟩ := hK₁
  refine hi h₀ _ A E x _ hS₁ hR₁ fun o hI => ?_
  obtain ⟨S₂, F₂, X₂, kt₂⟩ := hS₁.pushed hF₁ o
  refine wpAny_newObj_type (wpAny_newFunctionEnv hcell (by intro y hy; simp at hy) (fun h₃ hns₃ hsb₃ => ?_) hk)
  dsimp only at hns₃ hsb₃ ⊢
  generalize hH2 : (h₁.push o).push { cls := .type "list", dict := none, data := .seq ([] : List Value).toArray } = H2 at hns₃ hsb₃ ⊢
  have eD : (h₁.push o).objs.size = h₁.objs.size + 1 := Heap.size_push ..
  have eC : H2.objs.size = h₁.objs.size + 2 := by rw [← hH2, Heap.size_push, eD]
  have kD : ∀ b ob, (h₁.push o).get? b = some ob → H2.get? b = some ob := fun b ob e => hH2 ▸ Heap.get?_push_of_some _ e
  obtain ⟨S₃, X₃, kt₃, _⟩ := S₂.new (ob := .list []) F₂.le kD (a := (h₁.push o).objs.size) (Heap.get?_none_of_le (Nat.le_refl _)) (Nat.le_refl _) rfl ⟨[], 0, by rw [← hH2]; exact Heap.get?_push_size _ rfl, .nil⟩
  have k4 : ∀ b ob, H2.get? b = some ob → h₃.get? b = some ob := fun b ob e => (hsb₃.2 b (Nat.ne_of_lt (Heap.lt_size e))).trans (Heap.get?_push_of_some _ e)
  have S₄ := S₃.keepAll k4
  have kAll : ∀ b ob, h₁.get? b = some ob → h₃.get? b = some ob := fun b ob e => k4 b ob (kD b ob (Heap.get?_push_of_some _ e))
  obtain ⟨oC, esC, epC, g1, g2, g3⟩ := id hns₃
  have F₄ : Frm h₀ (AH.set σ₁ (h₁.push o).objs.size (.list [])) h₃ H2.objs.size [] := by
    refine ⟨⟨_, ⟨hns₃, S₄.keep, ?_⟩, fun x v e => by cases e⟩, fun a oa e q => ?_, oC, esC, epC, g1, g2⟩
    · rw [eC]; exact Nat.le_trans hF₁.le (Nat.le_add_right _ _)
    · obtain ⟨ob, hob⟩ := S₃.there e
      exact absurd (Heap.lt_size hob) (by rw [q]; exact Nat.lt_irrefl _)
  have X₄ : Ext H2.objs.size σ₁ h₁ (AH.set σ₁ (h₁.push o).objs.size (.list [])) h₃ := by
    refine ⟨fun b ob e _ _ => kAll b ob e, fun a o' e => ?_, fun b ob e => ⟨ob, kAll b ob e⟩⟩
    by_cases z : a = (h₁.push o).objs.size
    · subst z; rw [AH.set_same] at e; cases e; exact .inr (Heap.get?_none_of_le (show h₁.objs.size ≤ (h₁.push o).objs.size by rw [eD]; exact Nat.le_succ _))
    · rw [AH.set_ne z] at e; exact .inl ⟨o', e, rfl⟩
  have noC : h₁.get? H2.objs.size = none := Heap.get?_none_of_le (by rw [eC]; exact Nat.le_add_right _ _)
  have freeD : σ₁ (h₁.push o).objs.size = none := by
    cases q : σ₁ (h₁.push o).objs.size with
    | none => rfl
    | some ob => obtain ⟨ob', hob⟩ := hS₁.there' q; exact absurd (Heap.lt_size hob) (by rw [eD]; exact Nat.not_lt.mpr (Nat.le_succ _))
  obtain ⟨hG, hL⟩ := hLc L (h₁.push o).objs.size freeD
  have hI4 : IT h₃ h₁.objs.size 0 := by
    exact W.frame _ _ _ _ hI (fun ob e => k4 _ _ (kD _ _ e)) (fun b ob e _ => k4 _ _ (kD _ _ e))
  have nI : h₁.get? h₁.objs.size = none := Heap.get?_none_of_le (Nat.le_refl _)
  have loop : ∀ s₃ : Shared, (∃ tk, s₃ = { s with heap := h₃, toks := tk }) →
      codeAny (model c.prog c.w) A (.compLoop (.ListComp elt [⟨t, iter, ifs, 0⟩] sc pos) 0 (.ref h₁.objs.size) (.ref (h₁.push o).objs.size) (compEnvC sc cl H2.objs.size (f.env L)))
        (compPost (model c.prog c.w) A E none Q (.ref (h₁.push o).objs.size) H2.objs.size) s₃ := by
    rintro s₃ ⟨tk, rfl⟩
    refine comp_run (f := f.comp L sc cl hk) (s := { s with heap := h₃, toks := tk }) W ht hL hG hB hA S₄ F₄ X₄ hI4 nI hF₁.le fun ℓ' σ' h' tk' hK S' F' X' => ?_
    obtain ⟨⟨m', hm', _⟩, _⟩ := id F'
    refine ⟨m', hm'.ns, fun h'' hs'' => ?_⟩
    obtain ⟨off', hfx⟩ := F'.apart S'
    have hk' : ∀ b ob, b ≠ H2.objs.size → h'.get? b = some ob → h''.get? b = some ob := fun b ob hb e => (hs''.2 b hb).trans e
    obtain ⟨S₅, kt₅⟩ := S'.but off' (by rw [eC]; exact Nat.le_trans hF₁.le (Nat.le_add_right _ _)) hfx hk'
    have X₅ : Ext L σ₁ h₁ σ' h'' := ⟨fun b ob e _ hm => hk' b ob (fun q => by rw [q, noC] at e; cases e) (X'.keep b ob e (fun q => by rw [q, noC] at e; cases e) hm), X'.dom, fun b ob e => let ⟨o', e'⟩ := X'.there b ob e; ⟨o', hk' b o' (fun q => by rw [q, noC] at e; cases e) e'⟩⟩
    have kt₆ : TupKeep h₁ h'' := fun b ob e fx => kt₅ b ob (X'.fixed hS₁ noC b ob e fx) fx
    obtain ⟨_, foff, oL, esL, kL, hLo, hdL⟩ := id hF₁
    have hLne : L ≠ H2.objs.size := fun q => by rw [q, noC] at hLo; cases hLo
    have F₅ : Frm h₀ σ' h'' L ℓ₁ := hF₁.carry S₅ X'.dom (fun ob e => hk' L ob hLne (X'.keep L ob e hLne fun a oa ea => foff a oa ea)) kt₆
    exact hC _ _ _ _ h'' tk' hK S₅ F₅ (hX₁.trans X₅) (.ref _)
  exact codeAny_compStart_list (loop _ ⟨_, rfl⟩) (W.self _ _ _ _ 0 _ hI4 (loop _ ⟨_, rfl⟩))
end
end Mine
end
section
open PySem PySem.W PySem.Calls PyProof.Rows PySem.SeqAt
set_option Elab.async false
set_option linter.unusedVariables false
set_option maxRecDepth 100000
namespace Mine

/-- cells laid -/
def setCells (σ : AH) (cm : Str → Option AV) : List (Str × Addr) → AH
  | [] => σ
  | (x, a) :: r => AH.set (setCells σ cm r) a (.cell (cm x))
theorem setCells_out {σ : AH} {cm : Str → Option AV} : ∀ {cl : List (Str × Addr)} {a : Addr}, (∀ p ∈ cl, p.2 ≠ a) → setCells σ cm cl a = σ a
  | [], _, _ => rfl
  | (x, b) :: r, a, h => by
    rw [setCells, AH.set_ne (fun q => h _ (.head _) q.symm), setCells_out fun p hp => h p (.tail _ hp)]
theorem setCells_cases {σ : AH} {cm : Str → Option AV} : ∀ {cl : List (Str × Addr)} {a : Addr} {o : AO}, setCells σ cm cl a = some o → (∃ x, (x, a) ∈ cl ∧ o = .cell (cm x)) ∨ σ a = some o
  | [], _, _, e => .inr e
  | (x, b) :: r, a, o, e => by
    by_cases q : a = b
    · subst q; rw [setCells, AH.set_same] at e; cases e; exact .inl ⟨x, .head _, rfl⟩
    · rw [setCells, AH.set_ne q] at e
      rcases setCells_cases e with ⟨y, h1, h2⟩ | h
      · exact .inl ⟨y, .tail _ h1, h2⟩
      · exact .inr h

theorem St.cells {prog : Program} {w : World} {h₀ h h' : Heap} {σ : AH} {cl : List (Str × Addr)} {cm : Str → Option AV} (S : St prog w h₀ σ h) (k : ∀ b o, h.get? b = some o → h'.get? b = some o) (hle : h₀.objs.size ≤ h.objs.size) (hn : ∀ p ∈ cl, h.objs.size ≤ p.2)
    (hc : ∀ p ∈ cl, ∃ y, h'.IsCell p.2 y ∧ OV h' (cm p.1) y) : St prog w h₀ (setCells σ cm cl) h' := by
  have fresh : ∀ a o, σ a = some o → ∀ p ∈ cl, p.2 ≠ mu a o := fun a o e p hp q => by
    obtain ⟨ob, hob⟩ := S.there e
    exact absurd (Heap.lt_size hob) (Nat.not_lt.mpr (q ▸ hn p hp))
  refine ⟨fun b o e => k b o (S.keep b o e), fun a o e => ?_, fun a o e => ?_, fun a b oa ob ea eb q => ?_⟩
  · rcases setCells_cases e with ⟨x, h1, rfl⟩ | h1
    · exact hc _ h1
    · exact (S.obj a o h1).keep k
  · rcases setCells_cases e with ⟨x, h1, rfl⟩ | h1
    · exact Nat.le_trans hle (hn _ h1)
    · exact S.own a o h1
  · rcases setCells_cases ea with ⟨x, h1, rfl⟩ | h1
    · rcases setCells_cases eb with ⟨y, h2, rfl⟩ | h2
      · exact q
      · exact absurd q (fresh b ob h2 _ h1)
    · rcases setCells_cases eb with ⟨y, h2, rfl⟩ | h2
      · exact absurd q.symm (fresh a oa h1 _ h2)
      · exact S.inj a b oa ob h1 h2 q

section
variable {c : Cx} {n : Nat} {f : Fe} {ℓ : Loc} {σ : AH}

/-- a call's run, as code, whatever the frame around it -/
def Cd0 (c : Cx) (n : Nat) (g : Value) (vs : List AV) (ℓ : Loc) (σ : AH) (K : AV → Loc → AH → Prop) : Prop :=
  ∀ (h₀ : Heap) (A : Around) (s : Shared) (xs : List Value) (R : Result → Shared → Prop), c.Base h₀ → Lv n A → St c.prog c.w h₀ σ s.heap → h₀.objs.size ≤ s.heap.objs.size → VRs s.heap vs xs →
      (∀ v x σ' h' tk, K v ℓ σ' → St c.prog c.w h₀ σ' h' → (∀ L, Ext L σ s.heap σ' h') → VR h' v x → R (.ok (.ret x)) { s with heap := h', toks := tk }) →
      codeAny (model c.prog c.w) A (.call g ⟨xs, []⟩) R s
theorem Cd0.cd {g : Value} {vs : List AV} {K : AV → Loc → AH → Prop} (h : Cd0 c n g vs ℓ σ K) : Cd c n g vs ℓ σ K :=
  fun h₀ A L s xs R hB hA hS hF hP hC => h h₀ A s xs R hB hA hS hF.le hP fun v x σ' h' tk hK hS' hX hR =>
    hC v x ℓ σ' h' tk hK hS' (hF.carry hS' (hX L).dom (fun o e => (hX (L + 1)).keep L o e (Nat.ne_of_lt (Nat.lt_succ_self L)) fun a oa ea => hF.off a oa ea) (hF.tup hS (hX L))) (hX L) hR

/-- a def's call whose frame has cells -/
theorem code_callC {g : Addr} {vs : List AV} {name qual : Str} {params : Arguments} {body : List Stmt} {scope : Scope} {dV kV doc pm cdv ct oc : Value} {an od : Option Addr} {osl : Array (Option Value)} {K : AV → Loc → AH → Prop} (names : List Str) (ℓb : Loc) (cm : Str → Option AV)
    (hf : c.K.lookup g = some ⟨oc, od, .func (fnX name qual params body scope [] dV kV doc pm an cdv ct), osl⟩) (hcd : codeIn c.K cdv qual = true)
    (hb : ∀ (s : Shared) (xs : List Value), c.K.In s.heap → xs.length = vs.length → BindsTo s (fnX name qual params body scope [] dV kV doc pm an cdv ct) ⟨xs, []⟩ (names.zip xs))
    (hkind : ∀ n, ∀ y ∈ names, scope.names.lookup y = some .local ∨ (scope.names.lookup y = some .cell ∧ ((cellsFrom n scope.names []).lookup y).isSome = true))
    (hnd : ((cellsFrom 0 scope.names []).map (·.1)).Nodup)
    (hl : ∀ h xs, VRs h vs xs → ∀ x v, look x ℓb = some v → ∃ y, bindL (fun x => scope.names.lookup x) (names.zip xs) (fun _ => none) x = some y ∧ VR h v y)
    (hc : ∀ h xs, VRs h vs xs → ∀ x, OV h (cm x) (bindC (fun x => scope.names.lookup x) (names.zip xs) (fun _ => none) x))
    (hco : scope.isCoroutine = false) (hgen : scope.isGenerator = false) (hk : scope.kind = .function)
    (h : ∀ L, (∀ p ∈ cellsFrom (L + 1) scope.names [], σ p.2 = none) → Exs c n (Fe.fn qual scope g cdv (cellsFrom (L + 1) scope.names []) hk) body ℓb (setCells σ cm (cellsFrom (L + 1) scope.names [])) (Back K ℓ)) : Cd0 c (n + 1) (.ref g) vs ℓ σ K := by
  intro h₀ A s xs R hB hA hS hle hP hC
  have X := hB.k.keeps hS.keep
  obtain ⟨p, loose, mg, mb, T⟩ := hB.top
  refine codeAny_call_function (by have := hA.depth; omega) (X _ _ hf) rfl hco hgen rfl (codeRec_of X hcd) (hb s xs X hP.length.symm _ _ _ _ ?_)
  refine wpAny_newFunctionEnv_cells hk (fun y hy => hkind _ _ (List.of_mem_zip hy).1) fun env' he s' x => ?_
  subst he
  refine ⟨(T.nolimit.keeps hS.keep).keeps x.toInCall.keep, codeAny_func ?_⟩
  obtain ⟨h₁, tk, rfl, _⟩ := x.done
  have hk₁ := x.toInCall.keep
  have kt : TupKeep s.heap h₁ := fun a o e _ => hk₁ a o e
  have hcl : ∀ p ∈ cellsFrom (s.heap.objs.size + 1) scope.names [], s.heap.objs.size < p.2 := fun p hp => x.above p.1 p.2 hp
  have S₁ : St c.prog c.w h₀ (setCells σ cm (cellsFrom (s.heap.objs.size + 1) scope.names [])) h₁ := by
    refine hS.cells hk₁ hle (fun p hp => Nat.le_of_lt (hcl p hp)) fun p hp => ⟨_, x.cell p.1 p.2 (lookup_of_mem_nodup (cellsFrom_names scope.names 0 (s.heap.objs.size + 1) [] [] rfl ▸ hnd) hp), (hc _ _ hP p.1).keep kt⟩
  have fresh : ∀ p ∈ cellsFrom (s.heap.objs.size + 1) scope.names [], σ p.2 = none := fun p hp => by
    cases q : σ p.2 with
    | none => rfl
    | some o => obtain ⟨ob, hob⟩ := hS.there' q; exact absurd (Heap.lt_size hob) (Nat.not_lt.mpr (Nat.le_of_lt (hcl p hp)))
  obtain ⟨o', es', ep', g1, g2, g3⟩ := id x.toInCall.ns
  have F₁ : Frm h₀ (setCells σ cm (cellsFrom (s.heap.objs.size + 1) scope.names [])) h₁ s.heap.objs.size ℓb := by
    refine ⟨⟨_, ⟨x.toInCall.ns, S₁.keep, hle⟩, fun y v e => ?_⟩, fun a o e q => ?_, o', es', ep', g1, g2⟩
    · obtain ⟨z, e1, e2⟩ := hl _ _ hP y v e
      exact ⟨z, e1, e2.keep kt⟩
    · rcases setCells_cases e with ⟨z, h1, rfl⟩ | h1
      · exact absurd (hcl _ h1) (by rw [show mu a (AO.cell (cm z)) = a from rfl] at q; rw [q]; exact Nat.lt_irrefl _)
      · obtain ⟨ob, hob⟩ := hS.there h1
        exact absurd (Heap.lt_size hob) (by rw [q]; exact Nat.lt_irrefl _)
  refine h s.heap.objs.size fresh h₀ _ s.heap.objs.size _ () _ _ hB hA.deeper S₁ F₁ trivial fun fl y ℓ' σ' h' tk' hK hS' hF' hX hR => ?_
  have hX' : ∀ L, Ext L σ s.heap σ' h' := by
    intro L
    refine ⟨fun b o e hbL hbm => hX.keep b o (hk₁ b o e) (Nat.ne_of_lt (Heap.lt_size e)) fun a oa ea => ?_, fun a o' e => ?_, fun b o e => hX.there b o (hk₁ b o e)⟩
    · rcases setCells_cases ea with ⟨z, h1, rfl⟩ | h1
      · exact fun q => absurd (Heap.lt_size e) (Nat.not_lt.mpr (Nat.le_of_lt (by rw [← q]; exact hcl _ h1)))
      · exact hbm a oa h1
    · rcases hX.dom a o' e with ⟨o, e1, q⟩ | nn
      · rcases setCells_cases e1 with ⟨z, h1, rfl⟩ | h1
        · exact .inr (Heap.get?_none_of_le (by rw [← q]; exact Nat.le_of_lt (hcl _ h1)))
        · exact .inl ⟨o, h1, q⟩
      · right
        cases q : s.heap.get? (mu a o') with
        | none => rfl
        | some ob => rw [hk₁ _ _ q] at nn; cases nn
  cases hR with
  | next => exact hC _ _ σ' h' tk' hK hS' hX' .none
  | brk => exact hC _ _ σ' h' tk' hK hS' hX' .none
  | cont => exact hC _ _ σ' h' tk' hK hS' hX' .none
  | ret r => exact hC _ _ σ' h' tk' hK hS' hX' r
end
end Mine
end
section
open PySem PySem.W PySem.Calls PyProof.Rows PySem.SeqAt
set_option Elab.async false
set_option linter.unusedVariables false
set_option maxRecDepth 100000
namespace Mine
section
variable {c : Cx} {n : Nat} {f : Fe} {ℓ : Loc} {σ : AH}

/-- a display's pairs -/
def RPr (c : Cx) (h : Heap) (ps : List (Str × AV)) (vs : List (Value × Value)) : Prop := ∃ kvs, Carries (strKind c.prog c.w) vs kvs ∧ FR h ps kvs
def Prs (c : Cx) (n : Nat) (f : Fe) (pos : Pos) (es : List (Expr × Expr)) (ℓ : Loc) (σ : AH) (K : List (Str × AV) → Loc → AH → Prop) : Prop :=
  J c (RPr c) n P0 (fun L _ => evalPairs (es.map fun p => (eval p.1 (f.env L), do let x ← eval p.2 (f.env L); standAt pos; pure x))) ℓ σ K
theorem Prs.nil {pos : Pos} {K : List (Str × AV) → Loc → AH → Prop} (h : K [] ℓ σ) : Prs c n f pos [] ℓ σ K := J.now h fun _ _ _ s _ _ _ _ _ _ _ _ q => evalPairs_nil (q _ s.toks ⟨[], trivial, .nil⟩)
theorem Prs.cons {pos : Pos} {k v : Expr} {es : List (Expr × Expr)} {K : List (Str × AV) → Loc → AH → Prop} (h : Ev c n f k ℓ σ fun u ℓ₁ σ₁ => ∃ x, u = .str x ∧ Ev c n f v ℓ₁ σ₁ fun y ℓ₂ σ₂ => Prs c n f pos es ℓ₂ σ₂ fun ps ℓ₃ σ₃ => K ((x, y) :: ps) ℓ₃ σ₃) :
    Prs c n f pos ((k, v) :: es) ℓ σ K := by
  intro h₀ A L s _ Q E hB hA hS hF _ hC
  refine evalPairs_cons (h h₀ A L s () _ E hB hA hS hF trivial fun u x _ _ _ tk₁ hK₁ hS₁ hF₁ hX₁ hR₁ => wpAny_bind ?_)
  obtain ⟨x, rfl, hv⟩ := hK₁
  cases hR₁
  refine hv h₀ A L _ () _ E hB hA hS₁ hF₁ trivial fun y y' _ _ _ tk₂ hK₂ hS₂ hF₂ hX₂ hR₂ => wpAny_bind (wpAny_standAt (wpAny_pure ?_))
  refine hK₂ h₀ A L _ () _ E hB hA hS₂ hF₂ trivial fun ps vs _ _ _ tk₃ hK₃ hS₃ hF₃ hX₃ hR₃ => ?_
  obtain ⟨kvs, h1, h2⟩ := hR₃
  exact hC _ _ _ _ _ tk₃ hK₃ hS₃ hF₃ ((hX₁.trans hX₂).trans hX₃) ⟨(x, y') :: kvs, ⟨strKind_is _ _ _ _, rfl, h1⟩, .cons (hR₂.keep (hF₂.tup hS₂ hX₃)) h2⟩

/-- a dict's display -/
theorem Ev.dict {keys : List (Option Expr)} {values : List Expr} {pos : Pos} {K : AV → Loc → AH → Prop} (es : List (Expr × Expr))
    (hshape : ∀ env, (evalEachOpt keys env).zip ((evalEach values env).map fun v => do let x ← v; standAt pos; pure x) = (es.map fun p => (eval p.1 env, do let x ← eval p.2 env; standAt pos; pure x)).map fun p => (some p.1, p.2)) (h0 : es ≠ []) (hz : es.length ≤ 15)
    (h : ∀ d, σ d = none → Prs c n f pos es ℓ (AH.set σ d (.dict [])) fun ps ℓ₁ σ₁ => σ₁ d = some (.dict []) ∧ K (.ref d) ℓ₁ (AH.set σ₁ d (.dict (putAll [] ps)))) : Ev c n f (.Dict keys values pos) ℓ σ K := by
  intro h₀ A L s _ Q E hB hA hS hF _ hC
  refine wpAny_Dict_pairs (knd := strKind c.prog c.w) (hshape _) (by simpa using h0) (by simpa using hz) ?_
  have k1 : ∀ b o, s.heap.get? b = some o → (s.heap.push { cls := .type "dict", data := .dict #[] }).get? b = some o := fun b o e => Heap.get?_push_of_some _ e
  obtain ⟨S₁, X₁, kt, free⟩ := hS.new (ob := .dict []) hF.le k1 (a := s.heap.objs.size) (Heap.get?_none_of_le (Nat.le_refl _)) (Nat.le_refl _) rfl ⟨[], Heap.DictOf.new _, .nil⟩
  have F₁ := hF.carry S₁ (X₁ L).dom (fun o e => k1 L o e) kt
  refine h _ free h₀ A L _ () _ E hB hA S₁ F₁ trivial fun ps vs ℓ₂ σ₂ h₂ tk₂ hK₂ hS₂ hF₂ hX₂ hR₂ => ?_
  obtain ⟨e, hK⟩ := hK₂
  obtain ⟨kvs, c1, c2⟩ := hR₂
  obtain ⟨kv0, d1, d2⟩ := hS₂.obj _ _ e
  cases d2
  refine ⟨kvs, c1, d1, fun h' hd hs => ?_⟩
  exact (hC.after ((X₁ L).trans hX₂) tk₂).upd (oa := .dict []) hS₂ hF₂ e (ob := .dict (putAll [] ps)) rfl hs (by obtain ⟨o, es, ep, ho, _⟩ := hd; exact ⟨o, ho⟩)
    (fun kt => ⟨_, hd, (c2.keep kt).merged .nil⟩) hK (fun _ => .ref _) _

/-- dict.update -/
theorem Ca.update {a b : Addr} {es ps : List (Str × AV)} {K : AV → Loc → AH → Prop} (ha : σ a = some (.dict es)) (hb : σ b = some (.dict ps)) (hne : a ≠ b) (hz : es.length + ps.length ≤ sizeLine) (h : K .none ℓ (AH.set σ a (.dict (putAll es ps)))) :
    Ca c n (.builtin "dict.update") [.ref a, .ref b] ℓ σ K := by
  intro h₀ A L s y Q E hB hA hS hF hP hC
  obtain ⟨kvs, h1, h2⟩ := hS.obj a _ ha
  obtain ⟨more, g1, g2⟩ := hS.obj b _ hb
  cases hP with
  | cons p q => cases p; cases q with
    | cons p q =>
      cases p; cases q
      refine call_meetsIn PySem.F.slot_dict_update h1.typeIs PySem.F.entry_dict_update (PySem.F.args_dict_update_2 _ _) (meets_dict_update (strKind c.prog c.w) a b hne (not_sys hB hS hb rfl)) ⟨kvs, more, h1, g1, by rw [← h2.length, ← g2.length]; exact hz, fun h' hd ho hs => ?_⟩
      exact hC.upd (oa := .dict es) hS hF ha (ob := .dict (putAll es ps)) rfl hs (by obtain ⟨o, es, ep, ho, _⟩ := hd; exact ⟨o, ho⟩) (fun kt => ⟨_, hd, (g2.keep kt).merged (h2.keep kt)⟩) h (fun _ => .none) s.toks

/-- sum of a list of ints -/
theorem VRs.ints {h : Heap} : ∀ {ns : List Int} {xs : List Value}, VRs h (ns.map AV.int) xs → ∀ (i : Nat) (v : Value), xs.toArray[i]? = some v → ∃ t, v = Value.int (ns.getD i 0) t
  | [], _, r, i, v, e => by cases r; simp at e
  | n :: ns, _, r, i, v, e => by
    cases r with
    | cons a b =>
      cases i with
      | zero => simp at e; subst e; cases a; exact ⟨_, rfl⟩
      | succ i => simp at e; exact VRs.ints b i v (by simpa using e)
theorem Ca.sum {a : Addr} {ns : List Int} {K : AV → Loc → AH → Prop} (ha : σ a = some (.list (ns.map AV.int))) (hfit : ∀ j, j < ns.length → InLong (ns.getD j 0) ∧ InLong (preSum (fun i => ns.getD i 0) (j + 1))) (h : K (.int (preSum (fun i => ns.getD i 0) ns.length)) ℓ σ) :
    Ca c n (.builtin "sum") [.ref a] ℓ σ K := by
  intro h₀ A L s y Q E hB hA hS hF hP hC
  obtain ⟨ws, m, h1, h2⟩ := hS.obj a _ ha
  have hl : ws.toArray.size = ns.length := by rw [h2.size, List.length_map]
  cases hP with
  | cons p q =>
    cases p; cases q
    refine call_sum_walk (wpAny_pyIter_list (isList_of h1) ?_)
    have hne : a ≠ s.heap.objs.size := Nat.ne_of_lt (Heap.lt_size h1)
    refine ⟨_, _, _, _, _, _, fun i => ns.getD i 0, rfl, Walks.list (A := A.in1) hA.handled _ a hne ws.toArray, ⟨⟨_, Heap.get?_push_size _ rfl, rfl, rfl⟩, (isList_of h1).push _⟩, fun b hb => ?_, fun i v e => h2.ints i v e, fun j hj => hfit j (by rwa [hl] at hj), fun h' tk t' hk => ?_⟩
    · show b < (s.heap.push _).objs.size
      rw [Heap.size_push]
      rcases List.mem_cons.mp hb with rfl | hb
      · exact Nat.lt_succ_self _
      · rcases List.mem_cons.mp hb with rfl | hb
        · exact Nat.lt_succ_of_lt (Heap.lt_size h1)
        · cases hb
    · rw [hl]
      exact hC.add hS hF (fun b o e => hk b o (by simpa using Nat.ne_of_lt (Heap.lt_size e)) (Heap.get?_push_of_some _ e)) h (fun _ => .int _ _) tk
end
end Mine
end
section
open PySem PySem.W PySem.Calls PyProof.Rows PySem.SeqAt
set_option Elab.async false
set_option linter.unusedVariables false
set_option maxRecDepth 100000
namespace Mine

/-- fewer own objects -/
def Sub (σ₁ σ : AH) : Prop := ∀ a o, σ₁ a = some o → σ a = some o
theorem Sub.refl (σ : AH) : Sub σ σ := fun _ _ e => e
theorem Sub.trans {a b c : AH} (x : Sub a b) (y : Sub b c) : Sub a c := fun p o e => y p o (x p o e)
theorem Sub.drop {σ : AH} {a : Addr} {o : AO} (h : σ a = none) : Sub σ (AH.set σ a o) := fun b ob e => by
  rw [AH.set_ne (fun q => by rw [q, h] at e; cases e)]; exact e
theorem Sub.set {σ₁ σ : AH} {a : Addr} {o : AO} (h : Sub σ₁ σ) : Sub (AH.set σ₁ a o) (AH.set σ a o) := fun b ob e => by
  by_cases q : b = a
  · subst q; rw [AH.set_same] at e ⊢; exact e
  · rw [AH.set_ne q] at e ⊢; exact h b ob e
theorem fresh_set {σ : AH} {a b : Addr} {o : AO} (h : (AH.set σ a o) b = none) : σ b = none ∧ b ≠ a := by
  by_cases q : b = a
  · subst q; rw [AH.set_same] at h; cases h
  · rw [AH.set_ne q] at h; exact ⟨h, q⟩
theorem set_set {σ : AH} {a : Addr} {o o' : AO} : AH.set (AH.set σ a o) a o' = AH.set σ a o' := by
  funext b; unfold AH.set; by_cases q : b = a <;> simp [q]
theorem set_comm {σ : AH} {a b : Addr} {o o' : AO} (h : a ≠ b) : AH.set (AH.set σ a o) b o' = AH.set (AH.set σ b o') a o := by
  funext x; unfold AH.set
  by_cases q : x = a
  · subst q; simp [h]
  · by_cases q' : x = b
    · subst q'; simp [q]
    · simp [q, q']
theorem set_id {σ : AH} {a : Addr} {o : AO} (h : σ a = some o) : AH.set σ a o = σ := by
  funext x; unfold AH.set
  by_cases q : x = a
  · subst q; simp [h]
  · simp [q]

theorem St.sub {prog : Program} {w : World} {h₀ h : Heap} {σ σ₁ : AH} (S : St prog w h₀ σ h) (x : Sub σ₁ σ) : St prog w h₀ σ₁ h :=
  ⟨S.keep, fun a o e => S.obj a o (x a o e), fun a o e => S.own a o (x a o e), fun a b oa ob ea eb => S.inj a b oa ob (x a oa ea) (x b ob eb)⟩
theorem Frm.sub {h₀ h : Heap} {σ σ₁ : AH} {L : Addr} {ℓ : Loc} (F : Frm h₀ σ h L ℓ) (x : Sub σ₁ σ) : Frm h₀ σ₁ h L ℓ := ⟨F.fr, fun a o e => F.off a o (x a o e), F.plain⟩
theorem Ext.sub {L : Addr} {σ σ' σ₁ : AH} {h h' : Heap} (X : Ext L σ h σ' h') (x : Sub σ₁ σ') : Ext L σ h σ₁ h' := ⟨X.keep, fun a o e => X.dom a o (x a o e), X.there⟩

section
variable {c : Cx} {n : Nat} {f : Fe} {ℓ : Loc} {σ : AH}
theorem J.forget {α β ι : Type} {R : Heap → β → α → Prop} {P : Heap → ι → Prop} {t : Addr → ι → Sem α} {K : β → Loc → AH → Prop} (h : J c R n P t ℓ σ fun b ℓ' σ' => ∃ σ₁, Sub σ₁ σ' ∧ K b ℓ' σ₁) : J c R n P t ℓ σ K :=
  fun h₀ A L s i Q E hB hA hS hF hP hC => h h₀ A L s i Q E hB hA hS hF hP fun b a ℓ' σ' h' tk ⟨σ₁, x, hK⟩ S F X r => hC b a ℓ' σ₁ h' tk hK (S.sub x) (F.sub x) (X.sub x) r
theorem Cd.forget {g : Value} {vs : List AV} {K : AV → Loc → AH → Prop} (h : Cd c n g vs ℓ σ fun b ℓ' σ' => ∃ σ₁, Sub σ₁ σ' ∧ K b ℓ' σ₁) : Cd c n g vs ℓ σ K :=
  fun h₀ A L s xs R hB hA hS hF hP hC => h h₀ A L s xs R hB hA hS hF hP fun v x ℓ' σ' h' tk ⟨σ₁, y, hK⟩ S F X r => hC v x ℓ' σ₁ h' tk hK (S.sub y) (F.sub y) (X.sub y) r
end
end Mine
end
section
open PySem PySem.W PySem.Calls PyProof.Rows
set_option Elab.async false
set_option linter.unusedVariables false
set_option maxRecDepth 100000
namespace Mine
theorem clip_in {i : Int} {d n : Nat} (h0 : 0 ≤ i) (h : i ≤ ((n : Nat) : Int)) : clipN (some i) d n = i.toNat := by
  unfold clipN
  dsimp only
  rw [if_neg (show ¬ i < 0 from Int.not_lt.mpr h0), Int.min_eq_left h, Int.max_eq_right h0]
theorem clip_hi {i : Int} {d n : Nat} (h : ((n : Nat) : Int) ≤ i) : clipN (some i) d n = n := by
  have h0 : ¬ i < 0 := Int.not_lt.mpr (Int.le_trans (Int.natCast_nonneg n) h)
  unfold clipN
  dsimp only
  rw [if_neg h0, Int.min_eq_right h, Int.max_eq_right (Int.natCast_nonneg n)]
  rfl
/-- a pen, a cell -/
def penV (b : Int) : AV := .tup [.int 0, .int (-1), .int b, .int (-1), .int 0]
/-- a cell of a line -/
structure Cell where
  codes : List Int
  wd : Int
  bg : Int
deriving DecidableEq
def cellV (c : Cell) : AV := .tup [.tup (c.codes.map .int), .int c.wd, penV c.bg, .bool false]
def blk (b : Int) : Cell := ⟨[], 1, b⟩
/-- a place's cell -/
def at' (cs : List Cell) (i : Int) : Cell := cs.getD i.toNat (blk (-1))
def rowV (cs : List Cell) : List AV := cs.map cellV
theorem row_get {cs : List Cell} {i : Int} (h0 : 0 ≤ i) (h : i < cs.length) : (rowV cs)[i.toNat]? = some (cellV (at' cs i)) := by
  have : i.toNat < cs.length := by omega
  simp [rowV, at', List.getD, this]
theorem row_len (cs : List Cell) : (rowV cs).length = cs.length := by simp [rowV]
theorem row_set (cs : List Cell) (i : Nat) (c : Cell) : (rowV cs).set i (cellV c) = rowV (cs.set i c) := by simp [rowV, List.map_set]
theorem reps_one {α : Type} (v : α) : ∀ k, reps [v] k = List.replicate k v
  | 0 => rfl
  | k + 1 => by rw [reps, reps_one v k, List.replicate_succ]; rfl
theorem row_rep (k : Nat) (c : Cell) : List.replicate k (cellV c) = rowV (List.replicate k c) := by simp [rowV]

theorem blk_wd (b : Int) : (blk b).wd = 1 := rfl
/-- line_part, in plain words -/
def partF (cs : List Cell) (i : Int) : List Cell :=
  if 0 < i ∧ i < cs.length ∧ (at' cs i).wd = 0 then
    (cs.set (i - 1).toNat (blk (at' cs (i - 1)).bg)).set i.toNat (blk (at' (cs.set (i - 1).toNat (blk (at' cs (i - 1)).bg)) i).bg) else cs
theorem partF_len (cs : List Cell) (i : Int) : (partF cs i).length = cs.length := by unfold partF; split <;> simp
theorem partF_yes {cs : List Cell} {i : Int} (h : 0 < i ∧ i < cs.length ∧ (at' cs i).wd = 0) : partF cs i = (cs.set (i - 1).toNat (blk (at' cs (i - 1)).bg)).set i.toNat (blk (at' (cs.set (i - 1).toNat (blk (at' cs (i - 1)).bg)) i).bg) := if_pos h
theorem partF_no {cs : List Cell} {i : Int} (h : ¬ (0 < i ∧ i < cs.length ∧ (at' cs i).wd = 0)) : partF cs i = cs := if_neg h
section
variable {c : Cx} {n : Nat} {f : Fe} {ℓ : Loc} {σ : AH}
theorem O2.rowItem {o sl : Expr} {a : Addr} {cs : List Cell} {i : Int} {K : AV → Loc → AH → Prop} (hs : ∀ x y, subscripted sl false x y = operate [x, y] (getItem x y)) (ha : σ a = some (.list (rowV cs))) (h0 : 0 ≤ i) (hn : i < cs.length) (hz : i < 2 ^ 63)
    (h : K (cellV (at' cs i)) ℓ σ) : O2 c n (subscriptTail o sl) (.ref a) (.int i) ℓ σ K := O2.listItem hs ha h0 hz (row_get h0 hn) h
theorem S3.rowItem {a : Addr} {cs : List Cell} {i : Int} {x : Cell} {K : Loc → AH → Prop} (ha : σ a = some (.list (rowV cs))) (h0 : 0 ≤ i) (hn : i < cs.length) (hz : i < 2 ^ 63) (h : K ℓ (AH.set σ a (.list (rowV (cs.set i.toNat x))))) :
    S3 c n setItem (.ref a) (.int i) (cellV x) ℓ σ K := S3.listItem ha h0 hz (by rw [row_len]; exact hn) (by rw [row_set]; exact h)
theorem Ca.lenRow {a : Addr} {cs : List Cell} {K : AV → Loc → AH → Prop} (ha : σ a = some (.list (rowV cs))) (hz : (cs.length : Int) < 2 ^ 63) (h : K (.int cs.length) ℓ σ) : Ca c n (.builtin "len") [.ref a] ℓ σ K := Ca.lenList ha (by rw [row_len]; exact hz) (by rw [row_len]; exact h)
end
end Mine
end
section
open PySem PySem.W PySem.Calls PyProof.Rows
set_option Elab.async false
set_option linter.unusedVariables false
set_option maxRecDepth 100000
namespace Mine
/-- a world, and what more is known of the first heap -/
abbrev WX := World × Frag
noncomputable def cx (w : WX) : Cx := ⟨pw, w.1, KK w.1.params ++ w.2⟩
theorem ne_fresh {σ : AH} {a b : Addr} {o : AO} (h : σ a = some o) (k : σ b = none) : a ≠ b := fun q => by rw [q, k] at h; cases h
theorem ne_of {σ : AH} {a b : Addr} {o o' : AO} (h : σ a = some o) (k : σ b = some o') (n : o ≠ o') : a ≠ b := fun q => by rw [q, k] at h; cases h; exact n rfl
section
variable {c : Cx} {n : Nat} {f : Fe} {ℓ : Loc} {σ : AH}
theorem xsNil {P : List Value → Prop} (h : P []) : ∀ xs : List Value, xs.length = 0 → P xs := fun xs e => by rw [List.eq_nil_of_length_eq_zero e]; exact h
theorem xsCons {P : List Value → Prop} {k : Nat} (h : ∀ a xs, xs.length = k → P (a :: xs)) : ∀ xs : List Value, xs.length = k + 1 → P xs := fun xs e => by
  cases xs with
  | nil => cases e
  | cons a r => exact h a r (Nat.succ.inj e)
theorem xs1 {P : List Value → Prop} (h : ∀ a, P [a]) : ∀ xs : List Value, xs.length = 1 → P xs := xsCons fun a => xsNil (h a)
theorem xs2 {P : List Value → Prop} (h : ∀ a b, P [a, b]) : ∀ xs : List Value, xs.length = 2 → P xs := xsCons fun a => xs1 (P := fun xs => P (a :: xs)) (h a)
theorem xs3 {P : List Value → Prop} (h : ∀ a b c, P [a, b, c]) : ∀ xs : List Value, xs.length = 3 → P xs := xsCons fun a => xs2 (P := fun xs => P (a :: xs)) (h a)
theorem xs4 {P : List Value → Prop} (h : ∀ a b c d, P [a, b, c, d]) : ∀ xs : List Value, xs.length = 4 → P xs := xsCons fun a => xs3 (P := fun xs => P (a :: xs)) (h a)
theorem xs5 {P : List Value → Prop} (h : ∀ a b c d e, P [a, b, c, d, e]) : ∀ xs : List Value, xs.length = 5 → P xs := xsCons fun a => xs4 (P := fun xs => P (a :: xs)) (h a)
theorem xs6 {P : List Value → Prop} (h : ∀ a b c d e f, P [a, b, c, d, e, f]) : ∀ xs : List Value, xs.length = 6 → P xs := xsCons fun a => xs5 (P := fun xs => P (a :: xs)) (h a)

/-- a slice is read -/
def SlE (σ : AH) (ℓ : Loc) (i j : Option Int) (u : AV) (K : AV → Loc → AH → Prop) : Prop :=
  (∃ a vs, (u = .ref a ∧ σ a = some (.list vs) ∧ vs.length ≤ sizeLine) ∧ ∀ b, σ b = none → K (.ref b) ℓ (AH.set σ b (.list (cut i j vs)))) ∨
  ∃ (a : Nat) (vs : List AV), (u = .tup vs ∧ i = some (a : Int) ∧ 1 ≤ a ∧ a ≤ vs.length ∧ (∀ b, j = some b → 0 ≤ b) ∧ vs.length ≤ sizeLine) ∧ K (.tup (cut i j vs)) ℓ σ
theorem SlE.list {i j : Option Int} {a : Addr} {vs : List AV} {K : AV → Loc → AH → Prop} (ha : σ a = some (.list vs)) (hz : vs.length ≤ sizeLine) (h : ∀ b, σ b = none → K (.ref b) ℓ (AH.set σ b (.list (cut i j vs)))) : SlE σ ℓ i j (.ref a) K := .inl ⟨a, vs, ⟨rfl, ha, hz⟩, h⟩
theorem SlE.tup {a : Nat} {j : Option Int} {vs : List AV} {K : AV → Loc → AH → Prop} (h1 : 1 ≤ a) (h2 : a ≤ vs.length) (hj : ∀ b, j = some b → 0 ≤ b) (hz : vs.length ≤ sizeLine) (h : K (.tup (cut (some (a : Int)) j vs)) ℓ σ) : SlE σ ℓ (some (a : Int)) j (.tup vs) K := .inr ⟨a, vs, ⟨rfl, rfl, h1, h2, hj, hz⟩, h⟩
theorem Ev.slice {o : Expr} {lo hi : Option Expr} {p pos : Pos} {K : AV → Loc → AH → Prop}
    (h : Ev c n f o ℓ σ fun u ℓ₁ σ₁ => Pt c n f lo ℓ₁ σ₁ fun i ℓ₂ σ₂ => Pt c n f hi ℓ₂ σ₂ fun j ℓ₃ σ₃ => SlE σ₃ ℓ₃ i j u K) : Ev c n f (.Subscript o (.Slice lo hi none p) pos) ℓ σ K := by
  intro h₀ A L s _ Q E hB hA hS hF _ hC
  refine Subscript_ (h h₀ A L s () _ E hB hA hS hF trivial fun u x ℓ₁ σ₁ h₁ tk₁ hK₁ hS₁ hF₁ hX₁ hR₁ => wpAny_Slice (hK₁ h₀ A L _ () _ E hB hA hS₁ hF₁ trivial fun i y ℓ₂ σ₂ h₂ tk₂ hK₂ hS₂ hF₂ hX₂ hR₂ =>
    hK₂ h₀ A L _ () _ E hB hA hS₂ hF₂ trivial fun j z ℓ₃ σ₃ h₃ tk₃ hK₃ hS₃ hF₃ hX₃ hR₃ => wpAny_pure ?_))
  have hX := (hX₁.trans hX₂).trans hX₃
  rcases hK₃ with ⟨a, vs, ⟨rfl, ha, hz⟩, hK⟩ | ⟨a, vs, ⟨rfl, rfl, l1, l2, hh, hz⟩, hK⟩
  · cases hR₁
    obtain ⟨ws, m, h1, h2⟩ := hS₃.obj a _ ha
    have h1' := Heap.get?_push_of_some { cls := .type "slice", data := .fields #[y, z, .none] } h1
    refine tail_any (isList_of h1').typeIs slot_list_getitem.lookup (wpAny_getItem_list_slice (isList_of h1') (Heap.IsSliceOf.new ..) hR₂ hR₃ .none (by simp) ?_ (by rw [h2.size]; exact hz)) rfl
    rw [slicePick_cut]
    exact (hC.after hX tk₃).new (ob := .list (cut i j vs)) hS₃ hF₃ (fun b o e => Heap.get?_push_of_some _ (Heap.get?_push_of_some _ e)) (by rw [Heap.size_push]; exact Nat.le_succ _) rfl (fun kt => ⟨cut i j ws, 0, Heap.get?_push_size _ rfl, (h2.cut i j).keep kt⟩) (hK _) (fun _ => .ref _) tk₃
  · have r := hR₁.keep (hF₁.tup hS₁ (hX₂.trans hX₃))
    cases r with
    | tup e r =>
      have h1' := Heap.get?_push_of_some { cls := .type "slice", data := .fields #[y, z, .none] } e
      have hlen := r.length
      refine tail_any (isTup_of h1').typeIs slot_tuple_getitem.lookup (getItem_tuple_cut (isTup_of h1') (Heap.IsSliceOf.new ..) hR₂ hR₃ l1 (by omega) hh ?_ (by omega)) rfl
      exact (hC.after hX tk₃).add hS₃ hF₃ (fun b o e => Heap.get?_push_of_some _ (Heap.get?_push_of_some _ e)) hK (fun kt => .tup (Heap.get?_push_size _ rfl) ((r.cut _ _).keep kt)) tk₃
/-- a slice is stored -/
def SlS (σ : AH) (ℓ : Loc) (i j : Option Int) (u v : AV) (K : Loc → AH → Prop) : Prop :=
  ∃ a b vs us, (u = .ref a ∧ v = .ref b ∧ a ≠ b ∧ σ a = some (.list vs) ∧ σ b = some (.list us) ∧ vs.length + us.length ≤ sizeLine) ∧ K ℓ (AH.set σ a (.list (splice i j vs us)))
theorem SlS.mk {i j : Option Int} {a b : Addr} {vs us : List AV} {K : Loc → AH → Prop} (hne : a ≠ b) (ha : σ a = some (.list vs)) (hb : σ b = some (.list us)) (hz : vs.length + us.length ≤ sizeLine) (h : K ℓ (AH.set σ a (.list (splice i j vs us)))) : SlS σ ℓ i j (.ref a) (.ref b) K :=
  ⟨a, b, vs, us, ⟨rfl, rfl, hne, ha, hb, hz⟩, h⟩
theorem As.slc {o : Expr} {lo hi : Option Expr} {p pos : Pos} {v : AV} {K : Loc → AH → Prop}
    (h : Ev c n f o ℓ σ fun u ℓ₁ σ₁ => Pt c n f lo ℓ₁ σ₁ fun i ℓ₂ σ₂ => Pt c n f hi ℓ₂ σ₂ fun j ℓ₃ σ₃ => SlS σ₃ ℓ₃ i j u v K) : As c n f (.Subscript o (.Slice lo hi none p) pos) v ℓ σ K := As.slice h

theorem Meth.getS {a : Addr} {es : List (Str × AV)} (ha : σ a = some (.dict es)) : Meth c n "get" (.ref a) ℓ σ (.builtin "dict.get") := Meth.ofDict (strKind c.prog c.w) PySem.F.slot_dict_get PySem.F.type_dict_get fun _ _ S => S.obj _ _ ha
theorem Meth.getI {a : Addr} {es : List (Int × AV)} (ha : σ a = some (.idict es)) : Meth c n "get" (.ref a) ℓ σ (.builtin "dict.get") := Meth.ofDict (intKind c.prog c.w) PySem.F.slot_dict_get PySem.F.type_dict_get fun _ _ S => S.obj _ _ ha
theorem Meth.updS {a : Addr} {es : List (Str × AV)} (ha : σ a = some (.dict es)) : Meth c n "update" (.ref a) ℓ σ (.builtin "dict.update") := Meth.ofDict (strKind c.prog c.w) PySem.F.slot_dict_update PySem.F.type_dict_update fun _ _ S => S.obj _ _ ha
theorem Ca.getS {a : Addr} {es : List (Str × AV)} {x : Str} {d : AV} {K : AV → Loc → AH → Prop} (ha : σ a = some (.dict es)) (h : K ((look x es).getD d) ℓ σ) : Ca c n (.builtin "dict.get") [.ref a, .str x, d] ℓ σ K :=
  Ca.get2 (strKind c.prog c.w) (k := x) ha rfl (fun _ r => r) (fun _ _ r => by cases r; exact strKind_is _ _ _ _) h
theorem Ca.getI {a : Addr} {es : List (Int × AV)} {x : Int} {d : AV} {K : AV → Loc → AH → Prop} (ha : σ a = some (.idict es)) (h : K ((look x es).getD d) ℓ σ) : Ca c n (.builtin "dict.get") [.ref a, .int x, d] ℓ σ K :=
  Ca.get2 (intKind c.prog c.w) (k := x) ha rfl (fun _ r => r) (fun _ _ r => by cases r; exact intKind_is _ _ _ _) h

/-- ints as data -/
theorem DVs.ints (σ : AH) : ∀ l : List Int, DVs σ (l.map .int) (l.map .int)
  | [] => .nil
  | i :: l => .cons (.int i) (DVs.ints σ l)
theorem lay_ints : ∀ l : List Int, PyData.canLayAll0 (l.map .int) = true
  | [] => rfl
  | i :: l => by
    have := lay_ints l
    simp only [List.map_cons, PyData.canLayAll0, this]; rfl
theorem dep_ints : ∀ l : List Int, PyData.depthAll (l.map .int) ≤ 1
  | [] => by simp [PyData.depthAll]
  | i :: l => by
    have := dep_ints l
    simp only [List.map_cons, PyData.depthAll, PyData.depth]; omega
theorem eqv_ints : ∀ l m : List Int, PyData.eqvAll (l.map .int) (m.map .int) = decide (l = m)
  | [], [] => by simp [PyData.eqvAll]
  | [], _ :: _ => by simp [PyData.eqvAll]
  | _ :: _, [] => by simp [PyData.eqvAll]
  | i :: l, j :: m => by
    simp only [List.map_cons, PyData.eqvAll, eqv_ints l m, PyData.eqv]
    by_cases h : i = j <;> by_cases h' : l = m <;> simp [h, h']

theorem shaped_ints (l : List Int) : PySem.SeqAt.shaped (.tuple (l.map .int)) = true := by
  have := dep_ints l
  rw [PySem.SeqAt.shaped, PyData.canLay0, lay_ints, PyData.depth]
  exact decide_eq_true (by omega)
theorem eqIx {vs us : List AV} (l m : List Int) (hl : vs = l.map .int) (hm : us = m.map .int) {K : AV → Loc → AH → Prop} (h : K (.bool (decide (l = m))) ℓ σ) : O2 c n (compareOp .Eq) (.tup vs) (.tup us) ℓ σ K := by
  subst hl; subst hm
  refine O2.eq (.tup (DVs.ints σ l)) (.tup (DVs.ints σ m)) (shaped_ints l) (shaped_ints m) ?_
  rw [PyData.eqv, eqv_ints]; exact h
theorem neIx {vs us : List AV} (l m : List Int) (hl : vs = l.map .int) (hm : us = m.map .int) {K : AV → Loc → AH → Prop} (h : K (.bool (!decide (l = m))) ℓ σ) : O2 c n (compareOp .NotEq) (.tup vs) (.tup us) ℓ σ K := by
  subst hl; subst hm
  refine O2.ne (.tup (DVs.ints σ l)) (.tup (DVs.ints σ m)) (shaped_ints l) (shaped_ints m) ?_
  rw [PyData.eqv, eqv_ints]; exact h
theorem anyIx (i : Int) : ∀ l : List Int, ((l.map PyData.int).any fun y => PyData.eqv y (.int i)) = l.contains i
  | [] => rfl
  | j :: l => by
    simp only [List.map_cons, List.any_cons, anyIx i l, List.contains_cons, PyData.eqv]
    rw [show (j == i) = (i == j) from BEq.comm]
theorem inIx {vs : List AV} {i : Int} (l : List Int) (hl : vs = l.map .int) {K : AV → Loc → AH → Prop} (h : K (.bool (l.contains i)) ℓ σ) : O2 c n (compareOp .In) (.int i) (.tup vs) ℓ σ K := by
  subst hl
  exact O2.inTup (.int i) (DVs.ints σ l) rfl (lay_ints l) (by rw [anyIx]; exact h)
theorem Lo.nil' {t : Expr} {body : List Stmt} {G : AH → Prop} {K : AF → Loc → AH → Prop} (h : K .next ℓ σ) : Lo c n f t body G K [] ℓ σ := h
theorem Lo.cons' {t : Expr} {body : List Stmt} {G : AH → Prop} {K : AF → Loc → AH → Prop} {v : AV} {vs : List AV} (h : As c n f t v ℓ σ fun ℓ₁ σ₁ => Exs c n f body ℓ₁ σ₁ fun fl ℓ₂ σ₂ => match fl with
    | .next => G σ₂ ∧ Lo c n f t body G K vs ℓ₂ σ₂
    | .cont => G σ₂ ∧ Lo c n f t body G K vs ℓ₂ σ₂
    | .brk => K .next ℓ₂ σ₂
    | .ret v => K (.ret v) ℓ₂ σ₂) : Lo c n f t body G K (v :: vs) ℓ σ := h
/-- a loop by what holds ahead of each turn -/
theorem Lo.inv {t : Expr} {body : List Stmt} {G : AH → Prop} {K : AF → Loc → AH → Prop} (I : List AV → Loc → AH → Prop)
    (step : ∀ v vs ℓ σ, I (v :: vs) ℓ σ → As c n f t v ℓ σ fun ℓ₁ σ₁ => Exs c n f body ℓ₁ σ₁ fun fl ℓ₂ σ₂ => match fl with
      | .next => G σ₂ ∧ I vs ℓ₂ σ₂
      | .cont => G σ₂ ∧ I vs ℓ₂ σ₂
      | .brk => K .next ℓ₂ σ₂
      | .ret v => K (.ret v) ℓ₂ σ₂) (done : ∀ ℓ σ, I [] ℓ σ → K .next ℓ σ) : ∀ vs ℓ σ, I vs ℓ σ → Lo c n f t body G K vs ℓ σ
  | [], ℓ, σ, h => done ℓ σ h
  | v :: vs, ℓ, σ, h => (step v vs ℓ σ h).mono fun _ ℓ₁ σ₁ h₁ => h₁.mono fun fl ℓ₂ σ₂ h₂ => by
    cases fl with
    | next => exact ⟨h₂.1, Lo.inv I step done vs ℓ₂ σ₂ h₂.2⟩
    | cont => exact ⟨h₂.1, Lo.inv I step done vs ℓ₂ σ₂ h₂.2⟩
    | brk => exact h₂
    | ret v => exact h₂
/-- a comprehension's turns, likewise -/
theorem Lc.inv {t : Expr} {ifs : List Expr} {elt : Expr} {D : Addr} {G : AH → Prop} {K : AH → Prop} (I : List AV → Loc → AH → Prop)
    (step : ∀ v vs ℓ σ, I (v :: vs) ℓ σ → As c n f t v ℓ σ fun ℓ₁ σ₁ => Fs c n f ifs ℓ₁ σ₁ fun ok ℓ₂ σ₂ => if ok then Ev c n f elt ℓ₂ σ₂ fun y ℓ₃ σ₃ =>
        ∃ ys, (σ₃ D = some (.list ys) ∧ ys.length ≤ sizeLine ∧ G (AH.set σ₃ D (.list (ys ++ [y])))) ∧ I vs ℓ₃ (AH.set σ₃ D (.list (ys ++ [y])))
      else G σ₂ ∧ I vs ℓ₂ σ₂) (done : ∀ ℓ σ, I [] ℓ σ → K σ) : ∀ vs ℓ σ, I vs ℓ σ → Lc c n f t ifs elt D G K vs ℓ σ
  | [], ℓ, σ, h => done ℓ σ h
  | v :: vs, ℓ, σ, h => (step v vs ℓ σ h).mono fun _ ℓ₁ σ₁ h₁ => h₁.mono fun ok ℓ₂ σ₂ h₂ => by
    cases ok with
    | false => exact ⟨h₂.1, Lc.inv I step done vs ℓ₂ σ₂ h₂.2⟩
    | true => exact J.mono h₂ fun y ℓ₃ σ₃ ⟨ys, h3, h4⟩ => ⟨ys, h3, Lc.inv I step done vs _ _ h4⟩
theorem Ca.maxL {i j : Int} (e : j ≤ i) {K : AV → Loc → AH → Prop} (h : K (.int i) ℓ σ) : Ca c n (.builtin "max") [.int i, .int j] ℓ σ K := Ca.max (by rw [Int.max_eq_left e]; exact h)
theorem Ca.maxR {i j : Int} (e : i ≤ j) {K : AV → Loc → AH → Prop} (h : K (.int j) ℓ σ) : Ca c n (.builtin "max") [.int i, .int j] ℓ σ K := Ca.max (by rw [Int.max_eq_right e]; exact h)
theorem Ca.minL {i j : Int} (e : i ≤ j) {K : AV → Loc → AH → Prop} (h : K (.int i) ℓ σ) : Ca c n (.builtin "min") [.int i, .int j] ℓ σ K := Ca.min (by rw [Int.min_eq_left e]; exact h)
theorem Ca.minR {i j : Int} (e : j ≤ i) {K : AV → Loc → AH → Prop} (h : K (.int j) ℓ σ) : Ca c n (.builtin "min") [.int i, .int j] ℓ σ K := Ca.min (by rw [Int.min_eq_right e]; exact h)
/-- rows of cells -/
theorem cut_map {α β : Type} (g : α → β) (i j : Option Int) (l : List α) : cut i j (l.map g) = (cut i j l).map g := by simp [cut, List.map_take, List.map_drop]
theorem splice_map {α β : Type} (g : α → β) (i j : Option Int) (l m : List α) : splice i j (l.map g) (m.map g) = (splice i j l m).map g := by simp [splice, List.map_take, List.map_drop]
theorem SlE.row {i j : Option Int} {a : Addr} {cs : List Cell} {K : AV → Loc → AH → Prop} (ha : σ a = some (.list (rowV cs))) (hz : cs.length ≤ sizeLine) (h : ∀ b, σ b = none → K (.ref b) ℓ (AH.set σ b (.list (rowV (cut i j cs))))) : SlE σ ℓ i j (.ref a) K :=
  SlE.list ha (by rw [row_len]; exact hz) fun b hb => by rw [show cut i j (rowV cs) = rowV (cut i j cs) from cut_map _ _ _ _]; exact h b hb
theorem O2.addRow {a b : Addr} {vs us : List Cell} {K : AV → Loc → AH → Prop} (ha : σ a = some (.list (rowV vs))) (hb : σ b = some (.list (rowV us))) (hz : vs.length + us.length ≤ sizeLine) (h : ∀ x, σ x = none → K (.ref x) ℓ (AH.set σ x (.list (rowV (vs ++ us))))) :
    O2 c n (binaryOp .Add) (.ref a) (.ref b) ℓ σ K := O2.addList ha hb (by rw [row_len, row_len]; exact hz) fun x hx => by rw [show rowV vs ++ rowV us = rowV (vs ++ us) from (List.map_append).symm]; exact h x hx
theorem SlS.row {i j : Option Int} {a b : Addr} {vs us : List Cell} {K : Loc → AH → Prop} (hne : a ≠ b) (ha : σ a = some (.list (rowV vs))) (hb : σ b = some (.list (rowV us))) (hz : vs.length + us.length ≤ sizeLine) (h : K ℓ (AH.set σ a (.list (rowV (splice i j vs us))))) : SlS σ ℓ i j (.ref a) (.ref b) K :=
  SlS.mk hne ha hb (by rw [row_len, row_len]; exact hz) (by rw [show splice i j (rowV vs) (rowV us) = rowV (splice i j vs us) from splice_map _ _ _ _ _]; exact h)
end
end Mine
end
section
open PySem PySem.W PySem.Calls PyProof.Rows
set_option Elab.async false
set_option linter.unusedVariables false
set_option maxRecDepth 100000
set_option maxHeartbeats 0
namespace Mine
/-- equations in a row -/
def AllEq {α : Type} : List (α × α) → Prop
  | [] => True
  | p :: r => p.1 = p.2 ∧ AllEq r
theorem AllEq.nil {α : Type} : AllEq ([] : List (α × α)) := trivial
theorem AllEq.cons {α : Type} {a b : α} {r : List (α × α)} (h : a = b) (k : AllEq r) : AllEq ((a, b) :: r) := ⟨h, k⟩
theorem AllEq.at {α : Type} {a b : α} : ∀ {l : List (α × α)}, AllEq l → ∀ i : Nat, l[i]? = some (a, b) → a = b
  | [], _, _, e => by cases e
  | p :: r, h, 0, e => by cases e; exact h.1
  | p :: r, h, i + 1, e => AllEq.at h.2 i (by simpa using e)
noncomputable def gL (w : WX) : List (Option (Option Value) × Option (Option Value)) := [(nsIn (cx w).K mainGlobals (Str.ofString "NO_COLOUR"), some (some (.int (-1) 197))), (nsIn (cx w).K mainGlobals (Str.ofString "PLAIN"), some (some (.ref 22))), (nsIn (cx w).K mainGlobals (Str.ofString "BACK"), some (some (.int 2 202))), (nsIn (cx w).K mainGlobals (Str.ofString "BLANK"), some (some (.int 32 204))), (nsIn (cx w).K mainGlobals (Str.ofString "clamp"), some (some (.ref 62))), (nsIn (cx w).K mainGlobals (Str.ofString "erased_pen"), some (some (.ref 69))), (nsIn (cx w).K mainGlobals (Str.ofString "blank_cell"), some (some (.ref 76))), (nsIn (cx w).K mainGlobals (Str.ofString "is_blank"), some (some (.ref 83))), (nsIn (cx w).K mainGlobals (Str.ofString "is_plain_blank"), some (some (.ref 90))), (nsIn (cx w).K mainGlobals (Str.ofString "WIDTH_JOINER"), some (some (.int 8205 290))), (nsIn (cx w).K mainGlobals (Str.ofString "WIDTH_PICTURE"), some (some (.int 65039 292))), (nsIn (cx w).K mainGlobals (Str.ofString "WIDTH_KEYCAP"), some (some (.int 8419 294))), (nsIn (cx w).K mainGlobals (Str.ofString "FIRST_MODIFIER"), some (some (.int 127995 296))), (nsIn (cx w).K mainGlobals (Str.ofString "LAST_MODIFIER"), some (some (.int 127999 297))), (nsIn (cx w).K mainGlobals (Str.ofString "FIRST_REGION"), some (some (.int 127462 300))), (nsIn (cx w).K mainGlobals (Str.ofString "LAST_REGION"), some (some (.int 127487 301))), (nsIn (cx w).K mainGlobals (Str.ofString "WIDTH_KEYS"), some (some (.ref 99))), (nsIn (cx w).K mainGlobals (Str.ofString "width_in_ranges"), some (some (.ref 106))), (nsIn (cx w).K mainGlobals (Str.ofString "width_check_ranges"), some (some (.ref 113))), (nsIn (cx w).K mainGlobals (Str.ofString "WidthTable"), some (some (.ref 144))), (nsIn (cx w).K mainGlobals (Str.ofString "is_region"), some (some (.ref 155))), (nsIn (cx w).K mainGlobals (Str.ofString "is_modifier"), some (some (.ref 162))), (nsIn (cx w).K mainGlobals (Str.ofString "width_bare"), some (some (.ref 169))), (nsIn (cx w).K mainGlobals (Str.ofString "joins"), some (some (.ref 174))), (nsIn (cx w).K mainGlobals (Str.ofString "cluster_width"), some (some (.ref 179))), (nsIn (cx w).K mainGlobals (Str.ofString "split_clusters"), some (some (.ref 184))), (nsIn (cx w).K mainGlobals (Str.ofString "codes_width"), some (some (.ref 189))), (nsIn (cx w).K mainGlobals (Str.ofString "cells_of_codes"), some (some (.ref 196))), (nsIn (cx w).K mainGlobals (Str.ofString "ASCII_SET"), some (some (.bytes #[66] 448))), (nsIn (cx w).K mainGlobals (Str.ofString "SUPPLEMENT_SET"), some (some (.bytes #[37, 53] 450))), (nsIn (cx w).K mainGlobals (Str.ofString "LATIN_SET"), some (some (.bytes #[45, 65] 452))), (nsIn (cx w).K mainGlobals (Str.ofString "LEFT_FIRST"), some (some (.int 32 454))), (nsIn (cx w).K mainGlobals (Str.ofString "LEFT_LAST"), some (some (.int 127 456))), (nsIn (cx w).K mainGlobals (Str.ofString "RIGHT_FIRST"), some (some (.int 160 458))), (nsIn (cx w).K mainGlobals (Str.ofString "RIGHT_LAST"), some (some (.int 255 460))), (nsIn (cx w).K mainGlobals (Str.ofString "HIGH_BIT"), some (some (.int 128 462))), (nsIn (cx w).K mainGlobals (Str.ofString "charset_pairs"), some (some (.ref 203))), (nsIn (cx w).K mainGlobals (Str.ofString "charset_drawing"), some (some (.ref 210))), (nsIn (cx w).K mainGlobals (Str.ofString "charset_supplement"), some (some (.ref 217))), (nsIn (cx w).K mainGlobals (Str.ofString "charset_national"), some (some (.ref 224))), (nsIn (cx w).K mainGlobals (Str.ofString "charset_table"), some (some (.ref 231))), (nsIn (cx w).K mainGlobals (Str.ofString "Charsets"), some (some (.ref 320))), (nsIn (cx w).K mainGlobals (Str.ofString "charset_on_right"), some (some (.ref 331))), (nsIn (cx w).K mainGlobals (Str.ofString "TAB_WIDTH"), some (some (.int 8 626))), (nsIn (cx w).K mainGlobals (Str.ofString "Cursor"), some (some (.ref 376))), (nsIn (cx w).K mainGlobals (Str.ofString "Margins"), some (some (.ref 509))), (nsIn (cx w).K mainGlobals (Str.ofString "Tabs"), some (some (.ref 608))), (nsIn (cx w).K mainGlobals (Str.ofString "LINE_SIZES"), some (some (.ref 613))), (nsIn (cx w).K mainGlobals (Str.ofString "line_blanks"), some (some (.ref 620))), (nsIn (cx w).K mainGlobals (Str.ofString "right_half"), some (some (.ref 627))), (nsIn (cx w).K mainGlobals (Str.ofString "line_part"), some (some (.ref 634))), (nsIn (cx w).K mainGlobals (Str.ofString "line_slice"), some (some (.ref 641))), (nsIn (cx w).K mainGlobals (Str.ofString "line_codes"), some (some (.ref 648))), (nsIn (cx w).K mainGlobals (Str.ofString "Line"), some (some (.ref 773))), (nsIn (cx w).K mainGlobals (Str.ofString "Grid"), some (some (.ref 922))), (nsIn (cx w).K mainGlobals (Str.ofString "grid_cut"), some (some (.ref 933))), (nsIn (cx w).K mainGlobals (Str.ofString "grid_mended"), some (some (.ref 940))), (nsIn (cx w).K mainGlobals (Str.ofString "WIDE_SIZES"), some (some (.ref 941))), (nsIn (cx w).K mainGlobals (Str.ofString "Screen"), some (some (.ref 1213))), (nsIn (cx w).K mainGlobals (Str.ofString "MOUSE_MODES"), some (some (.ref 1218))), (nsIn (cx w).K mainGlobals (Str.ofString "MOUSE_ENCODINGS"), some (some (.ref 1219))), (nsIn (cx w).K mainGlobals (Str.ofString "FIRST_ON"), some (some (.ref 1220))), (nsIn (cx w).K mainGlobals (Str.ofString "modes_group"), some (some (.ref 1227))), (nsIn (cx w).K mainGlobals (Str.ofString "Modes"), some (some (.ref 1258))), (nsIn (cx w).K mainGlobals (Str.ofString "_law_codes"), some (some (.ref 1263))), (nsIn (cx w).K mainGlobals (Str.ofString "_law_marks"), some (some (.ref 1264))), (nsIn (cx w).K mainGlobals (Str.ofString "_law_regions"), some (some (.ref 1265))), (nsIn (cx w).K mainGlobals (Str.ofString "_law_pictures"), some (some (.ref 1266))), (nsIn (cx w).K mainGlobals (Str.ofString "_law_plain"), some (some (.ref 1267))), (nsIn (cx w).K mainGlobals (Str.ofString "_law_take"), some (some (.ref 1274))), (nsIn (cx w).K mainGlobals (Str.ofString "_law_table"), some (some (.ref 1281))), (nsIn (cx w).K mainGlobals (Str.ofString "_law_bare"), some (some (.ref 1288))), (nsIn (cx w).K mainGlobals (Str.ofString "_law_cut"), some (some (.ref 1295))), (nsIn (cx w).K mainGlobals (Str.ofString "_law_set"), some (some (.ref 1302))), (nsIn (cx w).K mainGlobals (Str.ofString "_law_behind"), some (some (.ref 1309))), (nsIn (cx w).K mainGlobals (Str.ofString "_law_next"), some (some (.ref 1316))), (nsIn (cx w).K mainGlobals (Str.ofString "_law_written"), some (some (.ref 1323))), (nsIn (cx w).K mainGlobals (Str.ofString "_law_ahead"), some (some (.ref 1330))), (nsIn (cx w).K mainGlobals (Str.ofString "_law_belongs"), some (some (.ref 1335))), (nsIn (cx w).K mainGlobals (Str.ofString "_law_is_wide"), some (some (.ref 1342))), (nsIn (cx w).K mainGlobals (Str.ofString "_law_coded"), some (some (.ref 1349))), (nsIn (cx w).K mainGlobals (Str.ofString "_law_again"), some (some (.ref 1356))), (nsIn (cx w).K mainGlobals (Str.ofString "_law_deed"), some (some (.ref 1363))), (nsIn (cx w).K mainGlobals (Str.ofString "_law_is_so"), some (some (.ref 1368))), (nsIn (cx w).K mainGlobals (Str.ofString "_law_shared"), some (some (.ref 1375))), (nsIn (cx w).K mainGlobals (Str.ofString "_law_long_row"), some (some (.ref 1382))), (nsIn (cx w).K mainGlobals (Str.ofString "law"), some (some (.ref 1387))), (nsIn (cx w).K mainGlobals (Str.ofString "max"), some none), (nsIn (cx w).K mainGlobals (Str.ofString "min"), some none), (nsIn (cx w).K mainGlobals (Str.ofString "len"), some none), (nsIn (cx w).K mainGlobals (Str.ofString "sum"), some none), (nsIn (cx w).K mainGlobals (Str.ofString "list"), some none), (nsIn (cx w).K mainGlobals (Str.ofString "tuple"), some none), (nsIn (cx w).K mainGlobals (Str.ofString "range"), some none), (nsIn (cx w).K mainGlobals (Str.ofString "int"), some none), (nsIn (cx w).K mainGlobals (Str.ofString "enumerate"), some none), (nsIn (cx w).K mainGlobals (Str.ofString "dict"), some none)]
theorem gB (w : WX) : AllEq (gL w) := .cons (by kernel_rfl) (.cons (by kernel_rfl) (.cons (by kernel_rfl) (.cons (by kernel_rfl) (.cons (by kernel_rfl) (.cons (by kernel_rfl) (.cons (by kernel_rfl) (.cons (by kernel_rfl) (.cons (by kernel_rfl) (.cons (by kernel_rfl) (.cons (by kernel_rfl) (.cons (by kernel_rfl) (.cons (by kernel_rfl) (.cons (by kernel_rfl) (.cons (by kernel_rfl) (.cons (by kernel_rfl) (.cons (by kernel_rfl) (.cons (by kernel_rfl) (.cons (by kernel_rfl) (.cons (by kernel_rfl) (.cons (by kernel_rfl) (.cons (by kernel_rfl) (.cons (by kernel_rfl) (.cons (by kernel_rfl) (.cons (by kernel_rfl) (.cons (by kernel_rfl) (.cons (by kernel_rfl) (.cons (by kernel_rfl) (.cons (by kernel_rfl) (.cons (by kernel_rfl) (.cons (by kernel_rfl) (.cons (by kernel_rfl) (.cons (by kernel_rfl) (.cons (by kernel_rfl) (.cons (by kernel_rfl) (.cons (by kernel_rfl) (.cons (by kernel_rfl) (.cons (by kernel_rfl) (.cons (by kernel_rfl) (.cons (by kernel_rfl) (.cons (by kernel_rfl) (.cons (by kernel_rfl) (.cons (by kernel_rfl) (.cons (by kernel_rfl) (.cons (by kernel_rfl) (.cons (by kernel_rfl) (.cons (by kernel_rfl) (.cons (by kernel_rfl) (.cons (by kernel_rfl) (.cons (by kernel_rfl) (.cons (by kernel_rfl) (.cons (by kernel_rfl) (.cons (by kernel_rfl) (.cons (by kernel_rfl) (.cons (by kernel_rfl) (.cons (by kernel_rfl) (.cons (by kernel_rfl) (.cons (by kernel_rfl) (.cons (by kernel_rfl) (.cons (by kernel_rfl) (.cons (by kernel_rfl) (.cons (by kernel_rfl) (.cons (by kernel_rfl) (.cons (by kernel_rfl) (.cons (by kernel_rfl) (.cons (by kernel_rfl) (.cons (by kernel_rfl) (.cons (by kernel_rfl) (.cons (by kernel_rfl) (.cons (by kernel_rfl) (.cons (by kernel_rfl) (.cons (by kernel_rfl) (.cons (by kernel_rfl) (.cons (by kernel_rfl) (.cons (by kernel_rfl) (.cons (by kernel_rfl) (.cons (by kernel_rfl) (.cons (by kernel_rfl) (.cons (by kernel_rfl) (.cons (by kernel_rfl) (.cons (by kernel_rfl) (.cons (by kernel_rfl) (.cons (by kernel_rfl) (.cons (by kernel_rfl) (.cons (by kernel_rfl) (.cons (by kernel_rfl) (.cons (by kernel_rfl) (.cons (by kernel_rfl) (.cons (by kernel_rfl) (.cons (by kernel_rfl) (.cons (by kernel_rfl) (.cons (by kernel_rfl) (.cons (by kernel_rfl) (.cons (by kernel_rfl) (.cons (by kernel_rfl) (.cons (by kernel_rfl) (.cons (by kernel_rfl) (.nil)))))))))))))))))))))))))))))))))))))))))))))))))))))))))))))))))))))))))))))))))))))))))))))))))
section
variable {w : WX} {n : Nat} {f : Fe} {ℓ : Loc} {σ : AH} {pos : Pos} {K : AV → Loc → AH → Prop}

theorem g_NO_COLOUR (hl : ∀ L, (f.env L).kindOf (Str.ofString "NO_COLOUR") = some .globalImplicit) (h : K (.int (-1)) ℓ σ) : Ev (cx w) n f (.Name (Str.ofString "NO_COLOUR") pos) ℓ σ K :=
  Ev.glob (v := .int (-1) 197) hl rfl ((gB w).at 0 rfl) _ (fun _ _ => .int _ _) h
theorem v_PLAIN : ∀ h : Heap, (cx w).K.In h → VR h (.tup [.int 0, .int (-1), .int (-1), .int (-1), .int 0]) (.ref 22) := fun h X => .tup (n := 0) (ws := [Value.int 0 199, Value.int (-1) 197, Value.int (-1) 197, Value.int (-1) 197, Value.int 0 200]) (X 22 _ (by kernel_rfl)) (.cons (.int _ _) (.cons (.int _ _) (.cons (.int _ _) (.cons (.int _ _) (.cons (.int _ _) (.nil))))))
theorem g_PLAIN (hl : ∀ L, (f.env L).kindOf (Str.ofString "PLAIN") = some .globalImplicit) (h : K (.tup [.int 0, .int (-1), .int (-1), .int (-1), .int 0]) ℓ σ) : Ev (cx w) n f (.Name (Str.ofString "PLAIN") pos) ℓ σ K :=
  Ev.glob (v := .ref 22) hl rfl ((gB w).at 1 rfl) _ v_PLAIN h
theorem g_BACK (hl : ∀ L, (f.env L).kindOf (Str.ofString "BACK") = some .globalImplicit) (h : K (.int 2) ℓ σ) : Ev (cx w) n f (.Name (Str.ofString "BACK") pos) ℓ σ K :=
  Ev.glob (v := .int 2 202) hl rfl ((gB w).at 2 rfl) _ (fun _ _ => .int _ _) h
theorem g_BLANK (hl : ∀ L, (f.env L).kindOf (Str.ofString "BLANK") = some .globalImplicit) (h : K (.int 32) ℓ σ) : Ev (cx w) n f (.Name (Str.ofString "BLANK") pos) ℓ σ K :=
  Ev.glob (v := .int 32 204) hl rfl ((gB w).at 3 rfl) _ (fun _ _ => .int _ _) h
theorem g_clamp (hl : ∀ L, (f.env L).kindOf (Str.ofString "clamp") = some .globalImplicit) (h : K (.raw (.ref 62)) ℓ σ) : Ev (cx w) n f (.Name (Str.ofString "clamp") pos) ℓ σ K :=
  Ev.glob (v := .ref 62) hl rfl ((gB w).at 4 rfl) _ (fun _ _ => .raw _) h
theorem g_erased_pen (hl : ∀ L, (f.env L).kindOf (Str.ofString "erased_pen") = some .globalImplicit) (h : K (.raw (.ref 69)) ℓ σ) : Ev (cx w) n f (.Name (Str.ofString "erased_pen") pos) ℓ σ K :=
  Ev.glob (v := .ref 69) hl rfl ((gB w).at 5 rfl) _ (fun _ _ => .raw _) h
theorem g_blank_cell (hl : ∀ L, (f.env L).kindOf (Str.ofString "blank_cell") = some .globalImplicit) (h : K (.raw (.ref 76)) ℓ σ) : Ev (cx w) n f (.Name (Str.ofString "blank_cell") pos) ℓ σ K :=
  Ev.glob (v := .ref 76) hl rfl ((gB w).at 6 rfl) _ (fun _ _ => .raw _) h
theorem g_is_blank (hl : ∀ L, (f.env L).kindOf (Str.ofString "is_blank") = some .globalImplicit) (h : K (.raw (.ref 83)) ℓ σ) : Ev (cx w) n f (.Name (Str.ofString "is_blank") pos) ℓ σ K :=
  Ev.glob (v := .ref 83) hl rfl ((gB w).at 7 rfl) _ (fun _ _ => .raw _) h
theorem g_is_plain_blank (hl : ∀ L, (f.env L).kindOf (Str.ofString "is_plain_blank") = some .globalImplicit) (h : K (.raw (.ref 90)) ℓ σ) : Ev (cx w) n f (.Name (Str.ofString "is_plain_blank") pos) ℓ σ K :=
  Ev.glob (v := .ref 90) hl rfl ((gB w).at 8 rfl) _ (fun _ _ => .raw _) h
theorem g_WIDTH_JOINER (hl : ∀ L, (f.env L).kindOf (Str.ofString "WIDTH_JOINER") = some .globalImplicit) (h : K (.int 8205) ℓ σ) : Ev (cx w) n f (.Name (Str.ofString "WIDTH_JOINER") pos) ℓ σ K :=
  Ev.glob (v := .int 8205 290) hl rfl ((gB w).at 9 rfl) _ (fun _ _ => .int _ _) h
theorem g_WIDTH_PICTURE (hl : ∀ L, (f.env L).kindOf (Str.ofString "WIDTH_PICTURE") = some .globalImplicit) (h : K (.int 65039) ℓ σ) : Ev (cx w) n f (.Name (Str.ofString "WIDTH_PICTURE") pos) ℓ σ K :=
  Ev.glob (v := .int 65039 292) hl rfl ((gB w).at 10 rfl) _ (fun _ _ => .int _ _) h
theorem g_WIDTH_KEYCAP (hl : ∀ L, (f.env L).kindOf (Str.ofString "WIDTH_KEYCAP") = some .globalImplicit) (h : K (.int 8419) ℓ σ) : Ev (cx w) n f (.Name (Str.ofString "WIDTH_KEYCAP") pos) ℓ σ K :=
  Ev.glob (v := .int 8419 294) hl rfl ((gB w).at 11 rfl) _ (fun _ _ => .int _ _) h
theorem g_FIRST_MODIFIER (hl : ∀ L, (f.env L).kindOf (Str.ofString "FIRST_MODIFIER") = some .globalImplicit) (h : K (.int 127995) ℓ σ) : Ev (cx w) n f (.Name (Str.ofString "FIRST_MODIFIER") pos) ℓ σ K :=
  Ev.glob (v := .int 127995 296) hl rfl ((gB w).at 12 rfl) _ (fun _ _ => .int _ _) h
theorem g_LAST_MODIFIER (hl : ∀ L, (f.env L).kindOf (Str.ofString "LAST_MODIFIER") = some .globalImplicit) (h : K (.int 127999) ℓ σ) : Ev (cx w) n f (.Name (Str.ofString "LAST_MODIFIER") pos) ℓ σ K :=
  Ev.glob (v := .int 127999 297) hl rfl ((gB w).at 13 rfl) _ (fun _ _ => .int _ _) h
theorem g_FIRST_REGION (hl : ∀ L, (f.env L).kindOf (Str.ofString "FIRST_REGION") = some .globalImplicit) (h : K (.int 127462) ℓ σ) : Ev (cx w) n f (.Name (Str.ofString "FIRST_REGION") pos) ℓ σ K :=
  Ev.glob (v := .int 127462 300) hl rfl ((gB w).at 14 rfl) _ (fun _ _ => .int _ _) h
theorem g_LAST_REGION (hl : ∀ L, (f.env L).kindOf (Str.ofString "LAST_REGION") = some .globalImplicit) (h : K (.int 127487) ℓ σ) : Ev (cx w) n f (.Name (Str.ofString "LAST_REGION") pos) ℓ σ K :=
  Ev.glob (v := .int 127487 301) hl rfl ((gB w).at 15 rfl) _ (fun _ _ => .int _ _) h
theorem v_WIDTH_KEYS : ∀ h : Heap, (cx w).K.In h → VR h (.tup [.int 35, .int 42, .int 48, .int 49, .int 50, .int 51, .int 52, .int 53, .int 54, .int 55, .int 56, .int 57]) (.ref 99) := fun h X => .tup (n := 0) (ws := [Value.int 35 304, Value.int 42 305, Value.int 48 306, Value.int 49 307, Value.int 50 308, Value.int 51 309, Value.int 52 310, Value.int 53 311, Value.int 54 312, Value.int 55 313, Value.int 56 314, Value.int 57 315]) (X 99 _ (by kernel_rfl)) (.cons (.int _ _) (.cons (.int _ _) (.cons (.int _ _) (.cons (.int _ _) (.cons (.int _ _) (.cons (.int _ _) (.cons (.int _ _) (.cons (.int _ _) (.cons (.int _ _) (.cons (.int _ _) (.cons (.int _ _) (.cons (.int _ _) (.nil)))))))))))))
theorem g_WIDTH_KEYS (hl : ∀ L, (f.env L).kindOf (Str.ofString "WIDTH_KEYS") = some .globalImplicit) (h : K (.tup [.int 35, .int 42, .int 48, .int 49, .int 50, .int 51, .int 52, .int 53, .int 54, .int 55, .int 56, .int 57]) ℓ σ) : Ev (cx w) n f (.Name (Str.ofString "WIDTH_KEYS") pos) ℓ σ K :=
  Ev.glob (v := .ref 99) hl rfl ((gB w).at 16 rfl) _ v_WIDTH_KEYS h
theorem g_width_in_ranges (hl : ∀ L, (f.env L).kindOf (Str.ofString "width_in_ranges") = some .globalImplicit) (h : K (.raw (.ref 106)) ℓ σ) : Ev (cx w) n f (.Name (Str.ofString "width_in_ranges") pos) ℓ σ K :=
  Ev.glob (v := .ref 106) hl rfl ((gB w).at 17 rfl) _ (fun _ _ => .raw _) h
theorem g_width_check_ranges (hl : ∀ L, (f.env L).kindOf (Str.ofString "width_check_ranges") = some .globalImplicit) (h : K (.raw (.ref 113)) ℓ σ) : Ev (cx w) n f (.Name (Str.ofString "width_check_ranges") pos) ℓ σ K :=
  Ev.glob (v := .ref 113) hl rfl ((gB w).at 18 rfl) _ (fun _ _ => .raw _) h
theorem g_WidthTable (hl : ∀ L, (f.env L).kindOf (Str.ofString "WidthTable") = some .globalImplicit) (h : K (.raw (.ref 144)) ℓ σ) : Ev (cx w) n f (.Name (Str.ofString "WidthTable") pos) ℓ σ K :=
  Ev.glob (v := .ref 144) hl rfl ((gB w).at 19 rfl) _ (fun _ _ => .raw _) h
theorem g_is_region (hl : ∀ L, (f.env L).kindOf (Str.ofString "is_region") = some .globalImplicit) (h : K (.raw (.ref 155)) ℓ σ) : Ev (cx w) n f (.Name (Str.ofString "is_region") pos) ℓ σ K :=
  Ev.glob (v := .ref 155) hl rfl ((gB w).at 20 rfl) _ (fun _ _ => .raw _) h
theorem g_is_modifier (hl : ∀ L, (f.env L).kindOf (Str.ofString "is_modifier") = some .globalImplicit) (h : K (.raw (.ref 162)) ℓ σ) : Ev (cx w) n f (.Name (Str.ofString "is_modifier") pos) ℓ σ K :=
  Ev.glob (v := .ref 162) hl rfl ((gB w).at 21 rfl) _ (fun _ _ => .raw _) h
theorem g_width_bare (hl : ∀ L, (f.env L).kindOf (Str.ofString "width_bare") = some .globalImplicit) (h : K (.raw (.ref 169)) ℓ σ) : Ev (cx w) n f (.Name (Str.ofString "width_bare") pos) ℓ σ K :=
  Ev.glob (v := .ref 169) hl rfl ((gB w).at 22 rfl) _ (fun _ _ => .raw _) h
theorem g_joins (hl : ∀ L, (f.env L).kindOf (Str.ofString "joins") = some .globalImplicit) (h : K (.raw (.ref 174)) ℓ σ) : Ev (cx w) n f (.Name (Str.ofString "joins") pos) ℓ σ K :=
  Ev.glob (v := .ref 174) hl rfl ((gB w).at 23 rfl) _ (fun _ _ => .raw _) h
theorem g_cluster_width (hl : ∀ L, (f.env L).kindOf (Str.ofString "cluster_width") = some .globalImplicit) (h : K (.raw (.ref 179)) ℓ σ) : Ev (cx w) n f (.Name (Str.ofString "cluster_width") pos) ℓ σ K :=
  Ev.glob (v := .ref 179) hl rfl ((gB w).at 24 rfl) _ (fun _ _ => .raw _) h
theorem g_split_clusters (hl : ∀ L, (f.env L).kindOf (Str.ofString "split_clusters") = some .globalImplicit) (h : K (.raw (.ref 184)) ℓ σ) : Ev (cx w) n f (.Name (Str.ofString "split_clusters") pos) ℓ σ K :=
  Ev.glob (v := .ref 184) hl rfl ((gB w).at 25 rfl) _ (fun _ _ => .raw _) h
theorem g_codes_width (hl : ∀ L, (f.env L).kindOf (Str.ofString "codes_width") = some .globalImplicit) (h : K (.raw (.ref 189)) ℓ σ) : Ev (cx w) n f (.Name (Str.ofString "codes_width") pos) ℓ σ K :=
  Ev.glob (v := .ref 189) hl rfl ((gB w).at 26 rfl) _ (fun _ _ => .raw _) h
theorem g_cells_of_codes (hl : ∀ L, (f.env L).kindOf (Str.ofString "cells_of_codes") = some .globalImplicit) (h : K (.raw (.ref 196)) ℓ σ) : Ev (cx w) n f (.Name (Str.ofString "cells_of_codes") pos) ℓ σ K :=
  Ev.glob (v := .ref 196) hl rfl ((gB w).at 27 rfl) _ (fun _ _ => .raw _) h
theorem g_ASCII_SET (hl : ∀ L, (f.env L).kindOf (Str.ofString "ASCII_SET") = some .globalImplicit) (h : K (.bytes [66]) ℓ σ) : Ev (cx w) n f (.Name (Str.ofString "ASCII_SET") pos) ℓ σ K :=
  Ev.glob (v := .bytes #[66] 448) hl rfl ((gB w).at 28 rfl) _ (fun _ _ => .bytes [66] _) h
theorem g_SUPPLEMENT_SET (hl : ∀ L, (f.env L).kindOf (Str.ofString "SUPPLEMENT_SET") = some .globalImplicit) (h : K (.bytes [37, 53]) ℓ σ) : Ev (cx w) n f (.Name (Str.ofString "SUPPLEMENT_SET") pos) ℓ σ K :=
  Ev.glob (v := .bytes #[37, 53] 450) hl rfl ((gB w).at 29 rfl) _ (fun _ _ => .bytes [37, 53] _) h
theorem g_LATIN_SET (hl : ∀ L, (f.env L).kindOf (Str.ofString "LATIN_SET") = some .globalImplicit) (h : K (.bytes [45, 65]) ℓ σ) : Ev (cx w) n f (.Name (Str.ofString "LATIN_SET") pos) ℓ σ K :=
  Ev.glob (v := .bytes #[45, 65] 452) hl rfl ((gB w).at 30 rfl) _ (fun _ _ => .bytes [45, 65] _) h
theorem g_LEFT_FIRST (hl : ∀ L, (f.env L).kindOf (Str.ofString "LEFT_FIRST") = some .globalImplicit) (h : K (.int 32) ℓ σ) : Ev (cx w) n f (.Name (Str.ofString "LEFT_FIRST") pos) ℓ σ K :=
  Ev.glob (v := .int 32 454) hl rfl ((gB w).at 31 rfl) _ (fun _ _ => .int _ _) h
theorem g_LEFT_LAST (hl : ∀ L, (f.env L).kindOf (Str.ofString "LEFT_LAST") = some .globalImplicit) (h : K (.int 127) ℓ σ) : Ev (cx w) n f (.Name (Str.ofString "LEFT_LAST") pos) ℓ σ K :=
  Ev.glob (v := .int 127 456) hl rfl ((gB w).at 32 rfl) _ (fun _ _ => .int _ _) h
theorem g_RIGHT_FIRST (hl : ∀ L, (f.env L).kindOf (Str.ofString "RIGHT_FIRST") = some .globalImplicit) (h : K (.int 160) ℓ σ) : Ev (cx w) n f (.Name (Str.ofString "RIGHT_FIRST") pos) ℓ σ K :=
  Ev.glob (v := .int 160 458) hl rfl ((gB w).at 33 rfl) _ (fun _ _ => .int _ _) h
theorem g_RIGHT_LAST (hl : ∀ L, (f.env L).kindOf (Str.ofString "RIGHT_LAST") = some .globalImplicit) (h : K (.int 255) ℓ σ) : Ev (cx w) n f (.Name (Str.ofString "RIGHT_LAST") pos) ℓ σ K :=
  Ev.glob (v := .int 255 460) hl rfl ((gB w).at 34 rfl) _ (fun _ _ => .int _ _) h
theorem g_HIGH_BIT (hl : ∀ L, (f.env L).kindOf (Str.ofString "HIGH_BIT") = some .globalImplicit) (h : K (.int 128) ℓ σ) : Ev (cx w) n f (.Name (Str.ofString "HIGH_BIT") pos) ℓ σ K :=
  Ev.glob (v := .int 128 462) hl rfl ((gB w).at 35 rfl) _ (fun _ _ => .int _ _) h
theorem g_charset_pairs (hl : ∀ L, (f.env L).kindOf (Str.ofString "charset_pairs") = some .globalImplicit) (h : K (.raw (.ref 203)) ℓ σ) : Ev (cx w) n f (.Name (Str.ofString "charset_pairs") pos) ℓ σ K :=
  Ev.glob (v := .ref 203) hl rfl ((gB w).at 36 rfl) _ (fun _ _ => .raw _) h
theorem g_charset_drawing (hl : ∀ L, (f.env L).kindOf (Str.ofString "charset_drawing") = some .globalImplicit) (h : K (.raw (.ref 210)) ℓ σ) : Ev (cx w) n f (.Name (Str.ofString "charset_drawing") pos) ℓ σ K :=
  Ev.glob (v := .ref 210) hl rfl ((gB w).at 37 rfl) _ (fun _ _ => .raw _) h
theorem g_charset_supplement (hl : ∀ L, (f.env L).kindOf (Str.ofString "charset_supplement") = some .globalImplicit) (h : K (.raw (.ref 217)) ℓ σ) : Ev (cx w) n f (.Name (Str.ofString "charset_supplement") pos) ℓ σ K :=
  Ev.glob (v := .ref 217) hl rfl ((gB w).at 38 rfl) _ (fun _ _ => .raw _) h
theorem g_charset_national (hl : ∀ L, (f.env L).kindOf (Str.ofString "charset_national") = some .globalImplicit) (h : K (.raw (.ref 224)) ℓ σ) : Ev (cx w) n f (.Name (Str.ofString "charset_national") pos) ℓ σ K :=
  Ev.glob (v := .ref 224) hl rfl ((gB w).at 39 rfl) _ (fun _ _ => .raw _) h
theorem g_charset_table (hl : ∀ L, (f.env L).kindOf (Str.ofString "charset_table") = some .globalImplicit) (h : K (.raw (.ref 231)) ℓ σ) : Ev (cx w) n f (.Name (Str.ofString "charset_table") pos) ℓ σ K :=
  Ev.glob (v := .ref 231) hl rfl ((gB w).at 40 rfl) _ (fun _ _ => .raw _) h
theorem g_Charsets (hl : ∀ L, (f.env L).kindOf (Str.ofString "Charsets") = some .globalImplicit) (h : K (.raw (.ref 320)) ℓ σ) : Ev (cx w) n f (.Name (Str.ofString "Charsets") pos) ℓ σ K :=
  Ev.glob (v := .ref 320) hl rfl ((gB w).at 41 rfl) _ (fun _ _ => .raw _) h
theorem g_charset_on_right (hl : ∀ L, (f.env L).kindOf (Str.ofString "charset_on_right") = some .globalImplicit) (h : K (.raw (.ref 331)) ℓ σ) : Ev (cx w) n f (.Name (Str.ofString "charset_on_right") pos) ℓ σ K :=
  Ev.glob (v := .ref 331) hl rfl ((gB w).at 42 rfl) _ (fun _ _ => .raw _) h
theorem g_TAB_WIDTH (hl : ∀ L, (f.env L).kindOf (Str.ofString "TAB_WIDTH") = some .globalImplicit) (h : K (.int 8) ℓ σ) : Ev (cx w) n f (.Name (Str.ofString "TAB_WIDTH") pos) ℓ σ K :=
  Ev.glob (v := .int 8 626) hl rfl ((gB w).at 43 rfl) _ (fun _ _ => .int _ _) h
theorem g_Cursor (hl : ∀ L, (f.env L).kindOf (Str.ofString "Cursor") = some .globalImplicit) (h : K (.raw (.ref 376)) ℓ σ) : Ev (cx w) n f (.Name (Str.ofString "Cursor") pos) ℓ σ K :=
  Ev.glob (v := .ref 376) hl rfl ((gB w).at 44 rfl) _ (fun _ _ => .raw _) h
theorem g_Margins (hl : ∀ L, (f.env L).kindOf (Str.ofString "Margins") = some .globalImplicit) (h : K (.raw (.ref 509)) ℓ σ) : Ev (cx w) n f (.Name (Str.ofString "Margins") pos) ℓ σ K :=
  Ev.glob (v := .ref 509) hl rfl ((gB w).at 45 rfl) _ (fun _ _ => .raw _) h
theorem g_Tabs (hl : ∀ L, (f.env L).kindOf (Str.ofString "Tabs") = some .globalImplicit) (h : K (.raw (.ref 608)) ℓ σ) : Ev (cx w) n f (.Name (Str.ofString "Tabs") pos) ℓ σ K :=
  Ev.glob (v := .ref 608) hl rfl ((gB w).at 46 rfl) _ (fun _ _ => .raw _) h
theorem v_LINE_SIZES : ∀ h : Heap, (cx w).K.In h → VR h (.tup [.str (Str.ofString "single"), .str (Str.ofString "wide"), .str (Str.ofString "top"), .str (Str.ofString "bottom")]) (.ref 613) := fun h X => .tup (n := 0) (ws := [Value.str (Str.ofString "single") 974, Value.str (Str.ofString "wide") 975, Value.str (Str.ofString "top") 976, Value.str (Str.ofString "bottom") 977]) (X 613 _ (by kernel_rfl)) (.cons (.str _ _) (.cons (.str _ _) (.cons (.str _ _) (.cons (.str _ _) (.nil)))))
theorem g_LINE_SIZES (hl : ∀ L, (f.env L).kindOf (Str.ofString "LINE_SIZES") = some .globalImplicit) (h : K (.tup [.str (Str.ofString "single"), .str (Str.ofString "wide"), .str (Str.ofString "top"), .str (Str.ofString "bottom")]) ℓ σ) : Ev (cx w) n f (.Name (Str.ofString "LINE_SIZES") pos) ℓ σ K :=
  Ev.glob (v := .ref 613) hl rfl ((gB w).at 47 rfl) _ v_LINE_SIZES h
theorem g_line_blanks (hl : ∀ L, (f.env L).kindOf (Str.ofString "line_blanks") = some .globalImplicit) (h : K (.raw (.ref 620)) ℓ σ) : Ev (cx w) n f (.Name (Str.ofString "line_blanks") pos) ℓ σ K :=
  Ev.glob (v := .ref 620) hl rfl ((gB w).at 48 rfl) _ (fun _ _ => .raw _) h
theorem g_right_half (hl : ∀ L, (f.env L).kindOf (Str.ofString "right_half") = some .globalImplicit) (h : K (.raw (.ref 627)) ℓ σ) : Ev (cx w) n f (.Name (Str.ofString "right_half") pos) ℓ σ K :=
  Ev.glob (v := .ref 627) hl rfl ((gB w).at 49 rfl) _ (fun _ _ => .raw _) h
theorem g_line_part (hl : ∀ L, (f.env L).kindOf (Str.ofString "line_part") = some .globalImplicit) (h : K (.raw (.ref 634)) ℓ σ) : Ev (cx w) n f (.Name (Str.ofString "line_part") pos) ℓ σ K :=
  Ev.glob (v := .ref 634) hl rfl ((gB w).at 50 rfl) _ (fun _ _ => .raw _) h
theorem g_line_slice (hl : ∀ L, (f.env L).kindOf (Str.ofString "line_slice") = some .globalImplicit) (h : K (.raw (.ref 641)) ℓ σ) : Ev (cx w) n f (.Name (Str.ofString "line_slice") pos) ℓ σ K :=
  Ev.glob (v := .ref 641) hl rfl ((gB w).at 51 rfl) _ (fun _ _ => .raw _) h
theorem g_line_codes (hl : ∀ L, (f.env L).kindOf (Str.ofString "line_codes") = some .globalImplicit) (h : K (.raw (.ref 648)) ℓ σ) : Ev (cx w) n f (.Name (Str.ofString "line_codes") pos) ℓ σ K :=
  Ev.glob (v := .ref 648) hl rfl ((gB w).at 52 rfl) _ (fun _ _ => .raw _) h
theorem g_Line (hl : ∀ L, (f.env L).kindOf (Str.ofString "Line") = some .globalImplicit) (h : K (.raw (.ref 773)) ℓ σ) : Ev (cx w) n f (.Name (Str.ofString "Line") pos) ℓ σ K :=
  Ev.glob (v := .ref 773) hl rfl ((gB w).at 53 rfl) _ (fun _ _ => .raw _) h
theorem g_Grid (hl : ∀ L, (f.env L).kindOf (Str.ofString "Grid") = some .globalImplicit) (h : K (.raw (.ref 922)) ℓ σ) : Ev (cx w) n f (.Name (Str.ofString "Grid") pos) ℓ σ K :=
  Ev.glob (v := .ref 922) hl rfl ((gB w).at 54 rfl) _ (fun _ _ => .raw _) h
theorem g_grid_cut (hl : ∀ L, (f.env L).kindOf (Str.ofString "grid_cut") = some .globalImplicit) (h : K (.raw (.ref 933)) ℓ σ) : Ev (cx w) n f (.Name (Str.ofString "grid_cut") pos) ℓ σ K :=
  Ev.glob (v := .ref 933) hl rfl ((gB w).at 55 rfl) _ (fun _ _ => .raw _) h
theorem g_grid_mended (hl : ∀ L, (f.env L).kindOf (Str.ofString "grid_mended") = some .globalImplicit) (h : K (.raw (.ref 940)) ℓ σ) : Ev (cx w) n f (.Name (Str.ofString "grid_mended") pos) ℓ σ K :=
  Ev.glob (v := .ref 940) hl rfl ((gB w).at 56 rfl) _ (fun _ _ => .raw _) h
theorem v_WIDE_SIZES : ∀ h : Heap, (cx w).K.In h → VR h (.tup [.str (Str.ofString "wide"), .str (Str.ofString "top"), .str (Str.ofString "bottom")]) (.ref 941) := fun h X => .tup (n := 0) (ws := [Value.str (Str.ofString "wide") 1430, Value.str (Str.ofString "top") 1431, Value.str (Str.ofString "bottom") 1432]) (X 941 _ (by kernel_rfl)) (.cons (.str _ _) (.cons (.str _ _) (.cons (.str _ _) (.nil))))
theorem g_WIDE_SIZES (hl : ∀ L, (f.env L).kindOf (Str.ofString "WIDE_SIZES") = some .globalImplicit) (h : K (.tup [.str (Str.ofString "wide"), .str (Str.ofString "top"), .str (Str.ofString "bottom")]) ℓ σ) : Ev (cx w) n f (.Name (Str.ofString "WIDE_SIZES") pos) ℓ σ K :=
  Ev.glob (v := .ref 941) hl rfl ((gB w).at 57 rfl) _ v_WIDE_SIZES h
theorem g_Screen (hl : ∀ L, (f.env L).kindOf (Str.ofString "Screen") = some .globalImplicit) (h : K (.raw (.ref 1213)) ℓ σ) : Ev (cx w) n f (.Name (Str.ofString "Screen") pos) ℓ σ K :=
  Ev.glob (v := .ref 1213) hl rfl ((gB w).at 58 rfl) _ (fun _ _ => .raw _) h
theorem v_MOUSE_MODES : ∀ h : Heap, (cx w).K.In h → VR h (.tup [.str (Str.ofString "mouse_x10"), .str (Str.ofString "mouse_click"), .str (Str.ofString "mouse_drag"), .str (Str.ofString "mouse_all")]) (.ref 1218) := fun h X => .tup (n := 0) (ws := [Value.str (Str.ofString "mouse_x10") 1780, Value.str (Str.ofString "mouse_click") 1781, Value.str (Str.ofString "mouse_drag") 1782, Value.str (Str.ofString "mouse_all") 1783]) (X 1218 _ (by kernel_rfl)) (.cons (.str _ _) (.cons (.str _ _) (.cons (.str _ _) (.cons (.str _ _) (.nil)))))
theorem g_MOUSE_MODES (hl : ∀ L, (f.env L).kindOf (Str.ofString "MOUSE_MODES") = some .globalImplicit) (h : K (.tup [.str (Str.ofString "mouse_x10"), .str (Str.ofString "mouse_click"), .str (Str.ofString "mouse_drag"), .str (Str.ofString "mouse_all")]) ℓ σ) : Ev (cx w) n f (.Name (Str.ofString "MOUSE_MODES") pos) ℓ σ K :=
  Ev.glob (v := .ref 1218) hl rfl ((gB w).at 59 rfl) _ v_MOUSE_MODES h
theorem v_MOUSE_ENCODINGS : ∀ h : Heap, (cx w).K.In h → VR h (.tup [.str (Str.ofString "mouse_utf8"), .str (Str.ofString "mouse_sgr"), .str (Str.ofString "mouse_urxvt"), .str (Str.ofString "mouse_pixels")]) (.ref 1219) := fun h X => .tup (n := 0) (ws := [Value.str (Str.ofString "mouse_utf8") 1785, Value.str (Str.ofString "mouse_sgr") 1786, Value.str (Str.ofString "mouse_urxvt") 1787, Value.str (Str.ofString "mouse_pixels") 1788]) (X 1219 _ (by kernel_rfl)) (.cons (.str _ _) (.cons (.str _ _) (.cons (.str _ _) (.cons (.str _ _) (.nil)))))
theorem g_MOUSE_ENCODINGS (hl : ∀ L, (f.env L).kindOf (Str.ofString "MOUSE_ENCODINGS") = some .globalImplicit) (h : K (.tup [.str (Str.ofString "mouse_utf8"), .str (Str.ofString "mouse_sgr"), .str (Str.ofString "mouse_urxvt"), .str (Str.ofString "mouse_pixels")]) ℓ σ) : Ev (cx w) n f (.Name (Str.ofString "MOUSE_ENCODINGS") pos) ℓ σ K :=
  Ev.glob (v := .ref 1219) hl rfl ((gB w).at 60 rfl) _ v_MOUSE_ENCODINGS h
theorem v_FIRST_ON : ∀ h : Heap, (cx w).K.In h → VR h (.tup [.str (Str.ofString "send_receive"), .str (Str.ofString "autowrap"), .str (Str.ofString "autorepeat"), .str (Str.ofString "show_cursor"), .str (Str.ofString "num_lock")]) (.ref 1220) := fun h X => .tup (n := 0) (ws := [Value.str (Str.ofString "send_receive") 1790, Value.str (Str.ofString "autowrap") 1791, Value.str (Str.ofString "autorepeat") 1792, Value.str (Str.ofString "show_cursor") 1793, Value.str (Str.ofString "num_lock") 1794]) (X 1220 _ (by kernel_rfl)) (.cons (.str _ _) (.cons (.str _ _) (.cons (.str _ _) (.cons (.str _ _) (.cons (.str _ _) (.nil))))))
theorem g_FIRST_ON (hl : ∀ L, (f.env L).kindOf (Str.ofString "FIRST_ON") = some .globalImplicit) (h : K (.tup [.str (Str.ofString "send_receive"), .str (Str.ofString "autowrap"), .str (Str.ofString "autorepeat"), .str (Str.ofString "show_cursor"), .str (Str.ofString "num_lock")]) ℓ σ) : Ev (cx w) n f (.Name (Str.ofString "FIRST_ON") pos) ℓ σ K :=
  Ev.glob (v := .ref 1220) hl rfl ((gB w).at 61 rfl) _ v_FIRST_ON h
theorem g_modes_group (hl : ∀ L, (f.env L).kindOf (Str.ofString "modes_group") = some .globalImplicit) (h : K (.raw (.ref 1227)) ℓ σ) : Ev (cx w) n f (.Name (Str.ofString "modes_group") pos) ℓ σ K :=
  Ev.glob (v := .ref 1227) hl rfl ((gB w).at 62 rfl) _ (fun _ _ => .raw _) h
theorem g_Modes (hl : ∀ L, (f.env L).kindOf (Str.ofString "Modes") = some .globalImplicit) (h : K (.raw (.ref 1258)) ℓ σ) : Ev (cx w) n f (.Name (Str.ofString "Modes") pos) ℓ σ K :=
  Ev.glob (v := .ref 1258) hl rfl ((gB w).at 63 rfl) _ (fun _ _ => .raw _) h
theorem v__law_codes : ∀ h : Heap, (cx w).K.In h → VR h (.tup [.int 97, .int 49, .int 35, .int 19968, .int 769, .int 8205, .int 65039, .int 8419, .int 127462, .int 127463, .int 127995, .int 10084, .int 128512, .int 128513]) (.ref 1263) := fun h X => .tup (n := 0) (ws := [Value.int 97 1853, Value.int 49 1854, Value.int 35 1855, Value.int 19968 1856, Value.int 769 1857, Value.int 8205 1858, Value.int 65039 1859, Value.int 8419 1860, Value.int 127462 1861, Value.int 127463 1862, Value.int 127995 1863, Value.int 10084 1864, Value.int 128512 1865, Value.int 128513 1866]) (X 1263 _ (by kernel_rfl)) (.cons (.int _ _) (.cons (.int _ _) (.cons (.int _ _) (.cons (.int _ _) (.cons (.int _ _) (.cons (.int _ _) (.cons (.int _ _) (.cons (.int _ _) (.cons (.int _ _) (.cons (.int _ _) (.cons (.int _ _) (.cons (.int _ _) (.cons (.int _ _) (.cons (.int _ _) (.nil)))))))))))))))
theorem g__law_codes (hl : ∀ L, (f.env L).kindOf (Str.ofString "_law_codes") = some .globalImplicit) (h : K (.tup [.int 97, .int 49, .int 35, .int 19968, .int 769, .int 8205, .int 65039, .int 8419, .int 127462, .int 127463, .int 127995, .int 10084, .int 128512, .int 128513]) ℓ σ) : Ev (cx w) n f (.Name (Str.ofString "_law_codes") pos) ℓ σ K :=
  Ev.glob (v := .ref 1263) hl rfl ((gB w).at 64 rfl) _ v__law_codes h
theorem v__law_marks : ∀ h : Heap, (cx w).K.In h → VR h (.tup [.int 769, .int 8205, .int 65039, .int 8419]) (.ref 1264) := fun h X => .tup (n := 0) (ws := [Value.int 769 1868, Value.int 8205 1869, Value.int 65039 1870, Value.int 8419 1871]) (X 1264 _ (by kernel_rfl)) (.cons (.int _ _) (.cons (.int _ _) (.cons (.int _ _) (.cons (.int _ _) (.nil)))))
theorem g__law_marks (hl : ∀ L, (f.env L).kindOf (Str.ofString "_law_marks") = some .globalImplicit) (h : K (.tup [.int 769, .int 8205, .int 65039, .int 8419]) ℓ σ) : Ev (cx w) n f (.Name (Str.ofString "_law_marks") pos) ℓ σ K :=
  Ev.glob (v := .ref 1264) hl rfl ((gB w).at 65 rfl) _ v__law_marks h
theorem v__law_regions : ∀ h : Heap, (cx w).K.In h → VR h (.tup [.int 127462, .int 127463]) (.ref 1265) := fun h X => .tup (n := 0) (ws := [Value.int 127462 1873, Value.int 127463 1874]) (X 1265 _ (by kernel_rfl)) (.cons (.int _ _) (.cons (.int _ _) (.nil)))
theorem g__law_regions (hl : ∀ L, (f.env L).kindOf (Str.ofString "_law_regions") = some .globalImplicit) (h : K (.tup [.int 127462, .int 127463]) ℓ σ) : Ev (cx w) n f (.Name (Str.ofString "_law_regions") pos) ℓ σ K :=
  Ev.glob (v := .ref 1265) hl rfl ((gB w).at 66 rfl) _ v__law_regions h
theorem v__law_pictures : ∀ h : Heap, (cx w).K.In h → VR h (.tup [.int 10084, .int 128512, .int 128513]) (.ref 1266) := fun h X => .tup (n := 0) (ws := [Value.int 10084 1876, Value.int 128512 1877, Value.int 128513 1878]) (X 1266 _ (by kernel_rfl)) (.cons (.int _ _) (.cons (.int _ _) (.cons (.int _ _) (.nil))))
theorem g__law_pictures (hl : ∀ L, (f.env L).kindOf (Str.ofString "_law_pictures") = some .globalImplicit) (h : K (.tup [.int 10084, .int 128512, .int 128513]) ℓ σ) : Ev (cx w) n f (.Name (Str.ofString "_law_pictures") pos) ℓ σ K :=
  Ev.glob (v := .ref 1266) hl rfl ((gB w).at 67 rfl) _ v__law_pictures h
theorem v__law_plain : ∀ h : Heap, (cx w).K.In h → VR h (.tup [.int 0, .int (-1), .int (-1), .int (-1), .int 0]) (.ref 1267) := fun h X => .tup (n := 0) (ws := [Value.int 0 1880, Value.int (-1) 1882, Value.int (-1) 1884, Value.int (-1) 1886, Value.int 0 1887]) (X 1267 _ (by kernel_rfl)) (.cons (.int _ _) (.cons (.int _ _) (.cons (.int _ _) (.cons (.int _ _) (.cons (.int _ _) (.nil))))))
theorem g__law_plain (hl : ∀ L, (f.env L).kindOf (Str.ofString "_law_plain") = some .globalImplicit) (h : K (.tup [.int 0, .int (-1), .int (-1), .int (-1), .int 0]) ℓ σ) : Ev (cx w) n f (.Name (Str.ofString "_law_plain") pos) ℓ σ K :=
  Ev.glob (v := .ref 1267) hl rfl ((gB w).at 68 rfl) _ v__law_plain h
theorem g__law_take (hl : ∀ L, (f.env L).kindOf (Str.ofString "_law_take") = some .globalImplicit) (h : K (.raw (.ref 1274)) ℓ σ) : Ev (cx w) n f (.Name (Str.ofString "_law_take") pos) ℓ σ K :=
  Ev.glob (v := .ref 1274) hl rfl ((gB w).at 69 rfl) _ (fun _ _ => .raw _) h
theorem g__law_table (hl : ∀ L, (f.env L).kindOf (Str.ofString "_law_table") = some .globalImplicit) (h : K (.raw (.ref 1281)) ℓ σ) : Ev (cx w) n f (.Name (Str.ofString "_law_table") pos) ℓ σ K :=
  Ev.glob (v := .ref 1281) hl rfl ((gB w).at 70 rfl) _ (fun _ _ => .raw _) h
theorem g__law_bare (hl : ∀ L, (f.env L).kindOf (Str.ofString "_law_bare") = some .globalImplicit) (h : K (.raw (.ref 1288)) ℓ σ) : Ev (cx w) n f (.Name (Str.ofString "_law_bare") pos) ℓ σ K :=
  Ev.glob (v := .ref 1288) hl rfl ((gB w).at 71 rfl) _ (fun _ _ => .raw _) h
theorem g__law_cut (hl : ∀ L, (f.env L).kindOf (Str.ofString "_law_cut") = some .globalImplicit) (h : K (.raw (.ref 1295)) ℓ σ) : Ev (cx w) n f (.Name (Str.ofString "_law_cut") pos) ℓ σ K :=
  Ev.glob (v := .ref 1295) hl rfl ((gB w).at 72 rfl) _ (fun _ _ => .raw _) h
theorem g__law_set (hl : ∀ L, (f.env L).kindOf (Str.ofString "_law_set") = some .globalImplicit) (h : K (.raw (.ref 1302)) ℓ σ) : Ev (cx w) n f (.Name (Str.ofString "_law_set") pos) ℓ σ K :=
  Ev.glob (v := .ref 1302) hl rfl ((gB w).at 73 rfl) _ (fun _ _ => .raw _) h
theorem g__law_behind (hl : ∀ L, (f.env L).kindOf (Str.ofString "_law_behind") = some .globalImplicit) (h : K (.raw (.ref 1309)) ℓ σ) : Ev (cx w) n f (.Name (Str.ofString "_law_behind") pos) ℓ σ K :=
  Ev.glob (v := .ref 1309) hl rfl ((gB w).at 74 rfl) _ (fun _ _ => .raw _) h
theorem g__law_next (hl : ∀ L, (f.env L).kindOf (Str.ofString "_law_next") = some .globalImplicit) (h : K (.raw (.ref 1316)) ℓ σ) : Ev (cx w) n f (.Name (Str.ofString "_law_next") pos) ℓ σ K :=
  Ev.glob (v := .ref 1316) hl rfl ((gB w).at 75 rfl) _ (fun _ _ => .raw _) h
theorem g__law_written (hl : ∀ L, (f.env L).kindOf (Str.ofString "_law_written") = some .globalImplicit) (h : K (.raw (.ref 1323)) ℓ σ) : Ev (cx w) n f (.Name (Str.ofString "_law_written") pos) ℓ σ K :=
  Ev.glob (v := .ref 1323) hl rfl ((gB w).at 76 rfl) _ (fun _ _ => .raw _) h
theorem g__law_ahead (hl : ∀ L, (f.env L).kindOf (Str.ofString "_law_ahead") = some .globalImplicit) (h : K (.raw (.ref 1330)) ℓ σ) : Ev (cx w) n f (.Name (Str.ofString "_law_ahead") pos) ℓ σ K :=
  Ev.glob (v := .ref 1330) hl rfl ((gB w).at 77 rfl) _ (fun _ _ => .raw _) h
theorem g__law_belongs (hl : ∀ L, (f.env L).kindOf (Str.ofString "_law_belongs") = some .globalImplicit) (h : K (.raw (.ref 1335)) ℓ σ) : Ev (cx w) n f (.Name (Str.ofString "_law_belongs") pos) ℓ σ K :=
  Ev.glob (v := .ref 1335) hl rfl ((gB w).at 78 rfl) _ (fun _ _ => .raw _) h
theorem g__law_is_wide (hl : ∀ L, (f.env L).kindOf (Str.ofString "_law_is_wide") = some .globalImplicit) (h : K (.raw (.ref 1342)) ℓ σ) : Ev (cx w) n f (.Name (Str.ofString "_law_is_wide") pos) ℓ σ K :=
  Ev.glob (v := .ref 1342) hl rfl ((gB w).at 79 rfl) _ (fun _ _ => .raw _) h
theorem g__law_coded (hl : ∀ L, (f.env L).kindOf (Str.ofString "_law_coded") = some .globalImplicit) (h : K (.raw (.ref 1349)) ℓ σ) : Ev (cx w) n f (.Name (Str.ofString "_law_coded") pos) ℓ σ K :=
  Ev.glob (v := .ref 1349) hl rfl ((gB w).at 80 rfl) _ (fun _ _ => .raw _) h
theorem g__law_again (hl : ∀ L, (f.env L).kindOf (Str.ofString "_law_again") = some .globalImplicit) (h : K (.raw (.ref 1356)) ℓ σ) : Ev (cx w) n f (.Name (Str.ofString "_law_again") pos) ℓ σ K :=
  Ev.glob (v := .ref 1356) hl rfl ((gB w).at 81 rfl) _ (fun _ _ => .raw _) h
theorem g__law_deed (hl : ∀ L, (f.env L).kindOf (Str.ofString "_law_deed") = some .globalImplicit) (h : K (.raw (.ref 1363)) ℓ σ) : Ev (cx w) n f (.Name (Str.ofString "_law_deed") pos) ℓ σ K :=
  Ev.glob (v := .ref 1363) hl rfl ((gB w).at 82 rfl) _ (fun _ _ => .raw _) h
theorem g__law_is_so (hl : ∀ L, (f.env L).kindOf (Str.ofString "_law_is_so") = some .globalImplicit) (h : K (.raw (.ref 1368)) ℓ σ) : Ev (cx w) n f (.Name (Str.ofString "_law_is_so") pos) ℓ σ K :=
  Ev.glob (v := .ref 1368) hl rfl ((gB w).at 83 rfl) _ (fun _ _ => .raw _) h
theorem g__law_shared (hl : ∀ L, (f.env L).kindOf (Str.ofString "_law_shared") = some .globalImplicit) (h : K (.raw (.ref 1375)) ℓ σ) : Ev (cx w) n f (.Name (Str.ofString "_law_shared") pos) ℓ σ K :=
  Ev.glob (v := .ref 1375) hl rfl ((gB w).at 84 rfl) _ (fun _ _ => .raw _) h
theorem g__law_long_row (hl : ∀ L, (f.env L).kindOf (Str.ofString "_law_long_row") = some .globalImplicit) (h : K (.raw (.ref 1382)) ℓ σ) : Ev (cx w) n f (.Name (Str.ofString "_law_long_row") pos) ℓ σ K :=
  Ev.glob (v := .ref 1382) hl rfl ((gB w).at 85 rfl) _ (fun _ _ => .raw _) h
theorem g_law (hl : ∀ L, (f.env L).kindOf (Str.ofString "law") = some .globalImplicit) (h : K (.raw (.ref 1387)) ℓ σ) : Ev (cx w) n f (.Name (Str.ofString "law") pos) ℓ σ K :=
  Ev.glob (v := .ref 1387) hl rfl ((gB w).at 86 rfl) _ (fun _ _ => .raw _) h
theorem g_max (hl : ∀ L, (f.env L).kindOf (Str.ofString "max") = some .globalImplicit) (h : K (.raw (.builtin "max")) ℓ σ) : Ev (cx w) n f (.Name (Str.ofString "max") pos) ℓ σ K :=
  Ev.builtin hl rfl ((gB w).at 87 rfl) (by decide +kernel) (by decide) h
theorem g_min (hl : ∀ L, (f.env L).kindOf (Str.ofString "min") = some .globalImplicit) (h : K (.raw (.builtin "min")) ℓ σ) : Ev (cx w) n f (.Name (Str.ofString "min") pos) ℓ σ K :=
  Ev.builtin hl rfl ((gB w).at 88 rfl) (by decide +kernel) (by decide) h
theorem g_len (hl : ∀ L, (f.env L).kindOf (Str.ofString "len") = some .globalImplicit) (h : K (.raw (.builtin "len")) ℓ σ) : Ev (cx w) n f (.Name (Str.ofString "len") pos) ℓ σ K :=
  Ev.builtin hl rfl ((gB w).at 89 rfl) (by decide +kernel) (by decide) h
theorem g_sum (hl : ∀ L, (f.env L).kindOf (Str.ofString "sum") = some .globalImplicit) (h : K (.raw (.builtin "sum")) ℓ σ) : Ev (cx w) n f (.Name (Str.ofString "sum") pos) ℓ σ K :=
  Ev.builtin hl rfl ((gB w).at 90 rfl) (by decide +kernel) (by decide) h
theorem g_list (hl : ∀ L, (f.env L).kindOf (Str.ofString "list") = some .globalImplicit) (h : K (.raw (.type "list")) ℓ σ) : Ev (cx w) n f (.Name (Str.ofString "list") pos) ℓ σ K :=
  Ev.builtin hl rfl ((gB w).at 91 rfl) (by decide +kernel) (by decide) h
theorem g_tuple (hl : ∀ L, (f.env L).kindOf (Str.ofString "tuple") = some .globalImplicit) (h : K (.raw (.type "tuple")) ℓ σ) : Ev (cx w) n f (.Name (Str.ofString "tuple") pos) ℓ σ K :=
  Ev.builtin hl rfl ((gB w).at 92 rfl) (by decide +kernel) (by decide) h
theorem g_range (hl : ∀ L, (f.env L).kindOf (Str.ofString "range") = some .globalImplicit) (h : K (.raw (.type "range")) ℓ σ) : Ev (cx w) n f (.Name (Str.ofString "range") pos) ℓ σ K :=
  Ev.builtin hl rfl ((gB w).at 93 rfl) (by decide +kernel) (by decide) h
theorem g_int (hl : ∀ L, (f.env L).kindOf (Str.ofString "int") = some .globalImplicit) (h : K (.raw (.type "int")) ℓ σ) : Ev (cx w) n f (.Name (Str.ofString "int") pos) ℓ σ K :=
  Ev.builtin hl rfl ((gB w).at 94 rfl) (by decide +kernel) (by decide) h
theorem g_enumerate (hl : ∀ L, (f.env L).kindOf (Str.ofString "enumerate") = some .globalImplicit) (h : K (.raw (.type "enumerate")) ℓ σ) : Ev (cx w) n f (.Name (Str.ofString "enumerate") pos) ℓ σ K :=
  Ev.builtin hl rfl ((gB w).at 95 rfl) (by decide +kernel) (by decide) h
theorem g_dict (hl : ∀ L, (f.env L).kindOf (Str.ofString "dict") = some .globalImplicit) (h : K (.raw (.type "dict")) ℓ σ) : Ev (cx w) n f (.Name (Str.ofString "dict") pos) ℓ σ K :=
  Ev.builtin hl rfl ((gB w).at 96 rfl) (by decide +kernel) (by decide) h
end
end Mine
end
section
open PySem PySem.W PySem.Calls PyProof.Rows
set_option Elab.async false
set_option linter.unusedVariables false
set_option maxRecDepth 100000
namespace Mine
noncomputable def cBL (w : WX) : List (Bool × Bool) := [(plainGet (cx w).K 320 (Str.ofString "left"), true), (hasDictIn (cx w).K 320, true), (plainGet (cx w).K 320 (Str.ofString "made"), true), (plainGet (cx w).K 320 (Str.ofString "names"), true), (plainGet (cx w).K 320 (Str.ofString "right"), true), (plainGet (cx w).K 320 (Str.ofString "shift"), true), (plainGet (cx w).K 376 (Str.ofString "column"), true), (hasDictIn (cx w).K 376, true), (plainGet (cx w).K 376 (Str.ofString "is_guarding"), true), (plainGet (cx w).K 376 (Str.ofString "is_origin"), true), (plainGet (cx w).K 376 (Str.ofString "is_waiting"), true), (plainGet (cx w).K 376 (Str.ofString "pen"), true), (plainGet (cx w).K 376 (Str.ofString "row"), true), (plainGet (cx w).K 922 (Str.ofString "columns"), true), (hasDictIn (cx w).K 922, true), (plainGet (cx w).K 922 (Str.ofString "lines"), true), (plainGet (cx w).K 922 (Str.ofString "rows"), true), (plainGet (cx w).K 773 (Str.ofString "cells"), true), (hasDictIn (cx w).K 773, true), (plainGet (cx w).K 773 (Str.ofString "is_wrapped"), true), (plainGet (cx w).K 773 (Str.ofString "size"), true), (plainGet (cx w).K 509 (Str.ofString "bottom"), true), (hasDictIn (cx w).K 509, true), (plainGet (cx w).K 509 (Str.ofString "columns"), true), (plainGet (cx w).K 509 (Str.ofString "left"), true), (plainGet (cx w).K 509 (Str.ofString "right"), true), (plainGet (cx w).K 509 (Str.ofString "rows"), true), (plainGet (cx w).K 509 (Str.ofString "top"), true), (plainGet (cx w).K 1258 (Str.ofString "states"), true), (hasDictIn (cx w).K 1258, true), (plainGet (cx w).K 1213 (Str.ofString "charsets"), true), (hasDictIn (cx w).K 1213, true), (plainGet (cx w).K 1213 (Str.ofString "columns"), true), (plainGet (cx w).K 1213 (Str.ofString "cursor"), true), (plainGet (cx w).K 1213 (Str.ofString "grid"), true), (plainGet (cx w).K 1213 (Str.ofString "has_right"), true), (plainGet (cx w).K 1213 (Str.ofString "history"), true), (plainGet (cx w).K 1213 (Str.ofString "last"), true), (plainGet (cx w).K 1213 (Str.ofString "margins"), true), (plainGet (cx w).K 1213 (Str.ofString "modes"), true), (plainGet (cx w).K 1213 (Str.ofString "rows"), true), (plainGet (cx w).K 1213 (Str.ofString "widths"), true), (plainGet (cx w).K 608 (Str.ofString "columns"), true), (hasDictIn (cx w).K 608, true), (plainGet (cx w).K 608 (Str.ofString "stops"), true), (plainGet (cx w).K 144 (Str.ofString "joiners"), true), (hasDictIn (cx w).K 144, true), (plainGet (cx w).K 144 (Str.ofString "marks"), true), (plainGet (cx w).K 144 (Str.ofString "wide"), true), (keepIn (cx w).K (.ref 310), true), (plainGet (cx w).K 320 (Str.ofString "mapped"), true), (isFn (cx w).K (.ref 310), true), (keepIn (cx w).K (.ref 260), true), (plainGet (cx w).K 320 (Str.ofString "reset"), true), (isFn (cx w).K (.ref 260), true), (keepIn (cx w).K (.ref 253), true), (plainGet (cx w).K 320 (Str.ofString "table"), true), (isFn (cx w).K (.ref 253), true), (keepIn (cx w).K (.ref 815), true), (plainGet (cx w).K 922 (Str.ofString "fresh"), true), (isFn (cx w).K (.ref 815), true), (keepIn (cx w).K (.ref 810), true), (plainGet (cx w).K 922 (Str.ofString "is_wide"), true), (isFn (cx w).K (.ref 810), true), (keepIn (cx w).K (.ref 796), true), (plainGet (cx w).K 922 (Str.ofString "line"), true), (isFn (cx w).K (.ref 796), true), (keepIn (cx w).K (.ref 822), true), (plainGet (cx w).K 922 (Str.ofString "part_above"), true), (isFn (cx w).K (.ref 822), true), (keepIn (cx w).K (.ref 829), true), (plainGet (cx w).K 922 (Str.ofString "scroll_up"), true), (isFn (cx w).K (.ref 829), true), (keepIn (cx w).K (.ref 720), true), (plainGet (cx w).K 773 (Str.ofString "insert"), true), (isFn (cx w).K (.ref 720), true), (keepIn (cx w).K (.ref 684), true), (plainGet (cx w).K 773 (Str.ofString "part"), true), (isFn (cx w).K (.ref 684), true), (keepIn (cx w).K (.ref 691), true), (plainGet (cx w).K 773 (Str.ofString "put"), true), (isFn (cx w).K (.ref 691), true), (keepIn (cx w).K (.ref 713), true), (plainGet (cx w).K 773 (Str.ofString "shift"), true), (isFn (cx w).K (.ref 713), true), (keepIn (cx w).K (.ref 436), true), (plainGet (cx w).K 509 (Str.ofString "area"), true), (isFn (cx w).K (.ref 436), true), (keepIn (cx w).K (.ref 1248), true), (plainGet (cx w).K 1258 (Str.ofString "is_on"), true), (isFn (cx w).K (.ref 1248), true), (keepIn (cx w).K (.ref 1255), true), (plainGet (cx w).K 1258 (Str.ofString "set"), true), (isFn (cx w).K (.ref 1255), true), (keepIn (cx w).K (.ref 1054), true), (plainGet (cx w).K 1213 (Str.ofString "advance"), true), (isFn (cx w).K (.ref 1054), true), (keepIn (cx w).K (.ref 1110), true), (plainGet (cx w).K 1213 (Str.ofString "carriage_return"), true), (isFn (cx w).K (.ref 1110), true), (keepIn (cx w).K (.ref 1089), true), (plainGet (cx w).K 1213 (Str.ofString "index"), true), (isFn (cx w).K (.ref 1089), true), (keepIn (cx w).K (.ref 991), true), (plainGet (cx w).K 1213 (Str.ofString "is_between_sides"), true), (isFn (cx w).K (.ref 991), true), (keepIn (cx w).K (.ref 1026), true), (plainGet (cx w).K 1213 (Str.ofString "is_joined"), true), (isFn (cx w).K (.ref 1026), true), (keepIn (cx w).K (.ref 1040), true), (plainGet (cx w).K 1213 (Str.ofString "is_narrow"), true), (isFn (cx w).K (.ref 1040), true), (keepIn (cx w).K (.ref 1033), true), (plainGet (cx w).K 1213 (Str.ofString "join"), true), (isFn (cx w).K (.ref 1033), true), (keepIn (cx w).K (.ref 1103), true), (plainGet (cx w).K 1213 (Str.ofString "keep_within_line"), true), (isFn (cx w).K (.ref 1103), true), (keepIn (cx w).K (.ref 984), true), (plainGet (cx w).K 1213 (Str.ofString "left_bound"), true), (isFn (cx w).K (.ref 984), true), (keepIn (cx w).K (.ref 963), true), (plainGet (cx w).K 1213 (Str.ofString "line"), true), (isFn (cx w).K (.ref 963), true), (keepIn (cx w).K (.ref 1117), true), (plainGet (cx w).K 1213 (Str.ofString "next_line"), true), (isFn (cx w).K (.ref 1117), true), (keepIn (cx w).K (.ref 1005), true), (plainGet (cx w).K 1213 (Str.ofString "place"), true), (isFn (cx w).K (.ref 1005), true), (keepIn (cx w).K (.ref 1019), true), (plainGet (cx w).K 1213 (Str.ofString "place_ahead"), true), (isFn (cx w).K (.ref 1019), true), (keepIn (cx w).K (.ref 1012), true), (plainGet (cx w).K 1213 (Str.ofString "put_code"), true), (isFn (cx w).K (.ref 1012), true), (keepIn (cx w).K (.ref 1047), true), (plainGet (cx w).K 1213 (Str.ofString "put_sign"), true), (isFn (cx w).K (.ref 1047), true), (keepIn (cx w).K (.ref 1068), true), (plainGet (cx w).K 1213 (Str.ofString "repeat"), true), (isFn (cx w).K (.ref 1068), true), (keepIn (cx w).K (.ref 977), true), (plainGet (cx w).K 1213 (Str.ofString "right_bound"), true), (isFn (cx w).K (.ref 977), true), (keepIn (cx w).K (.ref 1075), true), (plainGet (cx w).K 1213 (Str.ofString "scroll_up"), true), (isFn (cx w).K (.ref 1075), true), (keepIn (cx w).K (.ref 970), true), (plainGet (cx w).K 1213 (Str.ofString "width_of_line"), true), (isFn (cx w).K (.ref 970), true), (keepIn (cx w).K (.ref 1061), true), (plainGet (cx w).K 1213 (Str.ofString "wrap"), true), (isFn (cx w).K (.ref 1061), true), (keepIn (cx w).K (.ref 534), true), (plainGet (cx w).K 608 (Str.ofString "put_eighths"), true), (isFn (cx w).K (.ref 534), true), (keepIn (cx w).K (.ref 141), true), (plainGet (cx w).K 144 (Str.ofString "is_picture"), true), (isFn (cx w).K (.ref 141), true), (keepIn (cx w).K (.ref 134), true), (plainGet (cx w).K 144 (Str.ofString "width_of"), true), (isFn (cx w).K (.ref 134), true)]
theorem cB (w : WX) : AllEq (cBL w) := .cons (by kernel_rfl) (.cons (by kernel_rfl) (.cons (by kernel_rfl) (.cons (by kernel_rfl) (.cons (by kernel_rfl) (.cons (by kernel_rfl) (.cons (by kernel_rfl) (.cons (by kernel_rfl) (.cons (by kernel_rfl) (.cons (by kernel_rfl) (.cons (by kernel_rfl) (.cons (by kernel_rfl) (.cons (by kernel_rfl) (.cons (by kernel_rfl) (.cons (by kernel_rfl) (.cons (by kernel_rfl) (.cons (by kernel_rfl) (.cons (by kernel_rfl) (.cons (by kernel_rfl) (.cons (by kernel_rfl) (.cons (by kernel_rfl) (.cons (by kernel_rfl) (.cons (by kernel_rfl) (.cons (by kernel_rfl) (.cons (by kernel_rfl) (.cons (by kernel_rfl) (.cons (by kernel_rfl) (.cons (by kernel_rfl) (.cons (by kernel_rfl) (.cons (by kernel_rfl) (.cons (by kernel_rfl) (.cons (by kernel_rfl) (.cons (by kernel_rfl) (.cons (by kernel_rfl) (.cons (by kernel_rfl) (.cons (by kernel_rfl) (.cons (by kernel_rfl) (.cons (by kernel_rfl) (.cons (by kernel_rfl) (.cons (by kernel_rfl) (.cons (by kernel_rfl) (.cons (by kernel_rfl) (.cons (by kernel_rfl) (.cons (by kernel_rfl) (.cons (by kernel_rfl) (.cons (by kernel_rfl) (.cons (by kernel_rfl) (.cons (by kernel_rfl) (.cons (by kernel_rfl) (.cons (by kernel_rfl) (.cons (by kernel_rfl) (.cons (by kernel_rfl) (.cons (by kernel_rfl) (.cons (by kernel_rfl) (.cons (by kernel_rfl) (.cons (by kernel_rfl) (.cons (by kernel_rfl) (.cons (by kernel_rfl) (.cons (by kernel_rfl) (.cons (by kernel_rfl) (.cons (by kernel_rfl) (.cons (by kernel_rfl) (.cons (by kernel_rfl) (.cons (by kernel_rfl) (.cons (by kernel_rfl) (.cons (by kernel_rfl) (.cons (by kernel_rfl) (.cons (by kernel_rfl) (.cons (by kernel_rfl) (.cons (by kernel_rfl) (.cons (by kernel_rfl) (.cons (by kernel_rfl) (.cons (by kernel_rfl) (.cons (by kernel_rfl) (.cons (by kernel_rfl) (.cons (by kernel_rfl) (.cons (by kernel_rfl) (.cons (by kernel_rfl) (.cons (by kernel_rfl) (.cons (by kernel_rfl) (.cons (by kernel_rfl) (.cons (by kernel_rfl) (.cons (by kernel_rfl) (.cons (by kernel_rfl) (.cons (by kernel_rfl) (.cons (by kernel_rfl) (.cons (by kernel_rfl) (.cons (by kernel_rfl) (.cons (by kernel_rfl) (.cons (by kernel_rfl) (.cons (by kernel_rfl) (.cons (by kernel_rfl) (.cons (by kernel_rfl) (.cons (by kernel_rfl) (.cons (by kernel_rfl) (.cons (by kernel_rfl) (.cons (by kernel_rfl) (.cons (by kernel_rfl) (.cons (by kernel_rfl) (.cons (by kernel_rfl) (.cons (by kernel_rfl) (.cons (by kernel_rfl) (.cons (by kernel_rfl) (.cons (by kernel_rfl) (.cons (by kernel_rfl) (.cons (by kernel_rfl) (.cons (by kernel_rfl) (.cons (by kernel_rfl) (.cons (by kernel_rfl) (.cons (by kernel_rfl) (.cons (by kernel_rfl) (.cons (by kernel_rfl) (.cons (by kernel_rfl) (.cons (by kernel_rfl) (.cons (by kernel_rfl) (.cons (by kernel_rfl) (.cons (by kernel_rfl) (.cons (by kernel_rfl) (.cons (by kernel_rfl) (.cons (by kernel_rfl) (.cons (by kernel_rfl) (.cons (by kernel_rfl) (.cons (by kernel_rfl) (.cons (by kernel_rfl) (.cons (by kernel_rfl) (.cons (by kernel_rfl) (.cons (by kernel_rfl) (.cons (by kernel_rfl) (.cons (by kernel_rfl) (.cons (by kernel_rfl) (.cons (by kernel_rfl) (.cons (by kernel_rfl) (.cons (by kernel_rfl) (.cons (by kernel_rfl) (.cons (by kernel_rfl) (.cons (by kernel_rfl) (.cons (by kernel_rfl) (.cons (by kernel_rfl) (.cons (by kernel_rfl) (.cons (by kernel_rfl) (.cons (by kernel_rfl) (.cons (by kernel_rfl) (.cons (by kernel_rfl) (.cons (by kernel_rfl) (.cons (by kernel_rfl) (.cons (by kernel_rfl) (.cons (by kernel_rfl) (.cons (by kernel_rfl) (.cons (by kernel_rfl) (.cons (by kernel_rfl) (.cons (by kernel_rfl) (.cons (by kernel_rfl) (.cons (by kernel_rfl) (.cons (by kernel_rfl) (.cons (by kernel_rfl) (.cons (by kernel_rfl) (.cons (by kernel_rfl) (.cons (by kernel_rfl) (.cons (by kernel_rfl) (.cons (by kernel_rfl) (.cons (by kernel_rfl) (.cons (by kernel_rfl) (.cons (by kernel_rfl) (.nil)))))))))))))))))))))))))))))))))))))))))))))))))))))))))))))))))))))))))))))))))))))))))))))))))))))))))))))))))))))))))))))))))))))))))))))))))))))))))))))))))))
noncomputable def cOL (w : WX) : List (Option (Option Value) × Option (Option Value)) := [(findIn (cx w).K (.ref 320) (Str.ofString "left"), some none), (findIn (cx w).K (.ref 320) (Str.ofString "made"), some none), (findIn (cx w).K (.ref 320) (Str.ofString "names"), some none), (findIn (cx w).K (.ref 320) (Str.ofString "right"), some none), (findIn (cx w).K (.ref 320) (Str.ofString "shift"), some none), (findIn (cx w).K (.ref 376) (Str.ofString "column"), some none), (findIn (cx w).K (.ref 376) (Str.ofString "is_guarding"), some none), (findIn (cx w).K (.ref 376) (Str.ofString "is_origin"), some none), (findIn (cx w).K (.ref 376) (Str.ofString "is_waiting"), some none), (findIn (cx w).K (.ref 376) (Str.ofString "pen"), some none), (findIn (cx w).K (.ref 376) (Str.ofString "row"), some none), (findIn (cx w).K (.ref 922) (Str.ofString "columns"), some none), (findIn (cx w).K (.ref 922) (Str.ofString "lines"), some none), (findIn (cx w).K (.ref 922) (Str.ofString "rows"), some none), (findIn (cx w).K (.ref 773) (Str.ofString "cells"), some none), (findIn (cx w).K (.ref 773) (Str.ofString "is_wrapped"), some none), (findIn (cx w).K (.ref 773) (Str.ofString "size"), some none), (findIn (cx w).K (.ref 509) (Str.ofString "bottom"), some none), (findIn (cx w).K (.ref 509) (Str.ofString "columns"), some none), (findIn (cx w).K (.ref 509) (Str.ofString "left"), some none), (findIn (cx w).K (.ref 509) (Str.ofString "right"), some none), (findIn (cx w).K (.ref 509) (Str.ofString "rows"), some none), (findIn (cx w).K (.ref 509) (Str.ofString "top"), some none), (findIn (cx w).K (.ref 1258) (Str.ofString "states"), some none), (findIn (cx w).K (.ref 1213) (Str.ofString "charsets"), some none), (findIn (cx w).K (.ref 1213) (Str.ofString "columns"), some none), (findIn (cx w).K (.ref 1213) (Str.ofString "cursor"), some none), (findIn (cx w).K (.ref 1213) (Str.ofString "grid"), some none), (findIn (cx w).K (.ref 1213) (Str.ofString "has_right"), some none), (findIn (cx w).K (.ref 1213) (Str.ofString "history"), some none), (findIn (cx w).K (.ref 1213) (Str.ofString "last"), some none), (findIn (cx w).K (.ref 1213) (Str.ofString "margins"), some none), (findIn (cx w).K (.ref 1213) (Str.ofString "modes"), some none), (findIn (cx w).K (.ref 1213) (Str.ofString "rows"), some none), (findIn (cx w).K (.ref 1213) (Str.ofString "widths"), some none), (findIn (cx w).K (.ref 608) (Str.ofString "columns"), some none), (findIn (cx w).K (.ref 608) (Str.ofString "stops"), some none), (findIn (cx w).K (.ref 144) (Str.ofString "joiners"), some none), (findIn (cx w).K (.ref 144) (Str.ofString "marks"), some none), (findIn (cx w).K (.ref 144) (Str.ofString "wide"), some none), (takerIn (cx w).K 144 (Str.ofString "wide"), some none), (takerIn (cx w).K 144 (Str.ofString "marks"), some none), (takerIn (cx w).K 144 (Str.ofString "joiners"), some none), (takerIn (cx w).K 320 (Str.ofString "made"), some none), (takerIn (cx w).K 320 (Str.ofString "names"), some none), (takerIn (cx w).K 320 (Str.ofString "left"), some none), (takerIn (cx w).K 320 (Str.ofString "right"), some none), (takerIn (cx w).K 320 (Str.ofString "shift"), some none), (takerIn (cx w).K 376 (Str.ofString "row"), some none), (takerIn (cx w).K 376 (Str.ofString "column"), some none), (takerIn (cx w).K 376 (Str.ofString "is_waiting"), some none), (takerIn (cx w).K 376 (Str.ofString "pen"), some none), (takerIn (cx w).K 376 (Str.ofString "is_origin"), some none), (takerIn (cx w).K 376 (Str.ofString "is_guarding"), some none), (takerIn (cx w).K 509 (Str.ofString "rows"), some none), (takerIn (cx w).K 509 (Str.ofString "columns"), some none), (takerIn (cx w).K 509 (Str.ofString "top"), some none), (takerIn (cx w).K 509 (Str.ofString "bottom"), some none), (takerIn (cx w).K 509 (Str.ofString "left"), some none), (takerIn (cx w).K 509 (Str.ofString "right"), some none), (takerIn (cx w).K 608 (Str.ofString "columns"), some none), (takerIn (cx w).K 608 (Str.ofString "stops"), some none), (takerIn (cx w).K 773 (Str.ofString "cells"), some none), (takerIn (cx w).K 773 (Str.ofString "is_wrapped"), some none), (takerIn (cx w).K 773 (Str.ofString "size"), some none), (takerIn (cx w).K 922 (Str.ofString "rows"), some none), (takerIn (cx w).K 922 (Str.ofString "columns"), some none), (takerIn (cx w).K 922 (Str.ofString "lines"), some none), (takerIn (cx w).K 1213 (Str.ofString "rows"), some none), (takerIn (cx w).K 1213 (Str.ofString "columns"), some none), (takerIn (cx w).K 1213 (Str.ofString "modes"), some none), (takerIn (cx w).K 1213 (Str.ofString "widths"), some none), (takerIn (cx w).K 1213 (Str.ofString "history"), some none), (takerIn (cx w).K 1213 (Str.ofString "grid"), some none), (takerIn (cx w).K 1213 (Str.ofString "cursor"), some none), (takerIn (cx w).K 1213 (Str.ofString "margins"), some none), (takerIn (cx w).K 1213 (Str.ofString "tabs"), some none), (takerIn (cx w).K 1213 (Str.ofString "charsets"), some none), (takerIn (cx w).K 1213 (Str.ofString "saved"), some none), (takerIn (cx w).K 1213 (Str.ofString "last"), some none), (takerIn (cx w).K 1213 (Str.ofString "has_right"), some none), (takerIn (cx w).K 1258 (Str.ofString "states"), some none), (takerIn (cx w).K 1258 (Str.ofString "kept"), some none), (findIn (cx w).K (.ref 320) (Str.ofString "mapped"), some (some (.ref 310))), (findIn (cx w).K (.ref 320) (Str.ofString "reset"), some (some (.ref 260))), (findIn (cx w).K (.ref 320) (Str.ofString "table"), some (some (.ref 253))), (findIn (cx w).K (.ref 922) (Str.ofString "fresh"), some (some (.ref 815))), (findIn (cx w).K (.ref 922) (Str.ofString "is_wide"), some (some (.ref 810))), (findIn (cx w).K (.ref 922) (Str.ofString "line"), some (some (.ref 796))), (findIn (cx w).K (.ref 922) (Str.ofString "part_above"), some (some (.ref 822))), (findIn (cx w).K (.ref 922) (Str.ofString "scroll_up"), some (some (.ref 829))), (findIn (cx w).K (.ref 773) (Str.ofString "insert"), some (some (.ref 720))), (findIn (cx w).K (.ref 773) (Str.ofString "part"), some (some (.ref 684))), (findIn (cx w).K (.ref 773) (Str.ofString "put"), some (some (.ref 691))), (findIn (cx w).K (.ref 773) (Str.ofString "shift"), some (some (.ref 713))), (findIn (cx w).K (.ref 509) (Str.ofString "area"), some (some (.ref 436))), (findIn (cx w).K (.ref 1258) (Str.ofString "is_on"), some (some (.ref 1248))), (findIn (cx w).K (.ref 1258) (Str.ofString "set"), some (some (.ref 1255))), (findIn (cx w).K (.ref 1213) (Str.ofString "advance"), some (some (.ref 1054))), (findIn (cx w).K (.ref 1213) (Str.ofString "carriage_return"), some (some (.ref 1110))), (findIn (cx w).K (.ref 1213) (Str.ofString "index"), some (some (.ref 1089))), (findIn (cx w).K (.ref 1213) (Str.ofString "is_between_sides"), some (some (.ref 991))), (findIn (cx w).K (.ref 1213) (Str.ofString "is_joined"), some (some (.ref 1026))), (findIn (cx w).K (.ref 1213) (Str.ofString "is_narrow"), some (some (.ref 1040))), (findIn (cx w).K (.ref 1213) (Str.ofString "join"), some (some (.ref 1033))), (findIn (cx w).K (.ref 1213) (Str.ofString "keep_within_line"), some (some (.ref 1103))), (findIn (cx w).K (.ref 1213) (Str.ofString "left_bound"), some (some (.ref 984))), (findIn (cx w).K (.ref 1213) (Str.ofString "line"), some (some (.ref 963))), (findIn (cx w).K (.ref 1213) (Str.ofString "next_line"), some (some (.ref 1117))), (findIn (cx w).K (.ref 1213) (Str.ofString "place"), some (some (.ref 1005))), (findIn (cx w).K (.ref 1213) (Str.ofString "place_ahead"), some (some (.ref 1019))), (findIn (cx w).K (.ref 1213) (Str.ofString "put_code"), some (some (.ref 1012))), (findIn (cx w).K (.ref 1213) (Str.ofString "put_sign"), some (some (.ref 1047))), (findIn (cx w).K (.ref 1213) (Str.ofString "repeat"), some (some (.ref 1068))), (findIn (cx w).K (.ref 1213) (Str.ofString "right_bound"), some (some (.ref 977))), (findIn (cx w).K (.ref 1213) (Str.ofString "scroll_up"), some (some (.ref 1075))), (findIn (cx w).K (.ref 1213) (Str.ofString "width_of_line"), some (some (.ref 970))), (findIn (cx w).K (.ref 1213) (Str.ofString "wrap"), some (some (.ref 1061))), (findIn (cx w).K (.ref 608) (Str.ofString "put_eighths"), some (some (.ref 534))), (findIn (cx w).K (.ref 144) (Str.ofString "is_picture"), some (some (.ref 141))), (findIn (cx w).K (.ref 144) (Str.ofString "width_of"), some (some (.ref 134)))]
theorem cO (w : WX) : AllEq (cOL w) := .cons (by kernel_rfl) (.cons (by kernel_rfl) (.cons (by kernel_rfl) (.cons (by kernel_rfl) (.cons (by kernel_rfl) (.cons (by kernel_rfl) (.cons (by kernel_rfl) (.cons (by kernel_rfl) (.cons (by kernel_rfl) (.cons (by kernel_rfl) (.cons (by kernel_rfl) (.cons (by kernel_rfl) (.cons (by kernel_rfl) (.cons (by kernel_rfl) (.cons (by kernel_rfl) (.cons (by kernel_rfl) (.cons (by kernel_rfl) (.cons (by kernel_rfl) (.cons (by kernel_rfl) (.cons (by kernel_rfl) (.cons (by kernel_rfl) (.cons (by kernel_rfl) (.cons (by kernel_rfl) (.cons (by kernel_rfl) (.cons (by kernel_rfl) (.cons (by kernel_rfl) (.cons (by kernel_rfl) (.cons (by kernel_rfl) (.cons (by kernel_rfl) (.cons (by kernel_rfl) (.cons (by kernel_rfl) (.cons (by kernel_rfl) (.cons (by kernel_rfl) (.cons (by kernel_rfl) (.cons (by kernel_rfl) (.cons (by kernel_rfl) (.cons (by kernel_rfl) (.cons (by kernel_rfl) (.cons (by kernel_rfl) (.cons (by kernel_rfl) (.cons (by kernel_rfl) (.cons (by kernel_rfl) (.cons (by kernel_rfl) (.cons (by kernel_rfl) (.cons (by kernel_rfl) (.cons (by kernel_rfl) (.cons (by kernel_rfl) (.cons (by kernel_rfl) (.cons (by kernel_rfl) (.cons (by kernel_rfl) (.cons (by kernel_rfl) (.cons (by kernel_rfl) (.cons (by kernel_rfl) (.cons (by kernel_rfl) (.cons (by kernel_rfl) (.cons (by kernel_rfl) (.cons (by kernel_rfl) (.cons (by kernel_rfl) (.cons (by kernel_rfl) (.cons (by kernel_rfl) (.cons (by kernel_rfl) (.cons (by kernel_rfl) (.cons (by kernel_rfl) (.cons (by kernel_rfl) (.cons (by kernel_rfl) (.cons (by kernel_rfl) (.cons (by kernel_rfl) (.cons (by kernel_rfl) (.cons (by kernel_rfl) (.cons (by kernel_rfl) (.cons (by kernel_rfl) (.cons (by kernel_rfl) (.cons (by kernel_rfl) (.cons (by kernel_rfl) (.cons (by kernel_rfl) (.cons (by kernel_rfl) (.cons (by kernel_rfl) (.cons (by kernel_rfl) (.cons (by kernel_rfl) (.cons (by kernel_rfl) (.cons (by kernel_rfl) (.cons (by kernel_rfl) (.cons (by kernel_rfl) (.cons (by kernel_rfl) (.cons (by kernel_rfl) (.cons (by kernel_rfl) (.cons (by kernel_rfl) (.cons (by kernel_rfl) (.cons (by kernel_rfl) (.cons (by kernel_rfl) (.cons (by kernel_rfl) (.cons (by kernel_rfl) (.cons (by kernel_rfl) (.cons (by kernel_rfl) (.cons (by kernel_rfl) (.cons (by kernel_rfl) (.cons (by kernel_rfl) (.cons (by kernel_rfl) (.cons (by kernel_rfl) (.cons (by kernel_rfl) (.cons (by kernel_rfl) (.cons (by kernel_rfl) (.cons (by kernel_rfl) (.cons (by kernel_rfl) (.cons (by kernel_rfl) (.cons (by kernel_rfl) (.cons (by kernel_rfl) (.cons (by kernel_rfl) (.cons (by kernel_rfl) (.cons (by kernel_rfl) (.cons (by kernel_rfl) (.cons (by kernel_rfl) (.cons (by kernel_rfl) (.cons (by kernel_rfl) (.cons (by kernel_rfl) (.cons (by kernel_rfl) (.cons (by kernel_rfl) (.cons (by kernel_rfl) (.cons (by kernel_rfl) (.cons (by kernel_rfl) (.cons (by kernel_rfl) (.nil)))))))))))))))))))))))))))))))))))))))))))))))))))))))))))))))))))))))))))))))))))))))))))))))))))))))))))))))))))))))))
section
variable {w : WX} {n : Nat} {f : Fe} {ℓ : Loc} {σ : AH} {a dx : Addr} {fs : List (Str × AV)}

theorem f_Charsets_left {v : AV} {K : AV → Loc → AH → Prop} (ha : σ a = some (.inst 320 dx fs)) (hv : look (Str.ofString "left") fs = some v) (hp : v.plain = true) (h : K v ℓ σ) : O1 (cx w) n (fun y => getAttr y (Str.ofString "left") true) (.ref a) ℓ σ K :=
  O1.field (at' := none) ha hv ((cB w).at 0 rfl) ((cB w).at 1 rfl) ((cO w).at 0 rfl) rfl hp h
theorem f_Charsets_made {v : AV} {K : AV → Loc → AH → Prop} (ha : σ a = some (.inst 320 dx fs)) (hv : look (Str.ofString "made") fs = some v) (hp : v.plain = true) (h : K v ℓ σ) : O1 (cx w) n (fun y => getAttr y (Str.ofString "made") true) (.ref a) ℓ σ K :=
  O1.field (at' := none) ha hv ((cB w).at 2 rfl) ((cB w).at 1 rfl) ((cO w).at 1 rfl) rfl hp h
theorem f_Charsets_names {v : AV} {K : AV → Loc → AH → Prop} (ha : σ a = some (.inst 320 dx fs)) (hv : look (Str.ofString "names") fs = some v) (hp : v.plain = true) (h : K v ℓ σ) : O1 (cx w) n (fun y => getAttr y (Str.ofString "names") true) (.ref a) ℓ σ K :=
  O1.field (at' := none) ha hv ((cB w).at 3 rfl) ((cB w).at 1 rfl) ((cO w).at 2 rfl) rfl hp h
theorem f_Charsets_right {v : AV} {K : AV → Loc → AH → Prop} (ha : σ a = some (.inst 320 dx fs)) (hv : look (Str.ofString "right") fs = some v) (hp : v.plain = true) (h : K v ℓ σ) : O1 (cx w) n (fun y => getAttr y (Str.ofString "right") true) (.ref a) ℓ σ K :=
  O1.field (at' := none) ha hv ((cB w).at 4 rfl) ((cB w).at 1 rfl) ((cO w).at 3 rfl) rfl hp h
theorem f_Charsets_shift {v : AV} {K : AV → Loc → AH → Prop} (ha : σ a = some (.inst 320 dx fs)) (hv : look (Str.ofString "shift") fs = some v) (hp : v.plain = true) (h : K v ℓ σ) : O1 (cx w) n (fun y => getAttr y (Str.ofString "shift") true) (.ref a) ℓ σ K :=
  O1.field (at' := none) ha hv ((cB w).at 5 rfl) ((cB w).at 1 rfl) ((cO w).at 4 rfl) rfl hp h
theorem f_Cursor_column {v : AV} {K : AV → Loc → AH → Prop} (ha : σ a = some (.inst 376 dx fs)) (hv : look (Str.ofString "column") fs = some v) (hp : v.plain = true) (h : K v ℓ σ) : O1 (cx w) n (fun y => getAttr y (Str.ofString "column") true) (.ref a) ℓ σ K :=
  O1.field (at' := none) ha hv ((cB w).at 6 rfl) ((cB w).at 7 rfl) ((cO w).at 5 rfl) rfl hp h
theorem f_Cursor_is_guarding {v : AV} {K : AV → Loc → AH → Prop} (ha : σ a = some (.inst 376 dx fs)) (hv : look (Str.ofString "is_guarding") fs = some v) (hp : v.plain = true) (h : K v ℓ σ) : O1 (cx w) n (fun y => getAttr y (Str.ofString "is_guarding") true) (.ref a) ℓ σ K :=
  O1.field (at' := none) ha hv ((cB w).at 8 rfl) ((cB w).at 7 rfl) ((cO w).at 6 rfl) rfl hp h
theorem f_Cursor_is_origin {v : AV} {K : AV → Loc → AH → Prop} (ha : σ a = some (.inst 376 dx fs)) (hv : look (Str.ofString "is_origin") fs = some v) (hp : v.plain = true) (h : K v ℓ σ) : O1 (cx w) n (fun y => getAttr y (Str.ofString "is_origin") true) (.ref a) ℓ σ K :=
  O1.field (at' := none) ha hv ((cB w).at 9 rfl) ((cB w).at 7 rfl) ((cO w).at 7 rfl) rfl hp h
theorem f_Cursor_is_waiting {v : AV} {K : AV → Loc → AH → Prop} (ha : σ a = some (.inst 376 dx fs)) (hv : look (Str.ofString "is_waiting") fs = some v) (hp : v.plain = true) (h : K v ℓ σ) : O1 (cx w) n (fun y => getAttr y (Str.ofString "is_waiting") true) (.ref a) ℓ σ K :=
  O1.field (at' := none) ha hv ((cB w).at 10 rfl) ((cB w).at 7 rfl) ((cO w).at 8 rfl) rfl hp h
theorem f_Cursor_pen {v : AV} {K : AV → Loc → AH → Prop} (ha : σ a = some (.inst 376 dx fs)) (hv : look (Str.ofString "pen") fs = some v) (hp : v.plain = true) (h : K v ℓ σ) : O1 (cx w) n (fun y => getAttr y (Str.ofString "pen") true) (.ref a) ℓ σ K :=
  O1.field (at' := none) ha hv ((cB w).at 11 rfl) ((cB w).at 7 rfl) ((cO w).at 9 rfl) rfl hp h
theorem f_Cursor_row {v : AV} {K : AV → Loc → AH → Prop} (ha : σ a = some (.inst 376 dx fs)) (hv : look (Str.ofString "row") fs = some v) (hp : v.plain = true) (h : K v ℓ σ) : O1 (cx w) n (fun y => getAttr y (Str.ofString "row") true) (.ref a) ℓ σ K :=
  O1.field (at' := none) ha hv ((cB w).at 12 rfl) ((cB w).at 7 rfl) ((cO w).at 10 rfl) rfl hp h
theorem f_Grid_columns {v : AV} {K : AV → Loc → AH → Prop} (ha : σ a = some (.inst 922 dx fs)) (hv : look (Str.ofString "columns") fs = some v) (hp : v.plain = true) (h : K v ℓ σ) : O1 (cx w) n (fun y => getAttr y (Str.ofString "columns") true) (.ref a) ℓ σ K :=
  O1.field (at' := none) ha hv ((cB w).at 13 rfl) ((cB w).at 14 rfl) ((cO w).at 11 rfl) rfl hp h
theorem f_Grid_lines {v : AV} {K : AV → Loc → AH → Prop} (ha : σ a = some (.inst 922 dx fs)) (hv : look (Str.ofString "lines") fs = some v) (hp : v.plain = true) (h : K v ℓ σ) : O1 (cx w) n (fun y => getAttr y (Str.ofString "lines") true) (.ref a) ℓ σ K :=
  O1.field (at' := none) ha hv ((cB w).at 15 rfl) ((cB w).at 14 rfl) ((cO w).at 12 rfl) rfl hp h
theorem f_Grid_rows {v : AV} {K : AV → Loc → AH → Prop} (ha : σ a = some (.inst 922 dx fs)) (hv : look (Str.ofString "rows") fs = some v) (hp : v.plain = true) (h : K v ℓ σ) : O1 (cx w) n (fun y => getAttr y (Str.ofString "rows") true) (.ref a) ℓ σ K :=
  O1.field (at' := none) ha hv ((cB w).at 16 rfl) ((cB w).at 14 rfl) ((cO w).at 13 rfl) rfl hp h
theorem f_Line_cells {v : AV} {K : AV → Loc → AH → Prop} (ha : σ a = some (.inst 773 dx fs)) (hv : look (Str.ofString "cells") fs = some v) (hp : v.plain = true) (h : K v ℓ σ) : O1 (cx w) n (fun y => getAttr y (Str.ofString "cells") true) (.ref a) ℓ σ K :=
  O1.field (at' := none) ha hv ((cB w).at 17 rfl) ((cB w).at 18 rfl) ((cO w).at 14 rfl) rfl hp h
theorem f_Line_is_wrapped {v : AV} {K : AV → Loc → AH → Prop} (ha : σ a = some (.inst 773 dx fs)) (hv : look (Str.ofString "is_wrapped") fs = some v) (hp : v.plain = true) (h : K v ℓ σ) : O1 (cx w) n (fun y => getAttr y (Str.ofString "is_wrapped") true) (.ref a) ℓ σ K :=
  O1.field (at' := none) ha hv ((cB w).at 19 rfl) ((cB w).at 18 rfl) ((cO w).at 15 rfl) rfl hp h
theorem f_Line_size {v : AV} {K : AV → Loc → AH → Prop} (ha : σ a = some (.inst 773 dx fs)) (hv : look (Str.ofString "size") fs = some v) (hp : v.plain = true) (h : K v ℓ σ) : O1 (cx w) n (fun y => getAttr y (Str.ofString "size") true) (.ref a) ℓ σ K :=
  O1.field (at' := none) ha hv ((cB w).at 20 rfl) ((cB w).at 18 rfl) ((cO w).at 16 rfl) rfl hp h
theorem f_Margins_bottom {v : AV} {K : AV → Loc → AH → Prop} (ha : σ a = some (.inst 509 dx fs)) (hv : look (Str.ofString "bottom") fs = some v) (hp : v.plain = true) (h : K v ℓ σ) : O1 (cx w) n (fun y => getAttr y (Str.ofString "bottom") true) (.ref a) ℓ σ K :=
  O1.field (at' := none) ha hv ((cB w).at 21 rfl) ((cB w).at 22 rfl) ((cO w).at 17 rfl) rfl hp h
theorem f_Margins_columns {v : AV} {K : AV → Loc → AH → Prop} (ha : σ a = some (.inst 509 dx fs)) (hv : look (Str.ofString "columns") fs = some v) (hp : v.plain = true) (h : K v ℓ σ) : O1 (cx w) n (fun y => getAttr y (Str.ofString "columns") true) (.ref a) ℓ σ K :=
  O1.field (at' := none) ha hv ((cB w).at 23 rfl) ((cB w).at 22 rfl) ((cO w).at 18 rfl) rfl hp h
theorem f_Margins_left {v : AV} {K : AV → Loc → AH → Prop} (ha : σ a = some (.inst 509 dx fs)) (hv : look (Str.ofString "left") fs = some v) (hp : v.plain = true) (h : K v ℓ σ) : O1 (cx w) n (fun y => getAttr y (Str.ofString "left") true) (.ref a) ℓ σ K :=
  O1.field (at' := none) ha hv ((cB w).at 24 rfl) ((cB w).at 22 rfl) ((cO w).at 19 rfl) rfl hp h
theorem f_Margins_right {v : AV} {K : AV → Loc → AH → Prop} (ha : σ a = some (.inst 509 dx fs)) (hv : look (Str.ofString "right") fs = some v) (hp : v.plain = true) (h : K v ℓ σ) : O1 (cx w) n (fun y => getAttr y (Str.ofString "right") true) (.ref a) ℓ σ K :=
  O1.field (at' := none) ha hv ((cB w).at 25 rfl) ((cB w).at 22 rfl) ((cO w).at 20 rfl) rfl hp h
theorem f_Margins_rows {v : AV} {K : AV → Loc → AH → Prop} (ha : σ a = some (.inst 509 dx fs)) (hv : look (Str.ofString "rows") fs = some v) (hp : v.plain = true) (h : K v ℓ σ) : O1 (cx w) n (fun y => getAttr y (Str.ofString "rows") true) (.ref a) ℓ σ K :=
  O1.field (at' := none) ha hv ((cB w).at 26 rfl) ((cB w).at 22 rfl) ((cO w).at 21 rfl) rfl hp h
theorem f_Margins_top {v : AV} {K : AV → Loc → AH → Prop} (ha : σ a = some (.inst 509 dx fs)) (hv : look (Str.ofString "top") fs = some v) (hp : v.plain = true) (h : K v ℓ σ) : O1 (cx w) n (fun y => getAttr y (Str.ofString "top") true) (.ref a) ℓ σ K :=
  O1.field (at' := none) ha hv ((cB w).at 27 rfl) ((cB w).at 22 rfl) ((cO w).at 22 rfl) rfl hp h
theorem f_Modes_states {v : AV} {K : AV → Loc → AH → Prop} (ha : σ a = some (.inst 1258 dx fs)) (hv : look (Str.ofString "states") fs = some v) (hp : v.plain = true) (h : K v ℓ σ) : O1 (cx w) n (fun y => getAttr y (Str.ofString "states") true) (.ref a) ℓ σ K :=
  O1.field (at' := none) ha hv ((cB w).at 28 rfl) ((cB w).at 29 rfl) ((cO w).at 23 rfl) rfl hp h
theorem f_Screen_charsets {v : AV} {K : AV → Loc → AH → Prop} (ha : σ a = some (.inst 1213 dx fs)) (hv : look (Str.ofString "charsets") fs = some v) (hp : v.plain = true) (h : K v ℓ σ) : O1 (cx w) n (fun y => getAttr y (Str.ofString "charsets") true) (.ref a) ℓ σ K :=
  O1.field (at' := none) ha hv ((cB w).at 30 rfl) ((cB w).at 31 rfl) ((cO w).at 24 rfl) rfl hp h
theorem f_Screen_columns {v : AV} {K : AV → Loc → AH → Prop} (ha : σ a = some (.inst 1213 dx fs)) (hv : look (Str.ofString "columns") fs = some v) (hp : v.plain = true) (h : K v ℓ σ) : O1 (cx w) n (fun y => getAttr y (Str.ofString "columns") true) (.ref a) ℓ σ K :=
  O1.field (at' := none) ha hv ((cB w).at 32 rfl) ((cB w).at 31 rfl) ((cO w).at 25 rfl) rfl hp h
theorem f_Screen_cursor {v : AV} {K : AV → Loc → AH → Prop} (ha : σ a = some (.inst 1213 dx fs)) (hv : look (Str.ofString "cursor") fs = some v) (hp : v.plain = true) (h : K v ℓ σ) : O1 (cx w) n (fun y => getAttr y (Str.ofString "cursor") true) (.ref a) ℓ σ K :=
  O1.field (at' := none) ha hv ((cB w).at 33 rfl) ((cB w).at 31 rfl) ((cO w).at 26 rfl) rfl hp h
theorem f_Screen_grid {v : AV} {K : AV → Loc → AH → Prop} (ha : σ a = some (.inst 1213 dx fs)) (hv : look (Str.ofString "grid") fs = some v) (hp : v.plain = true) (h : K v ℓ σ) : O1 (cx w) n (fun y => getAttr y (Str.ofString "grid") true) (.ref a) ℓ σ K :=
  O1.field (at' := none) ha hv ((cB w).at 34 rfl) ((cB w).at 31 rfl) ((cO w).at 27 rfl) rfl hp h
theorem f_Screen_has_right {v : AV} {K : AV → Loc → AH → Prop} (ha : σ a = some (.inst 1213 dx fs)) (hv : look (Str.ofString "has_right") fs = some v) (hp : v.plain = true) (h : K v ℓ σ) : O1 (cx w) n (fun y => getAttr y (Str.ofString "has_right") true) (.ref a) ℓ σ K :=
  O1.field (at' := none) ha hv ((cB w).at 35 rfl) ((cB w).at 31 rfl) ((cO w).at 28 rfl) rfl hp h
theorem f_Screen_history {v : AV} {K : AV → Loc → AH → Prop} (ha : σ a = some (.inst 1213 dx fs)) (hv : look (Str.ofString "history") fs = some v) (hp : v.plain = true) (h : K v ℓ σ) : O1 (cx w) n (fun y => getAttr y (Str.ofString "history") true) (.ref a) ℓ σ K :=
  O1.field (at' := none) ha hv ((cB w).at 36 rfl) ((cB w).at 31 rfl) ((cO w).at 29 rfl) rfl hp h
theorem f_Screen_last {v : AV} {K : AV → Loc → AH → Prop} (ha : σ a = some (.inst 1213 dx fs)) (hv : look (Str.ofString "last") fs = some v) (hp : v.plain = true) (h : K v ℓ σ) : O1 (cx w) n (fun y => getAttr y (Str.ofString "last") true) (.ref a) ℓ σ K :=
  O1.field (at' := none) ha hv ((cB w).at 37 rfl) ((cB w).at 31 rfl) ((cO w).at 30 rfl) rfl hp h
theorem f_Screen_margins {v : AV} {K : AV → Loc → AH → Prop} (ha : σ a = some (.inst 1213 dx fs)) (hv : look (Str.ofString "margins") fs = some v) (hp : v.plain = true) (h : K v ℓ σ) : O1 (cx w) n (fun y => getAttr y (Str.ofString "margins") true) (.ref a) ℓ σ K :=
  O1.field (at' := none) ha hv ((cB w).at 38 rfl) ((cB w).at 31 rfl) ((cO w).at 31 rfl) rfl hp h
theorem f_Screen_modes {v : AV} {K : AV → Loc → AH → Prop} (ha : σ a = some (.inst 1213 dx fs)) (hv : look (Str.ofString "modes") fs = some v) (hp : v.plain = true) (h : K v ℓ σ) : O1 (cx w) n (fun y => getAttr y (Str.ofString "modes") true) (.ref a) ℓ σ K :=
  O1.field (at' := none) ha hv ((cB w).at 39 rfl) ((cB w).at 31 rfl) ((cO w).at 32 rfl) rfl hp h
theorem f_Screen_rows {v : AV} {K : AV → Loc → AH → Prop} (ha : σ a = some (.inst 1213 dx fs)) (hv : look (Str.ofString "rows") fs = some v) (hp : v.plain = true) (h : K v ℓ σ) : O1 (cx w) n (fun y => getAttr y (Str.ofString "rows") true) (.ref a) ℓ σ K :=
  O1.field (at' := none) ha hv ((cB w).at 40 rfl) ((cB w).at 31 rfl) ((cO w).at 33 rfl) rfl hp h
theorem f_Screen_widths {v : AV} {K : AV → Loc → AH → Prop} (ha : σ a = some (.inst 1213 dx fs)) (hv : look (Str.ofString "widths") fs = some v) (hp : v.plain = true) (h : K v ℓ σ) : O1 (cx w) n (fun y => getAttr y (Str.ofString "widths") true) (.ref a) ℓ σ K :=
  O1.field (at' := none) ha hv ((cB w).at 41 rfl) ((cB w).at 31 rfl) ((cO w).at 34 rfl) rfl hp h
theorem f_Tabs_columns {v : AV} {K : AV → Loc → AH → Prop} (ha : σ a = some (.inst 608 dx fs)) (hv : look (Str.ofString "columns") fs = some v) (hp : v.plain = true) (h : K v ℓ σ) : O1 (cx w) n (fun y => getAttr y (Str.ofString "columns") true) (.ref a) ℓ σ K :=
  O1.field (at' := none) ha hv ((cB w).at 42 rfl) ((cB w).at 43 rfl) ((cO w).at 35 rfl) rfl hp h
theorem f_Tabs_stops {v : AV} {K : AV → Loc → AH → Prop} (ha : σ a = some (.inst 608 dx fs)) (hv : look (Str.ofString "stops") fs = some v) (hp : v.plain = true) (h : K v ℓ σ) : O1 (cx w) n (fun y => getAttr y (Str.ofString "stops") true) (.ref a) ℓ σ K :=
  O1.field (at' := none) ha hv ((cB w).at 44 rfl) ((cB w).at 43 rfl) ((cO w).at 36 rfl) rfl hp h
theorem f_WidthTable_joiners {v : AV} {K : AV → Loc → AH → Prop} (ha : σ a = some (.inst 144 dx fs)) (hv : look (Str.ofString "joiners") fs = some v) (hp : v.plain = true) (h : K v ℓ σ) : O1 (cx w) n (fun y => getAttr y (Str.ofString "joiners") true) (.ref a) ℓ σ K :=
  O1.field (at' := none) ha hv ((cB w).at 45 rfl) ((cB w).at 46 rfl) ((cO w).at 37 rfl) rfl hp h
theorem f_WidthTable_marks {v : AV} {K : AV → Loc → AH → Prop} (ha : σ a = some (.inst 144 dx fs)) (hv : look (Str.ofString "marks") fs = some v) (hp : v.plain = true) (h : K v ℓ σ) : O1 (cx w) n (fun y => getAttr y (Str.ofString "marks") true) (.ref a) ℓ σ K :=
  O1.field (at' := none) ha hv ((cB w).at 47 rfl) ((cB w).at 46 rfl) ((cO w).at 38 rfl) rfl hp h
theorem f_WidthTable_wide {v : AV} {K : AV → Loc → AH → Prop} (ha : σ a = some (.inst 144 dx fs)) (hv : look (Str.ofString "wide") fs = some v) (hp : v.plain = true) (h : K v ℓ σ) : O1 (cx w) n (fun y => getAttr y (Str.ofString "wide") true) (.ref a) ℓ σ K :=
  O1.field (at' := none) ha hv ((cB w).at 48 rfl) ((cB w).at 46 rfl) ((cO w).at 39 rfl) rfl hp h
theorem sa_WidthTable : findIn (cx w).K (.ref 144) "__setattr__" = some (some (.builtin "object.__setattr__")) := by kernel_rfl
theorem po_WidthTable : plainOver (cx w).K 144 = true := by kernel_rfl
theorem hd_WidthTable : hasDictIn (cx w).K 144 = true := by kernel_rfl
theorem mk_WidthTable : makesIn (cx w).K 144 = true := by kernel_rfl
theorem in_WidthTable : findIn (cx w).K (.ref 144) "__init__" = some (some (.ref 127)) := by kernel_rfl
theorem it_WidthTable : typeIn (cx w).K (.ref 127) = some (.type "function") := by kernel_rfl
theorem sa_Charsets : findIn (cx w).K (.ref 320) "__setattr__" = some (some (.builtin "object.__setattr__")) := by kernel_rfl
theorem po_Charsets : plainOver (cx w).K 320 = true := by kernel_rfl
theorem hd_Charsets : hasDictIn (cx w).K 320 = true := by kernel_rfl
theorem mk_Charsets : makesIn (cx w).K 320 = true := by kernel_rfl
theorem in_Charsets : findIn (cx w).K (.ref 320) "__init__" = some (some (.ref 246)) := by kernel_rfl
theorem it_Charsets : typeIn (cx w).K (.ref 246) = some (.type "function") := by kernel_rfl
theorem sa_Cursor : findIn (cx w).K (.ref 376) "__setattr__" = some (some (.builtin "object.__setattr__")) := by kernel_rfl
theorem po_Cursor : plainOver (cx w).K 376 = true := by kernel_rfl
theorem hd_Cursor : hasDictIn (cx w).K 376 = true := by kernel_rfl
theorem mk_Cursor : makesIn (cx w).K 376 = true := by kernel_rfl
theorem in_Cursor : findIn (cx w).K (.ref 376) "__init__" = some (some (.ref 345)) := by kernel_rfl
theorem it_Cursor : typeIn (cx w).K (.ref 345) = some (.type "function") := by kernel_rfl
theorem sa_Margins : findIn (cx w).K (.ref 509) "__setattr__" = some (some (.builtin "object.__setattr__")) := by kernel_rfl
theorem po_Margins : plainOver (cx w).K 509 = true := by kernel_rfl
theorem hd_Margins : hasDictIn (cx w).K 509 = true := by kernel_rfl
theorem mk_Margins : makesIn (cx w).K 509 = true := by kernel_rfl
theorem in_Margins : findIn (cx w).K (.ref 509) "__init__" = some (some (.ref 394)) := by kernel_rfl
theorem it_Margins : typeIn (cx w).K (.ref 394) = some (.type "function") := by kernel_rfl
theorem sa_Tabs : findIn (cx w).K (.ref 608) "__setattr__" = some (some (.builtin "object.__setattr__")) := by kernel_rfl
theorem po_Tabs : plainOver (cx w).K 608 = true := by kernel_rfl
theorem hd_Tabs : hasDictIn (cx w).K 608 = true := by kernel_rfl
theorem mk_Tabs : makesIn (cx w).K 608 = true := by kernel_rfl
theorem in_Tabs : findIn (cx w).K (.ref 608) "__init__" = some (some (.ref 527)) := by kernel_rfl
theorem it_Tabs : typeIn (cx w).K (.ref 527) = some (.type "function") := by kernel_rfl
theorem sa_Line : findIn (cx w).K (.ref 773) "__setattr__" = some (some (.builtin "object.__setattr__")) := by kernel_rfl
theorem po_Line : plainOver (cx w).K 773 = true := by kernel_rfl
theorem hd_Line : hasDictIn (cx w).K 773 = true := by kernel_rfl
theorem mk_Line : makesIn (cx w).K 773 = true := by kernel_rfl
theorem in_Line : findIn (cx w).K (.ref 773) "__init__" = some (some (.ref 662)) := by kernel_rfl
theorem it_Line : typeIn (cx w).K (.ref 662) = some (.type "function") := by kernel_rfl
theorem sa_Grid : findIn (cx w).K (.ref 922) "__setattr__" = some (some (.builtin "object.__setattr__")) := by kernel_rfl
theorem po_Grid : plainOver (cx w).K 922 = true := by kernel_rfl
theorem hd_Grid : hasDictIn (cx w).K 922 = true := by kernel_rfl
theorem mk_Grid : makesIn (cx w).K 922 = true := by kernel_rfl
theorem in_Grid : findIn (cx w).K (.ref 922) "__init__" = some (some (.ref 789)) := by kernel_rfl
theorem it_Grid : typeIn (cx w).K (.ref 789) = some (.type "function") := by kernel_rfl
theorem sa_Screen : findIn (cx w).K (.ref 1213) "__setattr__" = some (some (.builtin "object.__setattr__")) := by kernel_rfl
theorem po_Screen : plainOver (cx w).K 1213 = true := by kernel_rfl
theorem hd_Screen : hasDictIn (cx w).K 1213 = true := by kernel_rfl
theorem mk_Screen : makesIn (cx w).K 1213 = true := by kernel_rfl
theorem in_Screen : findIn (cx w).K (.ref 1213) "__init__" = some (some (.ref 956)) := by kernel_rfl
theorem it_Screen : typeIn (cx w).K (.ref 956) = some (.type "function") := by kernel_rfl
theorem sa_Modes : findIn (cx w).K (.ref 1258) "__setattr__" = some (some (.builtin "object.__setattr__")) := by kernel_rfl
theorem po_Modes : plainOver (cx w).K 1258 = true := by kernel_rfl
theorem hd_Modes : hasDictIn (cx w).K 1258 = true := by kernel_rfl
theorem mk_Modes : makesIn (cx w).K 1258 = true := by kernel_rfl
theorem in_Modes : findIn (cx w).K (.ref 1258) "__init__" = some (some (.ref 1241)) := by kernel_rfl
theorem it_Modes : typeIn (cx w).K (.ref 1241) = some (.type "function") := by kernel_rfl
theorem s_WidthTable_wide {v : AV} {K : Loc → AH → Prop} (ha : σ a = some (.inst 144 dx fs)) (hz : fs.length ≤ 900) (h : K ℓ (AH.set σ a (.inst 144 dx (put (Str.ofString "wide") v fs)))) : S2 (cx w) n (fun y z => setAttr y (Str.ofString "wide") z) (.ref a) v ℓ σ K :=
  S2.field ha sa_WidthTable po_WidthTable ((cO w).at 40 rfl) hd_WidthTable hz h
theorem s_WidthTable_marks {v : AV} {K : Loc → AH → Prop} (ha : σ a = some (.inst 144 dx fs)) (hz : fs.length ≤ 900) (h : K ℓ (AH.set σ a (.inst 144 dx (put (Str.ofString "marks") v fs)))) : S2 (cx w) n (fun y z => setAttr y (Str.ofString "marks") z) (.ref a) v ℓ σ K :=
  S2.field ha sa_WidthTable po_WidthTable ((cO w).at 41 rfl) hd_WidthTable hz h
theorem s_WidthTable_joiners {v : AV} {K : Loc → AH → Prop} (ha : σ a = some (.inst 144 dx fs)) (hz : fs.length ≤ 900) (h : K ℓ (AH.set σ a (.inst 144 dx (put (Str.ofString "joiners") v fs)))) : S2 (cx w) n (fun y z => setAttr y (Str.ofString "joiners") z) (.ref a) v ℓ σ K :=
  S2.field ha sa_WidthTable po_WidthTable ((cO w).at 42 rfl) hd_WidthTable hz h
theorem s_Charsets_made {v : AV} {K : Loc → AH → Prop} (ha : σ a = some (.inst 320 dx fs)) (hz : fs.length ≤ 900) (h : K ℓ (AH.set σ a (.inst 320 dx (put (Str.ofString "made") v fs)))) : S2 (cx w) n (fun y z => setAttr y (Str.ofString "made") z) (.ref a) v ℓ σ K :=
  S2.field ha sa_Charsets po_Charsets ((cO w).at 43 rfl) hd_Charsets hz h
theorem s_Charsets_names {v : AV} {K : Loc → AH → Prop} (ha : σ a = some (.inst 320 dx fs)) (hz : fs.length ≤ 900) (h : K ℓ (AH.set σ a (.inst 320 dx (put (Str.ofString "names") v fs)))) : S2 (cx w) n (fun y z => setAttr y (Str.ofString "names") z) (.ref a) v ℓ σ K :=
  S2.field ha sa_Charsets po_Charsets ((cO w).at 44 rfl) hd_Charsets hz h
theorem s_Charsets_left {v : AV} {K : Loc → AH → Prop} (ha : σ a = some (.inst 320 dx fs)) (hz : fs.length ≤ 900) (h : K ℓ (AH.set σ a (.inst 320 dx (put (Str.ofString "left") v fs)))) : S2 (cx w) n (fun y z => setAttr y (Str.ofString "left") z) (.ref a) v ℓ σ K :=
  S2.field ha sa_Charsets po_Charsets ((cO w).at 45 rfl) hd_Charsets hz h
theorem s_Charsets_right {v : AV} {K : Loc → AH → Prop} (ha : σ a = some (.inst 320 dx fs)) (hz : fs.length ≤ 900) (h : K ℓ (AH.set σ a (.inst 320 dx (put (Str.ofString "right") v fs)))) : S2 (cx w) n (fun y z => setAttr y (Str.ofString "right") z) (.ref a) v ℓ σ K :=
  S2.field ha sa_Charsets po_Charsets ((cO w).at 46 rfl) hd_Charsets hz h
theorem s_Charsets_shift {v : AV} {K : Loc → AH → Prop} (ha : σ a = some (.inst 320 dx fs)) (hz : fs.length ≤ 900) (h : K ℓ (AH.set σ a (.inst 320 dx (put (Str.ofString "shift") v fs)))) : S2 (cx w) n (fun y z => setAttr y (Str.ofString "shift") z) (.ref a) v ℓ σ K :=
  S2.field ha sa_Charsets po_Charsets ((cO w).at 47 rfl) hd_Charsets hz h
theorem s_Cursor_row {v : AV} {K : Loc → AH → Prop} (ha : σ a = some (.inst 376 dx fs)) (hz : fs.length ≤ 900) (h : K ℓ (AH.set σ a (.inst 376 dx (put (Str.ofString "row") v fs)))) : S2 (cx w) n (fun y z => setAttr y (Str.ofString "row") z) (.ref a) v ℓ σ K :=
  S2.field ha sa_Cursor po_Cursor ((cO w).at 48 rfl) hd_Cursor hz h
theorem s_Cursor_column {v : AV} {K : Loc → AH → Prop} (ha : σ a = some (.inst 376 dx fs)) (hz : fs.length ≤ 900) (h : K ℓ (AH.set σ a (.inst 376 dx (put (Str.ofString "column") v fs)))) : S2 (cx w) n (fun y z => setAttr y (Str.ofString "column") z) (.ref a) v ℓ σ K :=
  S2.field ha sa_Cursor po_Cursor ((cO w).at 49 rfl) hd_Cursor hz h
theorem s_Cursor_is_waiting {v : AV} {K : Loc → AH → Prop} (ha : σ a = some (.inst 376 dx fs)) (hz : fs.length ≤ 900) (h : K ℓ (AH.set σ a (.inst 376 dx (put (Str.ofString "is_waiting") v fs)))) : S2 (cx w) n (fun y z => setAttr y (Str.ofString "is_waiting") z) (.ref a) v ℓ σ K :=
  S2.field ha sa_Cursor po_Cursor ((cO w).at 50 rfl) hd_Cursor hz h
theorem s_Cursor_pen {v : AV} {K : Loc → AH → Prop} (ha : σ a = some (.inst 376 dx fs)) (hz : fs.length ≤ 900) (h : K ℓ (AH.set σ a (.inst 376 dx (put (Str.ofString "pen") v fs)))) : S2 (cx w) n (fun y z => setAttr y (Str.ofString "pen") z) (.ref a) v ℓ σ K :=
  S2.field ha sa_Cursor po_Cursor ((cO w).at 51 rfl) hd_Cursor hz h
theorem s_Cursor_is_origin {v : AV} {K : Loc → AH → Prop} (ha : σ a = some (.inst 376 dx fs)) (hz : fs.length ≤ 900) (h : K ℓ (AH.set σ a (.inst 376 dx (put (Str.ofString "is_origin") v fs)))) : S2 (cx w) n (fun y z => setAttr y (Str.ofString "is_origin") z) (.ref a) v ℓ σ K :=
  S2.field ha sa_Cursor po_Cursor ((cO w).at 52 rfl) hd_Cursor hz h
theorem s_Cursor_is_guarding {v : AV} {K : Loc → AH → Prop} (ha : σ a = some (.inst 376 dx fs)) (hz : fs.length ≤ 900) (h : K ℓ (AH.set σ a (.inst 376 dx (put (Str.ofString "is_guarding") v fs)))) : S2 (cx w) n (fun y z => setAttr y (Str.ofString "is_guarding") z) (.ref a) v ℓ σ K :=
  S2.field ha sa_Cursor po_Cursor ((cO w).at 53 rfl) hd_Cursor hz h
theorem s_Margins_rows {v : AV} {K : Loc → AH → Prop} (ha : σ a = some (.inst 509 dx fs)) (hz : fs.length ≤ 900) (h : K ℓ (AH.set σ a (.inst 509 dx (put (Str.ofString "rows") v fs)))) : S2 (cx w) n (fun y z => setAttr y (Str.ofString "rows") z) (.ref a) v ℓ σ K :=
  S2.field ha sa_Margins po_Margins ((cO w).at 54 rfl) hd_Margins hz h
theorem s_Margins_columns {v : AV} {K : Loc → AH → Prop} (ha : σ a = some (.inst 509 dx fs)) (hz : fs.length ≤ 900) (h : K ℓ (AH.set σ a (.inst 509 dx (put (Str.ofString "columns") v fs)))) : S2 (cx w) n (fun y z => setAttr y (Str.ofString "columns") z) (.ref a) v ℓ σ K :=
  S2.field ha sa_Margins po_Margins ((cO w).at 55 rfl) hd_Margins hz h
theorem s_Margins_top {v : AV} {K : Loc → AH → Prop} (ha : σ a = some (.inst 509 dx fs)) (hz : fs.length ≤ 900) (h : K ℓ (AH.set σ a (.inst 509 dx (put (Str.ofString "top") v fs)))) : S2 (cx w) n (fun y z => setAttr y (Str.ofString "top") z) (.ref a) v ℓ σ K :=
  S2.field ha sa_Margins po_Margins ((cO w).at 56 rfl) hd_Margins hz h
theorem s_Margins_bottom {v : AV} {K : Loc → AH → Prop} (ha : σ a = some (.inst 509 dx fs)) (hz : fs.length ≤ 900) (h : K ℓ (AH.set σ a (.inst 509 dx (put (Str.ofString "bottom") v fs)))) : S2 (cx w) n (fun y z => setAttr y (Str.ofString "bottom") z) (.ref a) v ℓ σ K :=
  S2.field ha sa_Margins po_Margins ((cO w).at 57 rfl) hd_Margins hz h
theorem s_Margins_left {v : AV} {K : Loc → AH → Prop} (ha : σ a = some (.inst 509 dx fs)) (hz : fs.length ≤ 900) (h : K ℓ (AH.set σ a (.inst 509 dx (put (Str.ofString "left") v fs)))) : S2 (cx w) n (fun y z => setAttr y (Str.ofString "left") z) (.ref a) v ℓ σ K :=
  S2.field ha sa_Margins po_Margins ((cO w).at 58 rfl) hd_Margins hz h
theorem s_Margins_right {v : AV} {K : Loc → AH → Prop} (ha : σ a = some (.inst 509 dx fs)) (hz : fs.length ≤ 900) (h : K ℓ (AH.set σ a (.inst 509 dx (put (Str.ofString "right") v fs)))) : S2 (cx w) n (fun y z => setAttr y (Str.ofString "right") z) (.ref a) v ℓ σ K :=
  S2.field ha sa_Margins po_Margins ((cO w).at 59 rfl) hd_Margins hz h
theorem s_Tabs_columns {v : AV} {K : Loc → AH → Prop} (ha : σ a = some (.inst 608 dx fs)) (hz : fs.length ≤ 900) (h : K ℓ (AH.set σ a (.inst 608 dx (put (Str.ofString "columns") v fs)))) : S2 (cx w) n (fun y z => setAttr y (Str.ofString "columns") z) (.ref a) v ℓ σ K :=
  S2.field ha sa_Tabs po_Tabs ((cO w).at 60 rfl) hd_Tabs hz h
theorem s_Tabs_stops {v : AV} {K : Loc → AH → Prop} (ha : σ a = some (.inst 608 dx fs)) (hz : fs.length ≤ 900) (h : K ℓ (AH.set σ a (.inst 608 dx (put (Str.ofString "stops") v fs)))) : S2 (cx w) n (fun y z => setAttr y (Str.ofString "stops") z) (.ref a) v ℓ σ K :=
  S2.field ha sa_Tabs po_Tabs ((cO w).at 61 rfl) hd_Tabs hz h
theorem s_Line_cells {v : AV} {K : Loc → AH → Prop} (ha : σ a = some (.inst 773 dx fs)) (hz : fs.length ≤ 900) (h : K ℓ (AH.set σ a (.inst 773 dx (put (Str.ofString "cells") v fs)))) : S2 (cx w) n (fun y z => setAttr y (Str.ofString "cells") z) (.ref a) v ℓ σ K :=
  S2.field ha sa_Line po_Line ((cO w).at 62 rfl) hd_Line hz h
theorem s_Line_is_wrapped {v : AV} {K : Loc → AH → Prop} (ha : σ a = some (.inst 773 dx fs)) (hz : fs.length ≤ 900) (h : K ℓ (AH.set σ a (.inst 773 dx (put (Str.ofString "is_wrapped") v fs)))) : S2 (cx w) n (fun y z => setAttr y (Str.ofString "is_wrapped") z) (.ref a) v ℓ σ K :=
  S2.field ha sa_Line po_Line ((cO w).at 63 rfl) hd_Line hz h
theorem s_Line_size {v : AV} {K : Loc → AH → Prop} (ha : σ a = some (.inst 773 dx fs)) (hz : fs.length ≤ 900) (h : K ℓ (AH.set σ a (.inst 773 dx (put (Str.ofString "size") v fs)))) : S2 (cx w) n (fun y z => setAttr y (Str.ofString "size") z) (.ref a) v ℓ σ K :=
  S2.field ha sa_Line po_Line ((cO w).at 64 rfl) hd_Line hz h
theorem s_Grid_rows {v : AV} {K : Loc → AH → Prop} (ha : σ a = some (.inst 922 dx fs)) (hz : fs.length ≤ 900) (h : K ℓ (AH.set σ a (.inst 922 dx (put (Str.ofString "rows") v fs)))) : S2 (cx w) n (fun y z => setAttr y (Str.ofString "rows") z) (.ref a) v ℓ σ K :=
  S2.field ha sa_Grid po_Grid ((cO w).at 65 rfl) hd_Grid hz h
theorem s_Grid_columns {v : AV} {K : Loc → AH → Prop} (ha : σ a = some (.inst 922 dx fs)) (hz : fs.length ≤ 900) (h : K ℓ (AH.set σ a (.inst 922 dx (put (Str.ofString "columns") v fs)))) : S2 (cx w) n (fun y z => setAttr y (Str.ofString "columns") z) (.ref a) v ℓ σ K :=
  S2.field ha sa_Grid po_Grid ((cO w).at 66 rfl) hd_Grid hz h
theorem s_Grid_lines {v : AV} {K : Loc → AH → Prop} (ha : σ a = some (.inst 922 dx fs)) (hz : fs.length ≤ 900) (h : K ℓ (AH.set σ a (.inst 922 dx (put (Str.ofString "lines") v fs)))) : S2 (cx w) n (fun y z => setAttr y (Str.ofString "lines") z) (.ref a) v ℓ σ K :=
  S2.field ha sa_Grid po_Grid ((cO w).at 67 rfl) hd_Grid hz h
theorem s_Screen_rows {v : AV} {K : Loc → AH → Prop} (ha : σ a = some (.inst 1213 dx fs)) (hz : fs.length ≤ 900) (h : K ℓ (AH.set σ a (.inst 1213 dx (put (Str.ofString "rows") v fs)))) : S2 (cx w) n (fun y z => setAttr y (Str.ofString "rows") z) (.ref a) v ℓ σ K :=
  S2.field ha sa_Screen po_Screen ((cO w).at 68 rfl) hd_Screen hz h
theorem s_Screen_columns {v : AV} {K : Loc → AH → Prop} (ha : σ a = some (.inst 1213 dx fs)) (hz : fs.length ≤ 900) (h : K ℓ (AH.set σ a (.inst 1213 dx (put (Str.ofString "columns") v fs)))) : S2 (cx w) n (fun y z => setAttr y (Str.ofString "columns") z) (.ref a) v ℓ σ K :=
  S2.field ha sa_Screen po_Screen ((cO w).at 69 rfl) hd_Screen hz h
theorem s_Screen_modes {v : AV} {K : Loc → AH → Prop} (ha : σ a = some (.inst 1213 dx fs)) (hz : fs.length ≤ 900) (h : K ℓ (AH.set σ a (.inst 1213 dx (put (Str.ofString "modes") v fs)))) : S2 (cx w) n (fun y z => setAttr y (Str.ofString "modes") z) (.ref a) v ℓ σ K :=
  S2.field ha sa_Screen po_Screen ((cO w).at 70 rfl) hd_Screen hz h
theorem s_Screen_widths {v : AV} {K : Loc → AH → Prop} (ha : σ a = some (.inst 1213 dx fs)) (hz : fs.length ≤ 900) (h : K ℓ (AH.set σ a (.inst 1213 dx (put (Str.ofString "widths") v fs)))) : S2 (cx w) n (fun y z => setAttr y (Str.ofString "widths") z) (.ref a) v ℓ σ K :=
  S2.field ha sa_Screen po_Screen ((cO w).at 71 rfl) hd_Screen hz h
theorem s_Screen_history {v : AV} {K : Loc → AH → Prop} (ha : σ a = some (.inst 1213 dx fs)) (hz : fs.length ≤ 900) (h : K ℓ (AH.set σ a (.inst 1213 dx (put (Str.ofString "history") v fs)))) : S2 (cx w) n (fun y z => setAttr y (Str.ofString "history") z) (.ref a) v ℓ σ K :=
  S2.field ha sa_Screen po_Screen ((cO w).at 72 rfl) hd_Screen hz h
theorem s_Screen_grid {v : AV} {K : Loc → AH → Prop} (ha : σ a = some (.inst 1213 dx fs)) (hz : fs.length ≤ 900) (h : K ℓ (AH.set σ a (.inst 1213 dx (put (Str.ofString "grid") v fs)))) : S2 (cx w) n (fun y z => setAttr y (Str.ofString "grid") z) (.ref a) v ℓ σ K :=
  S2.field ha sa_Screen po_Screen ((cO w).at 73 rfl) hd_Screen hz h
theorem s_Screen_cursor {v : AV} {K : Loc → AH → Prop} (ha : σ a = some (.inst 1213 dx fs)) (hz : fs.length ≤ 900) (h : K ℓ (AH.set σ a (.inst 1213 dx (put (Str.ofString "cursor") v fs)))) : S2 (cx w) n (fun y z => setAttr y (Str.ofString "cursor") z) (.ref a) v ℓ σ K :=
  S2.field ha sa_Screen po_Screen ((cO w).at 74 rfl) hd_Screen hz h
theorem s_Screen_margins {v : AV} {K : Loc → AH → Prop} (ha : σ a = some (.inst 1213 dx fs)) (hz : fs.length ≤ 900) (h : K ℓ (AH.set σ a (.inst 1213 dx (put (Str.ofString "margins") v fs)))) : S2 (cx w) n (fun y z => setAttr y (Str.ofString "margins") z) (.ref a) v ℓ σ K :=
  S2.field ha sa_Screen po_Screen ((cO w).at 75 rfl) hd_Screen hz h
theorem s_Screen_tabs {v : AV} {K : Loc → AH → Prop} (ha : σ a = some (.inst 1213 dx fs)) (hz : fs.length ≤ 900) (h : K ℓ (AH.set σ a (.inst 1213 dx (put (Str.ofString "tabs") v fs)))) : S2 (cx w) n (fun y z => setAttr y (Str.ofString "tabs") z) (.ref a) v ℓ σ K :=
  S2.field ha sa_Screen po_Screen ((cO w).at 76 rfl) hd_Screen hz h
theorem s_Screen_charsets {v : AV} {K : Loc → AH → Prop} (ha : σ a = some (.inst 1213 dx fs)) (hz : fs.length ≤ 900) (h : K ℓ (AH.set σ a (.inst 1213 dx (put (Str.ofString "charsets") v fs)))) : S2 (cx w) n (fun y z => setAttr y (Str.ofString "charsets") z) (.ref a) v ℓ σ K :=
  S2.field ha sa_Screen po_Screen ((cO w).at 77 rfl) hd_Screen hz h
theorem s_Screen_saved {v : AV} {K : Loc → AH → Prop} (ha : σ a = some (.inst 1213 dx fs)) (hz : fs.length ≤ 900) (h : K ℓ (AH.set σ a (.inst 1213 dx (put (Str.ofString "saved") v fs)))) : S2 (cx w) n (fun y z => setAttr y (Str.ofString "saved") z) (.ref a) v ℓ σ K :=
  S2.field ha sa_Screen po_Screen ((cO w).at 78 rfl) hd_Screen hz h
theorem s_Screen_last {v : AV} {K : Loc → AH → Prop} (ha : σ a = some (.inst 1213 dx fs)) (hz : fs.length ≤ 900) (h : K ℓ (AH.set σ a (.inst 1213 dx (put (Str.ofString "last") v fs)))) : S2 (cx w) n (fun y z => setAttr y (Str.ofString "last") z) (.ref a) v ℓ σ K :=
  S2.field ha sa_Screen po_Screen ((cO w).at 79 rfl) hd_Screen hz h
theorem s_Screen_has_right {v : AV} {K : Loc → AH → Prop} (ha : σ a = some (.inst 1213 dx fs)) (hz : fs.length ≤ 900) (h : K ℓ (AH.set σ a (.inst 1213 dx (put (Str.ofString "has_right") v fs)))) : S2 (cx w) n (fun y z => setAttr y (Str.ofString "has_right") z) (.ref a) v ℓ σ K :=
  S2.field ha sa_Screen po_Screen ((cO w).at 80 rfl) hd_Screen hz h
theorem s_Modes_states {v : AV} {K : Loc → AH → Prop} (ha : σ a = some (.inst 1258 dx fs)) (hz : fs.length ≤ 900) (h : K ℓ (AH.set σ a (.inst 1258 dx (put (Str.ofString "states") v fs)))) : S2 (cx w) n (fun y z => setAttr y (Str.ofString "states") z) (.ref a) v ℓ σ K :=
  S2.field ha sa_Modes po_Modes ((cO w).at 81 rfl) hd_Modes hz h
theorem s_Modes_kept {v : AV} {K : Loc → AH → Prop} (ha : σ a = some (.inst 1258 dx fs)) (hz : fs.length ≤ 900) (h : K ℓ (AH.set σ a (.inst 1258 dx (put (Str.ofString "kept") v fs)))) : S2 (cx w) n (fun y z => setAttr y (Str.ofString "kept") z) (.ref a) v ℓ σ K :=
  S2.field ha sa_Modes po_Modes ((cO w).at 82 rfl) hd_Modes hz h
theorem m_Charsets_mapped (ha : σ a = some (.inst 320 dx fs)) (hv : look (Str.ofString "mapped") fs = none) : Kept (cx w) (.ref 310) ∧ Meth (cx w) n (Str.ofString "mapped") (.ref a) ℓ σ (.ref 310) :=
  ⟨Kept.top ((cB w).at 49 rfl), Meth.inst ha hv ((cB w).at 50 rfl) ((cO w).at 83 rfl) ((cB w).at 51 rfl)⟩
theorem m_Charsets_reset (ha : σ a = some (.inst 320 dx fs)) (hv : look (Str.ofString "reset") fs = none) : Kept (cx w) (.ref 260) ∧ Meth (cx w) n (Str.ofString "reset") (.ref a) ℓ σ (.ref 260) :=
  ⟨Kept.top ((cB w).at 52 rfl), Meth.inst ha hv ((cB w).at 53 rfl) ((cO w).at 84 rfl) ((cB w).at 54 rfl)⟩
theorem m_Charsets_table (ha : σ a = some (.inst 320 dx fs)) (hv : look (Str.ofString "table") fs = none) : Kept (cx w) (.ref 253) ∧ Meth (cx w) n (Str.ofString "table") (.ref a) ℓ σ (.ref 253) :=
  ⟨Kept.top ((cB w).at 55 rfl), Meth.inst ha hv ((cB w).at 56 rfl) ((cO w).at 85 rfl) ((cB w).at 57 rfl)⟩
theorem m_Grid_fresh (ha : σ a = some (.inst 922 dx fs)) (hv : look (Str.ofString "fresh") fs = none) : Kept (cx w) (.ref 815) ∧ Meth (cx w) n (Str.ofString "fresh") (.ref a) ℓ σ (.ref 815) :=
  ⟨Kept.top ((cB w).at 58 rfl), Meth.inst ha hv ((cB w).at 59 rfl) ((cO w).at 86 rfl) ((cB w).at 60 rfl)⟩
theorem m_Grid_is_wide (ha : σ a = some (.inst 922 dx fs)) (hv : look (Str.ofString "is_wide") fs = none) : Kept (cx w) (.ref 810) ∧ Meth (cx w) n (Str.ofString "is_wide") (.ref a) ℓ σ (.ref 810) :=
  ⟨Kept.top ((cB w).at 61 rfl), Meth.inst ha hv ((cB w).at 62 rfl) ((cO w).at 87 rfl) ((cB w).at 63 rfl)⟩
theorem m_Grid_line (ha : σ a = some (.inst 922 dx fs)) (hv : look (Str.ofString "line") fs = none) : Kept (cx w) (.ref 796) ∧ Meth (cx w) n (Str.ofString "line") (.ref a) ℓ σ (.ref 796) :=
  ⟨Kept.top ((cB w).at 64 rfl), Meth.inst ha hv ((cB w).at 65 rfl) ((cO w).at 88 rfl) ((cB w).at 66 rfl)⟩
theorem m_Grid_part_above (ha : σ a = some (.inst 922 dx fs)) (hv : look (Str.ofString "part_above") fs = none) : Kept (cx w) (.ref 822) ∧ Meth (cx w) n (Str.ofString "part_above") (.ref a) ℓ σ (.ref 822) :=
  ⟨Kept.top ((cB w).at 67 rfl), Meth.inst ha hv ((cB w).at 68 rfl) ((cO w).at 89 rfl) ((cB w).at 69 rfl)⟩
theorem m_Grid_scroll_up (ha : σ a = some (.inst 922 dx fs)) (hv : look (Str.ofString "scroll_up") fs = none) : Kept (cx w) (.ref 829) ∧ Meth (cx w) n (Str.ofString "scroll_up") (.ref a) ℓ σ (.ref 829) :=
  ⟨Kept.top ((cB w).at 70 rfl), Meth.inst ha hv ((cB w).at 71 rfl) ((cO w).at 90 rfl) ((cB w).at 72 rfl)⟩
theorem m_Line_insert (ha : σ a = some (.inst 773 dx fs)) (hv : look (Str.ofString "insert") fs = none) : Kept (cx w) (.ref 720) ∧ Meth (cx w) n (Str.ofString "insert") (.ref a) ℓ σ (.ref 720) :=
  ⟨Kept.top ((cB w).at 73 rfl), Meth.inst ha hv ((cB w).at 74 rfl) ((cO w).at 91 rfl) ((cB w).at 75 rfl)⟩
theorem m_Line_part (ha : σ a = some (.inst 773 dx fs)) (hv : look (Str.ofString "part") fs = none) : Kept (cx w) (.ref 684) ∧ Meth (cx w) n (Str.ofString "part") (.ref a) ℓ σ (.ref 684) :=
  ⟨Kept.top ((cB w).at 76 rfl), Meth.inst ha hv ((cB w).at 77 rfl) ((cO w).at 92 rfl) ((cB w).at 78 rfl)⟩
theorem m_Line_put (ha : σ a = some (.inst 773 dx fs)) (hv : look (Str.ofString "put") fs = none) : Kept (cx w) (.ref 691) ∧ Meth (cx w) n (Str.ofString "put") (.ref a) ℓ σ (.ref 691) :=
  ⟨Kept.top ((cB w).at 79 rfl), Meth.inst ha hv ((cB w).at 80 rfl) ((cO w).at 93 rfl) ((cB w).at 81 rfl)⟩
theorem m_Line_shift (ha : σ a = some (.inst 773 dx fs)) (hv : look (Str.ofString "shift") fs = none) : Kept (cx w) (.ref 713) ∧ Meth (cx w) n (Str.ofString "shift") (.ref a) ℓ σ (.ref 713) :=
  ⟨Kept.top ((cB w).at 82 rfl), Meth.inst ha hv ((cB w).at 83 rfl) ((cO w).at 94 rfl) ((cB w).at 84 rfl)⟩
theorem m_Margins_area (ha : σ a = some (.inst 509 dx fs)) (hv : look (Str.ofString "area") fs = none) : Kept (cx w) (.ref 436) ∧ Meth (cx w) n (Str.ofString "area") (.ref a) ℓ σ (.ref 436) :=
  ⟨Kept.top ((cB w).at 85 rfl), Meth.inst ha hv ((cB w).at 86 rfl) ((cO w).at 95 rfl) ((cB w).at 87 rfl)⟩
theorem m_Modes_is_on (ha : σ a = some (.inst 1258 dx fs)) (hv : look (Str.ofString "is_on") fs = none) : Kept (cx w) (.ref 1248) ∧ Meth (cx w) n (Str.ofString "is_on") (.ref a) ℓ σ (.ref 1248) :=
  ⟨Kept.top ((cB w).at 88 rfl), Meth.inst ha hv ((cB w).at 89 rfl) ((cO w).at 96 rfl) ((cB w).at 90 rfl)⟩
theorem m_Modes_set (ha : σ a = some (.inst 1258 dx fs)) (hv : look (Str.ofString "set") fs = none) : Kept (cx w) (.ref 1255) ∧ Meth (cx w) n (Str.ofString "set") (.ref a) ℓ σ (.ref 1255) :=
  ⟨Kept.top ((cB w).at 91 rfl), Meth.inst ha hv ((cB w).at 92 rfl) ((cO w).at 97 rfl) ((cB w).at 93 rfl)⟩
theorem m_Screen_advance (ha : σ a = some (.inst 1213 dx fs)) (hv : look (Str.ofString "advance") fs = none) : Kept (cx w) (.ref 1054) ∧ Meth (cx w) n (Str.ofString "advance") (.ref a) ℓ σ (.ref 1054) :=
  ⟨Kept.top ((cB w).at 94 rfl), Meth.inst ha hv ((cB w).at 95 rfl) ((cO w).at 98 rfl) ((cB w).at 96 rfl)⟩
theorem m_Screen_carriage_return (ha : σ a = some (.inst 1213 dx fs)) (hv : look (Str.ofString "carriage_return") fs = none) : Kept (cx w) (.ref 1110) ∧ Meth (cx w) n (Str.ofString "carriage_return") (.ref a) ℓ σ (.ref 1110) :=
  ⟨Kept.top ((cB w).at 97 rfl), Meth.inst ha hv ((cB w).at 98 rfl) ((cO w).at 99 rfl) ((cB w).at 99 rfl)⟩
theorem m_Screen_index (ha : σ a = some (.inst 1213 dx fs)) (hv : look (Str.ofString "index") fs = none) : Kept (cx w) (.ref 1089) ∧ Meth (cx w) n (Str.ofString "index") (.ref a) ℓ σ (.ref 1089) :=
  ⟨Kept.top ((cB w).at 100 rfl), Meth.inst ha hv ((cB w).at 101 rfl) ((cO w).at 100 rfl) ((cB w).at 102 rfl)⟩
theorem m_Screen_is_between_sides (ha : σ a = some (.inst 1213 dx fs)) (hv : look (Str.ofString "is_between_sides") fs = none) : Kept (cx w) (.ref 991) ∧ Meth (cx w) n (Str.ofString "is_between_sides") (.ref a) ℓ σ (.ref 991) :=
  ⟨Kept.top ((cB w).at 103 rfl), Meth.inst ha hv ((cB w).at 104 rfl) ((cO w).at 101 rfl) ((cB w).at 105 rfl)⟩
theorem m_Screen_is_joined (ha : σ a = some (.inst 1213 dx fs)) (hv : look (Str.ofString "is_joined") fs = none) : Kept (cx w) (.ref 1026) ∧ Meth (cx w) n (Str.ofString "is_joined") (.ref a) ℓ σ (.ref 1026) :=
  ⟨Kept.top ((cB w).at 106 rfl), Meth.inst ha hv ((cB w).at 107 rfl) ((cO w).at 102 rfl) ((cB w).at 108 rfl)⟩
theorem m_Screen_is_narrow (ha : σ a = some (.inst 1213 dx fs)) (hv : look (Str.ofString "is_narrow") fs = none) : Kept (cx w) (.ref 1040) ∧ Meth (cx w) n (Str.ofString "is_narrow") (.ref a) ℓ σ (.ref 1040) :=
  ⟨Kept.top ((cB w).at 109 rfl), Meth.inst ha hv ((cB w).at 110 rfl) ((cO w).at 103 rfl) ((cB w).at 111 rfl)⟩
theorem m_Screen_join (ha : σ a = some (.inst 1213 dx fs)) (hv : look (Str.ofString "join") fs = none) : Kept (cx w) (.ref 1033) ∧ Meth (cx w) n (Str.ofString "join") (.ref a) ℓ σ (.ref 1033) :=
  ⟨Kept.top ((cB w).at 112 rfl), Meth.inst ha hv ((cB w).at 113 rfl) ((cO w).at 104 rfl) ((cB w).at 114 rfl)⟩
theorem m_Screen_keep_within_line (ha : σ a = some (.inst 1213 dx fs)) (hv : look (Str.ofString "keep_within_line") fs = none) : Kept (cx w) (.ref 1103) ∧ Meth (cx w) n (Str.ofString "keep_within_line") (.ref a) ℓ σ (.ref 1103) :=
  ⟨Kept.top ((cB w).at 115 rfl), Meth.inst ha hv ((cB w).at 116 rfl) ((cO w).at 105 rfl) ((cB w).at 117 rfl)⟩
theorem m_Screen_left_bound (ha : σ a = some (.inst 1213 dx fs)) (hv : look (Str.ofString "left_bound") fs = none) : Kept (cx w) (.ref 984) ∧ Meth (cx w) n (Str.ofString "left_bound") (.ref a) ℓ σ (.ref 984) :=
  ⟨Kept.top ((cB w).at 118 rfl), Meth.inst ha hv ((cB w).at 119 rfl) ((cO w).at 106 rfl) ((cB w).at 120 rfl)⟩
theorem m_Screen_line (ha : σ a = some (.inst 1213 dx fs)) (hv : look (Str.ofString "line") fs = none) : Kept (cx w) (.ref 963) ∧ Meth (cx w) n (Str.ofString "line") (.ref a) ℓ σ (.ref 963) :=
  ⟨Kept.top ((cB w).at 121 rfl), Meth.inst ha hv ((cB w).at 122 rfl) ((cO w).at 107 rfl) ((cB w).at 123 rfl)⟩
theorem m_Screen_next_line (ha : σ a = some (.inst 1213 dx fs)) (hv : look (Str.ofString "next_line") fs = none) : Kept (cx w) (.ref 1117) ∧ Meth (cx w) n (Str.ofString "next_line") (.ref a) ℓ σ (.ref 1117) :=
  ⟨Kept.top ((cB w).at 124 rfl), Meth.inst ha hv ((cB w).at 125 rfl) ((cO w).at 108 rfl) ((cB w).at 126 rfl)⟩
theorem m_Screen_place (ha : σ a = some (.inst 1213 dx fs)) (hv : look (Str.ofString "place") fs = none) : Kept (cx w) (.ref 1005) ∧ Meth (cx w) n (Str.ofString "place") (.ref a) ℓ σ (.ref 1005) :=
  ⟨Kept.top ((cB w).at 127 rfl), Meth.inst ha hv ((cB w).at 128 rfl) ((cO w).at 109 rfl) ((cB w).at 129 rfl)⟩
theorem m_Screen_place_ahead (ha : σ a = some (.inst 1213 dx fs)) (hv : look (Str.ofString "place_ahead") fs = none) : Kept (cx w) (.ref 1019) ∧ Meth (cx w) n (Str.ofString "place_ahead") (.ref a) ℓ σ (.ref 1019) :=
  ⟨Kept.top ((cB w).at 130 rfl), Meth.inst ha hv ((cB w).at 131 rfl) ((cO w).at 110 rfl) ((cB w).at 132 rfl)⟩
theorem m_Screen_put_code (ha : σ a = some (.inst 1213 dx fs)) (hv : look (Str.ofString "put_code") fs = none) : Kept (cx w) (.ref 1012) ∧ Meth (cx w) n (Str.ofString "put_code") (.ref a) ℓ σ (.ref 1012) :=
  ⟨Kept.top ((cB w).at 133 rfl), Meth.inst ha hv ((cB w).at 134 rfl) ((cO w).at 111 rfl) ((cB w).at 135 rfl)⟩
theorem m_Screen_put_sign (ha : σ a = some (.inst 1213 dx fs)) (hv : look (Str.ofString "put_sign") fs = none) : Kept (cx w) (.ref 1047) ∧ Meth (cx w) n (Str.ofString "put_sign") (.ref a) ℓ σ (.ref 1047) :=
  ⟨Kept.top ((cB w).at 136 rfl), Meth.inst ha hv ((cB w).at 137 rfl) ((cO w).at 112 rfl) ((cB w).at 138 rfl)⟩
theorem m_Screen_repeat (ha : σ a = some (.inst 1213 dx fs)) (hv : look (Str.ofString "repeat") fs = none) : Kept (cx w) (.ref 1068) ∧ Meth (cx w) n (Str.ofString "repeat") (.ref a) ℓ σ (.ref 1068) :=
  ⟨Kept.top ((cB w).at 139 rfl), Meth.inst ha hv ((cB w).at 140 rfl) ((cO w).at 113 rfl) ((cB w).at 141 rfl)⟩
theorem m_Screen_right_bound (ha : σ a = some (.inst 1213 dx fs)) (hv : look (Str.ofString "right_bound") fs = none) : Kept (cx w) (.ref 977) ∧ Meth (cx w) n (Str.ofString "right_bound") (.ref a) ℓ σ (.ref 977) :=
  ⟨Kept.top ((cB w).at 142 rfl), Meth.inst ha hv ((cB w).at 143 rfl) ((cO w).at 114 rfl) ((cB w).at 144 rfl)⟩
theorem m_Screen_scroll_up (ha : σ a = some (.inst 1213 dx fs)) (hv : look (Str.ofString "scroll_up") fs = none) : Kept (cx w) (.ref 1075) ∧ Meth (cx w) n (Str.ofString "scroll_up") (.ref a) ℓ σ (.ref 1075) :=
  ⟨Kept.top ((cB w).at 145 rfl), Meth.inst ha hv ((cB w).at 146 rfl) ((cO w).at 115 rfl) ((cB w).at 147 rfl)⟩
theorem m_Screen_width_of_line (ha : σ a = some (.inst 1213 dx fs)) (hv : look (Str.ofString "width_of_line") fs = none) : Kept (cx w) (.ref 970) ∧ Meth (cx w) n (Str.ofString "width_of_line") (.ref a) ℓ σ (.ref 970) :=
  ⟨Kept.top ((cB w).at 148 rfl), Meth.inst ha hv ((cB w).at 149 rfl) ((cO w).at 116 rfl) ((cB w).at 150 rfl)⟩
theorem m_Screen_wrap (ha : σ a = some (.inst 1213 dx fs)) (hv : look (Str.ofString "wrap") fs = none) : Kept (cx w) (.ref 1061) ∧ Meth (cx w) n (Str.ofString "wrap") (.ref a) ℓ σ (.ref 1061) :=
  ⟨Kept.top ((cB w).at 151 rfl), Meth.inst ha hv ((cB w).at 152 rfl) ((cO w).at 117 rfl) ((cB w).at 153 rfl)⟩
theorem m_Tabs_put_eighths (ha : σ a = some (.inst 608 dx fs)) (hv : look (Str.ofString "put_eighths") fs = none) : Kept (cx w) (.ref 534) ∧ Meth (cx w) n (Str.ofString "put_eighths") (.ref a) ℓ σ (.ref 534) :=
  ⟨Kept.top ((cB w).at 154 rfl), Meth.inst ha hv ((cB w).at 155 rfl) ((cO w).at 118 rfl) ((cB w).at 156 rfl)⟩
theorem m_WidthTable_is_picture (ha : σ a = some (.inst 144 dx fs)) (hv : look (Str.ofString "is_picture") fs = none) : Kept (cx w) (.ref 141) ∧ Meth (cx w) n (Str.ofString "is_picture") (.ref a) ℓ σ (.ref 141) :=
  ⟨Kept.top ((cB w).at 157 rfl), Meth.inst ha hv ((cB w).at 158 rfl) ((cO w).at 119 rfl) ((cB w).at 159 rfl)⟩
theorem m_WidthTable_width_of (ha : σ a = some (.inst 144 dx fs)) (hv : look (Str.ofString "width_of") fs = none) : Kept (cx w) (.ref 134) ∧ Meth (cx w) n (Str.ofString "width_of") (.ref a) ℓ σ (.ref 134) :=
  ⟨Kept.top ((cB w).at 160 rfl), Meth.inst ha hv ((cB w).at 161 rfl) ((cO w).at 120 rfl) ((cB w).at 162 rfl)⟩
end
end Mine
end
section
open PySem PySem.W PySem.Calls PyProof.Rows
set_option Elab.async false
set_option linter.unusedVariables false
set_option linter.unusedSimpArgs false
set_option maxRecDepth 100000
namespace Mine
section
variable {c : Cx} {n : Nat} {f : Fe} {ℓ : Loc} {σ : AH}
/-- names bound one behind the other -/
def Bns (c : Cx) (n : Nat) (f : Fe) (xs : List Str) (vs : List AV) (ℓ : Loc) (σ : AH) (K : Loc → AH → Prop) : Prop := J c RU n (PL vs) (fun L ys => assignInOrder (xs.map fun x => bindName (f.env L) x) ys) ℓ σ (fun _ => K)
theorem Bns.nil {vs : List AV} {K : Loc → AH → Prop} (h : K ℓ σ) : Bns c n f [] vs ℓ σ K := J.now (b := ()) h fun _ _ _ s _ _ _ _ _ _ _ _ q => assignInOrder_nil (q _ s.toks trivial)
theorem Bns.cons {x : Str} {xs : List Str} {v : AV} {vs : List AV} {K : Loc → AH → Prop} (hl : ∀ L, (f.env L).kindOf x = some .local) (h : Bns c n f xs vs (put x v ℓ) σ K) : Bns c n f (x :: xs) (v :: vs) ℓ σ K := by
  intro h₀ A L s ys Q E hB hA hS hF hP hC
  cases hP with
  | cons p ps =>
    rename_i y ys
    obtain ⟨m, hm, hl'⟩ := id hF
    have F' := hF
    show wpAny _ A (assignInOrder (bindName (f.env L) x :: xs.map _) (y :: ys)) Q E s
    obtain ⟨⟨m, hm, hl'⟩, _, _⟩ := hF
    exact assignInOrder_cons (bindName_ (wpAny_storeName_local (hl L) (by rw [f.loc L]; exact hm.ns) (fun h' hn hs =>
      Cont.loc (a := ()) (b := ()) (K := fun _ => fun ℓ' σ' => Bns c n f xs vs ℓ' σ' K) (R := RU) (Q := fun _ s' => wpAny _ A _ Q E s')
        (fun _ _ ℓ₁ σ₁ h₁ tk₁ hK₁ hS₁ hF₁ hX₁ _ => hK₁ h₀ A L _ _ Q E hB hA hS₁ hF₁ (VRs.keep (F'.tup hS hX₁) ps) (hC.after hX₁ tk₁)) hS F' hm hl' p (by rw [f.loc L] at hn; exact hn) (by rw [f.loc L] at hs; exact hs) h trivial _) (by rw [f.kind L]; rfl)))
theorem Ex.swp {ts : List Expr} {k : Nat} {tpos pos : Pos} {value : Expr} {K : AF → Loc → AH → Prop} (names : List Str)
    (hs : ∀ env, swapsWithSole [.Tuple ts k tpos] value pos.line env = pure false) (hw : ∀ L, swappedStores [.Tuple ts k tpos] value (f.env L) = pure (some names))
    (h : Ev c n f value ℓ σ fun v ℓ₁ σ₁ => ∃ vs, (v = .tup vs ∧ names.length = vs.length) ∧ Bns c n f names.reverse vs.reverse ℓ₁ σ₁ fun ℓ₂ σ₂ => K .next ℓ₂ σ₂) : Ex c n f (.Assign [.Tuple ts k tpos] value pos) ℓ σ K := by
  intro h₀ A L s _ Q E hB hA hS hF _ hC
  refine Assign_Tuple_swapped (names := names) (h h₀ A L s () _ E hB hA hS hF trivial fun v x ℓ₁ σ₁ h₁ tk₁ hK₁ hS₁ hF₁ hX₁ hR₁ => ?_) (hs _) (hw _)
  obtain ⟨vs, ⟨rfl, hl⟩, hK⟩ := hK₁
  cases hR₁ with
  | tup e r =>
    rename_i a ws m
    rw [show names.length = ws.toArray.size by rw [hl, r.length]; simp]
    refine unpackItems_tuple hA.handled ⟨_, e, rfl, _, rfl⟩ fun h' he => ?_
    have k : ∀ b o, h₁.get? b = some o → h'.get? b = some o := fun b o e => he b o (Nat.ne_of_lt (Heap.lt_size e)) e
    have kt : TupKeep h₁ h' := fun b o e _ => k b o e
    have X : Ext L σ₁ h₁ σ₁ h' := ⟨fun b o e _ _ => k b o e, fun a o e => .inl ⟨o, e, rfl⟩, fun b o e => ⟨o, k b o e⟩⟩
    have S' := hS₁.keepAll k
    have rr : ∀ {us : List AV} {ys : List Value}, VRs h' us ys → VRs h' us.reverse ys.reverse := by
      intro us ys q
      induction us generalizing ys with
      | nil => cases q; exact .nil
      | cons u us ih => cases q with | cons a b => rw [List.reverse_cons, List.reverse_cons]; exact (ih b).append (.cons a .nil)
    exact hK h₀ A L _ _ _ E hB hA S' (hF₁.carry S' X.dom (fun o e => k L o e) kt) (rr (r.keep kt)) fun _ _ _ _ _ tk₂ hK₂ hS₂ hF₂ hX₂ _ => hC _ _ _ _ _ tk₂ hK₂ hS₂ hF₂ ((hX₁.trans X).trans hX₂) .next
theorem O2.divP {i j : Int} (hj : 0 < j) (hp : Builtin.divisionGoesByPylong i j = false) {K : AV → Loc → AH → Prop} (h : K (.int (i / j)) ℓ σ) : O2 c n (binaryOp .FloorDiv) (.int i) (.int j) ℓ σ K :=
  O2.div (by omega) hp (by rw [Int.fdiv_eq_ediv_of_nonneg _ (by omega)]; exact h)
theorem O2.modP {i j : Int} (hj : 0 < j) {K : AV → Loc → AH → Prop} (h : K (.int (i % j)) ℓ σ) : O2 c n (binaryOp .Mod) (.int i) (.int j) ℓ σ K :=
  O2.mod (by omega) (by rw [Int.fmod_eq_emod_of_nonneg _ (by omega)]; exact h)
end
end Mine
end
section
open PySem PySem.W PySem.Calls PyProof.Rows PySem.SeqAt
set_option Elab.async false
set_option linter.unusedVariables false
set_option linter.unusedSimpArgs false
set_option maxRecDepth 100000
namespace Mine
section
variable {c : Cx} {n : Nat} {f : Fe} {ℓ : Loc} {σ : AH}
/-- what can be gone through -/
def Src (c : Cx) (σ : AH) (u : AV) (vs : List AV) (G : AH → Prop) : Prop := ∃ IT : Heap → Addr → Nat → Prop, Itr c vs G IT ∧
  (∀ (h₀ : Heap) (s : Shared) (A : Around) (E : Value → Shared → Prop) (x : Value) (Q : Value → Shared → Prop), St c.prog c.w h₀ σ s.heap → VR s.heap u x →
    (∀ o, IT (s.heap.push o) s.heap.objs.size 0 → Q (.ref s.heap.objs.size) { s with heap := s.heap.push o }) → wpAny (model c.prog c.w) A (pyIter x) Q E s) ∧ G σ
theorem Src.list {a : Addr} {vs : List AV} (ha : σ a = some (.list vs)) : Src c σ (.ref a) vs (fun σ => σ a = some (.list vs)) := by
  refine ⟨_, Itr.list c a vs, fun h₀ s A E x Q S r q => ?_, ha⟩
  cases r
  obtain ⟨ws, m, h1, h2⟩ := S.obj a _ ha
  exact wpAny_pyIter_list (isList_of h1) (q _ ⟨⟨_, Heap.get?_push_size _ rfl, rfl, rfl⟩, Nat.ne_of_lt (Heap.lt_size h1)⟩)
theorem Src.tup {vs : List AV} : Src c σ (.tup vs) vs (fun _ => True) := by
  refine ⟨_, Itr.tup c vs, fun h₀ s A E x Q S r q => ?_, trivial⟩
  cases r with
  | tup e r => exact wpAny_pyIter_tuple ⟨_, e, rfl, _, rfl⟩ (q _ ⟨_, _, _, ⟨_, Heap.get?_push_size _ rfl, rfl, rfl⟩, Heap.get?_push_of_some _ e, r.keep fun b o e _ => Heap.get?_push_of_some _ e⟩)
/-- the ints of range(i, j) -/
def upto (i : Int) : Nat → List AV
  | 0 => []
  | k + 1 => .int i :: upto (i + 1) k
theorem rng_one : ∀ (k : Nat) (i : Int), rng i 1 k = upto i k := by
  intro k
  induction k with
  | zero => intro i; rfl
  | succ k ih =>
    intro i
    rw [upto, ← ih (i + 1)]
    simp only [rng, List.range_succ_eq_map, List.map_cons, List.map_map]
    congr 1
    · simp
    · refine List.map_congr_left fun x _ => ?_
      simp only [Function.comp]; push_cast; congr 1; omega
theorem Src.rng {i j : Int} (hz : Builtin.Range.small i j 1 = true) : Src c σ (.rng i j 1) (upto i (j - i).toNat) (fun _ => True) := by
  have e0 : (Builtin.Range.rangeSize i j 1).toNat = (j - i).toNat := by
    unfold Builtin.Range.rangeSize
    simp only [show (1 : Int) > 0 by decide, if_true, Int.ediv_one]
    split <;> omega
  have e1 : 0 ≤ Builtin.Range.rangeSize i j 1 := by
    unfold Builtin.Range.rangeSize
    simp only [show (1 : Int) > 0 by decide, if_true, Int.ediv_one]
    split <;> omega
  rw [← e0, ← rng_one]
  refine ⟨_, Itr.range c i 1 (Builtin.Range.rangeSize i j 1).toNat, fun h₀ s A E x Q S r q => ?_, trivial⟩
  cases r with
  | rng e =>
    refine wpAny_pyIter_range e hz (q _ ?_)
    rw [show i + ((0 : Nat) : Int) * 1 = i by simp, show (((Builtin.Range.rangeSize i j 1).toNat : Nat) : Int) - ((0 : Nat) : Int) = Builtin.Range.rangeSize i j 1 by omega]
    exact Heap.get?_push_size _ rfl
theorem Ex.forS {t iter : Expr} {body : List Stmt} {pos : Pos} {K : AF → Loc → AH → Prop} (hs : ∀ env x, foldedSetIterable iter env x = pure x) (ht : ∀ it v, letOwnedTupleGo t it v = pure ())
    (h : Ev c n f iter ℓ σ fun u ℓ₁ σ₁ => ∃ vs G, Src c σ₁ u vs G ∧ Lo c n f t body G K vs ℓ₁ σ₁) : Ex c n f (.For t iter body [] pos) ℓ σ K :=
  Ex.for_ hs ht (J.mono h fun u ℓ₁ σ₁ ⟨vs, G, ⟨IT, hI, hi, hg⟩, hL⟩ => ⟨vs, G, IT, hI, hi, hg, hL⟩)
theorem Ev.compS {elt t iter : Expr} {ifs : List Expr} {sc : Scope} {pos : Pos} {cl : List (Str × Addr)} {K : AV → Loc → AH → Prop} (hs : ∀ env x, foldedSetIterable iter env x = pure x) (ht : ∀ it v, letOwnedTupleGo t it v = pure ())
    (hclos : ∀ L, closureFor sc (f.env L) = pure cl) (hcell : ∀ y ∈ sc.names, y.2 ≠ .cell) (hk : sc.kind = .function) (hnames : ∀ y ∈ sc.names, y.2 = .local → sc.names.lookup y.1 = some .local)
    (h : Ev c n f iter ℓ σ fun u ℓ₁ σ₁ => ∃ vs G, Src c σ₁ u vs G ∧ ∀ L D, σ₁ D = none → G (AH.set σ₁ D (.list [])) ∧ Lc c n (f.comp L sc cl hk) t ifs elt D G (fun σ' => K (.ref D) ℓ₁ σ') vs [] (AH.set σ₁ D (.list []))) :
    Ev c n f (.ListComp elt [⟨t, iter, ifs, 0⟩] sc pos) ℓ σ K :=
  Ev.comp hs ht hclos hcell hk hnames (J.mono h fun u ℓ₁ σ₁ ⟨vs, G, ⟨IT, hI, hi, hg⟩, hL⟩ => ⟨vs, G, IT, hI, hi, hL⟩)
/-- ints that pass a test -/
theorem Lc.filter {x : Str} {p1 p2 : Pos} {ifs : List Expr} {D : Addr} {G : AH → Prop} {K : AH → Prop} (p : Int → Bool) (hl : ∀ L, (f.env L).kindOf x = some .local) (hd : (x == ("__debug__" : Str)) = false)
    (hG : ∀ τ l, G τ → G (AH.set τ D (.list l))) (ht : ∀ i ℓ τ K', look x ℓ = some (.int i) → K' (p i) ℓ τ → Fs c n f ifs ℓ τ K') :
    ∀ (is : List Int) (ys : List Int) (ℓ : Loc) (σ : AH), G σ → σ D = some (.list (ys.map .int)) → ys.length + is.length ≤ sizeLine → K (AH.set σ D (.list ((ys ++ is.filter p).map .int))) → Lc c n f (.Name x p1) ifs (.Name x p2) D G K (is.map .int) ℓ σ
  | [], ys, ℓ, σ, hg, hD, hz, h => by
    rw [List.filter_nil, List.append_nil, set_id hD] at h; exact h
  | i :: is, ys, ℓ, σ, hg, hD, hz, h => by
    rw [List.length_cons] at hz
    show As c n f _ _ ℓ σ _
    refine As.name hl ?_
    have lk : look x (put x (.int i) ℓ) = some (.int i) := by
      clear h hz hD hg ht
      induction ℓ with
      | nil => simp [put, look]
      | cons q r ih =>
        obtain ⟨y, v⟩ := q
        simp only [put]
        split
        · rename_i e; simp only [look, e, if_true]
        · rename_i e; simp only [look, e, if_false]; exact ih
    refine ht i _ _ _ lk ?_
    cases hp : p i with
    | false =>
      simp only [Bool.false_eq_true, if_false]
      refine ⟨hg, Lc.filter p hl hd hG ht is ys _ σ hg hD (by omega) ?_⟩
      rwa [List.filter_cons_of_neg (by simp [hp])] at h
    | true =>
      simp only [if_true]
      refine Ev.loc hl hd lk ⟨_, ⟨hD, by rw [List.length_map]; omega, hG _ _ hg⟩, ?_⟩
      have e : ys.map AV.int ++ [AV.int i] = (ys ++ [i]).map AV.int := by simp
      rw [e]
      refine Lc.filter p hl hd hG ht is (ys ++ [i]) _ _ (hG _ _ hg) AH.set_same (by simp; omega) ?_
      rw [set_set, List.append_assoc, List.singleton_append]
      rwa [List.filter_cons_of_pos (by simp [hp])] at h
theorem SlE.ints {i : Int} {j : Option Int} {cs : List Int} {K : AV → Loc → AH → Prop} (h1 : 1 ≤ i) (h2 : i ≤ cs.length) (hj : ∀ b, j = some b → 0 ≤ b) (hz : cs.length ≤ sizeLine) (h : K (.tup ((cut (some i) j cs).map .int)) ℓ σ) : SlE σ ℓ (some i) j (.tup (cs.map .int)) K := by
  obtain ⟨a, rfl⟩ := Int.eq_ofNat_of_zero_le (show 0 ≤ i by omega)
  exact SlE.tup (by omega) (by rw [List.length_map]; omega) hj (by rw [List.length_map]; exact hz) (by rw [cut_map]; exact h)
theorem Lc.nil' {t : Expr} {ifs : List Expr} {elt : Expr} {D : Addr} {G : AH → Prop} {K : AH → Prop} (h : K σ) : Lc c n f t ifs elt D G K [] ℓ σ := h
theorem Lc.cons' {t : Expr} {ifs : List Expr} {elt : Expr} {D : Addr} {G : AH → Prop} {K : AH → Prop} {v : AV} {vs : List AV} (h : As c n f t v ℓ σ fun ℓ₁ σ₁ => Fs c n f ifs ℓ₁ σ₁ fun ok ℓ₂ σ₂ => if ok then Ev c n f elt ℓ₂ σ₂ fun y ℓ₃ σ₃ =>
      ∃ ys, (σ₃ D = some (.list ys) ∧ ys.length ≤ sizeLine ∧ G (AH.set σ₃ D (.list (ys ++ [y])))) ∧ Lc c n f t ifs elt D G K vs ℓ₃ (AH.set σ₃ D (.list (ys ++ [y])))
    else G σ₂ ∧ Lc c n f t ifs elt D G K vs ℓ₂ σ₂) : Lc c n f t ifs elt D G K (v :: vs) ℓ σ := h
theorem addIx {vs us : List AV} (l m : List Int) (hl : vs = l.map .int) (hm : us = m.map .int) (hz : l.length + m.length ≤ sizeLine) {K : AV → Loc → AH → Prop} (h : K (.tup ((l ++ m).map .int)) ℓ σ) : O2 c n (binaryOp .Add) (.tup vs) (.tup us) ℓ σ K := by
  subst hl; subst hm
  exact O2.addTup (by rw [List.length_map, List.length_map]; exact hz) (by rw [← List.map_append]; exact h)
end
end Mine
end
section
open PySem PySem.W PySem.Calls PyProof.Rows
set_option Elab.async false
set_option linter.unusedVariables false
set_option maxRecDepth 100000
namespace Mine
theorem execs_app : ∀ (xs ys : List Stmt) (env : Env), execs (xs ++ ys) env = execs xs env >>= fun fl => match fl with | .next => execs ys env | fl => pure fl
  | [], ys, env => by simp only [List.nil_append, execs, pure_bind]
  | s :: xs, ys, env => by
    simp only [List.cons_append, execs, bind_assoc]
    congr 1
    funext fl
    cases fl <;> simp only [pure_bind]
    exact execs_app xs ys env
section
variable {c : Cx} {n : Nat} {f : Fe} {ℓ : Loc} {σ : AH} {K : AF → Loc → AH → Prop}
/-- a block, cut in two -/
theorem Exs.cut (m : Nat) {sts : List Stmt} (h : Exs c n f (sts.take m) ℓ σ fun fl ℓ₁ σ₁ => match fl with | .next => Exs c n f (sts.drop m) ℓ₁ σ₁ K | fl => K fl ℓ₁ σ₁) : Exs c n f sts ℓ σ K := by
  refine J.tree (t' := fun L _ => execs (sts.take m) (f.env L) >>= fun fl => match fl with | .next => execs (sts.drop m) (f.env L) | fl => pure fl) (fun L _ => by rw [← execs_app, List.take_append_drop]) (J.bind (R := RF) ?_)
  refine J.mono h fun fl ℓ₁ σ₁ h₀ => ?_
  intro h₀' A L s x Q E hB hA hS hF hR hC
  cases hR with
  | next => exact h₀ h₀' A L s () Q E hB hA hS hF trivial hC
  | brk => exact wpAny_pure (hC _ _ _ _ _ s.toks h₀ hS hF (Ext.refl _ _ _) .brk)
  | cont => exact wpAny_pure (hC _ _ _ _ _ s.toks h₀ hS hF (Ext.refl _ _ _) .cont)
  | ret r => exact wpAny_pure (hC _ _ _ _ _ s.toks h₀ hS hF (Ext.refl _ _ _) (.ret r))
end
/-- more names than are spoken of -/
def LS (ℓ ℓ' : Loc) : Prop := ∀ x v, look x ℓ = some v → look x ℓ' = some v
theorem LS.refl (ℓ : Loc) : LS ℓ ℓ := fun _ _ e => e
theorem LS.app (ℓ r : Loc) : LS ℓ (ℓ ++ r) := fun x v e => by rw [look_append, e]; rfl
section
variable {c : Cx} {n : Nat} {f : Fe} {ℓ ℓ' : Loc} {σ : AH}
theorem J.weak {α β ι : Type} {R : Heap → β → α → Prop} {P : Heap → ι → Prop} {t : Addr → ι → Sem α} {K : β → Loc → AH → Prop} (q : LS ℓ ℓ') (h : J c R n P t ℓ σ K) : J c R n P t ℓ' σ K :=
  fun h₀ A L s i Q E hB hA hS hF hP hC => h h₀ A L s i Q E hB hA hS ⟨let ⟨m, hm, hl⟩ := hF.fr; ⟨m, hm, fun x v e => hl x v (q x v e)⟩, hF.off, hF.plain⟩ hP hC
theorem As.weak {t : Expr} {v : AV} {K : Loc → AH → Prop} (q : LS ℓ ℓ') (h : As c n f t v ℓ σ K) : As c n f t v ℓ' σ K := J.weak q h
theorem Exs.weak {sts : List Stmt} {K : AF → Loc → AH → Prop} (q : LS ℓ ℓ') (h : Exs c n f sts ℓ σ K) : Exs c n f sts ℓ' σ K := J.weak q h
end
section
variable {c : Cx} {n : Nat} {f : Fe} {ℓ : Loc} {σ : AH} {K : AF → Loc → AH → Prop}
theorem Exs.mono {sts : List Stmt} {K' : AF → Loc → AH → Prop} (h : Exs c n f sts ℓ σ K) (k : ∀ fl ℓ σ, K fl ℓ σ → K' fl ℓ σ) : Exs c n f sts ℓ σ K' := J.mono h k
end
end Mine
end
section
open PySem PySem.W PySem.Calls PyProof.Rows PySem.SeqAt
set_option Elab.async false
set_option linter.unusedVariables false
set_option maxRecDepth 100000
namespace Mine
theorem xs0 {P : List Value → Prop} (h : P []) : ∀ xs : List Value, xs.length = 0 → P xs
  | [], _ => h
section
variable {c : Cx} {n : Nat} {f : Fe} {ℓ : Loc} {σ : AH}
/-- an expression that changes nothing, and its value -/
def V (c : Cx) (n : Nat) (f : Fe) (ℓ : Loc) (σ : AH) (e : Expr) (v : AV) : Prop := ∀ K : AV → Loc → AH → Prop, K v ℓ σ → Ev c n f e ℓ σ K
/-- a test that changes nothing -/
def T (c : Cx) (n : Nat) (f : Fe) (ℓ : Loc) (σ : AH) (e : Expr) (b : Bool) : Prop := ∀ K : Bool → Loc → AH → Prop, K b ℓ σ → Ts c n f e ℓ σ K
def TA (c : Cx) (n : Nat) (f : Fe) (ℓ : Loc) (σ : AH) (op : BoolOp) (es : List Expr) (b : Bool) : Prop := ∀ K : Bool → Loc → AH → Prop, K b ℓ σ → Tall c n f op es ℓ σ K
def VL (c : Cx) (n : Nat) (f : Fe) (ℓ : Loc) (σ : AH) (pos : Pos) (es : List Expr) (vs : List AV) : Prop := ∀ K : List AV → Loc → AH → Prop, K vs ℓ σ → Els c n f pos es ℓ σ K
def V1 (c : Cx) (n : Nat) (ℓ : Loc) (σ : AH) (g : Value → Sem Value) (u v : AV) : Prop := ∀ K : AV → Loc → AH → Prop, K v ℓ σ → O1 c n g u ℓ σ K
def V2 (c : Cx) (n : Nat) (ℓ : Loc) (σ : AH) (g : Value → Value → Sem Value) (u w v : AV) : Prop := ∀ K : AV → Loc → AH → Prop, K v ℓ σ → O2 c n g u w ℓ σ K
def VC (c : Cx) (n : Nat) (ℓ : Loc) (σ : AH) (g : Value) (vs : List AV) (v : AV) : Prop := ∀ K : AV → Loc → AH → Prop, K v ℓ σ → OL c n (fun xs => PySem.call g xs) vs ℓ σ K

theorem V.attr {o : Expr} {x : Str} {pos : Pos} {u v : AV} (he : ∀ env, eval (.Attribute o x pos) env = (do
      let ov ← eval o env
      standAt pos.atName
      let r ← holding [ov] (getAttr ov x true)
      letTemporaryGo o ov r
      pure r)) (h : V c n f ℓ σ o u) (h' : V1 c n ℓ σ (fun y => getAttr y x true) u v) : V c n f ℓ σ (.Attribute o x pos) v :=
  fun K k => Ev.attr he (h _ (h' K k))
theorem V.bin {op : Operator} {l r : Expr} {pos : Pos} {u w v : AV} (h : V c n f ℓ σ l u) (h' : V c n f ℓ σ r w) (hg : V2 c n ℓ σ (binaryOp op) u w v) : V c n f ℓ σ (.BinOp l op r pos) v := fun K k => Ev.bin (h _ (h' _ (hg K k)))
theorem V.un {op : UnaryOp} {e : Expr} {pos : Pos} {u v : AV} (h : V c n f ℓ σ e u) (hg : V1 c n ℓ σ (unaryOp op) u v) : V c n f ℓ σ (.UnaryOp op e pos) v := fun K k => Ev.un (h _ (hg K k))
theorem V.cmp {op : CmpOp} {l r : Expr} {pos : Pos} {u w v : AV} (hm : behindInMarks op r = false) (h : V c n f ℓ σ l u) (h' : V c n f ℓ σ r w) (hg : V2 c n ℓ σ (compareOp op) u w v) : V c n f ℓ σ (.Compare l [op] [r] pos) v := fun K k => Ev.cmp hm (h _ (h' _ (hg K k)))
theorem V.sub {o i : Expr} {pos : Pos} {u w v : AV} (h : V c n f ℓ σ o u) (h' : V c n f ℓ σ i w) (hg : V2 c n ℓ σ (subscriptTail o i) u w v) : V c n f ℓ σ (.Subscript o i pos) v := fun K k => Ev.sub (h _ (h' _ (hg K k)))
theorem V.ifT {t b o : Expr} {pos : Pos} {v : AV} (h : T c n f ℓ σ t true) (h' : V c n f ℓ σ b v) : V c n f ℓ σ (.IfExp t b o pos) v := fun K k => Ev.ifExp (h _ (h' K k))
theorem V.ifF {t b o : Expr} {pos : Pos} {v : AV} (h : T c n f ℓ σ t false) (h' : V c n f ℓ σ o v) : V c n f ℓ σ (.IfExp t b o pos) v := fun K k => Ev.ifExp (h _ (h' K k))
theorem V.tuple {es : List Expr} {k : Nat} {pos : Pos} {vs : List AV} (hz : es.length ≤ 1000) (hz' : vs.length ≤ sizeLine) (h : VL c n f ℓ σ pos es vs) : V c n f ℓ σ (.Tuple es k pos) (.tup vs) := fun K k => Ev.tuple hz (h _ ⟨hz', k⟩)
theorem V.last {op : BoolOp} {e : Expr} {pos : Pos} {v : AV} (h : V c n f ℓ σ e v) : V c n f ℓ σ (.BoolOp op [e] pos) v := fun K k => Ev.boolOpLast (h K k)
theorem V.andF {e e' : Expr} {es : List Expr} {pos : Pos} (h : V c n f ℓ σ e (.bool false)) : V c n f ℓ σ (.BoolOp .And (e :: e' :: es) pos) (.bool false) := fun K k => Ev.and (h _ (Tr.bool k))
theorem V.andT {e e' : Expr} {es : List Expr} {pos : Pos} {v : AV} (h : V c n f ℓ σ e (.bool true)) (h' : V c n f ℓ σ (.BoolOp .And (e' :: es) pos) v) : V c n f ℓ σ (.BoolOp .And (e :: e' :: es) pos) v := fun K k => Ev.and (h _ (Tr.bool (h' K k)))
theorem V.orT {e e' : Expr} {es : List Expr} {pos : Pos} (h : V c n f ℓ σ e (.bool true)) : V c n f ℓ σ (.BoolOp .Or (e :: e' :: es) pos) (.bool true) := fun K k => Ev.or (h _ (Tr.bool k))
theorem V.orF {e e' : Expr} {es : List Expr} {pos : Pos} {v : AV} (h : V c n f ℓ σ e (.bool false)) (h' : V c n f ℓ σ (.BoolOp .Or (e' :: es) pos) v) : V c n f ℓ σ (.BoolOp .Or (e :: e' :: es) pos) v := fun K k => Ev.or (h _ (Tr.bool (h' K k)))
theorem V.chF {op op' : CmpOp} {l r r' : Expr} {pos : Pos} {u w : AV} (hm : lastMarks [op, op'] [r, r'] = false) (h : V c n f ℓ σ l u) (h' : V c n f ℓ σ r w) (hg : V2 c n ℓ σ (compareOp op) u w (.bool false)) : V c n f ℓ σ (.Compare l [op, op'] [r, r'] pos) (.bool false) :=
  fun K k => Ev.chain hm (h _ (h' _ (hg _ (Tr.bool k))))
theorem V.chT {op op' : CmpOp} {l r r' : Expr} {pos : Pos} {u w y v : AV} (hm : lastMarks [op, op'] [r, r'] = false) (h : V c n f ℓ σ l u) (h' : V c n f ℓ σ r w) (hg : V2 c n ℓ σ (compareOp op) u w (.bool true)) (h2 : V c n f ℓ σ r' y) (hg2 : V2 c n ℓ σ (compareOp op') w y v) : V c n f ℓ σ (.Compare l [op, op'] [r, r'] pos) v :=
  fun K k => Ev.chain hm (h _ (h' _ (hg _ (Tr.bool (h2 _ (hg2 K k))))))
theorem V.yes {e : Expr} {b b' : Bool} (h : V c n f ℓ σ e (.bool b)) (hb : b = b') : V c n f ℓ σ e (.bool b') := hb ▸ h
theorem V2.yes {g : Value → Value → Sem Value} {u w : AV} {b b' : Bool} (h : V2 c n ℓ σ g u w (.bool b)) (hb : b = b') : V2 c n ℓ σ g u w (.bool b') := hb ▸ h
theorem V.loc {x : Str} {pos : Pos} {v : AV} (hl : ∀ L, (f.env L).kindOf x = some .local) (hd : (x == ("__debug__" : Str)) = false) (hv : look x ℓ = some v) : V c n f ℓ σ (.Name x pos) v := fun K k => Ev.loc hl hd hv k
/-- a call, its callee and what it is given -/
def W (c : Cx) (n : Nat) (f : Fe) (ℓ : Loc) (σ : AH) (e : Expr) (g : Value) (vs : List AV) : Prop := ∀ K : AV → Loc → AH → Prop, OL c n (fun xs => PySem.call g xs) vs ℓ σ K → Ev c n f e ℓ σ K
theorem W.call {o : Expr} {pos : Pos} {args : List Expr} {g : Value} {u : AV} {vs : List AV}
    (he : ∀ env, eval (.Call o args [] pos) env = (do callWith pos (← eval o env) [] (backTo pos (starEach args env)) (backToKw pos (keywordEach [] env))))
    (hp : ∀ env, (backTo pos (starEach args env)).any (·.1) = false) (h : V c n f ℓ σ o u) (hk : ∀ K : Value → Prop, K g → ∃ g', (u = .raw g' ∧ Kept c g') ∧ K g') (h' : VL c n f ℓ σ pos args vs) : W c n f ℓ σ (.Call o args [] pos) g vs := by
  obtain ⟨g', q, rfl⟩ := hk (· = g) rfl
  exact fun K k => Ev.call he hp (h _ ⟨g', q, h' _ k⟩)
theorem W.mcall {o : Expr} {x : Str} {apos pos : Pos} {args : List Expr} {g : Value} {u : AV} {vs : List AV}
    (he : ∀ env, eval (.Call (.Attribute o x apos) args [] pos) env = (do
      let ov ← eval o env
      standAt apos.atName
      let (g, first) ← holding [ov] (getMethod ov x (do return (← importBound o env).getD true))
      callWith pos g first (backTo pos (starEach args env)) (backToKw pos (keywordEach [] env))))
    (hp : ∀ env, (backTo pos (starEach args env)).any (·.1) = false) (h : V c n f ℓ σ o u) (hk : ∀ K : Value → Prop, K g → ∃ g', (Kept c g' ∧ Meth c n x u ℓ σ g') ∧ K g') (h' : VL c n f ℓ σ pos args vs) : W c n f ℓ σ (.Call (.Attribute o x apos) args [] pos) g (u :: vs) := by
  obtain ⟨g', q, rfl⟩ := hk (· = g) rfl
  exact fun K k => Ev.mcall he hp (h _ ⟨g', q, h' _ k⟩)
theorem V.ofW {e : Expr} {g : Value} {vs : List AV} {v : AV} (h : W c n f ℓ σ e g vs) (hg : VC c n ℓ σ g vs v) : V c n f ℓ σ e v := fun K k => h K (hg K k)
theorem VL.nil {pos : Pos} : VL c n f ℓ σ pos [] [] := fun K k => Els.nil k
theorem VL.cons {pos : Pos} {e : Expr} {es : List Expr} {v : AV} {vs : List AV} (he : ∀ env, starEach (e :: es) env = (false, eval e env) :: starEach es env) (h : V c n f ℓ σ e v) (h' : VL c n f ℓ σ pos es vs) : VL c n f ℓ σ pos (e :: es) (v :: vs) :=
  fun K k => Els.cons he (h _ (h' _ k))

theorem T.val {e : Expr} {b : Bool} (he : ∀ env whole, isTrue e env whole = (do let v ← whole; standAt e.pos; holding [v] (truthy v))) (h : V c n f ℓ σ e (.bool b)) : T c n f ℓ σ e b := fun K k => Ts.val he (h _ (Tr.bool k))
theorem T.cmp {op : CmpOp} {l r : Expr} {pos : Pos} {u w : AV} {b : Bool} (hm : behindInMarks op r = false) (h : V c n f ℓ σ l u) (h' : V c n f ℓ σ r w) (hg : V2 c n ℓ σ (compareOp op) u w (.bool b)) : T c n f ℓ σ (.Compare l [op] [r] pos) b := fun K k => Ts.cmp hm (h _ (h' _ (hg _ (Tr.bool k))))
theorem T.chF {op op' : CmpOp} {l r r' : Expr} {pos : Pos} {u w : AV} (hm : lastMarks [op, op'] [r, r'] = false) (h : V c n f ℓ σ l u) (h' : V c n f ℓ σ r w) (hg : V2 c n ℓ σ (compareOp op) u w (.bool false)) : T c n f ℓ σ (.Compare l [op, op'] [r, r'] pos) false :=
  fun K k => Ts.chain hm (h _ (h' _ (hg _ (Tr.bool k))))
theorem T.chT {op op' : CmpOp} {l r r' : Expr} {pos : Pos} {u w y : AV} {b : Bool} (hm : lastMarks [op, op'] [r, r'] = false) (h : V c n f ℓ σ l u) (h' : V c n f ℓ σ r w) (hg : V2 c n ℓ σ (compareOp op) u w (.bool true)) (h2 : V c n f ℓ σ r' y) (hg2 : V2 c n ℓ σ (compareOp op') w y (.bool b)) : T c n f ℓ σ (.Compare l [op, op'] [r, r'] pos) b :=
  fun K k => Ts.chain hm (h _ (h' _ (hg _ (Tr.bool (h2 _ (hg2 _ (Tr.bool k)))))))
theorem T.not {e : Expr} {pos : Pos} {b : Bool} (h : T c n f ℓ σ e b) : T c n f ℓ σ (.UnaryOp .Not e pos) (!b) := fun K k => Ts.not (h _ k)
theorem T.boolOp {op : BoolOp} {es : List Expr} {pos : Pos} {b : Bool} (h : TA c n f ℓ σ op es b) : T c n f ℓ σ (.BoolOp op es pos) b := fun K k => Ts.boolOp (h K k)
theorem T.ifT {t b o : Expr} {pos : Pos} {v : Bool} (h : T c n f ℓ σ t true) (h' : T c n f ℓ σ b v) : T c n f ℓ σ (.IfExp t b o pos) v := fun K k => Ts.ifExp (h _ (h' K k))
theorem T.ifF {t b o : Expr} {pos : Pos} {v : Bool} (h : T c n f ℓ σ t false) (h' : T c n f ℓ σ o v) : T c n f ℓ σ (.IfExp t b o pos) v := fun K k => Ts.ifExp (h _ (h' K k))
theorem T.yes {e : Expr} {b b' : Bool} (h : T c n f ℓ σ e b) (hb : b = b') : T c n f ℓ σ e b' := hb ▸ h
theorem TA.andNil : TA c n f ℓ σ .And [] true := fun K k => Tall.andNil k
theorem TA.orNil : TA c n f ℓ σ .Or [] false := fun K k => Tall.orNil k
theorem TA.andT {e : Expr} {es : List Expr} {b : Bool} (h : T c n f ℓ σ e true) (h' : TA c n f ℓ σ .And es b) : TA c n f ℓ σ .And (e :: es) b := fun K k => Tall.and (h _ (h' K k))
theorem TA.andF {e : Expr} {es : List Expr} (h : T c n f ℓ σ e false) : TA c n f ℓ σ .And (e :: es) false := fun K k => Tall.and (h _ k)
theorem TA.orF {e : Expr} {es : List Expr} {b : Bool} (h : T c n f ℓ σ e false) (h' : TA c n f ℓ σ .Or es b) : TA c n f ℓ σ .Or (e :: es) b := fun K k => Tall.or (h _ (h' K k))
theorem TA.orT {e : Expr} {es : List Expr} (h : T c n f ℓ σ e true) : TA c n f ℓ σ .Or (e :: es) true := fun K k => Tall.or (h _ k)

/-- statements, with what follows them -/
theorem St_assign {x : Str} {xp pos : Pos} {value : Expr} {rest : List Stmt} {v : AV} {K : AF → Loc → AH → Prop}
    (hs : ∀ env, swapsWithSole [.Name x xp] value pos.line env = pure false) (hw : ∀ L, swappedStores [.Name x xp] value (f.env L) = pure none)
    (h : V c n f ℓ σ value v) (hl : ∀ L, (f.env L).kindOf x = some .local) (k : Exs c n f rest (put x v ℓ) σ K) : Exs c n f (.Assign [.Name x xp] value pos :: rest) ℓ σ K :=
  Exs.cons (Ex.assign (fun _ => rfl) hs hw (h _ (As.name hl k)))
theorem St_expr {e : Expr} {pos : Pos} {rest : List Stmt} {v : AV} {K : AF → Loc → AH → Prop} (hs : ∀ env, swapsWith e none pos.line env = pure false) (h : V c n f ℓ σ e v) (k : Exs c n f rest ℓ σ K) : Exs c n f (.Expr e pos :: rest) ℓ σ K :=
  Exs.cons (Ex.expr hs (h _ k))
theorem St_ret {e : Expr} {pos : Pos} {rest : List Stmt} {v : AV} {K : AF → Loc → AH → Prop} (h : V c n f ℓ σ e v) (k : K (.ret v) ℓ σ) : Exs c n f (.Return (some e) pos :: rest) ℓ σ K := Exs.cons (Ex.ret (h _ k))
theorem execs_if (t : Expr) (b o rest : List Stmt) (pos : Pos) (env : Env) : execs (.If t b o pos :: rest) env = exec (.If t (b ++ rest) (o ++ rest) pos) env := by
  rw [execs]
  simp only [exec_If, bind_assoc, execs_app]
  congr 1
  funext _
  congr 1
  funext x
  cases x <;> rfl
theorem St_ifT {t : Expr} {b o rest : List Stmt} {pos : Pos} {K : AF → Loc → AH → Prop} (h : T c n f ℓ σ t true) (k : Exs c n f (b ++ rest) ℓ σ K) : Exs c n f (.If t b o pos :: rest) ℓ σ K :=
  J.tree (fun L _ => execs_if t b o rest pos (f.env L)) (Ex.if_ (c := c) (n := n) (f := f) (h _ (by rw [if_pos rfl]; exact k)))
theorem St_ifF {t : Expr} {b o rest : List Stmt} {pos : Pos} {K : AF → Loc → AH → Prop} (h : T c n f ℓ σ t false) (k : Exs c n f (o ++ rest) ℓ σ K) : Exs c n f (.If t b o pos :: rest) ℓ σ K :=
  J.tree (fun L _ => execs_if t b o rest pos (f.env L)) (Ex.if_ (c := c) (n := n) (f := f) (h _ (by rw [if_neg Bool.false_ne_true]; exact k)))
theorem St_assignW {x : Str} {xp pos : Pos} {value : Expr} {rest : List Stmt} {g : Value} {vs : List AV} {K : AF → Loc → AH → Prop}
    (hs : ∀ env, swapsWithSole [.Name x xp] value pos.line env = pure false) (hw : ∀ L, swappedStores [.Name x xp] value (f.env L) = pure none)
    (h : W c n f ℓ σ value g vs) (hl : ∀ L, (f.env L).kindOf x = some .local) (k : OL c n (fun xs => PySem.call g xs) vs ℓ σ fun v ℓ₁ σ₁ => Exs c n f rest (put x v ℓ₁) σ₁ K) : Exs c n f (.Assign [.Name x xp] value pos :: rest) ℓ σ K :=
  Exs.cons (Ex.assign (fun _ => rfl) hs hw (h _ (J.mono k fun v ℓ₁ σ₁ k => As.name hl k)))
theorem St_exprW {e : Expr} {pos : Pos} {rest : List Stmt} {g : Value} {vs : List AV} {K : AF → Loc → AH → Prop} (hs : ∀ env, swapsWith e none pos.line env = pure false) (h : W c n f ℓ σ e g vs) (k : OL c n (fun xs => PySem.call g xs) vs ℓ σ fun _ ℓ₁ σ₁ => Exs c n f rest ℓ₁ σ₁ K) : Exs c n f (.Expr e pos :: rest) ℓ σ K :=
  Exs.cons (Ex.expr hs (h _ k))
theorem St_retW {e : Expr} {pos : Pos} {rest : List Stmt} {g : Value} {vs : List AV} {K : AF → Loc → AH → Prop} (h : W c n f ℓ σ e g vs) (k : OL c n (fun xs => PySem.call g xs) vs ℓ σ fun v ℓ₁ σ₁ => K (.ret v) ℓ₁ σ₁) : Exs c n f (.Return (some e) pos :: rest) ℓ σ K := Exs.cons (Ex.ret (h _ k))
theorem St_attr {o : Expr} {x : Str} {xp pos : Pos} {value : Expr} {rest : List Stmt} {u v : AV} {σ' : AH} {K : AF → Loc → AH → Prop}
    (hs : ∀ env, swapsWithSole [.Attribute o x xp] value pos.line env = pure false) (hw : ∀ L, swappedStores [.Attribute o x xp] value (f.env L) = pure none)
    (h : V c n f ℓ σ value v) (h' : V c n f ℓ σ o u) (hg : ∀ K : Loc → AH → Prop, K ℓ σ' → S2 c n (fun y z => setAttr y x z) u v ℓ σ K) (k : Exs c n f rest ℓ σ' K) : Exs c n f (.Assign [.Attribute o x xp] value pos :: rest) ℓ σ K :=
  Exs.cons (Ex.assign (fun _ => rfl) hs hw (h _ (As.attr (h' _ (hg _ k)))))
theorem St_item {o i : Expr} {xp pos : Pos} {value : Expr} {rest : List Stmt} {u y v : AV} {σ' : AH} {K : AF → Loc → AH → Prop}
    (hs : ∀ env, swapsWithSole [.Subscript o i xp] value pos.line env = pure false) (hw : ∀ L, swappedStores [.Subscript o i xp] value (f.env L) = pure none)
    (h : V c n f ℓ σ value v) (h' : V c n f ℓ σ o u) (h2 : V c n f ℓ σ i y) (hg : ∀ K : Loc → AH → Prop, K ℓ σ' → S3 c n setItem u y v ℓ σ K) (k : Exs c n f rest ℓ σ' K) : Exs c n f (.Assign [.Subscript o i xp] value pos :: rest) ℓ σ K :=
  Exs.cons (Ex.assign (fun _ => rfl) hs hw (h _ (As.sub (h' _ (h2 _ (hg _ k))))))
theorem ninIx {vs : List AV} {i : Int} (l : List Int) (hl : vs = l.map .int) {K : AV → Loc → AH → Prop} (h : K (.bool (!l.contains i)) ℓ σ) : O2 c n (compareOp .NotIn) (.int i) (.tup vs) ℓ σ K := by
  subst hl
  refine J.now h fun h₀ A L s y Q E hB hA hS hF hP q => ?_
  obtain ⟨as, ra⟩ := (DV.int (σ := σ) i).reads hS hP.1
  obtain ⟨bs, rb⟩ := DV.reads hS (.tup (DVs.ints σ l)) hP.2
  exact PySem.SeqAt.notIn_tuple_reads rb ra (lay_ints l) (canLay_of_shaped rfl) (room_in_shaped rfl (by have := hA.units; omega)) (by rw [anyIx]; exact q _ s.toks (.bool _))
theorem beqT {i j : Int} (h : i = j) : (i == j) = true := beq_iff_eq.mpr h
theorem beqF {i j : Int} (h : ¬ i = j) : (i == j) = false := beq_eq_false_iff_ne.mpr h
theorem bneT {i j : Int} (h : ¬ i = j) : (i != j) = true := bne_iff_ne.mpr h
theorem bneF {i j : Int} (h : i = j) : (i != j) = false := by rw [h]; simp
theorem notT {b : Bool} (h : b = false) : (!b) = true := by rw [h]; rfl
theorem notF {b : Bool} (h : b = true) : (!b) = false := by rw [h]; rfl
theorem noT {b : Bool} (h : b = false) : ¬ b = true := by rw [h]; exact Bool.false_ne_true
theorem boolF {b : Bool} (h : ¬ b = true) : b = false := by cases b <;> first | rfl | exact absurd rfl h
end
end Mine
end
section
open PySem PySem.W PySem.Calls PyProof.Rows
set_option Elab.async false
set_option linter.unusedVariables false
set_option maxRecDepth 100000
namespace Mine
open Lean Meta Elab Tactic

/-- a tactic from its text, the names in ps put in -/
def runW (s : String) (ps : List (String × Lean.Expr)) : TacticM Unit := do
  let some st := (Parser.runParserCategory (← getEnv) `tactic s).toOption | throwError s
  let qs ← ps.mapM fun p => return (Name.mkSimple p.1, (← Term.exprToSyntax p.2).raw)
  withEnableInfoTree false (evalTactic (← st.replaceM fun x => return if x.isIdent then qs.lookup x.getId else none))
def bare (e : Lean.Expr) : MetaM Lean.Expr := return (← instantiateMVars e).consumeMData.headBeta
def goalOf (g : MVarId) : MetaM Lean.Expr := do bare (← g.getType)
def ctorOf (e : Lean.Expr) : MetaM Lean.Expr := do
  let e ← bare e
  if (e.getAppFn.constName?.map (← getEnv).isConstructor).getD false then return e else whnf e
def hd (e : Lean.Expr) : String := (e.getAppFn.constName?.map Name.getString!).getD ""
/-- the constructor's name at a path of arguments -/
def nm (e : Lean.Expr) : List Nat → MetaM String
  | [] => return hd (← ctorOf e)
  | i :: r => do nm ((← ctorOf e).getArg! i) r
def listOf : Nat → Lean.Expr → List Lean.Expr
  | 0, _ => []
  | k + 1, e => let e := e.consumeMData; if e.isAppOfArity ``List.cons 3 then e.appFn!.appArg! :: listOf k e.appArg! else []
def isList : Nat → Lean.Expr → Bool
  | 0, _ => false
  | k + 1, e => let e := e.consumeMData; e.isAppOfArity ``List.nil 1 || (e.isAppOfArity ``List.cons 3 && isList k e.appArg!)
def strOf? (e : Lean.Expr) : Option String := if e.isAppOfArity ``PySem.Str.ofString 1 then (match e.appArg! with | .lit (.strVal s) => some s | _ => none) else none
/-- a literal list of pairs with text keys -/
def pairsOf (e : Lean.Expr) : Option (List (String × Lean.Expr)) := if isList 200 e then (listOf 200 e).mapM fun p => if p.isAppOfArity ``Prod.mk 4 then (strOf? (p.getArg! 2)).map fun s => (s, p) else none else none
def listTo (ty : Lean.Expr) (l : List Lean.Expr) : Lean.Expr := l.foldr (fun x r => mkApp3 (mkConst ``List.cons [0]) ty x r) (mkApp (mkConst ``List.nil [0]) ty)
/-- stores among literal pairs are done -/
def syn (x : Lean.Expr) : MetaM TransformStep := match x.getAppFn with
  | .const n _ => return if n.getPrefix == `PySem.Stmt || n.getPrefix == `PySem.Expr || n == `Mine.Fe.fn then .done x else .continue
  | _ => return .continue
def normPut (e : Lean.Expr) : MetaM Lean.Expr := Meta.transform e (pre := syn) (post := fun x => do
  if x.isAppOfArity ``Mine.put 5 || x.isAppOfArity ``Mine.puts 5 then
    let some k := strOf? (x.getArg! 2) | return .continue
    let some ps := pairsOf (x.getArg! 4) | return .continue
    let pr (a v : Lean.Expr) := mkApp4 (mkConst ``Prod.mk [0, 0]) (mkConst ``PySem.Str) (mkConst ``Mine.AV) a v
    let l := if ps.any (·.1 == k) then ps.map fun q => if q.1 == k then pr (q.2.getArg! 2) (x.getArg! 3) else q.2 else ps.map (·.2) ++ [pr (x.getArg! 2) (x.getArg! 3)]
    return .done (listTo (mkApp2 (mkConst ``Prod [0, 0]) (mkConst ``PySem.Str) (mkConst ``Mine.AV)) l)
  return .continue)
/-- a name's value among literal pairs, with the kernel's proof -/
def lookPf (x L : Lean.Expr) : MetaM (Option Lean.Expr) := do
  let L ← instantiateMVars L
  let x ← instantiateMVars x
  let some k := strOf? x | return none
  let some ps := pairsOf L | return none
  let some (_, p) := ps.find? (·.1 == k) | return none
  let v ← mkAppM ``Option.some #[p.getArg! 3]
  return some (mkApp2 (mkConst ``id [0]) (← mkEq (← mkAppM ``Mine.look #[x, L]) v) (← mkEqRefl v))

/-- an object of the fragment, as it is written there -/
def objExpr (P : Lean.Expr) (a : Nat) : MetaM Lean.Expr := do
  for k in [``KA, ``KB, ``KC, ``KD] do
    let some c := (← getEnv).find? k | throwError "objExpr"
    for p in listOf 1000 c.value!.bindingBody! do
      if p.appFn!.appArg!.rawNatLit? == some a then return p.appArg!.instantiate1 P
  throwError "objExpr: {a}"
/-- how a def's arguments are bound -/
def bindsBy (c o : Lean.Expr) (us : String) : MetaM (String × List (String × Lean.Expr)) := do
  let d := (o.getArg! 2).appArg!.getArg! 7
  unless d.isAppOfArity ``Value.ref 1 do return (if us == "" then "(PySem.BindsTo.of_eq rfl)" else s!"(fun {us} => PySem.BindsTo.of_eq rfl)", [])
  let some t := d.appArg!.rawNatLit?.orElse fun _ => d.appArg!.nat? | throwError "bindsBy"
  let so ← mkAppM ``Option.some #[← objExpr (← mkAppM ``World.params #[← mkAppM ``Prod.fst #[c.appArg!]]) t]
  let lk ← mkAppM ``List.lookup #[mkRawNatLit t, ← mkAppM ``Mine.Cx.K #[c]]
  return (s!"(fun {us} => binds_K X rfl HO rfl rfl rfl)", [("HO", mkApp2 (mkConst ``id [0]) (← mkEq lk so) (← mkEqRefl so))])
/-- a def's call is opened -/
def openFn (a : Nat) : TacticM Unit := withMainContext do
  let t ← goalOf (← getMainGoal)
  unless t.isAppOf ``Mine.Cd do throwError "openFn: no call"
  let c := t.getAppArgs[0]!
  let o ← objExpr (← mkAppM ``World.params #[← mkAppM ``Prod.fst #[c.appArg!]]) a
  let ns := (listOf 50 ((o.getArg! 2).appArg!.getArg! 2 |>.getArg! 1)).map fun x => x.getArg! 0
  let so ← mkAppM ``Option.some #[o]
  let lk ← mkAppM ``List.lookup #[mkRawNatLit a, ← mkAppM ``Mine.Cx.K #[c]]
  let (b, ps) ← bindsBy c o (" ".intercalate (ns.map fun _ => "_"))
  runW s!"refine Mine.code_call NS HF (by kernel_rfl) (fun s xs X e => Mine.xs{ns.length} (P := fun xs => PySem.BindsTo s _ (PySem.Args.mk xs []) (List.zip _ xs)) {b} xs e) (by decide +kernel) (by decide +kernel) (by decide +kernel) rfl rfl rfl ?_"
    (ps ++ [("NS", listTo (mkConst ``PySem.Str) ns), ("HF", mkApp2 (mkConst ``id [0]) (← mkEq lk so) (← mkEqRefl so))])
  runW "dsimp only [List.zip, List.zipWith]" []

def classNames : List (Nat × String) := [(144, "WidthTable"), (320, "Charsets"), (376, "Cursor"), (509, "Margins"), (608, "Tabs"), (773, "Line"), (922, "Grid"), (1213, "Screen"), (1258, "Modes")]
/-- hypotheses l a = r; hypotheses a ≠ b -/
def hyps (ne : Bool) : MetaM (List (Lean.Expr × Lean.Expr × Lean.Expr × Lean.Expr)) := do
  let mut out := []
  for d in ← getLCtx do
    unless d.isImplementationDetail do
      let t := (← instantiateMVars d.type).consumeMData
      if ne then
        if t.isAppOfArity ``Ne 3 then out := (t.getArg! 1, t.getArg! 2, t, d.toExpr) :: out
      else if t.isAppOfArity ``Eq 3 then
        let l := t.getArg! 1
        if l.getAppNumArgs == 1 && !l.getAppFn.isConst || l.isAppOfArity ``Mine.AH.set 4 then out := (l.appFn!, l.appArg!, t.getArg! 2, d.toExpr) :: out
  return out
def someOf? (r : Lean.Expr) : Option Lean.Expr := if r.isAppOfArity ``Option.some 2 then some r.appArg! else none
def apart (o o' : Lean.Expr) : Bool := o.getAppFn.constName? != o'.getAppFn.constName? || (o.isAppOfArity ``AO.inst 3 && o'.isAppOfArity ``AO.inst 3 && o.getArg! 0 != o'.getArg! 0)
/-- fields of written-out structures are read -/
def projs (e : Lean.Expr) : MetaM Lean.Expr := Meta.transform e (pre := syn) (post := fun e => do
  let some n := e.getAppFn.constName? | return .continue
  let some i ← getProjectionFnInfo? n | return .continue
  unless e.getAppNumArgs ≥ i.numParams + 1 && (n.getPrefix == `Mine.SX || n.getPrefix == `Mine.Ad || n.getPrefix == `Mine.LAd) do return .continue
  let a := e.getAppArgs
  let x := a[i.numParams]!
  if x.isFVar then return .continue
  let s ← if x.isAppOf i.ctorName || e.hasLooseBVars then pure x else whnf x
  if s.isAppOf i.ctorName then return .visit (mkAppN (s.getArg! (i.numParams + i.i)) (a.extract (i.numParams + 1) a.size)).headBeta
  return .continue)
/-- an object in plain sight -/
def openO (o : Lean.Expr) : MetaM Lean.Expr := do
  let o ← bare o
  match o.getAppFn.constName? with
  | some n => if (← getEnv).isConstructor n then return o else projs ((← unfoldDefinition? o).getD o).headBeta
  | none => return o
def kits : List (Name × Name × List String × List String) := [(`Mine.Scr, `Mine.Ad, ["s", "g", "ls", "cu", "m", "ch", "ma", "nm", "mo", "st", "wt", "w1", "w2", "w3", "la"], ["l", "c"]), (`Mine.Lw, `Mine.LAd, ["d", "cl", "rs"], ["c"])]
def isKit (t : Lean.Expr) : Bool := kits.any fun k => t.isAppOf k.1
/-- what is said of an address in a state -/
def factAt (side : MVarId → TacticM Unit) (s a : Lean.Expr) : TacticM (Option (Lean.Expr × Lean.Expr)) := do
  for (l, b, r, h) in ← hyps false do
    if l == s && b == a then
      if let some o := someOf? r then return some (o, h)
  for d in ← getLCtx do
    let t := (← instantiateMVars d.type).consumeMData
    if let some (S, D, fs, gs) := kits.find? fun k => t.isAppOf k.1 then
      if t.appArg! == s then
        let A := t.getArg! 0
        for x in fs do
          if (← projs (mkApp (mkConst (D ++ Name.mkSimple x)) A)) == a then
            let p := mkAppN (mkConst (S ++ Name.mkSimple x)) (t.getAppArgs.push d.toExpr)
            if let some o := someOf? ((← projs (← inferType p)).getArg! 2) then return some (o, p)
        if a.isApp then
          for x in gs do
            if (← projs (mkApp (mkConst (D ++ Name.mkSimple x)) A)) == a.appFn! then
              let p := mkAppN (mkConst (S ++ Name.mkSimple x)) (t.getAppArgs ++ #[d.toExpr, a.appArg!])
              let (ms, _, ty) ← forallMetaTelescope (← inferType p)
              for m in ms do side m.mvarId!
              if let some o := someOf? ((← projs ty).getArg! 2) then return some (o, ← instantiateMVars (mkAppN p ms))
  return none
def sideIdx (g : MVarId) : TacticM Unit := g.withContext do
  let t ← projs (← goalOf g)
  let m ← mkFreshExprSyntheticOpaqueMVar t
  let s ← getGoals
  setGoals [m.mvarId!]
  runW "first | assumption | omega" []
  unless (← getUnsolvedGoals).isEmpty do throwError "sideIdx"
  setGoals s
  g.assign m
/-- the states that are spoken of -/
def states : MetaM (List Lean.Expr) := do
  let mut out := []
  for (l, _, _, _) in ← hyps false do unless out.contains l do out := l :: out
  for d in ← getLCtx do
    let t := (← instantiateMVars d.type).consumeMData
    if isKit t then unless out.contains t.appArg! do out := t.appArg! :: out
  return out
mutual
/-- what stands at an address, with its proof -/
def sig : Nat → Lean.Expr → Lean.Expr → TacticM (Option (Lean.Expr × Lean.Expr))
  | 0, _, _ => return none
  | k + 1, s, a => do
    if let some r ← factAt sideIdx s a then return some r
    if s.isAppOfArity ``AH.set 3 then
      let s' := s.getArg! 0
      let b := s.getArg! 1
      let o := s.getArg! 2
      if b == a then return some (o, mkApp3 (mkConst ``AH.set_same) s' b o)
      let some (o', p) ← sig k s' a | return none
      let some ne ← neq k a b | return none
      return some (o', ← mkEqTrans (← mkAppOptM ``AH.set_ne #[s', b, a, o, ne]) p)
    for d in ← getLCtx do
      unless d.isImplementationDetail do
        let t := (← instantiateMVars d.type).consumeMData
        if t.isAppOfArity ``Mine.Sub 2 && t.appArg! == s then
          if let some (o, p) ← sig k (t.getArg! 0) a then return some (o, mkAppN d.toExpr #[a, o, p])
    return none
/-- two addresses are not the same -/
def neq : Nat → Lean.Expr → Lean.Expr → TacticM (Option Lean.Expr)
  | 0, _, _ => return none
  | k + 1, a, b => do
    for (x, y, _, h) in ← hyps true do
      if x == a && y == b then return some h
      if x == b && y == a then return some (← mkAppM ``Ne.symm #[h])
    let hs ← hyps false
    for (l, c, r, h) in hs do
      if r.isAppOf ``Option.none then
        if c == b then
          if let some (_, p) ← sig k l a then return some (← mkAppM ``ne_fresh #[p, h])
        if c == a then
          if let some (_, p) ← sig k l b then return some (← mkAppM ``Ne.symm #[← mkAppM ``ne_fresh #[p, h]])
    for l in ← states do
      if let some (o, p) ← factAt sideIdx l a then
        if let some (o', p') ← factAt sideIdx l b then
          if apart (← openO o) (← openO o') then
            let m ← mkFreshExprMVar (← mkAppM ``Ne #[o, o'])
            let (gs, _) ← runTactic m.mvarId! (← `(tactic| (intro q; cases q)))
            if gs.isEmpty then return some (← mkAppM ``ne_of #[p, p', ← instantiateMVars m])
    return none
end
def sigS (σ v : Lean.Expr) : TacticM (Option (Lean.Expr × Lean.Expr)) := do
  let v ← bare v
  unless v.isAppOfArity ``AV.ref 1 do return none
  let some (o, p) ← sig 60 σ v.appArg! | return none
  let o' ← openO o
  if o' == o then return some (o, p)
  return some (o', mkApp2 (mkConst ``id [0]) (← mkEq (mkApp σ v.appArg!) (← mkAppM ``Option.some #[o'])) p)
def natOf? (c : Lean.Expr) : Option Nat := c.rawNatLit?.orElse fun _ => c.nat?
def clsOf (o : Lean.Expr) : Option String := if o.isAppOfArity ``AO.inst 3 then (natOf? (o.getArg! 0)).bind fun n => classNames.lookup n else none

def sLen : String := "first | decide | omega | (simp only [Mine.partF_len, Mine.blk_wd, List.length_set, List.length_map, List.length_cons, List.length_nil, List.length_append, List.length_replicate, Mine.cut, Mine.splice, List.length_take, List.length_drop, Mine.row_len, PySem.sizeLine_eq]; omega) | (simp; omega)"
theorem fresh_sub {ρ τ : AH} (h : Sub ρ τ) {a : Addr} (e : τ a = none) : ρ a = none := by
  cases q : ρ a with
  | none => rfl
  | some o => rw [h a o q] at e; cases e
/-- nothing stood there before -/
def freshPf (ρ : Lean.Expr) : Nat → Lean.Expr → Lean.Expr → MetaM (Option Lean.Expr)
  | 0, _, _ => return none
  | k + 1, s, p => do
    if s == ρ then return some p
    if s.isAppOfArity ``AH.set 3 then return ← freshPf ρ k (s.getArg! 0) (← mkAppM ``And.left #[← mkAppM ``fresh_set #[p]])
    for d in ← getLCtx do
      unless d.isImplementationDetail do
        let t := (← instantiateMVars d.type).consumeMData
        if t.isAppOfArity ``Mine.Sub 2 && t.appArg! == s then
          if let some q ← freshPf ρ k (t.getArg! 0) (← mkAppM ``fresh_sub #[d.toExpr, p]) then return some q
    return none
def scrTac : String := "first | assumption | exact Mine.Scr.setCu ‹_› _ _ _ _ | exact Mine.Scr.setCu (Mine.Scr.setCu ‹_› _ _ _ _) _ _ _ _ | exact Mine.Scr.setRow ‹_› _ _ (by assumption) (by assumption) | exact Mine.Scr.setCu (Mine.Scr.setRow ‹_› _ _ (by assumption) (by assumption)) _ _ _ _"
/-- a side goal of a contract -/
def sideStep (g : MVarId) : TacticM Unit := g.withContext do
  let t0 ← goalOf g
  let t ← projs t0
  let g ← if t != t0 then g.replaceTargetDefEq t else pure g
  g.withContext do
  if t.isAppOfArity ``Eq 3 then
    let l := t.getArg! 1
    if l.getAppNumArgs == 1 && !l.getAppFn.isConst || l.isAppOfArity ``AH.set 4 then
      if (t.getArg! 2).isAppOf ``Option.none then
        for (s, b, r, h) in ← hyps false do
          if b == l.appArg! && r.isAppOf ``Option.none then
            if let some p ← freshPf l.appFn! 60 s h then
              g.assign p
              return
      if let some (o, p) ← sig 60 l.appFn! l.appArg! then
        if ← isDefEq (t.getArg! 2) (← mkAppM ``Option.some #[o]) then
          g.assign p
          return
  if t.isAppOfArity ``Ne 3 then
    if let some p ← neq 60 (t.getArg! 1) (t.getArg! 2) then
      g.assign p
      return
  let s ← getGoals
  setGoals [g]
  if isKit t then runW scrTac []
  else if t.isAppOf `Mine.OKX then runW "first | assumption | exact Mine.OKX.setCu ‹_› (by omega) (by omega) (by omega) (by omega)" []
  else runW ("first | assumption | trivial | rfl | decide | omega | " ++ sLen ++ " | (simp; done) | decide +kernel") []
  unless (← getUnsolvedGoals).isEmpty do throwError "side"
  setGoals s
/-- known greatest and least are named -/
def intNorm : Nat → TacticM Unit
  | 0 => return
  | k + 1 => withMainContext do
  let t ← goalOf (← getMainGoal)
  let some m := t.find? fun e => (e.isAppOfArity ``Max.max 4 || e.isAppOfArity ``Min.min 4) && !e.hasLooseBVars && ((e.appArg!.find? fun x => x.isAppOf ``Max.max || x.isAppOf ``Min.min).isNone && (e.appFn!.appArg!.find? fun x => x.isAppOf ``Max.max || x.isAppOf ``Min.min).isNone) | return
  let ok ← try Tactic.withoutRecover (runW "first | rw [show M = A from by omega] | rw [show M = B from by omega]" [("M", m), ("A", m.appFn!.appArg!), ("B", m.appArg!)]); pure true catch _ => pure false
  if ok then intNorm k
/-- a screen stands in this state -/
def scrPf (S : Name) : Nat → Lean.Expr → TacticM Lean.Expr
  | 0, _ => throwError "scrPf"
  | k + 1, σ => do
  for d in ← getLCtx do
    let t := (← instantiateMVars d.type).consumeMData
    if t.isAppOf S && t.appArg! == σ then return d.toExpr
  unless σ.isAppOfArity ``AH.set 3 do throwError "scrPf"
  let p ← scrPf S k (σ.getArg! 0)
  for n in [`setCu, `setRow, `setLn, `put, `setD] do
    if (← getEnv).contains (S ++ n) then
      let (ms, _, t) ← forallMetaTelescope (← inferType (← mkAppM (S ++ n) #[p]))
      if ← isDefEq t.appArg! σ then
        for m in ms do
          if !(← m.mvarId!.isAssigned) then
            if ← Meta.isProp (← inferType m) then sideStep m.mvarId!
        return ← instantiateMVars (← mkAppM (S ++ n) (#[p] ++ ms))
  throwError "scrPf"
/-- a contract is used -/
def useC (nm : Name) : TacticM Unit := withMainContext do
  let g ← getMainGoal
  let t ← goalOf g
  let c ← mkConstWithFreshMVarLevels nm
  let (ms, _, concl) ← forallMetaTelescope (← inferType c)
  for m in ms do
    let ty ← instantiateMVars (← inferType m)
    if isKit ty then
      let p ← scrPf ty.getAppFn.constName! 9 t.getAppArgs[5]!
      unless ← isDefEq ty (← inferType p) do throwError "useC: screen"
      m.mvarId!.assign p
  unless ← isDefEq concl (← g.getType) do throwError "useC"
  g.assign (mkAppN c ms)
  let gs := (ms.map Lean.Expr.mvarId!).toList
  let gs ← gs.filterM fun g => do return !(← g.isAssigned)
  let mut main := none
  let mut later := []
  for g in gs do
    let ty ← bare (← g.getType)
    if ← Meta.isProp ty then
      if let some m := main then later := later ++ [m]
      main := some g
  for g in later do
    unless ← g.isAssigned do sideStep g
  let some m := main | throwError "callStep: no end"
  let ty ← bare (← m.getType)
  let ty' ← projs ty
  replaceMainGoal [← if ty' != ty then m.replaceTargetDefEq ty' else pure m]
  intNorm 10
def cName (c : Lean.Expr) (callee : Lean.Expr) : MetaM (Option Name) := do
  unless callee.isAppOfArity ``Value.ref 1 do return none
  let some k := natOf? callee.appArg! | return none
  let o ← objExpr (← mkAppM ``World.params #[← mkAppM ``Prod.fst #[c.appArg!]]) k
  unless (o.getArg! 2).isAppOf ``Data.func do return none
  let some q := strOf? ((o.getArg! 2).appArg!.getArg! 1) | return none
  let nm (p : String) := `Mine ++ Name.mkSimple (p ++ q.map fun c => if c == '.' then '_' else c)
  let env ← getEnv
  return if env.contains (nm "d_") then some (nm "d_") else if env.contains (nm "c_") then some (nm "c_") else none
/-- ints in a row -/
def intsOf (v : Lean.Expr) : Option Lean.Expr := do
  guard (v.isAppOfArity ``AV.tup 1)
  let l := v.appArg!
  if l.isAppOfArity ``List.map 4 then return l.appArg!
  guard (isList 200 l)
  let xs ← (listOf 200 l).mapM fun x => if x.isAppOfArity ``AV.int 1 then some x.appArg! else none
  return listTo (mkConst ``Int) xs

/-- rules by the goal's head and its tree's first signs -/
def rules : List (String × String) := [
  ("Exs.nil", "refine Mine.Exs.nil ?_"), ("Exs.cons", "refine Mine.Exs.cons ?_"),
  ("Ex.Return.some", "refine Mine.Ex.ret ?_"), ("Ex.Return.none", "refine Mine.Ex.ret0 ?_"), ("Ex.If", "refine Mine.Ex.if_ ?_"), ("Ex.Expr", "refine Mine.Ex.expr (fun _ => rfl) ?_"), ("Ex.Pass", "refine Mine.Ex.pass ?_"),
  ("Ex.Assign", "(refine Mine.Ex.assign ?_ ?_ ?_ ?_; exact fun _ => rfl; exact fun _ => rfl; exact fun _ => rfl)"),
  ("Ev.Constant.int", "refine Mine.Ev.int ?_"), ("Ev.Constant.str", "refine Mine.Ev.str ?_"), ("Ev.Constant.bool", "refine Mine.Ev.bool ?_"), ("Ev.Constant.none", "refine Mine.Ev.non ?_"), ("Ev.Constant.bytes", "refine Mine.Ev.bytes ?_"),
  ("Ev.BinOp", "refine Mine.Ev.bin ?_"), ("Ev.UnaryOp", "refine Mine.Ev.un ?_"), ("Ev.Compare.nil", "refine Mine.Ev.cmp rfl ?_"), ("Ev.Compare.cons", "refine Mine.Ev.chain rfl ?_"),
  ("Ev.BoolOp.nil", "refine Mine.Ev.boolOpLast ?_"), ("Ev.BoolOp.And", "refine Mine.Ev.and ?_"), ("Ev.BoolOp.Or", "refine Mine.Ev.or ?_"), ("Ev.IfExp", "refine Mine.Ev.ifExp ?_"), ("Ev.Attribute", "refine Mine.Ev.attr (fun _ => rfl) ?_"),
  ("Ev.Subscript.Slice", "refine Mine.Ev.slice ?_"), ("Ev.Subscript", "refine Mine.Ev.sub ?_"), ("Ev.Tuple", "refine Mine.Ev.tuple (by decide) ?_"), ("Ev.List", "refine Mine.Ev.list ?_"),
  ("Ev.Call.Attribute", "refine Mine.Ev.mcall (pl := _) (fun _ => rfl) (fun _ => rfl) ?_"), ("Ev.Call", "refine Mine.Ev.call (fun _ => rfl) (fun _ => rfl) ?_"),
  ("Ts.Compare.nil", "refine Mine.Ts.cmp rfl ?_"), ("Ts.Compare.cons", "refine Mine.Ts.chain rfl ?_"), ("Ts.BoolOp", "refine Mine.Ts.boolOp ?_"), ("Ts.UnaryOp", "first | refine Mine.Ts.not ?_ | refine Mine.Ts.val (fun _ _ => rfl) ?_"), ("Ts.IfExp", "refine Mine.Ts.ifExp ?_"), ("Ts", "refine Mine.Ts.val (fun _ _ => rfl) ?_"),
  ("Tall.And.nil", "refine Mine.Tall.andNil ?_"), ("Tall.And", "refine Mine.Tall.and ?_"), ("Tall.Or.nil", "refine Mine.Tall.orNil ?_"), ("Tall.Or", "refine Mine.Tall.or ?_"),
  ("Els.nil", "refine Mine.Els.nil ?_"), ("Els.cons", "refine Mine.Els.cons (fun _ => rfl) ?_"), ("Tr", "refine Mine.Tr.bool ?_"),
  ("As.Name", "refine Mine.As.name (fun _ => by kernel_rfl) ?_"), ("As.Attribute", "refine Mine.As.attr ?_"), ("As.Subscript.Slice", "refine Mine.As.slc ?_"), ("As.Subscript", "refine Mine.As.sub ?_"), ("As.Tuple", "refine Mine.As.tup (fun _ => rfl) (fun _ => rfl) ?_"),
  ("Bns.nil", "refine Mine.Bns.nil ?_"), ("Bns.cons", "refine Mine.Bns.cons (fun _ => by kernel_rfl) ?_"), ("Asl.nil", "refine Mine.Asl.nil ?_"), ("Asl.cons", "refine Mine.Asl.cons (fun _ => rfl) ?_"), ("Lc.nil", "refine Mine.Lc.nil' ?_"), ("Lc.cons", "refine Mine.Lc.cons' ?_"), ("Lo.nil", "refine Mine.Lo.nil' ?_"), ("Lo.cons", "refine Mine.Lo.cons' ?_"), ("Ex.For", "refine Mine.Ex.forS (fun _ _ => rfl) (fun _ _ => rfl) ?_"), ("Ev.ListComp", "refine Mine.Ev.compS (fun _ _ => rfl) (fun _ _ => rfl) (fun _ => rfl) (by decide +kernel) rfl (by decide +kernel) ?_"), ("Fs.nil", "refine Mine.Fs.nil ?_"), ("Fs.cons", "refine Mine.Fs.one ?_"), ("Pt.none", "refine Mine.Pt.none ?_"), ("Pt.some", "refine Mine.Pt.some ?_"),
  ("O1", "first | refine Mine.O1.neg ?_ | refine Mine.O1.not ?_"),
  ("O2.Add", "first | refine Mine.O2.add ?_ | refine Mine.O2.addTup SLEN ?_"), ("O2.Sub", "refine Mine.O2.sub ?_"), ("O2.FloorDiv", "refine Mine.O2.divP (by omega) rfl ?_"), ("O2.Mod", "refine Mine.O2.modP (by omega) ?_"), ("O2.Mult", "refine Mine.O2.mul (by first | omega | exact mulOk) ?_"),
  ("O2.Lt", "refine Mine.O2.lt ?_"), ("O2.LtE", "refine Mine.O2.le ?_"), ("O2.Gt", "refine Mine.O2.gt ?_"), ("O2.GtE", "refine Mine.O2.ge ?_"), ("O2.Eq", "first | refine Mine.O2.eqi ?_ | refine Mine.O2.eqBytes ?_"), ("O2.NotEq", "refine Mine.O2.nei ?_"), ("O2.Is", "refine Mine.O2.isNone rfl ?_"), ("O2.IsNot", "refine Mine.O2.isNotNone rfl ?_"),
  ("O2.In", "refine Mine.O2.inTup (.str _) (by repeat constructor) (by decide +kernel) (by decide +kernel) ?_"),
  ("OL.max", "first | refine Mine.Ca.maxL (by omega) ?_ | refine Mine.Ca.maxR (by omega) ?_ | refine Mine.Ca.max ?_"), ("OL.min", "first | refine Mine.Ca.minL (by omega) ?_ | refine Mine.Ca.minR (by omega) ?_ | refine Mine.Ca.min ?_"), ("OL.len", "refine Mine.Ca.lenTup SLEN ?_"), ("OL.list", "refine Mine.Ca.listTup SLEN ?_"), ("OL.tuple", "refine Mine.Ca.tupTup ?_"), ("OL.range", "first | refine Mine.Ca.range1 ?_ | refine Mine.Ca.range2 ?_"), ("OL.int", "refine Mine.Ca.intInt ?_")]
def keyOf (t : Lean.Expr) : MetaM String := do
  let a := t.getAppArgs
  let h := hd t
  let more (e : Lean.Expr) (k : String) : MetaM String := do
    match k with
    | "Constant" | "Return" | "Call" => nm e [0]
    | "Subscript" | "For" => nm e [1]
    | "Compare" => nm e [1, 2]
    | "BoolOp" => do let r ← nm e [1, 2]; if r == "nil" then return r else nm e [0]
    | _ => return ""
  match h with
  | "Ev" | "Ts" | "Ex" | "As" => do let k ← nm a[3]! []; return s!"{h}.{k}.{← more a[3]! k}"
  | "Exs" | "Asl" | "Pt" | "Bns" | "Fs" => return s!"{h}.{← nm a[3]! []}."
  | "Els" => return s!"{h}.{← nm a[4]! []}."
  | "Lo" => return s!"Lo.{← nm a[7]! []}."
  | "Lc" => return s!"Lc.{← nm a[9]! []}."
  | "Tall" => return s!"{h}.{← nm a[3]! []}.{← nm a[4]! []}"
  | "O2" => return s!"O2.{hd a[2]!.appArg!}."
  | "OL" => match a[2]!.bindingBody!.getArg! 0 |>.appArg! with
    | .lit (.strVal b) => return s!"OL.{b}."
    | _ => return "OL"
  | _ => return h
def runS (s : String) (ps : List (String × Lean.Expr)) : TacticM Bool := do
  runW (s.replace "SLEN" s!"(by {sLen})") ps
  return true

/-- a name that stands in a cell -/
def isCellVar (fe x : Lean.Expr) : MetaM Bool := do
  let fe ← bare fe
  let some s := strOf? (← instantiateMVars x) | return false
  unless fe.isAppOf ``Mine.Fe.fn do return false
  return ((pairsOf ((fe.getArg! 1).getArg! 1)).getD []).any fun p => p.1 == s && (p.2.getArg! 3).isConstOf ``NameKind.cell
/-- a known def's call, a builtin's call, an item, a field, a store -/
def stStep (t : Lean.Expr) : TacticM Bool := withMainContext do
  let a := t.getAppArgs
  match hd t with
  | "Ev" =>
    let e ← ctorOf a[3]!
    unless hd e == "Name" do return false
    if let some pf ← lookPf (e.getArg! 0) a[4]! then return ← runS "refine Mine.Ev.loc (fun _ => by kernel_rfl) (by kernel_rfl) P1 ?_" [("P1", pf)]
    let some x := strOf? (← instantiateMVars (e.getArg! 0)) | return false
    let fe ← bare a[2]!
    let cl := if fe.isAppOf ``Mine.Fe.comp then (pairsOf (fe.getArg! 3)).getD [] else if fe.isAppOf ``Mine.Fe.fn then (pairsOf (fe.getArg! 4)).getD [] else []
    if let some (_, p) := cl.find? (·.1 == x) then
      let some (_, q) ← sig 60 a[5]! (p.getArg! 3) | return false
      let base := if fe.isAppOf ``Mine.Fe.comp then fe.getArg! 0 else fe
      let isC := ((pairsOf ((base.getArg! 1).getArg! 1)).getD []).any fun p => p.1 == x && (p.2.getArg! 3).isConstOf ``NameKind.cell
      return ← runS (if isC then "refine Mine.Ev.cell (fun _ => by kernel_rfl) (by kernel_rfl) (fun _ => by rfl) P1 ?_" else "refine Mine.Ev.free (fun _ => by kernel_rfl) (by kernel_rfl) (by kernel_rfl) (fun _ => by rfl) P1 ?_") [("P1", q)]
    runS s!"first | refine Mine.g_{x} (fun _ => by kernel_rfl) ?_ | refine Mine.Ev.loc (fun _ => by kernel_rfl) (by kernel_rfl) (by assumption) ?_" []
  | "As" =>
    let e ← ctorOf a[3]!
    unless hd e == "Name" do return false
    unless ← isCellVar a[2]! (e.getArg! 0) do return false
    let some (_, p) := ((pairsOf ((← bare a[2]!).getArg! 4)).getD []).find? (·.1 == (strOf? (e.getArg! 0)).getD "") | return false
    let some (_, q) ← sig 60 a[6]! (p.getArg! 3) | return false
    runS "refine Mine.As.cell (fun _ => by kernel_rfl) (fun _ => by rfl) P1 ?_" [("P1", q)]
  | "O1" =>
    let g := a[2]!
    unless g.isLambda && g.bindingBody!.isAppOf ``PySem.getAttr do return false
    let x := g.bindingBody!.getArg! 1
    let some xs := strOf? x | return false
    let some (o, p) ← sigS a[5]! a[3]! | return false
    let some c := clsOf o | return false
    let some l ← lookPf x (o.getArg! 2) | return false
    runS s!"refine Mine.f_{c}_{xs} P1 P2 rfl ?_" [("P1", p), ("P2", l)]
  | "S2" =>
    unless a[2]!.isLambda do return false
    let some xs := strOf? (a[2]!.bindingBody!.bindingBody!.getArg! 1) | return false
    let some (o, p) ← sigS a[6]! a[3]! | return false
    let some c := clsOf o | return false
    runS s!"refine Mine.s_{c}_{xs} P1 (by simp) ?_" [("P1", p)]
  | "S3" =>
    let some (o, p) ← sigS a[7]! a[3]! | return false
    match hd o with
    | "dict" => runS "refine Mine.S3.dictItem P1 SLEN ?_" [("P1", p)]
    | "bdict" => runS "refine Mine.S3.bdictItem P1 SLEN ?_" [("P1", p)]
    | "list" => runS "first | refine Mine.S3.rowItem P1 (by omega) SLEN (by omega) ?_ | refine Mine.S3.listItem P1 (by omega) (by omega) SLEN ?_" [("P1", p)]
    | _ => return false
  | "SlE" =>
    if let some (_, p) ← sigS a[0]! a[4]! then runS "first | refine Mine.SlE.row P1 SLEN ?_ | refine Mine.SlE.list P1 SLEN ?_" [("P1", p)]
    else runS "first | refine Mine.SlE.ints (by first | decide | omega) (by omega) (by simp) SLEN ?_ | refine Mine.SlE.tup (by first | decide | omega) SLEN (by simp) SLEN ?_" []
  | "SlS" =>
    let some (_, p) ← sigS a[0]! a[4]! | return false
    let some (_, q) ← sigS a[0]! a[5]! | return false
    let some n ← neq 60 a[4]!.appArg! a[5]!.appArg! | return false
    runS "first | refine Mine.SlS.row P1 P2 P3 SLEN ?_ | refine Mine.SlS.mk P1 P2 P3 SLEN ?_" [("P1", n), ("P2", p), ("P3", q)]
  | "O2" =>
    let g := a[2]!
    let u ← bare a[3]!
    let v ← bare a[4]!
    if g.isAppOf ``PyProof.Rows.subscriptTail then
      if u.isAppOfArity ``AV.tup 1 || u.isAppOf ``Mine.cellV || u.isAppOf ``Mine.penV then
        return ← runS "refine Mine.O2.tupItem (fun _ _ => rfl) (by first | decide | omega) (by first | decide | omega) (by first | rfl | assumption) (by first | rfl | assumption) ?_" []
      let some (o, p) ← sigS a[6]! u | return false
      match hd o with
      | "bdict" => runS "refine Mine.O2.bdictItem (fun _ _ => rfl) P1 (by first | rfl | assumption) ?_" [("P1", p)]
      | "dict" =>
        let some l ← lookPf (v.getArg! 0) (o.getArg! 0) | return false
        runS "refine Mine.O2.dictItem (fun _ _ => rfl) P1 P2 ?_" [("P1", p), ("P2", l)]
      | "list" => runS "first | refine Mine.O2.rowItem (fun _ _ => rfl) P1 (by omega) SLEN (by omega) ?_ | refine Mine.O2.listItem (fun _ _ => rfl) P1 (by first | decide | omega) (by first | decide | omega) (by first | rfl | assumption | simp) ?_ | refine Mine.O2.listItemNeg (fun _ _ => rfl) P1 (by decide) SLEN (by decide) (by first | rfl | assumption) ?_" [("P1", p)]
      | _ => return false
    else
      if let (some l, some m) := (intsOf u, intsOf v) then
        return ← runS "first | refine Mine.eqIx P1 P2 rfl rfl ?_ | refine Mine.neIx P1 P2 rfl rfl ?_ | refine Mine.addIx P1 P2 rfl rfl SLEN ?_ | refine Mine.O2.addTup SLEN ?_" [("P1", l), ("P2", m)]
      if let some m := intsOf v then
        if u.isAppOf ``AV.int then return ← runS "first | refine Mine.inIx P1 rfl ?_ | refine Mine.ninIx P1 rfl ?_" [("P1", m)]
      if let some (o, p) ← sigS a[6]! u then
        if let some (o', q) ← sigS a[6]! v then
          if hd o == "list" && hd o' == "list" then
            return ← runS "first | refine Mine.O2.addRow P1 P2 SLEN ?_ | refine Mine.O2.addList P1 P2 SLEN ?_ | refine Mine.O2.eqEmpty P1 P2 ?_ | refine Mine.O2.neEmpty P1 P2 ?_" [("P1", p), ("P2", q)]
        if hd o == "list" then
          return ← runS "refine Mine.O2.mulList P1 (by omega) (by omega) SLEN ?_" [("P1", p)]
      if let some (o', q) ← sigS a[6]! v then
        if hd o' == "bdict" then return ← runS "refine Mine.O2.notInB P1 ?_" [("P1", q)]
      return false
  | "OL" =>
    let g := a[2]!
    unless g.isLambda && g.bindingBody!.isAppOf ``PySem.call do return false
    let callee := g.bindingBody!.getArg! 0
    let vs := listOf 10 a[3]!
    let first ← match vs.head? with | some v => sigS a[5]! v | none => pure none
    match callee.appArg! with
    | .lit (.strVal b) =>
      let some (o, p) := first | return false
      match b, hd o with
      | "len", _ => runS "first | refine Mine.Ca.lenRow P1 SLEN ?_ | refine Mine.Ca.lenList P1 SLEN ?_" [("P1", p)]
      | "list.append", _ => runS "refine Mine.Ca.append P1 SLEN ?_" [("P1", p)]
      | "dict.get", "dict" => runS "refine Mine.Ca.getS P1 ?_" [("P1", p)]
      | "dict.get", "idict" => runS "refine Mine.Ca.getI P1 ?_" [("P1", p)]
      | "list", _ => runS "refine Mine.Ca.listList P1 SLEN ?_" [("P1", p)]
      | "tuple", _ => runS "refine Mine.Ca.tupList P1 SLEN ?_" [("P1", p)]
      | _, _ => return false
    | _ =>
      if let some c := (natOf? callee.appArg!).bind fun n => classNames.lookup n then
        return ← runS s!"refine Mine.Ca.cls Mine.mk_{c} Mine.in_{c} Mine.it_{c} fun _ _ _ => ?_" []
      let some n ← cName a[0]! callee | return false
      discard <| runS "refine Mine.Cd.ca ?_" []
      try useC n catch _ => useC (n.appendAfter "_l")
      return true
  | "Cd" =>
    let some n ← cName a[0]! a[2]! | return false
    try useC n catch _ => useC (n.appendAfter "_l")
    return true
  | "Exists" =>
    let b := a[1]!
    unless b.isLambda do return false
    let inner (e : Lean.Expr) : Lean.Expr := if e.isAppOfArity ``And 2 then e.getArg! 0 else e
    let q := b.bindingBody!
    let q := if q.isAppOfArity ``Exists 2 && (q.getArg! 1).isLambda then inner (q.getArg! 1).bindingBody! else inner q
    if let some m := q.find? fun e => e.isAppOf ``Mine.Src then
      let u ← bare (m.getArg! 2)
      if u.isAppOf ``AV.tup then return ← runS "refine ⟨_, _, Mine.Src.tup, ?_⟩" []
      if u.isAppOf ``AV.rng then return ← runS "refine ⟨_, _, Mine.Src.rng SLEN, ?_⟩" []
      let some (_, p) ← sigS (m.getArg! 1) u | return false
      return ← runS "refine ⟨_, _, Mine.Src.list P1, ?_⟩" [("P1", p)]
    if q.isAppOfArity ``And 2 && (q.getArg! 0).isAppOfArity ``Eq 3 && ((q.getArg! 0).getArg! 2).isAppOfArity ``Option.some 2 then
      let l := (q.getArg! 0).getArg! 1
      if l.isApp && !l.hasLooseBVars then
        let some (_, p) ← sig 60 l.appFn! l.appArg! | return false
        discard <| runS "refine ⟨_, ⟨P1, SLEN, ?_⟩, ?_⟩" [("P1", p)]
        let [g1, g2] ← getUnsolvedGoals | return false
        sideStep g1
        setGoals [g2]
        return true
    let some m := q.find? fun e => e.isAppOf ``Mine.Meth | return ← runS "first | refine ⟨_, ⟨rfl, by first | exact Mine.Kept.builtin | exact Mine.Kept.type | exact Mine.Kept.top (by kernel_rfl)⟩, ?_⟩ | refine ⟨_, rfl, ?_⟩ | refine ⟨_, ⟨rfl, rfl⟩, ?_⟩" []
    let some xs := strOf? (m.getArg! 2) | return false
    let some (o, p) ← sigS (m.getArg! 5) (m.getArg! 3) | return false
    if let some c := clsOf o then return ← runS s!"refine ⟨_, Mine.m_{c}_{xs} P1 (by kernel_rfl), ?_⟩" [("P1", p)]
    let some r := [("list.append", "append"), ("dict.get", "getS"), ("idict.get", "getI"), ("dict.update", "updS")].lookup (hd o ++ "." ++ xs) | return false
    runS s!"refine ⟨_, ⟨Mine.Kept.builtin, Mine.Meth.{r} P1⟩, ?_⟩" [("P1", p)]
  | "And" =>
    let [g1, g2] ← (← getMainGoal).apply (mkConst ``And.intro) | return false
    sideStep g1
    setGoals [g2]
    return true
  | "Ex" =>
    let e ← ctorOf a[3]!
    unless hd e == "Assign" do return false
    let t ← ctorOf (← ctorOf (e.getArg! 0)).appFn!.appArg!
    unless hd t == "Tuple" do return false
    runS "first | (refine Mine.Ex.assign ?_ ?_ ?_ ?_; exact fun _ => rfl; exact fun _ => rfl; exact fun _ => rfl) | refine Mine.Ex.swp P2 (fun _ => rfl) (fun _ => by kernel_rfl) ?_" [("P2", listTo (mkConst ``PySem.Str) ((listOf 20 (t.getArg! 0)).map fun x => x.getArg! 0))]
  | _ => return false

/-- tidy the goal: beta, known tests, what a call hands back -/
def tidy : TacticM Bool := do
  let g ← getMainGoal
  let t0 := (← instantiateMVars (← g.getType)).consumeMData
  let t1 ← normPut t0.headBeta
  if t1 != t0 then
    replaceMainGoal [← g.replaceTargetDefEq t1]
    return true
  if (t1.find? fun e => e.isAppOfArity ``Mine.AH.set 3 && !e.hasLooseBVars && (e.getArg! 0).isAppOfArity ``Mine.AH.set 3 && (e.getArg! 0).getArg! 1 == e.getArg! 1).isSome then
    return ← runS "rw [Mine.set_set]" []
  match t1.getAppFn.constName? with
  | some ``Mine.Back => runS "unfold Mine.Back" []
  | some ``ite => runS "first | rw [if_pos rfl] | rw [if_neg Bool.false_ne_true]" []
  | some n =>
    unless (← isMatcher n) do return false
    let t2 ← whnfCore t1
    if t2 == t1 then return false
    replaceMainGoal [← g.replaceTargetDefEq t2]
    return true
  | none => return false
def tryB (x : TacticM Bool) : TacticM Bool := do try Tactic.withoutRecover x catch _ => return false

def tests : String := "Mine.blk_wd, decide_eq_true_eq, beq_iff_eq, bne_iff_ne, Bool.not_eq_true', Bool.not_eq_true, decide_eq_false_iff_not, beq_eq_false_iff_ne, ne_eq"
/-- a proof by a tactic's text -/
def byText (s : String) (p : Lean.Expr) : TacticM (Option Lean.Expr) := do
  let m ← mkFreshExprSyntheticOpaqueMVar p
  let gs ← getGoals
  let ok ← tryB do
    setGoals [m.mvarId!]
    runW s []
    return (← getUnsolvedGoals).isEmpty
  setGoals gs
  if ok then return some (← instantiateMVars m) else return none
/-- a test is known, or its proposition is handed out -/
def known : Nat → Lean.Expr → TacticM (Except Lean.Expr (Bool × Lean.Expr))
  | 0, b => return .error b
  | k + 1, b => do
  let tt := mkConst ``Bool.true
  let refl := mkApp2 (mkConst ``Eq.refl [1]) (mkConst ``Bool)
  if b.isConstOf ``Bool.true then return .ok (true, refl b)
  if b.isConstOf ``Bool.false then return .ok (false, refl b)
  let two (p : Lean.Expr) (yes no : Lean.Expr → TacticM Lean.Expr) : TacticM (Except Lean.Expr (Bool × Lean.Expr)) := do
    let t := s!"first | assumption | omega | (simp only [{tests}]; first | done | assumption | omega) | decide +kernel"
    if let some q ← byText ("first | rfl | " ++ t.drop 8) p then return .ok (true, ← yes q)
    if let some q ← byText t (mkNot p) then return .ok (false, ← no q)
    return .error p
  if b.isAppOfArity ``Decidable.decide 2 then
    return ← two (b.getArg! 0) (fun q => return mkApp3 (mkConst ``decide_eq_true) (b.getArg! 0) (b.getArg! 1) q) (fun q => return mkApp3 (mkConst ``decide_eq_false) (b.getArg! 0) (b.getArg! 1) q)
  if b.isAppOfArity ``BEq.beq 4 && (b.getArg! 0).isConstOf ``Int then
    return ← two (← mkEq (b.getArg! 2) (b.getArg! 3)) (fun q => mkAppM ``beqT #[q]) (fun q => mkAppM ``beqF #[q])
  if b.isAppOfArity ``bne 4 && (b.getArg! 0).isConstOf ``Int then
    return ← two (← mkEq (b.getArg! 2) (b.getArg! 3)) (fun q => mkAppM ``bneF #[q]) (fun q => mkAppM ``bneT #[q]) >>= fun r => match r with
      | .ok (x, q) => return .ok (!x, q)
      | r => return r
  if b.isAppOfArity ``Bool.not 1 then
    match ← known k b.appArg! with
    | .ok (true, q) => return .ok (false, ← mkAppM ``notF #[q])
    | .ok (false, q) => return .ok (true, ← mkAppM ``notT #[q])
    | r => return r
  let w ← whnf b
  if w.isConstOf ``Bool.true || w.isConstOf ``Bool.false then return .ok (w.isConstOf ``Bool.true, mkApp2 (mkConst ``id [0]) (← mkEq b w) (refl w))
  if let some q ← byText "assumption" (← mkEq b (mkConst ``Bool.false)) then return .ok (false, q)
  two (← mkEq b tt) pure (fun q => mkAppM ``boolF #[q])

structure Jd where
  h : Array Lean.Expr
  sp : IO.Ref (Option Lean.Expr)
def Jd.mk' (c : Jd) (s : String) (xs : Array Lean.Expr) : Lean.Expr := mkAppN (mkConst (`Mine ++ s.toName)) (c.h ++ xs)
def ruleStep : TacticM Bool := do
  let t ← goalOf (← getMainGoal)
  if ← tryB (stStep t) then return true
  let k ← try keyOf t catch _ => pure ""
  let some r := rules.find? fun r => r.1 == k || k.startsWith (r.1 ++ ".") | return false
  tryB (runS r.2 [])
def ty (n : Name) : Lean.Expr := mkConst n
def arrow (xs : List Lean.Expr) : Lean.Expr := xs.foldr (fun a r => .forallE `a a r .default) (.sort .zero)
def contT : Lean.Expr := arrow [mkConst ``AV, mkConst ``Loc, mkConst ``AH]
/-- one old rule, its end left open -/
def leaf (kt : Lean.Expr) (mk : Lean.Expr → Lean.Expr) : TacticM (Array Lean.Expr × Lean.Expr) := withLocalDeclD `K kt fun K => do
  let m ← mkFreshExprSyntheticOpaqueMVar (mk K)
  let s ← getGoals
  setGoals [m.mvarId!]
  unless ← ruleStep do throwError "leaf"
  let [g] ← getUnsolvedGoals | throwError "leaf: goals"
  let t ← g.withContext (goalOf g)
  unless t.getAppFn == K do throwError "leaf: effect"
  setGoals s
  withLocalDeclD `h t fun h => do
    g.assign h
    return (t.getAppArgs, ← instantiateMVars (← mkLambdaFVars #[K, h] (← instantiateMVars m)))
/-- the end changes nothing -/
def leafV (c : Jd) (hd : String) (xs : Array Lean.Expr) (noF : Bool) : TacticM (Lean.Expr × Lean.Expr) := do
  let h := if noF then #[c.h[0]!, c.h[1]!] else #[c.h[0]!, c.h[1]!, c.h[2]!]
  let (a, p) ← leaf contT fun K => mkAppN (mkConst (`Mine ++ hd.toName)) (h ++ xs ++ #[c.h[3]!, c.h[4]!, K])
  unless a[1]! == c.h[3]! && a[2]! == c.h[4]! do throwError "leaf: effect"
  return (a[0]!, p)
def byRefl (vars : List Lean.Expr) (α e : Lean.Expr) : Lean.Expr := vars.foldr (fun t b => .lam `x t b .default) (mkApp2 (mkConst ``Eq.refl [1]) α e)
def semV : Lean.Expr := mkApp (mkConst ``Sem) (mkConst ``Value)
def evalAt (e : Lean.Expr) (i : Nat) : Lean.Expr := mkApp2 (mkConst ``eval) e (.bvar i)
def starT : Lean.Expr := mkApp (mkConst ``List [0]) (mkApp2 (mkConst ``Prod [0, 0]) (mkConst ``Bool) semV)
def callL (g : Lean.Expr) : Lean.Expr := .lam `xs (mkApp (mkConst ``List [0]) (mkConst ``Value)) (mkApp3 (mkConst ``PySem.call) g (.bvar 0) (mkApp (mkConst ``List.nil [0]) (mkApp2 (mkConst ``Prod [0, 0]) (mkConst ``PySem.Str) (mkConst ``Value)))) .default
def isLit (b : Lean.Expr) : Option Bool := if b.isConstOf ``Bool.true then some true else if b.isConstOf ``Bool.false then some false else none
/-- decide, or split -/
def settle (c : Jd) (b : Lean.Expr) : TacticM (Bool × Lean.Expr) := do
  match ← known 9 b with
  | .ok r => return r
  | .error p =>
    c.sp.set (some p)
    throwError "split"
def boolE (b : Bool) : Lean.Expr := if b then mkConst ``Bool.true else mkConst ``Bool.false
def unBool (v : Lean.Expr) : TacticM Lean.Expr := do
  let v ← bare v
  unless v.isAppOfArity ``AV.bool 1 do throwError "no bool"
  return v.appArg!
mutual
def vE : Nat → Jd → Lean.Expr → TacticM (Lean.Expr × Lean.Expr)
  | 0, _, _ => throwError "vE"
  | k + 1, c, e0 => do
  let e ← ctorOf e0
  let a := e.getAppArgs
  match hd e with
  | "Name" =>
    if let some pf ← lookPf a[0]! c.h[3]! then
      let v := (pf.getArg! 0).appArg!.appArg!
      return (v, c.mk' "V.loc" #[a[0]!, a[1]!, v, byRefl [mkConst ``Addr] (mkApp (mkConst ``Option [0]) (mkConst ``NameKind)) (mkApp2 (mkConst ``Option.some [0]) (mkConst ``NameKind) (mkConst ``NameKind.local)), byRefl [] (mkConst ``Bool) (mkConst ``Bool.false), byRefl [] (mkApp (mkConst ``Option [0]) (mkConst ``AV)) (mkApp2 (mkConst ``Option.some [0]) (mkConst ``AV) v)])
    else leafV c "Ev" #[e] false
  | "Constant" => leafV c "Ev" #[e] false
  | "Attribute" =>
    let (u, p) ← vE k c a[0]!
    let (v, q) ← leafV c "O1" #[.lam `y (mkConst ``Value) (mkApp3 (mkConst ``getAttr) (.bvar 0) a[1]! (mkConst ``Bool.true)) .default, u] true
    return (v, c.mk' "V.attr" #[a[0]!, a[1]!, a[2]!, u, v, byRefl [mkConst ``Env] semV (evalAt e 0), p, q])
  | "BinOp" =>
    let (u, p) ← vE k c a[0]!
    let (w, q) ← vE k c a[2]!
    let (v, r) ← leafV c "O2" #[mkApp (mkConst ``binaryOp) a[1]!, u, w] true
    return (v, c.mk' "V.bin" #[a[1]!, a[0]!, a[2]!, a[3]!, u, w, v, p, q, r])
  | "UnaryOp" =>
    if hd (← ctorOf a[0]!) == "Not" then
      let (b, p) ← vT k c e
      discard <| pure (b, p)
      throwError "value not"
    let (u, p) ← vE k c a[1]!
    let (v, r) ← leafV c "O1" #[mkApp (mkConst ``unaryOp) a[0]!, u] true
    return (v, c.mk' "V.un" #[a[0]!, a[1]!, a[2]!, u, v, p, r])
  | "Compare" =>
    let (u, w, p, q, r) ← vCmp k c a
    let ops := listOf 5 a[1]!
    let rs := listOf 5 a[2]!
    if ops.length == 1 then return (r.1, c.mk' "V.cmp" #[ops[0]!, a[0]!, rs[0]!, a[3]!, u, w, r.1, byRefl [] (mkConst ``Bool) (mkConst ``Bool.false), p, q, r.2])
    let (b, pb) ← settle c (← unBool r.1)
    let r2 := mkAppN (mkConst ``V2.yes) #[c.h[0]!, c.h[1]!, c.h[3]!, c.h[4]!, mkApp (mkConst ``compareOp) ops[0]!, u, w, ← unBool r.1, boolE b, r.2, pb]
    let base := #[ops[0]!, ops[1]!, a[0]!, rs[0]!, rs[1]!, a[3]!, u, w]
    let m := byRefl [] (mkConst ``Bool) (mkConst ``Bool.false)
    if !b then return (mkApp (mkConst ``AV.bool) (boolE false), c.mk' "V.chF" (base ++ #[m, p, q, r2]))
    let (y, p2) ← vE k c rs[1]!
    let (v, q2) ← leafV c "O2" #[mkApp (mkConst ``compareOp) ops[1]!, w, y] true
    return (v, c.mk' "V.chT" (base ++ #[y, v, m, p, q, r2, p2, q2]))
  | "BoolOp" =>
    let es := listOf 20 a[1]!
    let op := hd (← ctorOf a[0]!)
    match es with
    | [x] =>
      let (v, p) ← vE k c x
      return (v, c.mk' "V.last" #[a[0]!, x, a[2]!, v, p])
    | x :: y :: _ =>
      let (v, p) ← vE k c x
      let bb ← unBool v
      let (b, pb) ← settle c bb
      let p := c.mk' "V.yes" #[x, bb, boolE b, p, pb]
      let rest := (a[1]!.appArg!).appArg!
      if b == (op == "Or") then return (mkApp (mkConst ``AV.bool) (boolE b), c.mk' (if b then "V.orT" else "V.andF") #[x, y, rest, a[2]!, p])
      let (v, q) ← vE k c (mkApp3 e.getAppFn a[0]! a[1]!.appArg! a[2]!)
      return (v, c.mk' (if b then "V.andT" else "V.orF") #[x, y, rest, a[2]!, v, p, q])
    | _ => throwError "BoolOp"
  | "IfExp" =>
    let (b, p) ← vT k c a[0]!
    let (v, q) ← vE k c (if b then a[1]! else a[2]!)
    return (v, c.mk' (if b then "V.ifT" else "V.ifF") #[a[0]!, a[1]!, a[2]!, a[3]!, v, p, q])
  | "Subscript" =>
    if hd (← ctorOf a[1]!) == "Slice" then throwError "slice"
    let (u, p) ← vE k c a[0]!
    let (w, q) ← vE k c a[1]!
    let (v, r) ← leafV c "O2" #[mkApp2 (mkConst ``PyProof.Rows.subscriptTail) a[0]! a[1]!, u, w] true
    return (v, c.mk' "V.sub" #[a[0]!, a[1]!, a[2]!, u, w, v, p, q, r])
  | "Tuple" =>
    let (vs, p) ← vL k c a[2]! a[0]!
    let some l1 ← byText "decide" (← mkAppM ``LE.le #[← mkAppM ``List.length #[a[0]!], mkNatLit 1000]) | throwError "tuple"
    let some l2 ← byText "decide" (← mkAppM ``LE.le #[← mkAppM ``List.length #[vs], mkConst ``sizeLine]) | throwError "tuple"
    return (mkApp (mkConst ``AV.tup) vs, c.mk' "V.tuple" #[a[0]!, a[1]!, a[2]!, vs, l1, l2, p])
  | "Call" =>
    let (g, vs, p) ← wE k c e
    let (v, q) ← leafV c "OL" #[callL g, vs] true
    return (v, c.mk' "V.ofW" #[e, g, vs, v, p, q])
  | _ => throwError "vE: {hd e}"
def vCmp : Nat → Jd → Array Lean.Expr → TacticM (Lean.Expr × Lean.Expr × Lean.Expr × Lean.Expr × Lean.Expr × Lean.Expr)
  | 0, _, _ => throwError "vCmp"
  | k + 1, c, a => do
  let (u, p) ← vE k c a[0]!
  let (w, q) ← vE k c (listOf 5 a[2]!)[0]!
  let r ← leafV c "O2" #[mkApp (mkConst ``compareOp) (listOf 5 a[1]!)[0]!, u, w] true
  return (u, w, p, q, r)
def vL : Nat → Jd → Lean.Expr → Lean.Expr → TacticM (Lean.Expr × Lean.Expr)
  | 0, _, _, _ => throwError "vL"
  | k + 1, c, pos, es => do
  let es ← ctorOf es
  if hd es == "nil" then return (listTo (mkConst ``AV) [], c.mk' "VL.nil" #[pos])
  let (v, p) ← vE k c (es.getArg! 1)
  let (vs, q) ← vL k c pos es.appArg!
  return (mkApp3 (mkConst ``List.cons [0]) (mkConst ``AV) v vs, c.mk' "VL.cons" #[pos, es.getArg! 1, es.appArg!, v, vs, byRefl [mkConst ``Env] starT (mkApp2 (mkConst ``starEach) es (.bvar 0)), p, q])
/-- a call made ready -/
def wE : Nat → Jd → Lean.Expr → TacticM (Lean.Expr × Lean.Expr × Lean.Expr)
  | 0, _, _ => throwError "wE"
  | k + 1, c, e => do
  let a := e.getAppArgs
  unless hd (← ctorOf a[2]!) == "nil" do throwError "keywords"
  let o ← ctorOf a[0]!
  let m := hd o == "Attribute"
  let b := o.getAppArgs
  let (u, p) ← vE k c (if m then b[0]! else o)
  let (vs, q) ← vL k c a[3]! a[1]!
  let kt := arrow [mkConst ``Value]
  let (r, hk) ← leaf kt fun K =>
    let g : Lean.Expr := .bvar 0
    let kept := mkApp2 (mkConst ``Kept) c.h[0]! g
    let l := if m then mkApp2 (mkConst ``And) kept (mkAppN (mkConst ``Meth) #[c.h[0]!, c.h[1]!, b[1]!, u, c.h[3]!, c.h[4]!, g])
      else mkApp2 (mkConst ``And) (mkApp3 (mkConst ``Eq [1]) (mkConst ``AV) u (mkApp (mkConst ``AV.raw) g)) kept
    mkApp2 (mkConst ``Exists [1]) (mkConst ``Value) (.lam `g (mkConst ``Value) (mkApp2 (mkConst ``And) l (mkApp K g)) .default)
  let he := byRefl [mkConst ``Env] semV (evalAt e 0)
  let hp := byRefl [mkConst ``Env] (mkConst ``Bool) (mkConst ``Bool.false)
  if m then
    return (r[0]!, mkApp3 (mkConst ``List.cons [0]) (mkConst ``AV) u vs, c.mk' "W.mcall" #[b[0]!, b[1]!, b[2]!, a[3]!, a[1]!, r[0]!, u, vs, he, hp, p, hk, q])
  return (r[0]!, vs, c.mk' "W.call" #[o, a[3]!, a[1]!, r[0]!, u, vs, he, hp, p, hk, q])
def vS : Nat → Jd → Lean.Expr → TacticM (Lean.Expr × Lean.Expr)
  | 0, _, _ => throwError "vS"
  | k + 1, c, e0 => do
  let e ← ctorOf e0
  let a := e.getAppArgs
  match hd e with
  | "Compare" =>
    let (u, w, p, q, r) ← vCmp k c a
    let ops := listOf 5 a[1]!
    let rs := listOf 5 a[2]!
    let m := byRefl [] (mkConst ``Bool) (mkConst ``Bool.false)
    let bb ← unBool r.1
    if ops.length == 1 then return (bb, c.mk' "T.cmp" #[ops[0]!, a[0]!, rs[0]!, a[3]!, u, w, bb, m, p, q, r.2])
    let (b, pb) ← settle c bb
    let r2 := mkAppN (mkConst ``V2.yes) #[c.h[0]!, c.h[1]!, c.h[3]!, c.h[4]!, mkApp (mkConst ``compareOp) ops[0]!, u, w, bb, boolE b, r.2, pb]
    let base := #[ops[0]!, ops[1]!, a[0]!, rs[0]!, rs[1]!, a[3]!, u, w]
    if !b then return (boolE false, c.mk' "T.chF" (base ++ #[m, p, q, r2]))
    let (y, p2) ← vE k c rs[1]!
    let (v, q2) ← leafV c "O2" #[mkApp (mkConst ``compareOp) ops[1]!, w, y] true
    let b2 ← unBool v
    return (b2, c.mk' "T.chT" (base ++ #[y, b2, m, p, q, r2, p2, q2]))
  | "BoolOp" =>
    let (b, p) ← vTA k c a[0]! a[1]!
    return (boolE b, c.mk' "T.boolOp" #[a[0]!, a[1]!, a[2]!, boolE b, p])
  | "IfExp" =>
    let (b, p) ← vT k c a[0]!
    let (v, q) ← vT k c (if b then a[1]! else a[2]!)
    return (boolE v, c.mk' (if b then "T.ifT" else "T.ifF") #[a[0]!, a[1]!, a[2]!, a[3]!, boolE v, p, q])
  | h =>
    if h == "UnaryOp" then
      if hd (← ctorOf a[0]!) == "Not" then
        let (b, p) ← vT k c a[1]!
        return (boolE !b, c.mk' "T.not" #[a[1]!, a[2]!, boolE b, p])
    let (v, p) ← vE k c e
    let bb ← unBool v
    return (bb, c.mk' "T.val" #[e, bb, byRefl [mkConst ``Env, semV] (mkApp (mkConst ``Sem) (mkConst ``Bool)) (mkApp3 (mkConst ``PySem.isTrue) e (.bvar 1) (.bvar 0)), p])
def vT : Nat → Jd → Lean.Expr → TacticM (Bool × Lean.Expr)
  | 0, _, _ => throwError "vT"
  | k + 1, c, e => do
  let (b, p) ← vS k c e
  if let some x := isLit b then return (x, p)
  let (x, q) ← settle c b
  return (x, c.mk' "T.yes" #[e, b, boolE x, p, q])
def vTA : Nat → Jd → Lean.Expr → Lean.Expr → TacticM (Bool × Lean.Expr)
  | 0, _, _, _ => throwError "vTA"
  | k + 1, c, op, es => do
  let es ← ctorOf es
  let isOr := hd (← ctorOf op) == "Or"
  if hd es == "nil" then return (!isOr, c.mk' (if isOr then "TA.orNil" else "TA.andNil") #[])
  let e := es.getArg! 1
  let (b, p) ← vT k c e
  if b == isOr then return (b, c.mk' (if isOr then "TA.orT" else "TA.andF") #[e, es.appArg!, p])
  let (x, q) ← vTA k c op es.appArg!
  return (x, c.mk' (if isOr then "TA.orF" else "TA.andT") #[e, es.appArg!, boolE x, p, q])
end
/-- a goal is closed up to a new one -/
def goOn (g : MVarId) (t : Lean.Expr) (pf : Lean.Expr → Lean.Expr) : TacticM Unit := do
  let m ← mkFreshExprSyntheticOpaqueMVar t
  g.assign (pf m)
  replaceMainGoal [m.mvarId!]
def appStmts (b rest : Lean.Expr) : MetaM Lean.Expr := do
  if hd (← ctorOf rest) == "nil" then return b
  let rec go : Nat → Lean.Expr → MetaM Lean.Expr
    | 0, _ => throwError "appStmts"
    | k + 1, l => do
      let l ← ctorOf l
      if hd l == "nil" then return rest
      return mkApp3 l.getAppFn (l.getArg! 0) (l.getArg! 1) (← go k l.appArg!)
  go 200 b
/-- a statement, with what follows -/
def sStep (sp : IO.Ref (Option Lean.Expr)) (t : Lean.Expr) : TacticM Bool := withMainContext do
  let g ← getMainGoal
  let a := t.getAppArgs
  let c : Jd := ⟨#[a[0]!, a[1]!, a[2]!, a[4]!, a[5]!], sp⟩
  let K := a[6]!
  let sts ← ctorOf a[3]!
  unless hd sts == "cons" do return false
  let rest := sts.appArg!
  let s ← ctorOf (sts.getArg! 1)
  let b := s.getAppArgs
  let exs (r ℓ σ : Lean.Expr) := mkAppN t.getAppFn #[a[0]!, a[1]!, a[2]!, r, ℓ, σ, K]
  let semB (x : Lean.Expr) := byRefl [mkConst ``Env] (mkApp (mkConst ``Sem) (mkConst ``Bool)) x
  let pure' (α v : Lean.Expr) : TacticM Lean.Expr := do
    let i ← synthInstance (mkApp (mkConst ``Pure [0, 0]) (mkConst ``Sem))
    return mkAppN (mkConst ``Pure.pure [0, 0]) #[mkConst ``Sem, i, α, v]
  let optT (v : Lean.Expr) : Lean.Expr := v
  discard <| pure optT
  match hd s with
  | "Expr" =>
    let hs := semB (← pure' (mkConst ``Bool) (mkConst ``Bool.false))
    try
      let (v, p) ← vE 60 c b[0]!
      goOn g (exs rest a[4]! a[5]!) fun m => c.mk' "St_expr" #[b[0]!, b[1]!, rest, v, K, hs, p, m]
    catch x =>
      if (← sp.get).isSome then throw x
      let e ← ctorOf b[0]!
      unless hd e == "Call" do throw x
      let (f, vs, p) ← wE 60 c e
      let K' := .lam `v (mkConst ``AV) (.lam `l (mkConst ``Loc) (.lam `s (mkConst ``AH) (exs rest (.bvar 1) (.bvar 0)) .default) .default) .default
      goOn g (mkAppN (mkConst ``OL) #[a[0]!, a[1]!, callL f, vs, a[4]!, a[5]!, K']) fun m => c.mk' "St_exprW" #[b[0]!, b[1]!, rest, f, vs, K, hs, p, m]
    return true
  | "Return" =>
    let o ← ctorOf b[0]!
    if hd o == "none" then return false
    let e := o.appArg!
    let ret (v : Lean.Expr) := mkApp (mkConst ``AF.ret) v
    try
      let (v, p) ← vE 60 c e
      goOn g (mkAppN K #[ret v, a[4]!, a[5]!]).headBeta fun m => c.mk' "St_ret" #[e, b[1]!, rest, v, K, p, m]
    catch x =>
      if (← sp.get).isSome then throw x
      let e ← ctorOf e
      unless hd e == "Call" do throw x
      let (f, vs, p) ← wE 60 c e
      let K' := .lam `v (mkConst ``AV) (.lam `l (mkConst ``Loc) (.lam `s (mkConst ``AH) (mkAppN K #[ret (.bvar 2), .bvar 1, .bvar 0]).headBeta .default) .default) .default
      goOn g (mkAppN (mkConst ``OL) #[a[0]!, a[1]!, callL f, vs, a[4]!, a[5]!, K']) fun m => c.mk' "St_retW" #[e, b[1]!, rest, f, vs, K, p, m]
    return true
  | "If" =>
    let (x, p) ← vT 60 c b[0]!
    let r ← appStmts (if x then b[1]! else b[2]!) rest
    goOn g (exs r a[4]! a[5]!) fun m => c.mk' (if x then "St_ifT" else "St_ifF") #[b[0]!, b[1]!, b[2]!, rest, b[3]!, K, p, m]
    return true
  | "Assign" =>
    let [tg] := listOf 3 b[0]! | return false
    let tg ← ctorOf tg
    let d := tg.getAppArgs
    let one := mkApp3 (mkConst ``List.cons [0]) (mkConst ``PySem.Expr) tg (mkApp (mkConst ``List.nil [0]) (mkConst ``PySem.Expr))
    let hs := semB (← pure' (mkConst ``Bool) (mkConst ``Bool.false))
    let hwT ← withLocalDeclD `L (mkConst ``Addr) fun L => do
      let x := mkAppN (mkConst ``swappedStores) #[one, b[1]!, ← whnf (mkApp (mkApp (mkConst ``Fe.env) a[2]!) L)]
      let ty ← inferType x
      mkLambdaFVars #[L] (mkApp2 (mkConst ``Eq.refl [1]) ty (mkAppN (mkConst ``swappedStores) #[one, b[1]!, mkApp (mkApp (mkConst ``Fe.env) a[2]!) L]))
    match hd tg with
    | "Name" =>
      if ← isCellVar a[2]! d[0]! then return false
      let hl := byRefl [mkConst ``Addr] (mkApp (mkConst ``Option [0]) (mkConst ``NameKind)) (mkApp2 (mkConst ``Option.some [0]) (mkConst ``NameKind) (mkConst ``NameKind.local))
      let put (v ℓ : Lean.Expr) : MetaM Lean.Expr := mkAppM ``Mine.put #[d[0]!, v, ℓ]
      try
        let (v, p) ← vE 60 c b[1]!
        goOn g (exs rest (← normPut (← put v a[4]!)) a[5]!) fun m => c.mk' "St_assign" #[d[0]!, d[1]!, b[2]!, b[1]!, rest, v, K, hs, hwT, p, hl, m]
      catch x =>
        if (← sp.get).isSome then throw x
        let e ← ctorOf b[1]!
        unless hd e == "Call" do throw x
        let (f, vs, p) ← wE 60 c e
        let K' ← withLocalDeclD `v (mkConst ``AV) fun v => withLocalDeclD `l (mkConst ``Loc) fun l => withLocalDeclD `s (mkConst ``AH) fun s => do mkLambdaFVars #[v, l, s] (exs rest (← put v l) s)
        goOn g (mkAppN (mkConst ``OL) #[a[0]!, a[1]!, callL f, vs, a[4]!, a[5]!, K']) fun m => c.mk' "St_assignW" #[d[0]!, d[1]!, b[2]!, b[1]!, rest, f, vs, K, hs, hwT, p, hl, m]
      return true
    | "Attribute" =>
      let (v, p) ← vE 60 c b[1]!
      let (u, q) ← vE 60 c d[0]!
      let (r, h) ← leaf (arrow [mkConst ``Loc, mkConst ``AH]) fun K => mkAppN (mkConst ``S2) #[a[0]!, a[1]!, .lam `y (mkConst ``Value) (.lam `z (mkConst ``Value) (mkApp3 (mkConst ``setAttr) (.bvar 1) d[1]! (.bvar 0)) .default) .default, u, v, a[4]!, a[5]!, K]
      unless r[0]! == a[4]! do return false
      goOn g (exs rest a[4]! (← normPut r[1]!)) fun m => c.mk' "St_attr" #[d[0]!, d[1]!, d[2]!, b[2]!, b[1]!, rest, u, v, r[1]!, K, hs, hwT, p, q, h, m]
      return true
    | "Subscript" =>
      if hd (← ctorOf d[1]!) == "Slice" then return false
      let (v, p) ← vE 60 c b[1]!
      let (u, q) ← vE 60 c d[0]!
      let (y, q2) ← vE 60 c d[1]!
      let (r, h) ← leaf (arrow [mkConst ``Loc, mkConst ``AH]) fun K => mkAppN (mkConst ``S3) #[a[0]!, a[1]!, mkConst ``setItem, u, y, v, a[4]!, a[5]!, K]
      unless r[0]! == a[4]! do return false
      goOn g (exs rest a[4]! (← normPut r[1]!)) fun m => c.mk' "St_item" #[d[0]!, d[1]!, d[2]!, b[2]!, b[1]!, rest, u, y, v, r[1]!, K, hs, hwT, p, q, q2, h, m]
      return true
    | _ => return false
  | _ => return false
/-- an expression, a test, a row of expressions, at once -/
def eStep (sp : IO.Ref (Option Lean.Expr)) (t : Lean.Expr) : TacticM Bool := withMainContext do
  let g ← getMainGoal
  let a := t.getAppArgs
  let go (i : Nat) : Jd := ⟨#[a[0]!, a[1]!, a[2]!, a[i]!, a[i + 1]!], sp⟩
  match hd t with
  | "Ev" =>
    let (v, p) ← vE 60 (go 4) a[3]!
    goOn g (mkAppN a[6]! #[v, a[4]!, a[5]!]).headBeta fun m => mkApp2 p a[6]! m
    return true
  | "Ts" =>
    let (b, p) ← vS 60 (go 4) a[3]!
    goOn g (mkAppN a[6]! #[b, a[4]!, a[5]!]).headBeta fun m => mkApp2 p a[6]! m
    return true
  | "Els" =>
    let (vs, p) ← vL 60 (go 5) a[3]! a[4]!
    goOn g (mkAppN a[7]! #[vs, a[5]!, a[6]!]).headBeta fun m => mkApp2 p a[7]! m
    return true
  | "Exs" => sStep sp t
  | _ => return false
def splitOn (p : Lean.Expr) : TacticM (List MVarId) := do
  runW "by_cases hc : C1" [("C1", p)]
  let gs ← getUnsolvedGoals
  let mut out := []
  for g in gs do
    setGoals [g]
    runW s!"try simp only [{tests}] at hc" []
    out := out ++ (← getUnsolvedGoals)
  return out
/-- the walk, both ways at each test -/
def wkN : Nat → TacticM Unit
  | 0 => return
  | fuel + 1 => do
  if (← getUnsolvedGoals).isEmpty then return
  let t ← goalOf (← getMainGoal)
  if t.isForall then
    runW "intros" []
    wkN fuel
  else
    let sp ← IO.mkRef none
    if ← tryB (eStep sp t) then wkN fuel
    else if let some p ← sp.get then
      let mut out := []
      for g in ← withMainContext (splitOn p) do
        setGoals [g]
        wkN fuel
        out := out ++ (← getUnsolvedGoals)
      setGoals out
    else if ← tryB tidy then wkN fuel
    else if ← ruleStep then wkN fuel
    else if t.isAppOf ``ite then
      let b := t.getArg! 1
      let some (_, l, r) := b.eq? | return
      unless r.isConstOf ``Bool.true do return
      match ← withMainContext (known 9 l) with
      | .ok (x, q) =>
        withMainContext (runW (if x then "rw [if_pos Q]" else "rw [if_neg (Mine.noT Q)]") [("Q", q)])
        wkN fuel
      | .error p =>
        let mut out := []
        for g in ← withMainContext (splitOn p) do
          setGoals [g]
          wkN fuel
          out := out ++ (← getUnsolvedGoals)
        setGoals out
def wk3 (k : Nat) : TacticM Unit := wkN (300 + k)
def wk2 (k : Nat) : TacticM Unit := wk3 k

theorem sub_step {ρ τ : AH} {a p : Addr} {X o : AO} (h1 : τ a = some X) (h2 : p ≠ a → ρ p = some o → τ p = some o) : AH.set ρ a X p = some o → τ p = some o := fun e => by
  by_cases q : p = a
  · subst q; rw [AH.set_same] at e; cases e; exact h1
  · rw [AH.set_ne q] at e; exact h2 q e
/-- less is forgotten -/
def subLoop : Nat → TacticM Unit
  | 0 => return
  | k + 1 => do
    let ok ← try
        let [g1, g2] ← (← getMainGoal).apply (mkConst ``sub_step) | throwError "sub_step"
        sideStep g1
        setGoals [g2]
        runW "intro _" []
        pure true
      catch _ => pure false
    if ok then subLoop k else
      runW "intro _" []
      let g ← getMainGoal
      sideStep g
      setGoals []
def subTac : TacticM Unit := do
  runW "intro _ _" []
  subLoop 20
end Mine
end
section
open Lean Meta Elab Tactic Mine
namespace Dbg
def posOf (e : Lean.Expr) : Option (Nat × Nat) := do
  let p ← e.find? fun x => x.isAppOfArity ``PySem.Pos.mk 4
  return ((← Mine.natOf? (p.getArg! 0)), (← Mine.natOf? (p.getArg! 1)))
/-- say where the walk stands -/
def say : TacticM Unit := do
  let gs ← getUnsolvedGoals
  logInfo m!"{gs.length} goals"
  for g in gs do
   g.withContext do
    let t ← goalOf g
    let a := t.getAppArgs
    let mut hyps := m!""
    for d in ← getLCtx do
      unless d.isImplementationDetail do
        let ty ← instantiateMVars d.type
        if ← isProp ty then hyps := hyps ++ m!"\n   {mkFVar d.fvarId} : {ty}"
    let parts := if Mine.hd t ∈ ["Ev", "Ts", "Ex", "As", "Exs"] then
        [m!"{a[3]!.getAppFn} {posOf a[3]!}", m!"ℓ {a[4]!}", m!"σ {a[5]!}"] ++ (if Mine.hd t == "As" then [m!"σ {a[6]!}"] else [])
      else if Mine.hd t ∈ ["O1", "O2", "OL", "Ca", "S2", "S3", "SlE", "SlS", "Tr", "Lo"] then (a.toList.drop 2).dropLast.map fun x => m!"{x}"
      else if Mine.hd t ∈ ["Cd"] then (a.toList.drop 2).dropLast.map fun x => m!"{x}"
      else if Mine.hd t ∈ ["Lc"] then [m!"{a[9]!}", m!"ℓ {a[10]!}", m!"σ {a[11]!}"] else [m!"{t}"]
    logInfo (m!"AT {Mine.hd t}" ++ MessageData.joinSep (parts.map fun p => m!"\n  " ++ p) m!"" ++ "\n HYPS" ++ hyps)
end Dbg
end
section
open PySem PySem.W PySem.Calls PyProof.Rows
set_option Elab.async false
set_option linter.unusedVariables false
set_option linter.unusedSimpArgs false
set_option maxRecDepth 100000
namespace Mine
theorem bindL_out (ko : Str → Option NameKind) {x : Str} : ∀ {ns : List Str} {xs : List Value} {m : Str → Option Value}, x ∉ ns → bindL ko (ns.zip xs) m x = m x
  | [], _, m, _ => by simp [bindL]
  | _ :: _, [], m, _ => by simp [bindL]
  | n :: ns, y :: xs, m, h => by
    rw [List.zip_cons_cons, bindL, bindL_out ko (fun q => h (.tail _ q))]
    split
    · exact if_neg (fun q => h (by rw [q]; exact .head _))
    · rfl
theorem bindC_out (ko : Str → Option NameKind) {x : Str} : ∀ {ns : List Str} {xs : List Value} {m : Str → Option Value}, x ∉ ns → bindC ko (ns.zip xs) m x = m x
  | [], _, m, _ => by simp [bindC]
  | _ :: _, [], m, _ => by simp [bindC]
  | n :: ns, y :: xs, m, h => by
    rw [List.zip_cons_cons, bindC, bindC_out ko (fun q => h (.tail _ q))]
    split
    · rfl
    · exact if_neg (fun q => h (by rw [q]; exact .head _))
def locB (ko : Str → Option NameKind) (ps : List (Str × AV)) : Loc := ps.filter fun p => decide (ko p.1 = some .local)
def celB (ko : Str → Option NameKind) (ps : List (Str × AV)) (x : Str) : Option AV := look x (ps.filter fun p => decide (ko p.1 ≠ some .local))
theorem bindL_look (ko : Str → Option NameKind) {h : Heap} : ∀ {ns : List Str} {vs : List AV} {xs : List Value}, ns.Nodup → VRs h vs xs → ∀ (m : Str → Option Value) (x : Str) (v : AV), look x (locB ko (ns.zip vs)) = some v → ∃ y, bindL ko (ns.zip xs) m x = some y ∧ VR h v y
  | [], _, _, _, _, m, x, v, e => by simp [locB, look] at e
  | _ :: _, [], _, _, H, m, x, v, e => by simp [locB, look] at e
  | n :: ns, u :: vs, _, hn, H, m, x, v, e => by
    cases H with
    | cons a r =>
      rw [List.nodup_cons] at hn
      rw [List.zip_cons_cons, bindL]
      simp only [locB, List.zip_cons_cons, List.filter_cons] at e
      split at e
      · rename_i q
        simp only [look] at e
        split at e
        · rename_i q'
          cases e
          subst q'
          rw [bindL_out ko hn.1, if_pos (of_decide_eq_true q), if_pos rfl]
          exact ⟨_, rfl, a⟩
        · exact bindL_look ko hn.2 r _ x v e
      · exact bindL_look ko hn.2 r _ x v e
theorem bindC_look (ko : Str → Option NameKind) {h : Heap} : ∀ {ns : List Str} {vs : List AV} {xs : List Value}, ns.Nodup → VRs h vs xs → ∀ (m : Str → Option Value) (x : Str), m x = none → OV h (celB ko (ns.zip vs) x) (bindC ko (ns.zip xs) m x)
  | [], _, _, _, _, m, x, e => by simp only [celB, List.zip_nil_left, List.filter_nil, look, bindC, e]; exact .none
  | _ :: _, [], _, _, H, m, x, e => by cases H; simp only [celB, List.zip_nil_right, List.filter_nil, look, bindC, e]; exact .none
  | n :: ns, u :: vs, _, hn, H, m, x, e => by
    cases H with
    | cons a r =>
      rw [List.nodup_cons] at hn
      simp only [celB, List.zip_cons_cons, List.filter_cons, bindC]
      by_cases q : ko n = some .local
      · rw [if_pos q, if_neg (by simp [q])]
        exact bindC_look ko hn.2 r m x e
      · rw [if_neg q, if_pos (by simp [q])]
        simp only [look]
        by_cases q' : n = x
        · subst q'
          rw [if_pos rfl, bindC_out ko hn.1, if_pos rfl]
          exact .some a
        · rw [if_neg q']
          exact bindC_look ko hn.2 r _ x (by rw [if_neg (fun z => q' z.symm)]; exact e)
theorem cellsFrom_acc {x : Str} : ∀ (ns : List (Str × NameKind)) (n : Nat) (acc : List (Str × Addr)), (acc.lookup x).isSome = true → ((cellsFrom n ns acc).lookup x).isSome = true
  | [], _, _, h => h
  | (y, k) :: r, n, acc, h => by
    rw [cellsFrom]
    split
    · refine cellsFrom_acc r _ _ ?_
      rw [List.lookup_cons]
      split
      · rfl
      · exact h
    · exact cellsFrom_acc r _ _ h
theorem cellsFrom_some {x : Str} : ∀ (ns : List (Str × NameKind)) (n : Nat) (acc : List (Str × Addr)), ns.lookup x = some .cell → ((cellsFrom n ns acc).lookup x).isSome = true
  | (y, k) :: r, n, acc, h => by
    rw [List.lookup_cons] at h
    rw [cellsFrom]
    cases e : (x == y) with
    | true =>
      rw [e] at h
      cases h
      refine cellsFrom_acc r _ _ ?_
      rw [List.lookup_cons, e]; rfl
    | false =>
      rw [e] at h
      split <;> exact cellsFrom_some r _ _ h
theorem code_cells {c : Cx} {n : Nat} {ℓ : Loc} {σ : AH} {g : Addr} {vs : List AV} {name qual : Str} {params : Arguments} {body : List Stmt} {scope : Scope} {dV kV doc pm cdv ct oc : Value} {an od : Option Addr} {osl : Array (Option Value)} {K : AV → Loc → AH → Prop} (names : List Str)
    (hf : c.K.lookup g = some ⟨oc, od, .func (fnX name qual params body scope [] dV kV doc pm an cdv ct), osl⟩) (hcd : codeIn c.K cdv qual = true)
    (hb : ∀ (s : Shared) (xs : List Value), c.K.In s.heap → xs.length = vs.length → BindsTo s (fnX name qual params body scope [] dV kV doc pm an cdv ct) ⟨xs, []⟩ (names.zip xs))
    (hkind : ∀ y ∈ names, scope.names.lookup y = some .local ∨ scope.names.lookup y = some .cell) (hn : names.Nodup)
    (hnd : ((cellsFrom 0 scope.names []).map (·.1)).Nodup) (hco : scope.isCoroutine = false) (hgen : scope.isGenerator = false) (hk : scope.kind = .function)
    (h : ∀ L, (∀ p ∈ cellsFrom (L + 1) scope.names [], σ p.2 = none) → Exs c n (Fe.fn qual scope g cdv (cellsFrom (L + 1) scope.names []) hk) body (locB (fun x => scope.names.lookup x) (names.zip vs)) (setCells σ (celB (fun x => scope.names.lookup x) (names.zip vs)) (cellsFrom (L + 1) scope.names [])) (Back K ℓ)) :
    Cd0 c (n + 1) (.ref g) vs ℓ σ K :=
  code_callC names _ _ hf hcd hb (fun k y hy => (hkind y hy).imp_right fun q => ⟨q, cellsFrom_some _ _ _ q⟩) hnd (fun h xs H x v e => bindL_look _ hn H _ x v e) (fun h xs H x => bindC_look _ hn H _ x rfl) hco hgen hk h

open Lean Meta Elab Tactic
/-- a call of a def with cells is opened -/
def openFnC (a : Nat) : TacticM Unit := withMainContext do
  let t ← goalOf (← getMainGoal)
  if t.isAppOf ``Mine.Cd then runW "refine Mine.Cd0.cd ?_" []
  else unless t.isAppOf ``Mine.Cd0 do throwError "openFnC: no call"
  let c := t.getAppArgs[0]!
  let o ← objExpr (← mkAppM ``World.params #[← mkAppM ``Prod.fst #[c.appArg!]]) a
  let fd := (o.getArg! 2).appArg!
  let ns := (listOf 50 ((fd.getArg! 2).getArg! 1)).map fun x => x.getArg! 0
  let vs := listOf 50 t.getAppArgs[3]!
  let kinds := (listOf 200 ((fd.getArg! 4).getArg! 1)).map fun p => (p.getArg! 2, p.getArg! 3)
  let so ← mkAppM ``Option.some #[o]
  let lk ← mkAppM ``List.lookup #[mkRawNatLit a, ← mkAppM ``Mine.Cx.K #[c]]
  let us := " ".intercalate (ns.map fun _ => "_")
  runW s!"refine Mine.code_cells NS HF (by kernel_rfl) (fun s xs X e => Mine.xs{ns.length} (P := fun xs => PySem.BindsTo s _ (PySem.Args.mk xs []) (List.zip _ xs)) (fun {us} => PySem.BindsTo.of_eq rfl) xs e) (by decide +kernel) (by decide +kernel) (by decide +kernel) rfl rfl rfl ?_"
    [("NS", listTo (mkConst ``PySem.Str) ns), ("HF", mkApp2 (mkConst ``id [0]) (← mkEq lk so) (← mkEqRefl so))]
  let (L, g) ← (← getMainGoal).intro `L
  let (hfr, g) ← g.intro `hfr
  setGoals [g]
  withMainContext do
    let t ← goalOf (← getMainGoal)
    let str := mkConst ``PySem.Str
    let pr (ty a v : Lean.Expr) := mkApp4 (mkConst ``Prod.mk [0, 0]) str ty a v
    let args := ns.zip vs
    let isCell (x : Lean.Expr) : Bool := kinds.any fun p => p.1 == x && p.2.isConstOf ``NameKind.cell
    let locs := args.filter fun p => !isCell p.1
    let LB := listTo (mkApp2 (mkConst ``Prod [0, 0]) str (mkConst ``Mine.AV)) (locs.map fun p => pr (mkConst ``Mine.AV) p.1 p.2)
    let mut addr := mkNatAdd (.fvar L) (mkNatLit 1)
    let mut cells : List (Lean.Expr × Lean.Expr) := []
    for (x, k) in kinds do
      if k.isConstOf ``NameKind.cell then
        cells := (x, addr) :: cells
        addr := mkNatAdd addr (mkNatLit 1)
    let ad := mkConst ``PySem.Addr
    let LIT := listTo (mkApp2 (mkConst ``Prod [0, 0]) str ad) (cells.map fun p => pr ad p.1 p.2)
    let σ := t.getAppArgs[5]!.getArg! 0
    let none' := mkApp (mkConst ``Option.none [0]) (mkConst ``Mine.AV)
    let σ' := cells.foldr (fun (p : Lean.Expr × Lean.Expr) s => mkApp3 (mkConst ``Mine.AH.set) s p.2 (mkApp (mkConst ``Mine.AO.cell) (match args.find? fun q => q.1 == p.1 with | some q => mkApp2 (mkConst ``Option.some [0]) (mkConst ``Mine.AV) q.2 | none => none'))) σ
    let ta := t.getAppArgs
    let fe := ta[2]!
    let t' := mkAppN t.getAppFn ((ta.set! 2 (mkAppN fe.getAppFn (fe.getAppArgs.set! 4 LIT))).set! 4 LB |>.set! 5 σ')
    replaceMainGoal [← (← getMainGoal).change t']
    let mut i := 0
    for (_, b) in cells do
      runW s!"have hfr{i} := (show S1 A1 = none from hfr (X1, A1) (by simp [PySem.cellsFrom]))" [("A1", b), ("X1", (cells[i]!).1), ("S1", σ)]
      i := i + 1
    for j in [0:cells.length] do
      for k in [0:j] do
        runW "have := (show A1 ≠ A2 by omega)" [("A1", (cells[j]!).2), ("A2", (cells[k]!).2)]
    runW "clear hfr" []
end Mine
end
section
open PySem PySem.W PySem.Calls PyProof.Rows
set_option Elab.async false
set_option linter.unusedVariables false
set_option maxRecDepth 100000
namespace Mine
theorem VRs.more {h : Heap} : ∀ {vs : List AV} {xs : List Value}, VRs h vs xs → VRs h (vs ++ [.none]) (xs ++ [.none])
  | _, _, .nil => .cons .none .nil
  | _, _, .cons a b => .cons a (VRs.more b)
section
variable {c : Cx} {n : Nat} {ℓ : Loc} {σ : AH}
theorem code_callN {g : Addr} {vs : List AV} {name qual : Str} {params : Arguments} {body : List Stmt} {scope : Scope} {dV kV doc pm cdv ct oc : Value} {an od : Option Addr} {osl : Array (Option Value)} {K : AV → Loc → AH → Prop} (names : List Str)
    (hf : c.K.lookup g = some ⟨oc, od, .func (fnOf name qual params body scope dV kV doc pm an cdv ct), osl⟩) (hcd : codeIn c.K cdv qual = true)
    (hb : ∀ (s : Shared) (xs : List Value), c.K.In s.heap → xs.length = vs.length → BindsTo s (fnOf name qual params body scope dV kV doc pm an cdv ct) ⟨xs, []⟩ (names.zip (xs ++ [.none])))
    (hn : names.Nodup) (hl : ∀ y ∈ names, scope.names.lookup y = some .local) (hcell : ∀ x ∈ scope.names, x.2 ≠ .cell) (hco : scope.isCoroutine = false) (hgen : scope.isGenerator = false) (hk : scope.kind = .function)
    (h : Exs c n (Fe.fn qual scope g cdv [] hk) body (names.zip (vs ++ [.none])) σ (Back K ℓ)) :
    ∀ (h₀ : Heap) (A : Around) (L : Addr) (s : Shared) (xs : List Value) (R : Result → Shared → Prop), c.Base h₀ → Lv (n + 1) A → St c.prog c.w h₀ σ s.heap → Frm h₀ σ s.heap L ℓ → VRs s.heap vs xs →
      (∀ v x ℓ' σ' h' tk, K v ℓ' σ' → St c.prog c.w h₀ σ' h' → Frm h₀ σ' h' L ℓ' → Ext L σ s.heap σ' h' → VR h' v x → R (.ok (.ret x)) { s with heap := h', toks := tk }) →
      codeAny (model c.prog c.w) A (.call (.ref g) ⟨xs, []⟩) R s := by
  intro h₀ A L s xs R hB hA hS hF hP hC
  have X := hB.k.keeps hS.keep
  obtain ⟨p, loose, mg, mb, T⟩ := hB.top
  refine codeAny_call_def (fd := fnOf name qual params body scope dV kV doc pm an cdv ct) (body := body) (binds := names.zip (xs ++ [.none])) (by have := hA.depth; omega) (X _ _ hf) rfl (T.nolimit.keeps hS.keep)
    (codeRec_of X hcd) rfl (hb s xs X hP.length.symm) hcell (fun y hy => hl _ (List.of_mem_zip hy).1) (fun h₁ hns hk₁ => ?_) hco hgen hk
  have S₁ : St c.prog c.w h₀ σ h₁ := hS.keepAll hk₁
  have kt : TupKeep s.heap h₁ := fun a o e _ => hk₁ a o e
  obtain ⟨⟨m, hm, hlm⟩, hoff, oL, esL, kL, hLo, hdL⟩ := id hF
  have hLlt : L < s.heap.objs.size := Heap.lt_size hLo
  obtain ⟨o', es', ep', g1, g2, _⟩ := id hns
  have hP := hP.more
  have hz : ((names.zip (xs ++ [.none])).map (·.1)).Nodup := by
    exact hn.sublist (zip_keys names (xs ++ [.none]))
  have F₁ : Frm h₀ σ h₁ s.heap.objs.size (names.zip (vs ++ [.none])) := by
    refine ⟨⟨_, ⟨hns, S₁.keep, Nat.le_trans hm.above (Nat.le_of_lt hLlt)⟩, fun x v e => ?_⟩, fun a o e q => ?_, o', es', ep', g1, g2⟩
    · obtain ⟨y, e1, e2⟩ := zip_names_look hn hP e
      exact ⟨y, by rw [lookup_reverse_nodup hz]; exact e1, e2.keep kt⟩
    · obtain ⟨ob, hob⟩ := hS.there e
      exact absurd (Heap.lt_size hob) (by rw [q]; exact Nat.lt_irrefl _)
  refine h h₀ _ s.heap.objs.size _ () _ _ hB hA.deeper S₁ F₁ trivial fun fl x ℓ' σ' h' tk hK hS' hF' hX hR => ?_
  have hX' : Ext L σ s.heap σ' h' := by
    refine ⟨fun b o e hbL hbm => hX.keep b o (hk₁ b o e) (Nat.ne_of_lt (Heap.lt_size e)) hbm, fun a o' e => ?_, fun b o e => hX.there b o (hk₁ b o e)⟩
    rcases hX.dom a o' e with z | nn
    · exact .inl z
    · right
      cases q : s.heap.get? (mu a o') with
      | none => rfl
      | some ob => rw [hk₁ _ _ q] at nn; cases nn
  have hFL : Frm h₀ σ' h' L ℓ := by
    refine hF.carry hS' hX'.dom (fun o e => hX.keep L o (hk₁ L o e) (Nat.ne_of_lt (Heap.lt_size e)) fun a oa ea => hoff a oa ea) (hF.tup hS hX')
  cases hR with
  | next => exact hC _ _ ℓ σ' h' tk hK hS' hFL hX' .none
  | brk => exact hC _ _ ℓ σ' h' tk hK hS' hFL hX' .none
  | cont => exact hC _ _ ℓ σ' h' tk hK hS' hFL hX' .none
  | ret r => exact hC _ _ ℓ σ' h' tk hK hS' hFL hX' r
end
open Lean Meta Elab Tactic
/-- a def's call is opened, the last default left to itself: None -/
def openFnN (a : Nat) : TacticM Unit := withMainContext do
  let t ← goalOf (← getMainGoal)
  unless t.isAppOf ``Mine.Cd do throwError "openFn: no call"
  let c := t.getAppArgs[0]!
  let o ← objExpr (← mkAppM ``World.params #[← mkAppM ``Prod.fst #[c.appArg!]]) a
  let ns := (listOf 50 ((o.getArg! 2).appArg!.getArg! 2 |>.getArg! 1)).map fun x => x.getArg! 0
  let so ← mkAppM ``Option.some #[o]
  let lk ← mkAppM ``List.lookup #[mkRawNatLit a, ← mkAppM ``Mine.Cx.K #[c]]
  let (b, ps) ← bindsBy c o (" ".intercalate (ns.tail!.map fun _ => "_"))
  let b := b.replace "binds_K X" "binds_K X"
  runW s!"refine Mine.code_callN NS HF (by kernel_rfl) (fun s xs X e => Mine.xs{ns.length - 1} (P := fun xs => PySem.BindsTo s _ (PySem.Args.mk xs []) (List.zip _ (xs ++ [Value.none]))) {b} xs e) (by decide +kernel) (by decide +kernel) (by decide +kernel) rfl rfl rfl ?_"
    (ps ++ [("NS", listTo (mkConst ``PySem.Str) ns), ("HF", mkApp2 (mkConst ``id [0]) (← mkEq lk so) (← mkEqRefl so))])
  runW "dsimp only [List.zip, List.zipWith, List.cons_append, List.nil_append]" []
end Mine
end
section
open PySem PySem.W PySem.Calls PyProof.Rows
set_option Elab.async false
set_option linter.unusedVariables false
set_option linter.unusedSimpArgs false
set_option maxRecDepth 100000
set_option maxHeartbeats 0
namespace Mine
section
variable {w : WX} {n : Nat} {ℓ : Loc} {σ : AH} {K : AV → Loc → AH → Prop}
theorem c_clamp {v l m : Int} (h : K (.int (max l (min v m))) ℓ σ) : Cd (cx w) (n + 1) (.ref 62) [.int v, .int l, .int m] ℓ σ K := by
  run_tac openFn 62
  run_tac wk2 300
  exact h
theorem c_erased_pen {b : Int} (h : K (penV b) ℓ σ) : Cd (cx w) (n + 1) (.ref 69) [penV b] ℓ σ K := by
  unfold penV
  run_tac openFn 69
  run_tac wk2 300
  exact h
theorem c_blank_cell {b : Int} (h : K (cellV (blk b)) ℓ σ) : Cd (cx w) (n + 2) (.ref 76) [penV b] ℓ σ K := by
  run_tac openFn 76
  run_tac wk2 300
  exact h
theorem c_right_half {c : Cell} (h : K (cellV ⟨[], 0, c.bg⟩) ℓ σ) : Cd (cx w) (n + 1) (.ref 627) [cellV c] ℓ σ K := by
  unfold cellV
  run_tac openFn 627
  run_tac wk2 300
  exact h
theorem c_line_blanks {m b : Int} (hm : m < 2 ^ 20) (h : ∀ a, σ a = none → K (.ref a) ℓ (AH.set σ a (.list (rowV (List.replicate (max 0 m).toNat (blk b)))))) : Cd (cx w) (n + 3) (.ref 620) [.int m, penV b] ℓ σ K := by
  refine Cd.forget ?_
  run_tac openFn 620
  run_tac wk2 300
  rename_i x hx y hy
  obtain ⟨hy', ne⟩ := fresh_set hy
  refine ⟨AH.set σ y _, (Sub.drop hx).set, ?_⟩
  rw [reps_one, row_rep]
  exact h y hy'
theorem c_line_part {a : Addr} {cs : List Cell} {i : Int} (ha : σ a = some (.list (rowV cs))) (hz : cs.length ≤ 1000) (hi : i ≤ 1000) (h : K .none ℓ (AH.set σ a (.list (rowV (partF cs i))))) : Cd (cx w) (n + 3) (.ref 634) [.ref a, .int i] ℓ σ K := by
  have hlen := row_len cs
  run_tac openFn 634
  run_tac wk3 30
  · rw [partF_yes (by omega)] at h
    exact h
  all_goals
    rw [partF_no (by omega), set_id ha] at h
    exact h
/-- a Line -/
def lineO (dx a : Addr) (wr : Bool) : AO := .inst 773 dx [(Str.ofString "cells", .ref a), (Str.ofString "is_wrapped", .bool wr), (Str.ofString "size", .str (Str.ofString "single"))]
theorem c_Line_part {l dx a : Addr} {wr : Bool} {cs : List Cell} {i : Int} (hl : σ l = some (lineO dx a wr)) (ha : σ a = some (.list (rowV cs))) (hz : cs.length ≤ 1000) (hi : i ≤ 1000) (h : K .none ℓ (AH.set σ a (.list (rowV (partF cs i))))) :
    Cd (cx w) (n + 4) (.ref 684) [.ref l, .int i] ℓ σ K := by
  run_tac openFn 684
  run_tac wk3 30
  exact h
end
end Mine
end
section
open PySem PySem.W PySem.Calls PyProof.Rows
set_option Elab.async false
set_option linter.unusedVariables false
set_option linter.unusedSimpArgs false
set_option maxRecDepth 100000
set_option maxHeartbeats 0
namespace Mine
section
variable {w : WX} {n : Nat} {ℓ : Loc} {σ : AH} {K : AV → Loc → AH → Prop}
def putCore (cs : List Cell) (i : Int) (c : Cell) : List Cell :=
  if c.wd = 2 then ((partF (partF cs i) (i + c.wd)).set i.toNat c).set (i + 1).toNat ⟨[], 0, c.bg⟩ else (partF (partF cs i) (i + c.wd)).set i.toNat c
set_option maxHeartbeats 4000000 in
theorem c_Line_put {l dx a : Addr} {wr : Bool} {cs : List Cell} {i : Int} {c : Cell} (hl : σ l = some (lineO dx a wr)) (ha : σ a = some (.list (rowV cs))) (hz : cs.length ≤ 900) (h0 : 0 ≤ i) (hi : i < cs.length) (hc : c.wd = 1 ∨ c.wd = 2 ∧ i + 1 < cs.length) (h : K .none ℓ (AH.set σ a (.list (rowV (putCore cs i c))))) :
    Cd (cx w) (n + 5) (.ref 691) [.ref l, .int i, cellV c] ℓ σ K := by
  run_tac openFn 691
  run_tac wk3 30
  all_goals
    simp only [putCore] at h
  · rw [if_pos hc] at h; exact h
  · rw [if_neg hc] at h; exact h
/-- Line.shift, to the right, by no more than what is there -/
def shiftD (cs : List Cell) (i m : Int) : List Cell := partF (partF (partF (partF cs i) (cs.length - 1 + 1)) i) (cs.length - 1 + 1 - m)
def shiftF (cs : List Cell) (i m : Int) (b : Int) : List Cell :=
  splice (some i) (some ((cs.length : Int) - 1 + 1)) (shiftD cs i m) (List.replicate m.toNat (blk b) ++ cut (some i) (some ((cs.length : Int) - 1 + 1 - m)) (shiftD cs i m))
theorem shiftD_len (cs : List Cell) (i m : Int) : (shiftD cs i m).length = cs.length := by simp only [shiftD, partF_len]
theorem shiftF_len {cs : List Cell} {i m b : Int} (h0 : 0 ≤ i) (hi : i < cs.length) (hm : 1 ≤ m) (hM : m ≤ cs.length - i) : (shiftF cs i m b).length = cs.length := by
  simp only [shiftF, splice, cut, clip_in h0 (show i ≤ ((cs.length : Nat) : Int) by omega), clip_in (show (0 : Int) ≤ (cs.length : Int) - 1 + 1 by omega) (show (cs.length : Int) - 1 + 1 ≤ ((cs.length : Nat) : Int) by omega), clip_in (show (0 : Int) ≤ (cs.length : Int) - 1 + 1 - m by omega) (show (cs.length : Int) - 1 + 1 - m ≤ ((cs.length : Nat) : Int) by omega), List.length_append, List.length_take, List.length_drop, List.length_replicate, shiftD_len]
  generalize cs.length = N at *
  obtain ⟨I, rfl⟩ := Int.eq_ofNat_of_zero_le h0
  obtain ⟨M, rfl⟩ := Int.eq_ofNat_of_zero_le (show 0 ≤ m by omega)
  rw [show ((I : Int)).toNat = I from rfl, show ((M : Int)).toNat = M from rfl, show ((N : Int) - 1 + 1).toNat = N by omega, show ((N : Int) - 1 + 1 - M).toNat = N - M by omega, Nat.min_eq_left (show I ≤ N by omega), Nat.min_eq_left (show N - M - I ≤ N - I by omega), Nat.max_eq_right (show I ≤ N by omega)]
  omega
set_option maxHeartbeats 8000000 in
theorem c_Line_shift {l dx a : Addr} {wr : Bool} {cs : List Cell} {i m b : Int} (hl : σ l = some (lineO dx a wr)) (ha : σ a = some (.list (rowV cs))) (hz : cs.length ≤ 900) (h0 : 0 ≤ i) (hi : i < cs.length) (hm : 1 ≤ m) (hM : m ≤ cs.length - i) (h : K .none ℓ (AH.set (AH.set σ a (.list (rowV (shiftF cs i m b)))) l (lineO dx a false))) :
    Cd (cx w) (n + 5) (.ref 713) [.ref l, .int i, .int m, .int (cs.length - 1), penV b, .bool false] ℓ σ K := by
  refine Cd.forget ?_
  run_tac openFn 713
  run_tac wk3 30
  · refine ⟨_, ?_, h⟩
    run_tac subTac
  · exfalso
    rename_i hc
    exact hc (by have := shiftF_len (b := b) h0 hi hm hM; simp only [shiftF, shiftD] at this; omega)
theorem c_Line_insert {l dx a : Addr} {wr : Bool} {cs : List Cell} {i m b rt : Int} (hl : σ l = some (lineO dx a wr)) (ha : σ a = some (.list (rowV cs))) (hz : cs.length ≤ 900) (h0 : 0 ≤ i) (hi : i < cs.length) (hm : 1 ≤ m) (hM : m ≤ cs.length - i) (hr : rt = cs.length - 1) (h : K .none ℓ (AH.set (AH.set σ a (.list (rowV (shiftF cs i m b)))) l (lineO dx a false))) :
    Cd (cx w) (n + 6) (.ref 720) [.ref l, .int i, .int m, .int rt, penV b] ℓ σ K := by
  subst hr
  run_tac openFn 720
  run_tac wk2 300
  exact h
end
end Mine
end
section
open PySem PySem.W PySem.Calls PyProof.Rows
set_option Elab.async false
set_option linter.unusedVariables false
set_option linter.unusedSimpArgs false
set_option maxRecDepth 100000
set_option maxHeartbeats 0
namespace Mine
section
variable {w : WX} {n : Nat} {ℓ : Loc} {σ : AH} {K : AV → Loc → AH → Prop}
def rangesV (rs : List (Int × Int)) : List AV := rs.map fun p => .tup [.int p.1, .int p.2]
def rg (rs : List (Int × Int)) (i : Int) : Int × Int := rs.getD i.toNat (0, 0)
theorem rg_get {rs : List (Int × Int)} {i : Int} (h0 : 0 ≤ i) (h : i < rs.length) : (rangesV rs)[i.toNat]? = some (.tup [.int (rg rs i).1, .int (rg rs i).2]) := by
  have : i.toNat < rs.length := by omega
  simp [rangesV, rg, List.getD, this]
theorem rangesV_len (rs : List (Int × Int)) : (rangesV rs).length = rs.length := by simp [rangesV]
/-- a code within ranges -/
def inR (rs : List (Int × Int)) (x : Int) : Bool := rs.any fun p => decide (p.1 ≤ x) && decide (x ≤ p.2)
theorem rg_mem {rs : List (Int × Int)} {i : Int} (h0 : 0 ≤ i) (h : i < rs.length) : rg rs i ∈ rs := by
  have : i.toNat < rs.length := by omega
  simp [rg, List.getD, this]
theorem rg_lt {rs : List (Int × Int)} (hs : rs.Pairwise fun p q => p.2 < q.1) {i j : Int} (h0 : 0 ≤ i) (hij : i < j) (hj : j < rs.length) : (rg rs i).2 < (rg rs j).1 := by
  have a : i.toNat < rs.length := by omega
  have b : j.toNat < rs.length := by omega
  have := List.pairwise_iff_getElem.mp hs i.toNat j.toNat a b (by omega)
  simpa [rg, List.getD, a, b] using this
theorem rg_ex {rs : List (Int × Int)} {p : Int × Int} (h : p ∈ rs) : ∃ i : Int, 0 ≤ i ∧ i < rs.length ∧ rg rs i = p := by
  obtain ⟨k, hk, e⟩ := List.mem_iff_getElem.mp h
  exact ⟨k, by omega, by omega, by simp [rg, List.getD, hk, e]⟩
theorem inR_yes {rs : List (Int × Int)} {x l : Int} (h0 : 0 ≤ l) (hn : l < rs.length) (h1 : (rg rs l).1 ≤ x) (h2 : x ≤ (rg rs l).2) : inR rs x = true := by
  simp only [inR, List.any_eq_true, Bool.and_eq_true, decide_eq_true_eq]
  exact ⟨_, rg_mem h0 hn, h1, h2⟩
theorem inR_no {rs : List (Int × Int)} (hs : rs.Pairwise fun p q => p.2 < q.1) {x l : Int} (h0 : 0 ≤ l) (hb : ∀ i : Int, 0 ≤ i → i < l → (rg rs i).2 < x) (hc : l < rs.length → x < (rg rs l).1 ∧ x ≤ (rg rs l).2) : inR rs x = false := by
  simp only [inR, List.any_eq_false, Bool.and_eq_true, decide_eq_true_eq, not_and]
  intro p hp h1 h2
  obtain ⟨i, i0, i1, rfl⟩ := rg_ex hp
  have a : ¬ i < l := fun q => by have := hb i i0 q; omega
  have d : ¬ i = l := fun q => by subst q; have := (hc i1).1; omega
  have e := rg_lt hs h0 (show l < i by omega) i1
  have := (hc (by omega)).2
  omega
def wirI (rs : List (Int × Int)) (a : Addr) (x : Int) (σ₀ : AH) (k : Nat) (ℓ : Loc) (σ : AH) : Prop :=
  ∃ lo hi : Int, σ = σ₀ ∧ (∃ r, ℓ = (Str.ofString "ranges", .ref a) :: (Str.ofString "code", .int x) :: (Str.ofString "high", .int hi) :: (Str.ofString "low", .int lo) :: r ∧ (r = [] ∨ ∃ m, r = [(Str.ofString "middle", m)])) ∧ 0 ≤ lo ∧ lo ≤ hi ∧ hi ≤ rs.length ∧ k = (hi - lo).toNat ∧
    (∀ i : Int, 0 ≤ i → i < lo → (rg rs i).2 < x) ∧ (hi < rs.length → x ≤ (rg rs hi).2)
theorem c_width_in_ranges {a : Addr} {rs : List (Int × Int)} {x : Int} (ha : σ a = some (.list (rangesV rs))) (hs : rs.Pairwise fun p q => p.2 < q.1) (hle : ∀ p ∈ rs, p.1 ≤ p.2) (hz : rs.length ≤ 1000) (h : K (.bool (inR rs x)) ℓ σ) : Cd (cx w) (n + 1) (.ref 106) [.ref a, .int x] ℓ σ K := by
  have hlen := rangesV_len rs
  run_tac openFn 106
  run_tac wk2 300
  refine Ex.while_ (wirI rs a x σ) ?_ rs.length ⟨0, rs.length, rfl, ⟨[], ?_, .inl rfl⟩, by omega, by omega, by omega, by omega, fun i _ _ => by omega, fun _ => by omega⟩
  · rintro k ℓ' σ' ⟨lo, hi, rfl, ⟨r, rfl, hr⟩, l0, l1, l2, rfl, hb, hC⟩
    have g1 := fun q => rg_get (rs := rs) (i := (lo + hi) / 2) (by omega) q
    have g2 := fun q => rg_get (rs := rs) (i := lo) l0 q
    have hlt := fun j => rg_lt hs (i := (lo + hi) / 2) (j := j) (by omega)
    by_cases q : lo < hi
    · have g1 := g1 (by omega)
      have g3 : ∀ i : Int, 0 ≤ i → i ≤ (lo + hi) / 2 → (rg rs ((lo + hi) / 2)).2 < x → (rg rs i).2 < x := fun i i0 i1 i2 => by
        by_cases e : i = (lo + hi) / 2
        · rw [e]; exact i2
        · have a := rg_lt hs i0 (j := (lo + hi) / 2) (by omega) (by omega)
          have b := hle _ (rg_mem (rs := rs) (i := (lo + hi) / 2) (by omega) (by omega))
          omega
      rcases hr with rfl | ⟨m, rfl⟩
      all_goals
        run_tac wk3 30
        · exact ⟨_, by omega, _, _, rfl, ⟨_, rfl, .inr ⟨_, rfl⟩⟩, by omega, by omega, by omega, rfl, fun i i0 i1 => g3 i i0 (by omega) (by assumption), hC⟩
        · exact ⟨_, by omega, _, _, rfl, ⟨_, rfl, .inr ⟨_, rfl⟩⟩, by omega, by omega, by omega, rfl, hb, fun _ => by omega⟩
    · obtain rfl : lo = hi := by omega
      by_cases e : lo < rs.length
      · have g2 := g2 e
        have z : decide ((rg rs lo).1 ≤ x) = inR rs x := by
          by_cases y : (rg rs lo).1 ≤ x
          · rw [inR_yes l0 e y (hC e)]; exact decide_eq_true y
          · rw [inR_no hs l0 hb fun _ => ⟨by omega, hC e⟩]; exact decide_eq_false y
        rcases hr with rfl | ⟨m, rfl⟩
        all_goals
          run_tac wk3 30
          first | (rw [z]; exact h) | omega
      · have z := inR_no hs l0 hb fun q => absurd q e
        rcases hr with rfl | ⟨m, rfl⟩
        all_goals
          run_tac wk3 30
          rw [z] at h; exact h
  · rw [hlen]
end
end Mine
end
section
open PySem PySem.W PySem.Calls PyProof.Rows
set_option Elab.async false
set_option linter.unusedVariables false
set_option linter.unusedSimpArgs false
set_option maxRecDepth 100000
set_option maxHeartbeats 0
namespace Mine
def wideL (br : Bool) : List (Int × Int) := if br then [(19968, 20223), (127995, 127999), (128512, 128591)] else [(19968, 20223), (128512, 128591)]
def marksL : List (Int × Int) := [(768, 879), (8205, 8205), (8419, 8419), (65039, 65039)]
def picsL : List (Int × Int) := [(10084, 10084), (128512, 128591)]
def wtO (dt w1 w2 w3 : Addr) : AO := .inst 144 dt [(Str.ofString "wide", .ref w1), (Str.ofString "marks", .ref w2), (Str.ofString "joiners", .ref w3)]
def widthF (br : Bool) (x : Int) : Int := if inR marksL x = true then 0 else if inR (wideL br) x = true then 2 else 1
def regF (x : Int) : Bool := decide (127462 ≤ x) && decide (x ≤ 127487)
def modF (x : Int) : Bool := decide (127995 ≤ x) && decide (x ≤ 127999)
def at0 (cs : List Int) (k : Nat) : Int := cs.getD k 0
def lastI (cs : List Int) : Int := at0 cs (cs.length - 1)
def bareF (cs : List Int) : Int := if 1 < cs.length ∧ lastI cs = 65039 then at0 cs (cs.length - 2) else lastI cs
def joinsF (br : Bool) (cs : List Int) (x : Int) : Bool :=
  if cs = [] then false else if widthF br x = 0 then true else if regF x = true then regF (lastI cs) && (((cs.filter regF).length : Int) == 1)
  else if modF x = true then inR picsL (bareF cs) else (lastI cs == 8205) && (inR picsL x && inR picsL (at0 cs 0))
theorem ints_get {cs : List Int} {k : Nat} (h : k < cs.length) : (cs.map AV.int)[k]? = some (.int (at0 cs k)) := by simp [at0, List.getD, h]
theorem sI {n : Nat} {k : Nat} {i : Int} (h : k < n) (e : i = k ∨ i + n = k) : seqIndex? i n = some k := by
  unfold seqIndex?
  rcases e with e | e
  · simp only [if_neg (show ¬ i < 0 by omega)]
    rw [show (decide (0 ≤ i) && decide (i < (n : Int))) = true by simp; omega, if_pos rfl, show i.toNat = k by omega]
  · simp only [if_pos (show i < 0 by omega)]
    rw [show (decide (0 ≤ i + (n : Int)) && decide (i + (n : Int) < (n : Int))) = true by simp; omega, if_pos rfl, show (i + n).toNat = k by omega]
theorem s0 {cs : List Int} (h : cs ≠ []) : seqIndex? 0 (cs.map AV.int).length = some 0 := sI (by rw [List.length_map]; exact List.length_pos_iff.mpr h) (.inl rfl)
theorem s1 {cs : List Int} (h : cs ≠ []) : seqIndex? (-1) (cs.map AV.int).length = some (cs.length - 1) := by
  have := List.length_pos_iff.mpr h
  exact sI (by rw [List.length_map]; omega) (.inr (by rw [List.length_map]; omega))
theorem s2 {cs : List Int} (h : 1 < cs.length) : seqIndex? (-2) (cs.map AV.int).length = some (cs.length - 2) := sI (by rw [List.length_map]; omega) (.inr (by rw [List.length_map]; omega))
section
variable {w : WX} {n : Nat} {ℓ : Loc} {σ : AH} {K : AV → Loc → AH → Prop}
theorem srt (br : Bool) : (wideL br).Pairwise (fun p q => p.2 < q.1) ∧ marksL.Pairwise (fun p q => p.2 < q.1) ∧ picsL.Pairwise (fun p q => p.2 < q.1) ∧ (∀ p ∈ wideL br, p.1 ≤ p.2) ∧ (∀ p ∈ marksL, p.1 ≤ p.2) ∧ (∀ p ∈ picsL, p.1 ≤ p.2) ∧ (wideL br).length ≤ 1000 := by cases br <;> decide
theorem c_WidthTable_width_of {t dt w1 w2 w3 : Addr} {br : Bool} {x : Int} (ht : σ t = some (wtO dt w1 w2 w3)) (h1 : σ w1 = some (.list (rangesV (wideL br)))) (h2 : σ w2 = some (.list (rangesV marksL))) (h : K (.int (widthF br x)) ℓ σ) : Cd (cx w) (n + 2) (.ref 134) [.ref t, .int x] ℓ σ K := by
  obtain ⟨s1, s2, s3, l1, l2, l3, z⟩ := srt br
  unfold widthF at h
  run_tac openFn 134
  run_tac wk3 10
  all_goals simpa [*] using h
theorem c_WidthTable_is_picture {t dt w1 w2 w3 : Addr} {x : Int} (ht : σ t = some (wtO dt w1 w2 w3)) (h3 : σ w3 = some (.list (rangesV picsL))) (h : K (.bool (inR picsL x)) ℓ σ) : Cd (cx w) (n + 2) (.ref 141) [.ref t, .int x] ℓ σ K := by
  obtain ⟨s1, s2, s3, l1, l2, l3, z⟩ := srt true
  run_tac openFn 141
  run_tac wk3 10
  exact h
theorem c_is_region {x : Int} (h : K (.bool (regF x)) ℓ σ) : Cd (cx w) (n + 1) (.ref 155) [.int x] ℓ σ K := by
  run_tac openFn 155
  run_tac wk3 10
  all_goals simpa [regF, *] using h
theorem c_is_modifier {x : Int} (h : K (.bool (modF x)) ℓ σ) : Cd (cx w) (n + 1) (.ref 162) [.int x] ℓ σ K := by
  run_tac openFn 162
  run_tac wk3 10
  all_goals simpa [modF, *] using h
theorem c_width_bare {cs : List Int} (hz : cs.length ≤ 1000) (hn : cs ≠ []) (h : K (.int (bareF cs)) ℓ σ) : Cd (cx w) (n + 1) (.ref 169) [.tup (cs.map .int)] ℓ σ K := by
  have h0 := List.length_pos_iff.mpr hn
  have e1 := s1 hn
  have g1 : (cs.map AV.int)[cs.length - 1]? = some (.int (lastI cs)) := ints_get (by omega)
  have hl := cs.length_map AV.int
  unfold bareF at h
  by_cases q : 1 < cs.length
  · have e2 := s2 q
    have g2 : (cs.map AV.int)[cs.length - 2]? = some (.int (at0 cs (cs.length - 2))) := ints_get (by omega)
    run_tac openFn 169
    run_tac wk3 10
    all_goals first | omega | simpa [*] using h
  · run_tac openFn 169
    run_tac wk3 10
    all_goals first | omega | simpa [*] using h
theorem c_joins {t dt w1 w2 w3 : Addr} {br : Bool} {cs : List Int} {x : Int} (ht : σ t = some (wtO dt w1 w2 w3)) (h1 : σ w1 = some (.list (rangesV (wideL br)))) (h2 : σ w2 = some (.list (rangesV marksL))) (h3 : σ w3 = some (.list (rangesV picsL))) (hz : cs.length ≤ 1000)
    (h : K (.bool (joinsF br cs x)) ℓ σ) : Cd (cx w) (n + 3) (.ref 174) [.tup (cs.map .int), .int x, .ref t] ℓ σ K := by
  refine Cd.forget ?_
  unfold joinsF at h
  have hl := cs.length_map AV.int
  by_cases q : cs = []
  · subst q
    run_tac openFn 174
    run_tac wk3 10
    exact ⟨_, Sub.refl _, h⟩
  · have h0 := List.length_pos_iff.mpr q
    have e0 := s0 q
    have e1 := s1 q
    have g0 : (cs.map AV.int)[0]? = some (.int (at0 cs 0)) := ints_get (by omega)
    have g1 : (cs.map AV.int)[cs.length - 1]? = some (.int (lastI cs)) := ints_get (by omega)
    run_tac openFn 174
    run_tac wk3 10
    all_goals try exact ⟨_, Sub.refl _, by simpa [*] using h⟩
    all_goals try (rw [beqF ‹¬ lastI cs = 8205›] at h; exact ⟨_, Sub.refl _, by simpa [*] using h⟩)
    · refine Lc.filter regF (fun _ => by kernel_rfl) (by rfl) (fun _ _ g => g) (fun i ℓ τ K' hk hK => ?_) cs [] _ _ trivial AH.set_same (by simp only [List.length_nil, sizeLine_eq]; omega) ?_
      · run_tac wk3 10
        exact hK
      · rw [set_set, List.nil_append]
        have hf := List.length_filter_le regF cs
        run_tac wk3 10
        refine ⟨σ, ?_, ?_⟩
        · run_tac subTac
        · simpa [*] using h
theorem c_width_bare_l {a : Addr} {cs : List Int} (ha : σ a = some (.list (cs.map .int))) (hz : cs.length ≤ 1000) (hn : cs ≠ []) (h : K (.int (bareF cs)) ℓ σ) : Cd (cx w) (n + 1) (.ref 169) [.ref a] ℓ σ K := by
  have h0 := List.length_pos_iff.mpr hn
  have hl := cs.length_map AV.int
  unfold bareF at h
  have g1 : (cs.map AV.int)[(-1 + ((cs.map AV.int).length : Int)).toNat]? = some (.int (lastI cs)) := by rw [hl, show (-1 + (cs.length : Int)).toNat = cs.length - 1 by omega]; exact ints_get (by omega)
  by_cases q : 1 < cs.length
  · have g2 : (cs.map AV.int)[(-2 + ((cs.map AV.int).length : Int)).toNat]? = some (.int (at0 cs (cs.length - 2))) := by rw [hl, show (-2 + (cs.length : Int)).toNat = cs.length - 2 by omega]; exact ints_get (by omega)
    run_tac openFn 169
    run_tac wk3 10
    all_goals first | omega | simpa [*] using h
  · run_tac openFn 169
    run_tac wk3 10
    all_goals first | omega | simpa [*] using h
theorem c_joins_l {a t dt w1 w2 w3 : Addr} {br : Bool} {cs : List Int} {x : Int} (ha : σ a = some (.list (cs.map .int))) (ht : σ t = some (wtO dt w1 w2 w3)) (h1 : σ w1 = some (.list (rangesV (wideL br)))) (h2 : σ w2 = some (.list (rangesV marksL))) (h3 : σ w3 = some (.list (rangesV picsL))) (hz : cs.length ≤ 1000)
    (q : cs ≠ []) (h : K (.bool (joinsF br cs x)) ℓ σ) : Cd (cx w) (n + 3) (.ref 174) [.ref a, .int x, .ref t] ℓ σ K := by
  refine Cd.forget ?_
  unfold joinsF at h
  have hl := cs.length_map AV.int
  have h0 := List.length_pos_iff.mpr q
  have g1 : (cs.map AV.int)[(-1 + ((cs.map AV.int).length : Int)).toNat]? = some (.int (lastI cs)) := by rw [hl, show (-1 + (cs.length : Int)).toNat = cs.length - 1 by omega]; exact ints_get (by omega)
  have g0 : (cs.map AV.int)[(0 : Int).toNat]? = some (.int (at0 cs 0)) := ints_get (by omega)
  run_tac openFn 174
  run_tac wk3 10
  all_goals try exact ⟨_, Sub.refl _, by simpa [*] using h⟩
  all_goals try (rw [beqF ‹¬ lastI cs = 8205›] at h; exact ⟨_, Sub.refl _, by simpa [*] using h⟩)
  · refine Lc.filter regF (fun _ => by kernel_rfl) (by rfl) (fun τ l g => ?_) (fun i ℓ τ K' hk hK => ?_) cs [] _ _ (by run_tac sideStep (← Lean.Elab.Tactic.getMainGoal)) AH.set_same (by simp only [List.length_nil, sizeLine_eq]; omega) ?_
    · rw [AH.set_ne (ne_fresh ha (by assumption))]; exact g
    · run_tac wk3 10
      exact hK
    · rw [set_set, List.nil_append]
      have hf := List.length_filter_le regF cs
      run_tac wk3 10
      refine ⟨σ, ?_, ?_⟩
      · run_tac subTac
      · simpa [*] using h
end
end Mine
end
section
open PySem PySem.W PySem.Calls PyProof.Rows
set_option Elab.async false
set_option linter.unusedVariables false
set_option linter.unusedSimpArgs false
set_option maxRecDepth 100000
set_option maxHeartbeats 0
namespace Mine
section
variable {w : WX} {n : Nat} {ℓ : Loc} {σ : AH} {K : AV → Loc → AH → Prop}
/-- a cluster's width -/
def clusterF (br : Bool) (cs : List Int) : Int :=
  if cs = [] then 1 else if widthF br (at0 cs 0) = 2 ∨ (1 < cs.length ∧ regF (at0 cs 0) = true ∧ regF (at0 cs 1) = true) then 2
  else if inR picsL (at0 cs 0) = true then (if cs.contains 65039 = true ∨ (cut (some 1) none cs).filter modF ≠ [] then 2 else 1)
  else if [35, 42, 48, 49, 50, 51, 52, 53, 54, 55, 56, 57].contains (at0 cs 0) = true ∧ cut (some 1) (some 3) cs = [65039, 8419] then 2 else 1
theorem c_cluster_width {t dt w1 w2 w3 : Addr} {br : Bool} {cs : List Int} (ht : σ t = some (wtO dt w1 w2 w3)) (h1 : σ w1 = some (.list (rangesV (wideL br)))) (h2 : σ w2 = some (.list (rangesV marksL))) (h3 : σ w3 = some (.list (rangesV picsL))) (hz : cs.length ≤ 1000) (q : cs ≠ [])
    (h : K (.int (clusterF br cs)) ℓ σ) : Cd (cx w) (n + 3) (.ref 179) [.tup (cs.map .int), .ref t] ℓ σ K := by
  refine Cd.forget ?_
  unfold clusterF at h
  have hl := cs.length_map AV.int
  have h0 := List.length_pos_iff.mpr q
  have e0 := s0 q
  have g0 : (cs.map AV.int)[0]? = some (.int (at0 cs 0)) := ints_get (by omega)
  by_cases q1 : 1 < cs.length
  · have e1 : seqIndex? 1 (cs.map AV.int).length = some 1 := sI (by omega) (.inl rfl)
    have g1 : (cs.map AV.int)[1]? = some (.int (at0 cs 1)) := ints_get (by omega)
    run_tac openFn 179
    run_tac wk3 10
    all_goals try (simp only [*, if_true, if_false, true_or, or_true, false_or, or_false, true_and, and_true, false_and, and_false, not_true, not_false_iff, eq_self, ne_eq, Bool.false_eq_true, Bool.not_eq_true] at h; exact ⟨_, Sub.refl _, h⟩)
    all_goals
      refine Lc.filter modF (fun _ => by kernel_rfl) (by rfl) (fun _ _ g => g) (fun i ℓ τ K' hk hK => ?_) (cut (some 1) none cs) [] _ _ trivial AH.set_same (by simp only [cut, List.length_nil, List.length_take, List.length_drop, sizeLine_eq]; omega) ?_
      · run_tac wk3 10
        exact hK
      · rw [set_set, List.nil_append]
        by_cases e : (cut (some 1) none cs).filter modF = []
        · rw [e]
          run_tac wk3 10
          refine ⟨σ, ?_, ?_⟩
          · run_tac subTac
          · simp only [*, if_true, if_false, true_or, or_true, false_or, or_false, true_and, and_true, false_and, and_false, not_true, not_false_iff, eq_self, ne_eq, Bool.false_eq_true, Bool.not_eq_true] at h
            exact h
        · have e' : (List.map AV.int ((cut (some 1) none cs).filter modF)).isEmpty = false := by simpa using e
          run_tac wk3 10
          refine ⟨σ, ?_, ?_⟩
          · run_tac subTac
          · simp only [*, if_true, if_false, true_or, or_true, false_or, or_false, true_and, and_true, false_and, and_false, not_true, not_false_iff, eq_self, ne_eq, Bool.false_eq_true, Bool.not_eq_true] at h
            exact h
  · run_tac openFn 179
    run_tac wk3 10
    all_goals try (simp only [*, if_true, if_false, true_or, or_true, false_or, or_false, true_and, and_true, false_and, and_false, not_true, not_false_iff, eq_self, ne_eq, Bool.false_eq_true, Bool.not_eq_true] at h; exact ⟨_, Sub.refl _, h⟩)
    all_goals
      refine Lc.filter modF (fun _ => by kernel_rfl) (by rfl) (fun _ _ g => g) (fun i ℓ τ K' hk hK => ?_) (cut (some 1) none cs) [] _ _ trivial AH.set_same (by simp only [cut, List.length_nil, List.length_take, List.length_drop, sizeLine_eq]; omega) ?_
      · run_tac wk3 10
        exact hK
      · rw [set_set, List.nil_append]
        by_cases e : (cut (some 1) none cs).filter modF = []
        · rw [e]
          run_tac wk3 10
          refine ⟨σ, ?_, ?_⟩
          · run_tac subTac
          · simp only [*, if_true, if_false, true_or, or_true, false_or, or_false, true_and, and_true, false_and, and_false, not_true, not_false_iff, eq_self, ne_eq, Bool.false_eq_true, Bool.not_eq_true] at h
            exact h
        · have e' : (List.map AV.int ((cut (some 1) none cs).filter modF)).isEmpty = false := by simpa using e
          run_tac wk3 10
          refine ⟨σ, ?_, ?_⟩
          · run_tac subTac
          · simp only [*, if_true, if_false, true_or, or_true, false_or, or_false, true_and, and_true, false_and, and_false, not_true, not_false_iff, eq_self, ne_eq, Bool.false_eq_true, Bool.not_eq_true] at h
            exact h
end
end Mine
end
section
open PySem PySem.W PySem.Calls PyProof.Rows
set_option Elab.async false
set_option linter.unusedVariables false
set_option linter.unusedSimpArgs false
set_option maxRecDepth 100000
set_option maxHeartbeats 0
namespace Mine
def curO (dc : Addr) (r c : Int) (wt : Bool) (p : Int) : AO := .inst 376 dc [(Str.ofString "row", .int r), (Str.ofString "column", .int c), (Str.ofString "is_waiting", .bool wt), (Str.ofString "pen", penV p), (Str.ofString "is_origin", .bool false), (Str.ofString "is_guarding", .bool false)]
def gridO (dg : Addr) (R C : Int) (ls : Addr) : AO := .inst 922 dg [(Str.ofString "rows", .int R), (Str.ofString "columns", .int C), (Str.ofString "lines", .ref ls)]
def marO (dm : Addr) (R C : Int) : AO := .inst 509 dm [(Str.ofString "rows", .int R), (Str.ofString "columns", .int C), (Str.ofString "top", .int 0), (Str.ofString "bottom", .int (R - 1)), (Str.ofString "left", .int 0), (Str.ofString "right", .int (C - 1))]
def scrO (ds : Addr) (R C : Int) (mo wt g cu m tb ch la : Addr) : AO := .inst 1213 ds [(Str.ofString "rows", .int R), (Str.ofString "columns", .int C), (Str.ofString "modes", .ref mo), (Str.ofString "widths", .ref wt), (Str.ofString "history", .none), (Str.ofString "grid", .ref g), (Str.ofString "cursor", .ref cu), (Str.ofString "margins", .ref m), (Str.ofString "tabs", .ref tb), (Str.ofString "charsets", .ref ch), (Str.ofString "saved", .none), (Str.ofString "last", .ref la), (Str.ofString "has_right", .bool false)]
def chsO (dch mk nm : Addr) : AO := .inst 320 dch [(Str.ofString "made", .ref mk), (Str.ofString "names", .ref nm), (Str.ofString "left", .int 0), (Str.ofString "right", .int 2), (Str.ofString "shift", .none)]
def modO (dmo st kp : Addr) : AO := .inst 1258 dmo [(Str.ofString "states", .ref st), (Str.ofString "kept", .ref kp)]
section
variable {w : WX} {n : Nat} {ℓ : Loc} {σ : AH} {K : AV → Loc → AH → Prop}
theorem c_Grid_line {g dg ls l : Addr} {R C i : Int} {vs : List AV} (hg : σ g = some (gridO dg R C ls)) (hl : σ ls = some (.list vs)) (h0 : 0 ≤ i) (hz : i < 1000) (hv : vs[i.toNat]? = some (.ref l)) (h : K (.ref l) ℓ σ) :
    Cd (cx w) (n + 1) (.ref 796) [.ref g, .int i] ℓ σ K := by
  run_tac openFn 796
  run_tac wk2 300
  exact h
theorem c_Screen_line {s ds mo wt g cu m tb ch la dg ls dc l : Addr} {R C r c p : Int} {wg : Bool} {vs : List AV} (hs : σ s = some (scrO ds R C mo wt g cu m tb ch la)) (hg : σ g = some (gridO dg R C ls)) (hl : σ ls = some (.list vs)) (hc : σ cu = some (curO dc r c wg p))
    (h0 : 0 ≤ r) (hz : r < 1000) (hv : vs[r.toNat]? = some (.ref l)) (h : K (.ref l) ℓ σ) : Cd (cx w) (n + 2) (.ref 963) [.ref s] ℓ σ K := by
  run_tac openFn 963
  run_tac wk2 300
  exact h
theorem c_Screen_width_of_line {s ds mo wt g cu m tb ch la dg ls d ce l : Addr} {R C i : Int} {wr : Bool} {vs : List AV} (hs : σ s = some (scrO ds R C mo wt g cu m tb ch la)) (hg : σ g = some (gridO dg R C ls)) (hl : σ ls = some (.list vs)) (h0 : 0 ≤ i) (hz : i < 1000) (hv : vs[i.toNat]? = some (.ref l)) (hln : σ l = some (lineO d ce wr))
    (h : K (.int C) ℓ σ) : Cd (cx w) (n + 2) (.ref 970) [.ref s, .int i] ℓ σ K := by
  run_tac openFn 970
  run_tac wk3 30
  exact h
theorem c_Screen_left_bound {s ds mo wt g cu m tb ch la dc dm : Addr} {R C r c p : Int} {wg : Bool} (hs : σ s = some (scrO ds R C mo wt g cu m tb ch la)) (hc : σ cu = some (curO dc r c wg p)) (hm : σ m = some (marO dm R C)) (h0 : 0 ≤ c) (h : K (.int 0) ℓ σ) : Cd (cx w) (n + 1) (.ref 984) [.ref s] ℓ σ K := by
  run_tac openFn 984
  run_tac wk3 30
  exact h
theorem c_Screen_right_bound {s ds mo wt g cu m tb ch la dg ls dc dm d ce l : Addr} {R C r c p : Int} {wg wr : Bool} {vs : List AV} (hs : σ s = some (scrO ds R C mo wt g cu m tb ch la)) (hg : σ g = some (gridO dg R C ls)) (hl : σ ls = some (.list vs)) (hc : σ cu = some (curO dc r c wg p)) (hm : σ m = some (marO dm R C))
    (h0 : 0 ≤ r) (hz : r < 1000) (hv : vs[r.toNat]? = some (.ref l)) (hln : σ l = some (lineO d ce wr)) (hC : 1 ≤ C) (hcC : c < C) (h : K (.int (C - 1)) ℓ σ) : Cd (cx w) (n + 3) (.ref 977) [.ref s] ℓ σ K := by
  run_tac openFn 977
  run_tac wk3 30
  exact h
theorem c_Screen_is_between_sides {s ds mo wt g cu m tb ch la dc dm : Addr} {R C r c p : Int} {wg : Bool} (hs : σ s = some (scrO ds R C mo wt g cu m tb ch la)) (hc : σ cu = some (curO dc r c wg p)) (hm : σ m = some (marO dm R C)) (h0 : 0 ≤ c) (h1 : c < C) (h : K (.bool true) ℓ σ) : Cd (cx w) (n + 1) (.ref 991) [.ref s] ℓ σ K := by
  run_tac openFn 991
  run_tac wk3 30
  rw [show decide (c ≤ C - 1) = true from decide_eq_true (by omega)]; exact h
theorem c_Screen_keep_within_line {s ds mo wt g cu m tb ch la dg ls dc d ce l : Addr} {R C r c p : Int} {wg wr : Bool} {vs : List AV} (hs : σ s = some (scrO ds R C mo wt g cu m tb ch la)) (hg : σ g = some (gridO dg R C ls)) (hl : σ ls = some (.list vs)) (hc : σ cu = some (curO dc r c wg p))
    (h0 : 0 ≤ r) (hz : r < 1000) (hv : vs[r.toNat]? = some (.ref l)) (hln : σ l = some (lineO d ce wr)) (hC : 1 ≤ C) (hcC : c < C) (h : K .none ℓ σ) : Cd (cx w) (n + 3) (.ref 1103) [.ref s] ℓ σ K := by
  run_tac openFn 1103
  run_tac wk3 30
  have e := set_id hc
  unfold curO at e
  rw [e]; exact h
theorem c_Screen_is_narrow {s ds mo wt g cu m tb ch la dc dm : Addr} {R C r c p : Int} {wg : Bool} (hs : σ s = some (scrO ds R C mo wt g cu m tb ch la)) (hc : σ cu = some (curO dc r c wg p)) (hm : σ m = some (marO dm R C)) (h0 : 0 ≤ c) (h1 : c < C) (h2 : 2 ≤ C) (h : K (.bool false) ℓ σ) : Cd (cx w) (n + 2) (.ref 1040) [.ref s] ℓ σ K := by
  run_tac openFn 1040
  run_tac wk3 30
  rw [show decide (C - 1 - 0 < 1) = false from decide_eq_false (by omega)] ; exact h
theorem c_Screen_advance {s ds mo wt g cu m tb ch la dg ls dc dm d ce l : Addr} {R C r c p k q : Int} {wg wr : Bool} {vs : List AV} (hs : σ s = some (scrO ds R C mo wt g cu m tb ch la)) (hg : σ g = some (gridO dg R C ls)) (hl : σ ls = some (.list vs)) (hc : σ cu = some (curO dc r c wg p)) (hm : σ m = some (marO dm R C))
    (h0 : 0 ≤ r) (hz : r < 1000) (hv : vs[r.toNat]? = some (.ref l)) (hln : σ l = some (lineO d ce wr)) (hC : 1 ≤ C) (hcC : c < C) (h : K .none ℓ (AH.set σ cu (curO dc r (if k + q > C - 1 then C - 1 else k + q) (decide (k + q > C - 1)) p))) : Cd (cx w) (n + 4) (.ref 1054) [.ref s, .int k, .int q] ℓ σ K := by
  run_tac openFn 1054
  run_tac wk3 30
  · rename_i hx
    rw [if_pos (by omega), decide_eq_true (by omega)] at h; exact h
  · rename_i hx
    rw [if_neg (by omega), decide_eq_false (by omega)] at h; exact h
theorem c_Screen_carriage_return {s ds mo wt g cu m tb ch la dg ls dc dm d ce l : Addr} {R C r c p : Int} {wg wr : Bool} {vs : List AV} (hs : σ s = some (scrO ds R C mo wt g cu m tb ch la)) (hg : σ g = some (gridO dg R C ls)) (hl : σ ls = some (.list vs)) (hc : σ cu = some (curO dc r c wg p)) (hm : σ m = some (marO dm R C))
    (h0 : 0 ≤ r) (hz : r < 1000) (hv : vs[r.toNat]? = some (.ref l)) (hln : σ l = some (lineO d ce wr)) (hC : 1 ≤ C) (hc0 : 0 ≤ c) (h : K .none ℓ (AH.set σ cu (curO dc r 0 false p))) : Cd (cx w) (n + 4) (.ref 1110) [.ref s] ℓ σ K := by
  run_tac openFn 1110
  run_tac wk3 30
  exact h
theorem c_Screen_place {s ds mo wt g cu m tb ch la dg ls dc d ce l : Addr} {R C r c p i j : Int} {wg wr : Bool} {vs : List AV} (hs : σ s = some (scrO ds R C mo wt g cu m tb ch la)) (hg : σ g = some (gridO dg R C ls)) (hl : σ ls = some (.list vs)) (hc : σ cu = some (curO dc r c wg p))
    (h0 : 0 ≤ i) (hz : i < R) (hR : R < 1000) (hj0 : 0 ≤ j) (hjC : j < C) (hv : vs[i.toNat]? = some (.ref l)) (hln : σ l = some (lineO d ce wr)) (h : K .none ℓ (AH.set σ cu (curO dc i j false p))) : Cd (cx w) (n + 4) (.ref 1005) [.ref s, .int i, .int j] ℓ σ K := by
  run_tac openFn 1005
  run_tac wk3 30
  exact h
end
end Mine
end
section
open PySem PySem.W PySem.Calls PyProof.Rows
set_option Elab.async false
set_option linter.unusedVariables false
set_option linter.unusedSimpArgs false
set_option maxRecDepth 100000
set_option maxHeartbeats 0
namespace Mine
section
variable {w : WX} {n : Nat} {ℓ : Loc} {σ : AH} {K : AV → Loc → AH → Prop}
theorem c_Line___init__ {x dx : Addr} {C b : Int} (hx : σ x = some (.inst 773 dx [])) (hC : C < 1000) (h : ∀ a, σ a = none → K .none ℓ (AH.set (AH.set σ a (.list (rowV (List.replicate (max 0 C).toNat (blk b))))) x (lineO dx a false))) : Cd (cx w) (n + 4) (.ref 662) [.ref x, .int C, penV b] ℓ σ K := by
  run_tac openFn 662
  run_tac wk2 300
  exact h _ (by assumption)
theorem c_Grid_fresh {g dg ls : Addr} {R C b : Int} (hg : σ g = some (gridO dg R C ls)) (hC : C < 1000) (h : ∀ τ a l d x, σ x = none → σ a = none → σ l = none → x ≠ a → τ x = some (.list [.ref l]) → τ l = some (lineO d a false) → τ a = some (.list (rowV (List.replicate (max 0 C).toNat (blk b)))) → Sub σ τ → K (.ref x) ℓ τ) : Cd (cx w) (n + 6) (.ref 815) [.ref g, .int 1, penV b] ℓ σ K := by
  run_tac openFnC 815
  run_tac wk2 300
  rename_i L2 D hD x dx hx a ha
  have e1 := fresh_set (fresh_set hD).1
  have e2 := fresh_set hx
  have e3 := fresh_set ha
  refine h _ a x dx D e1.1 ?_ ?_ ?_ ?_ ?_ ?_ ?_
  · exact (fresh_set (fresh_set (fresh_set e3.1).1).1).1
  · exact (fresh_set (fresh_set e2.1).1).1
  · exact fun q => (fresh_set e3.1).2 q.symm
  · run_tac sideStep (← Lean.Elab.Tactic.getMainGoal)
  · run_tac sideStep (← Lean.Elab.Tactic.getMainGoal)
  · run_tac sideStep (← Lean.Elab.Tactic.getMainGoal)
  · run_tac subTac
theorem c_Grid_part_above {g dg ls l d a : Addr} {R C i : Int} {wr : Bool} {vs : List AV} (hg : σ g = some (gridO dg R C ls)) (hl : σ ls = some (.list vs)) (h0 : 0 < i) (hz : i < 1000) (hv : vs[(i - 1).toNat]? = some (.ref l)) (hln : σ l = some (lineO d a wr)) (h : K .none ℓ (AH.set σ l (lineO d a false))) : Cd (cx w) (n + 1) (.ref 822) [.ref g, .int i] ℓ σ K := by
  run_tac openFn 822
  run_tac wk3 30
  exact h
theorem c_Margins_area {m dm : Addr} {R C : Int} (hm : σ m = some (marO dm R C)) (h : K (.tup [.int 0, .int 0, .int (R - 1), .int (C - 1)]) ℓ σ) : Cd (cx w) (n + 1) (.ref 436) [.ref m] ℓ σ K := by
  run_tac openFn 436
  run_tac wk3 30
  exact h
theorem c_Grid_is_wide {g dg ls : Addr} {R C : Int} (hg : σ g = some (gridO dg R C ls)) (h : K (.bool true) ℓ σ) : Cd (cx w) (n + 1) (.ref 810) [.ref g, .tup [.int 0, .int 0, .int (R - 1), .int (C - 1)]] ℓ σ K := by
  run_tac openFn 810
  run_tac wk3 30
  rw [show (C - 1 == C - 1) = true from beq_self_eq_true _]; exact h
theorem c_Grid_part_above_l {g : Addr} {i : Int} (h0 : i ≤ 0) (h : K .none ℓ σ) : Cd (cx w) (n + 1) (.ref 822) [.ref g, .int i] ℓ σ K := by
  run_tac openFn 822
  run_tac wk3 30
  exact h
end
end Mine
end
section
open PySem PySem.W PySem.Calls PyProof.Rows
set_option Elab.async false
set_option linter.unusedVariables false
set_option linter.unusedSimpArgs false
set_option maxRecDepth 100000
set_option maxHeartbeats 0
namespace Mine
section
variable {w : WX} {n : Nat} {ℓ : Loc} {σ : AH} {K : AV → Loc → AH → Prop}
theorem c_Grid_scroll_up {g dg ls l0 l1 d1 a1 : Addr} {C b : Int} {w1 : Bool} (hg : σ g = some (gridO dg 2 C ls)) (hl : σ ls = some (.list [.ref l0, .ref l1])) (h1 : σ l1 = some (lineO d1 a1 w1)) (hC : C < 1000)
    (h : ∀ τ x l d a y, σ x = none → σ a = none → σ l = none → x ≠ a → τ x = some (.list [.ref l1, .ref l]) → τ l = some (lineO d a false) → τ a = some (.list (rowV (List.replicate (max 0 C).toNat (blk b)))) → τ g = some (gridO dg 2 C x) → τ l1 = some (lineO d1 a1 false) → (∀ p o, p ≠ g → p ≠ l1 → σ p = some o → τ p = some o) → K (.ref y) ℓ τ) : Cd (cx w) (n + 7) (.ref 829) [.ref g, .tup [.int 0, .int 0, .int (2 - 1), .int (C - 1)], .int 1, penV b] ℓ σ K := by
  run_tac openFn 829
  run_tac wk3 30
  rename_i gone e1 kept e2 em e3 b1 e4 x3 e5 τ a l d x2 e6 e7 e8 e9 e10 e11 e12 e13 x1 e14 bb e15 x0 e16
  refine h _ x0 l d a _ ?_ ?_ ?_ ?_ ?_ ?_ ?_ ?_ ?_ ?_
  all_goals try run_tac sideStep (← Lean.Elab.Tactic.getMainGoal)
  intro p o q1 q2 q3
  run_tac sideStep (← Lean.Elab.Tactic.getMainGoal)
end
end Mine
end
section
open PySem PySem.W PySem.Calls PyProof.Rows
set_option Elab.async false
set_option linter.unusedVariables false
set_option linter.unusedSimpArgs false
set_option maxRecDepth 100000
set_option maxHeartbeats 0
namespace Mine
section
variable {w : WX} {n : Nat} {ℓ : Loc} {σ : AH} {K : AV → Loc → AH → Prop}
theorem c_Modes_is_on {m dmo st kp : Addr} {es : List (Str × AV)} {x : Str} {b : Bool} (hm : σ m = some (modO dmo st kp)) (hs : σ st = some (.dict es)) (hv : (look x es).getD (.bool false) = .bool b) (h : K (.bool b) ℓ σ) : Cd (cx w) (n + 1) (.ref 1248) [.ref m, .str x] ℓ σ K := by
  run_tac openFn 1248
  run_tac wk2 100
  rw [hv]; exact h
theorem c_modes_group {x : Str} (hx : PySem.SeqAt.shaped (.str x) = true) (h1 : ([PyData.str (Str.ofString "mouse_x10"), PyData.str (Str.ofString "mouse_click"), PyData.str (Str.ofString "mouse_drag"), PyData.str (Str.ofString "mouse_all")].any fun y => PyData.eqv y (.str x)) = false) (h2 : ([PyData.str (Str.ofString "mouse_utf8"), PyData.str (Str.ofString "mouse_sgr"), PyData.str (Str.ofString "mouse_urxvt"), PyData.str (Str.ofString "mouse_pixels")].any fun y => PyData.eqv y (.str x)) = false) (h : K (.tup []) ℓ σ) : Cd (cx w) (n + 1) (.ref 1227) [.str x] ℓ σ K := by
  run_tac openFn 1227
  run_tac wk3 10
  refine O2.inTup (.str _) (by repeat constructor) hx (by decide +kernel) ?_
  run_tac wk3 10
  refine O2.inTup (.str _) (by repeat constructor) hx (by decide +kernel) ?_
  run_tac wk3 10
  exact h
theorem c_Modes_set {m dmo st kp : Addr} {es : List (Str × AV)} {x : Str} {b : Bool} (hx : PySem.SeqAt.shaped (.str x) = true) (h1 : ([PyData.str (Str.ofString "mouse_x10"), PyData.str (Str.ofString "mouse_click"), PyData.str (Str.ofString "mouse_drag"), PyData.str (Str.ofString "mouse_all")].any fun y => PyData.eqv y (.str x)) = false) (h2 : ([PyData.str (Str.ofString "mouse_utf8"), PyData.str (Str.ofString "mouse_sgr"), PyData.str (Str.ofString "mouse_urxvt"), PyData.str (Str.ofString "mouse_pixels")].any fun y => PyData.eqv y (.str x)) = false)
    (hm : σ m = some (modO dmo st kp)) (hs : σ st = some (.dict es)) (hz : es.length ≤ 100) (h : K .none ℓ (AH.set σ st (.dict (puts x (.bool b) es)))) : Cd (cx w) (n + 2) (.ref 1255) [.ref m, .str x, .bool b] ℓ σ K := by
  cases b
  · run_tac openFn 1255
    run_tac wk3 10
    exact h
  · run_tac openFn 1255
    run_tac wk3 10
    exact h
theorem c_charset_table {x : List UInt8} (hx : x = [66]) (h : ∀ a, σ a = none → K (.ref a) ℓ (AH.set σ a (.idict []))) : Cd (cx w) (n + 1) (.ref 231) [.bytes x] ℓ σ K := by
  subst hx
  run_tac openFn 231
  run_tac wk3 10
  refine Ev.dict0i fun a ha => ?_
  run_tac wk3 10
  exact h a ha
/-- a set's table, there or new -/
theorem c_Charsets_table {c dc mk nm t : Addr} (hc : σ c = some (chsO dc mk nm)) (hm : σ mk = some (.bdict [([66], .ref t)])) (h : K (.ref t) ℓ σ) : Cd (cx w) (n + 2) (.ref 253) [.ref c, .bytes [66]] ℓ σ K := by
  run_tac openFn 253
  run_tac wk3 10
  all_goals first | exact h | fail
theorem c_Charsets_table_l {c dc mk nm : Addr} (hc : σ c = some (chsO dc mk nm)) (hm : σ mk = some (.bdict [])) (h : ∀ a, σ a = none → K (.ref a) ℓ (AH.set (AH.set σ a (.idict [])) mk (.bdict [([66], .ref a)]))) : Cd (cx w) (n + 2) (.ref 253) [.ref c, .bytes [66]] ℓ σ K := by
  run_tac openFn 253
  run_tac wk3 10
  all_goals first | exact h _ (by assumption) | fail
theorem c_Line_put_l {l dx a : Addr} {wr : Bool} {cs : List Cell} {i q b : Int} {xs : List Int} (hl : σ l = some (lineO dx a wr)) (ha : σ a = some (.list (rowV cs))) (hz : cs.length ≤ 900) (h0 : 0 ≤ i) (hi : i < cs.length) (hc : q = 1 ∨ q = 2 ∧ i + 1 < cs.length) (h : K .none ℓ (AH.set σ a (.list (rowV (putCore cs i ⟨xs, q, b⟩))))) :
    Cd (cx w) (n + 5) (.ref 691) [.ref l, .int i, .tup [.tup (xs.map .int), .int q, penV b, .bool false]] ℓ σ K := c_Line_put (c := ⟨xs, q, b⟩) hl ha hz h0 hi hc h
end
end Mine
end
section
open PySem PySem.W PySem.Calls PyProof.Rows
set_option Elab.async false
set_option linter.unusedVariables false
set_option linter.unusedSimpArgs false
set_option maxRecDepth 100000
set_option maxHeartbeats 0
namespace Mine
theorem Src.rngk {c : Cx} {σ : AH} {i j k : Int} (hz : Builtin.Range.small i j k = true) (h0 : 0 ≤ Builtin.Range.rangeSize i j k) : Src c σ (.rng i j k) (Mine.rng i k (Builtin.Range.rangeSize i j k).toNat) (fun _ => True) := by
  refine ⟨_, Itr.range c i k (Builtin.Range.rangeSize i j k).toNat, fun h₀ s A E x Q S r q => ?_, trivial⟩
  cases r with
  | rng e =>
    refine wpAny_pyIter_range e hz (q _ ?_)
    rw [show i + ((0 : Nat) : Int) * k = i by simp, show (((Builtin.Range.rangeSize i j k).toNat : Nat) : Int) - ((0 : Nat) : Int) = Builtin.Range.rangeSize i j k by omega]
    exact Heap.get?_push_size _ rfl
section
variable {w : WX} {n : Nat} {ℓ : Loc} {σ : AH} {K : AV → Loc → AH → Prop}
theorem c_Cursor___init__ {x dx : Addr} (hx : σ x = some (.inst 376 dx [])) (h : K .none ℓ (AH.set σ x (curO dx 0 0 false (-1)))) : Cd (cx w) (n + 1) (.ref 345) [.ref x] ℓ σ K := by
  run_tac openFn 345
  run_tac wk3 20
  exact h
theorem c_Margins___init__ {x dx : Addr} {R C : Int} (hx : σ x = some (.inst 509 dx [])) (h : K .none ℓ (AH.set σ x (marO dx R C))) : Cd (cx w) (n + 1) (.ref 394) [.ref x, .int R, .int C] ℓ σ K := by
  run_tac openFn 394
  run_tac wk3 20
  exact h
theorem c_Charsets_reset {x dx a : Addr} (hx : σ x = some (.inst 320 dx [(Str.ofString "made", .ref a)])) (h : ∀ l, σ l = none → K .none ℓ (AH.set (AH.set σ l (.list [.bytes [66], .bytes [66], .bytes [37, 53], .bytes [37, 53]])) x (chsO dx a l))) : Cd (cx w) (n + 1) (.ref 260) [.ref x] ℓ σ K := by
  run_tac openFn 260
  run_tac wk3 20
  exact h _ ‹_›
def states0 : List (Str × AV) := [(Str.ofString "send_receive", .bool true), (Str.ofString "autowrap", .bool true), (Str.ofString "autorepeat", .bool true), (Str.ofString "show_cursor", .bool true), (Str.ofString "num_lock", .bool true)]
theorem c_Modes___init__ {x dx : Addr} (hx : σ x = none) (h : ∀ τ s k, σ s = none → σ k = none → s ≠ x → s ≠ k → k ≠ x → τ x = some (modO dx s k) → τ s = some (.dict states0) → τ k = some (.dict []) → Sub σ τ → K .none ℓ τ) : Cd (cx w) (n + 1) (.ref 1241) [.ref x] ℓ (AH.set σ x (.inst 1258 dx [])) K := by
  run_tac openFn 1241
  run_tac wk3 20
  refine Ev.dict0s fun s hs => ?_
  run_tac wk3 20
  refine Ev.dict0s fun k hk => ?_
  run_tac wk3 20
  have s1 := fresh_set hs
  have k1 := fresh_set hk
  have k2 := fresh_set k1.1
  have k3 := fresh_set k2.1
  refine h _ s k s1.1 k3.1 s1.2 k2.2.symm k1.2 ?_ ?_ ?_ fun p o e => ?_
  all_goals run_tac sideStep (← Lean.Elab.Tactic.getMainGoal)
theorem c_Charsets___init__ {x dx : Addr} (hx : σ x = none) (h : ∀ τ a l, σ a = none → σ l = none → a ≠ x → l ≠ x → a ≠ l → τ x = some (chsO dx a l) → τ a = some (.bdict []) → τ l = some (.list [.bytes [66], .bytes [66], .bytes [37, 53], .bytes [37, 53]]) → Sub σ τ → K .none ℓ τ) : Cd (cx w) (n + 2) (.ref 246) [.ref x] ℓ (AH.set σ x (.inst 320 dx [])) K := by
  run_tac openFnN 246
  run_tac wk3 20
  refine Ev.dict0b fun a ha => ?_
  run_tac wk3 20
  rename_i l hl
  have a1 := fresh_set ha
  have l1 := fresh_set hl
  have l2 := fresh_set l1.1
  have l3 := fresh_set l2.1
  refine h _ a l a1.1 l3.1 a1.2 l1.2 l2.2.symm ?_ ?_ ?_ fun p o e => ?_
  all_goals run_tac sideStep (← Lean.Elab.Tactic.getMainGoal)
theorem rng_int {a k : Int} {n : Nat} {v : AV} {vs : List AV} (e : Mine.rng a k n = v :: vs) : (∃ i, v = .int i) ∧ ∃ b m, vs = Mine.rng b k m ∧ m + 1 = n := by
  cases n with
  | zero => cases e
  | succ n =>
    unfold Mine.rng at e
    rw [List.range_succ_eq_map, List.map_cons, List.map_map] at e
    cases e
    refine ⟨⟨_, rfl⟩, a + k, n, ?_, rfl⟩
    unfold Mine.rng
    refine List.map_congr_left fun x _ => ?_
    simp only [Function.comp]
    push_cast
    congr 1
    rw [Int.add_mul, Int.one_mul]
    omega
theorem puts_len {κ : Type} [DecidableEq κ] (k : κ) (v : AV) (es : List (κ × AV)) : (puts k v es).length ≤ es.length + 1 := by
  unfold puts
  repeat' split
  all_goals simp
theorem c_Tabs_put_eighths {x dx s : Addr} {C : Int} {ρ : AH} (hx : σ x = some (.inst 608 dx [(Str.ofString "columns", .int C), (Str.ofString "stops", .ref s)])) (hs : σ s = some (.idict [])) (hr : Sub ρ σ) (hρ : ρ s = none) (hC : 0 ≤ C) (hC9 : C ≤ 200) (h : ∀ τ, Sub ρ τ → K .none ℓ τ) : Cd (cx w) (n + 1) (.ref 534) [.ref x, .int 0] ℓ σ K := by
  have z : 0 ≤ Builtin.Range.rangeSize 8 C 8 ∧ Builtin.Range.rangeSize 8 C 8 ≤ 100 := by
    unfold Builtin.Range.rangeSize
    simp only [show (8 : Int) > 0 by decide, if_true]
    split <;> omega
  have z1 : Builtin.Range.small 8 C 8 = true := by
    unfold Builtin.Range.small
    simp only [Builtin.Range.rangeFitsLong, Bool.and_eq_true, Bool.or_eq_true, decide_eq_true_eq, beq_iff_eq, show (8 : Int) > 0 by decide, if_true]
    omega
  run_tac openFn 534
  run_tac wk3 20
  refine Ca.range3 (by decide) rfl ?_
  refine ⟨_, _, Src.rngk z1 z.1, ?_⟩
  refine Lo.inv (fun vs ℓ' σ' => ∃ a m es, vs = Mine.rng a 8 m ∧ es.length + m ≤ 100 ∧ σ' x = some (.inst 608 dx [(Str.ofString "columns", .int C), (Str.ofString "stops", .ref s)]) ∧ σ' s = some (.idict es) ∧ Sub ρ σ' ∧ LS [(Str.ofString "self", .ref x), (Str.ofString "begin", .int 0)] ℓ') ?_ ?_ _ _ _ ?_
  · rintro v vs ℓ' σ' ⟨a, m, es, e, hm, h1, h2, h3, hℓ⟩
    obtain ⟨⟨i, rfl⟩, b, m', rfl, rfl⟩ := rng_int e.symm
    first | refine As.weak hℓ ?_ | refine Exs.weak hℓ ?_
    all_goals
      run_tac wk3 20
      · refine S3.idictItem h2 (by simp only [sizeLine_eq]; omega) ?_
        have hp := puts_len i (.bool true) es
        have hxs : x ≠ s := fun q => by rw [q, h2] at h1; cases h1
        run_tac wk3 20
        exact ⟨b, m', _, rfl, by omega, by rw [AH.set_ne hxs]; exact h1, AH.set_same, fun p o e => by rw [AH.set_ne (ne_fresh e hρ)]; exact h3 p o e, LS.app _ [_]⟩
      · exact ⟨b, m', es, rfl, by omega, h1, h2, h3, LS.app _ [_]⟩
  · rintro ℓ' σ' ⟨a, m, es, e, hm, h1, h2, h3, hℓ⟩
    first | refine As.weak hℓ ?_ | refine Exs.weak hℓ ?_
    all_goals
      run_tac wk3 20
      exact h _ h3
  · exact ⟨8, _, [], rfl, by rw [List.length_nil]; omega, hx, hs, hr, LS.refl _⟩
theorem c_Tabs___init__ {x dx : Addr} {C : Int} (hx : σ x = none) (hC : 0 ≤ C) (hC9 : C ≤ 200) (h : ∀ τ, Sub σ τ → K .none ℓ τ) : Cd (cx w) (n + 2) (.ref 527) [.ref x, .int C] ℓ (AH.set σ x (.inst 608 dx [])) K := by
  run_tac openFn 527
  run_tac wk3 20
  refine Ev.dict0i fun s hs => ?_
  have s1 := fresh_set hs
  run_tac wk3 20
  refine Cd.ca (c_Tabs_put_eighths (ρ := σ) (dx := dx) (C := C) (s := s) ?_ ?_ (fun p o e => ?_) s1.1 hC hC9 fun τ t => ?_)
  · run_tac sideStep (← Lean.Elab.Tactic.getMainGoal)
  · run_tac sideStep (← Lean.Elab.Tactic.getMainGoal)
  · run_tac sideStep (← Lean.Elab.Tactic.getMainGoal)
  · run_tac wk3 20
    exact h _ t
end
end Mine
end
section
open PySem PySem.W PySem.Calls PyProof.Rows
set_option Elab.async false
set_option linter.unusedVariables false
set_option linter.unusedSimpArgs false
set_option maxRecDepth 100000
set_option maxHeartbeats 0
namespace Mine
section
variable {w : WX} {n : Nat} {ℓ : Loc} {σ : AH} {K : AV → Loc → AH → Prop}
theorem c_Grid___init__ {x dx : Addr} {C : Int} (hx : σ x = none) (hC : 1 ≤ C) (hC9 : C ≤ 200) (h : ∀ τ ls l0 l1 d0 d1 a0 a1, σ ls = none → σ l0 = none → σ l1 = none → σ a0 = none → σ a1 = none → ls ≠ x → l0 ≠ l1 → a0 ≠ a1 → a0 ≠ ls → a1 ≠ ls → τ x = some (gridO dx 2 C ls) → τ ls = some (.list [.ref l0, .ref l1]) →
    τ l0 = some (lineO d0 a0 false) → τ l1 = some (lineO d1 a1 false) → τ a0 = some (.list (rowV (List.replicate C.toNat (blk (-1))))) → τ a1 = some (.list (rowV (List.replicate C.toNat (blk (-1))))) → Sub σ τ → K .none ℓ τ) : Cd (cx w) (n + 6) (.ref 789) [.ref x, .int 2, .int C] ℓ (AH.set σ x (.inst 922 dx [])) K := by
  run_tac openFnC 789
  run_tac wk3 20
  rename_i D hD x0 dx0 hx0 a0 ha0 x1 dx1 hx1 a1 ha1
  refine h _ D x0 x1 dx0 dx1 a0 a1 ?_ ?_ ?_ ?_ ?_ ?_ ?_ ?_ ?_ ?_ ?_ ?_ ?_ ?_ ?_ ?_ fun p o e => ?_
  all_goals run_tac sideStep (← Lean.Elab.Tactic.getMainGoal)
theorem c_Grid___init___l {x dx : Addr} {C : Int} (hx : σ x = none) (hC : 1 ≤ C) (hC9 : C ≤ 200) (h : ∀ τ ls l0 d0 a0, σ ls = none → σ l0 = none → σ a0 = none → ls ≠ x → a0 ≠ ls → τ x = some (gridO dx 1 C ls) → τ ls = some (.list [.ref l0]) →
    τ l0 = some (lineO d0 a0 false) → τ a0 = some (.list (rowV (List.replicate C.toNat (blk (-1))))) → Sub σ τ → K .none ℓ τ) : Cd (cx w) (n + 6) (.ref 789) [.ref x, .int 1, .int C] ℓ (AH.set σ x (.inst 922 dx [])) K := by
  run_tac openFnC 789
  run_tac wk3 20
  rename_i D hD x0 dx0 hx0 a0 ha0
  refine h _ D x0 dx0 a0 ?_ ?_ ?_ ?_ ?_ ?_ ?_ ?_ ?_ fun p o e => ?_
  all_goals run_tac sideStep (← Lean.Elab.Tactic.getMainGoal)
end
end Mine
end
section
open PySem PySem.W PySem.Calls PyProof.Rows
set_option Elab.async false
set_option linter.unusedVariables false
set_option linter.unusedSimpArgs false
set_option maxRecDepth 100000
set_option maxHeartbeats 0
namespace Mine
/-- a screen's addresses -/
structure Ad where
  s : Addr
  ds : Addr
  g : Addr
  dg : Addr
  ls : Addr
  cu : Addr
  dc : Addr
  m : Addr
  dm : Addr
  tb : Addr
  ch : Addr
  dch : Addr
  ma : Addr
  nm : Addr
  t : Option Addr
  mo : Addr
  dmo : Addr
  st : Addr
  kp : Addr
  hi : Bool
  wt : Addr
  dw : Addr
  w1 : Addr
  w2 : Addr
  w3 : Addr
  la : Addr
  l : Int → Addr
  d : Int → Addr
  c : Int → Addr
  wr : Int → Bool
/-- a screen's state -/
structure SX where
  R : Int
  C : Int
  r : Int
  c : Int
  wt : Bool
  p : Int
  rows : Int → List Cell
  last : List Int
  wraps : Bool
  ins : Bool
  shr : Bool
  br : Bool
def bB : List UInt8 := [66]
def nmL : List AV := [.bytes [66], .bytes [66], .bytes [37, 53], .bytes [37, 53]]
def mkL : Option Addr → List (List UInt8 × AV)
  | none => []
  | some t => [(bB, .ref t)]
def stL (hi wr ins sh : Bool) : List (Str × AV) :=
  if hi = true then [(Str.ofString "send_receive", .bool true), (Str.ofString "autowrap", .bool wr), (Str.ofString "autorepeat", .bool true), (Str.ofString "show_cursor", .bool true), (Str.ofString "num_lock", .bool true), (Str.ofString "clusters", .bool sh), (Str.ofString "insert", .bool ins)]
  else [(Str.ofString "send_receive", .bool true), (Str.ofString "autowrap", .bool wr), (Str.ofString "autorepeat", .bool true), (Str.ofString "show_cursor", .bool true), (Str.ofString "num_lock", .bool true), (Str.ofString "clusters", .bool sh)]
def lsL (l : Int → Addr) (R : Int) : List AV := if R = 1 then [.ref (l 0)] else [.ref (l 0), .ref (l 1)]
theorem lsL_get {l : Int → Addr} {R i : Int} (hR : R = 1 ∨ R = 2) (h0 : 0 ≤ i) (h : i < R) : (lsL l R)[i.toNat]? = some (.ref (l i)) := by
  have : i = 0 ∨ i = 1 := by omega
  rcases hR with rfl | rfl <;> rcases this with rfl | rfl <;> first | rfl | omega
structure Scr (A : Ad) (X : SX) (σ : AH) : Prop where
  s : σ A.s = some (scrO A.ds X.R X.C A.mo A.wt A.g A.cu A.m A.tb A.ch A.la)
  g : σ A.g = some (gridO A.dg X.R X.C A.ls)
  ls : σ A.ls = some (.list (lsL A.l X.R))
  cu : σ A.cu = some (curO A.dc X.r X.c X.wt X.p)
  m : σ A.m = some (marO A.dm X.R X.C)
  ch : σ A.ch = some (chsO A.dch A.ma A.nm)
  ma : σ A.ma = some (.bdict (mkL A.t))
  nm : σ A.nm = some (.list nmL)
  t : ∀ t, A.t = some t → σ t = some (.idict [])
  mo : σ A.mo = some (modO A.dmo A.st A.kp)
  st : σ A.st = some (.dict (stL A.hi X.wraps X.ins X.shr))
  hi : A.hi = false → X.ins = false
  wt : σ A.wt = some (wtO A.dw A.w1 A.w2 A.w3)
  w1 : σ A.w1 = some (.list (rangesV (wideL X.br)))
  w2 : σ A.w2 = some (.list (rangesV marksL))
  w3 : σ A.w3 = some (.list (rangesV picsL))
  la : σ A.la = some (.list (X.last.map .int))
  l : ∀ i, 0 ≤ i → i < X.R → σ (A.l i) = some (lineO (A.d i) (A.c i) (A.wr i))
  c : ∀ i, 0 ≤ i → i < X.R → σ (A.c i) = some (.list (rowV (X.rows i)))
  ll : ∀ i j, 0 ≤ i → i < X.R → 0 ≤ j → j < X.R → i ≠ j → A.l i ≠ A.l j
  cc : ∀ i j, 0 ≤ i → i < X.R → 0 ≤ j → j < X.R → i ≠ j → A.c i ≠ A.c j
  cd : ∀ i, 0 ≤ i → i < X.R → A.c i ≠ A.ls ∧ A.c i ≠ A.nm ∧ A.c i ≠ A.w1 ∧ A.c i ≠ A.w2 ∧ A.c i ≠ A.w3 ∧ A.c i ≠ A.la
structure OKX (k : Nat) (X : SX) : Prop where
  R12 : X.R = 1 ∨ X.R = 2
  C2 : 2 ≤ X.C
  C9 : X.C ≤ 200
  r0 : 0 ≤ X.r
  rR : X.r < X.R
  c0 : 0 ≤ X.c
  cC : X.c < X.C
  len : ∀ i, 0 ≤ i → i < X.R → ((X.rows i).length : Int) = X.C
  cl : ∀ i, 0 ≤ i → i < X.R → ∀ x ∈ X.rows i, x.codes.length ≤ k
  ll : X.last.length ≤ k
  k5 : k ≤ 500
/-- what a screen's own deeds change -/
def Mut (A : Ad) (R : Int) (b : Addr) : Prop := b = A.s ∨ b = A.g ∨ b = A.cu ∨ b = A.ch ∨ b = A.ma ∨ b = A.st ∨ ∃ i, 0 ≤ i ∧ i < R ∧ (b = A.l i ∨ b = A.c i)
/-- what a screen's own deeds change or put in another's stead -/
def Own (A : Ad) (R : Int) (b : Addr) : Prop := Mut A R b ∨ b = A.la ∨ b = A.ls ∨ A.t = some b
/-- all else stands -/
def Fra (R : Int) (A : Ad) (σ : AH) (A' : Ad) (σ' : AH) : Prop := ∀ b o, σ b = some o → ¬ Own A R b → σ' b = some o ∧ ¬ Own A' R b
theorem Fra.refl (R : Int) (A : Ad) (σ : AH) : Fra R A σ A σ := fun b o e h => ⟨e, h⟩
theorem Fra.trans {R : Int} {A A' A'' : Ad} {σ σ' σ'' : AH} (x : Fra R A σ A' σ') (y : Fra R A' σ' A'' σ'') : Fra R A σ A'' σ'' := fun b o e h => let q := x b o e h; y b o q.1 q.2
/-- one object of the screen's own is stored -/
theorem Fra.set {R : Int} {A A' : Ad} {σ : AH} {a : Addr} {o : AO} (ha : Mut A R a) (hA : ∀ b, Own A' R b → Own A R b) : Fra R A σ A' (AH.set σ a o) := fun b ob e h => ⟨by rw [AH.set_ne (fun q => h (by rw [q]; exact .inl ha))]; exact e, fun q => h (hA b q)⟩
theorem Fra.new {R : Int} {A A' : Ad} {σ : AH} {a : Addr} {o : AO} (ha : σ a = none) (hA : ∀ b, Own A' R b → Own A R b) : Fra R A σ A' (AH.set σ a o) := fun b ob e h => ⟨by rw [AH.set_ne (ne_fresh e ha)]; exact e, fun q => h (hA b q)⟩
theorem Fra.last {R : Int} {A : Ad} {σ : AH} {a : Addr} {o o' : AO} (ha : σ a = none) : Fra R A σ { A with la := a } (AH.set (AH.set σ a o) A.s o') := fun b ob e h =>
  ⟨by rw [AH.set_ne (fun q => h (by rw [q]; exact .inl (.inl rfl))), AH.set_ne (ne_fresh e ha)]; exact e, fun q => by
    rcases q with q | q | q
    · exact h (.inl q)
    · exact ne_fresh e ha q
    · exact h (.inr (.inr q))⟩
theorem Fra.made {R : Int} {A : Ad} {σ : AH} {a : Addr} {o o' : AO} (ha : σ a = none) : Fra R A σ { A with t := some a } (AH.set (AH.set σ a o) A.ma o') := fun b ob e h =>
  ⟨by rw [AH.set_ne (fun q => h (by rw [q]; exact .inl (.inr (.inr (.inr (.inr (.inl rfl))))))), AH.set_ne (ne_fresh e ha)]; exact e, fun q => by
    rcases q with q | q | q | q
    · exact h (.inl q)
    · exact h (.inr (.inl q))
    · exact h (.inr (.inr (.inl q)))
    · cases q; exact ne_fresh e ha rfl⟩
/-- the cursor is stored -/
theorem Scr.setCu {A : Ad} {X : SX} {σ : AH} (S : Scr A X σ) (r c : Int) (wt : Bool) (p : Int) : Scr A { X with r := r, c := c, wt := wt, p := p } (AH.set σ A.cu (curO A.dc r c wt p)) := by
  have k : ∀ b o, σ b = some o → o ≠ curO A.dc X.r X.c X.wt X.p → AH.set σ A.cu (curO A.dc r c wt p) b = some o := fun b o e h => by rw [AH.set_ne (fun q => by subst q; rw [S.cu] at e; cases e; exact h rfl)]; exact e
  exact { S with s := k _ _ S.s (by intro q; cases q), g := k _ _ S.g (by intro q; cases q), ls := k _ _ S.ls (by intro q; cases q), cu := AH.set_same, m := k _ _ S.m (by intro q; cases q), ch := k _ _ S.ch (by intro q; cases q), ma := k _ _ S.ma (by intro q; cases q), nm := k _ _ S.nm (by intro q; cases q), mo := k _ _ S.mo (by intro q; cases q), st := k _ _ S.st (by intro q; cases q), wt := k _ _ S.wt (by intro q; cases q), w1 := k _ _ S.w1 (by intro q; cases q), w2 := k _ _ S.w2 (by intro q; cases q), w3 := k _ _ S.w3 (by intro q; cases q), la := k _ _ S.la (by intro q; cases q), t := fun t e => k _ _ (S.t t e) (by intro q; cases q), l := fun i a b => k _ _ (S.l i a b) (by intro q; cases q), c := fun i a b => k _ _ (S.c i a b) (by intro q; cases q) }
/-- a mode is stored -/
theorem Scr.setSt {A : Ad} {X : SX} {σ : AH} (S : Scr A X σ) (hi wr ins sh : Bool) (e : hi = false → ins = false) : Scr { A with hi := hi } { X with wraps := wr, ins := ins, shr := sh } (AH.set σ A.st (.dict (stL hi wr ins sh))) := by
  have k : ∀ b o, σ b = some o → o ≠ .dict (stL A.hi X.wraps X.ins X.shr) → AH.set σ A.st (.dict (stL hi wr ins sh)) b = some o := fun b o e h => by rw [AH.set_ne (fun q => by subst q; rw [S.st] at e; cases e; exact h rfl)]; exact e
  exact { S with s := k _ _ S.s (by intro q; cases q), g := k _ _ S.g (by intro q; cases q), ls := k _ _ S.ls (by intro q; cases q), cu := k _ _ S.cu (by intro q; cases q), m := k _ _ S.m (by intro q; cases q), ch := k _ _ S.ch (by intro q; cases q), ma := k _ _ S.ma (by intro q; cases q), nm := k _ _ S.nm (by intro q; cases q), mo := k _ _ S.mo (by intro q; cases q), st := AH.set_same, wt := k _ _ S.wt (by intro q; cases q), w1 := k _ _ S.w1 (by intro q; cases q), w2 := k _ _ S.w2 (by intro q; cases q), w3 := k _ _ S.w3 (by intro q; cases q), la := k _ _ S.la (by intro q; cases q), t := fun t e => k _ _ (S.t t e) (by intro q; cases q), l := fun i a b => k _ _ (S.l i a b) (by intro q; cases q), c := fun i a b => k _ _ (S.c i a b) (by intro q; cases q), hi := e }
/-- a line's mark is stored -/
theorem Scr.setLn {A : Ad} {X : SX} {σ : AH} (S : Scr A X σ) (i : Int) (b : Bool) (h0 : 0 ≤ i) (hi : i < X.R) : Scr { A with wr := fun j => if j = i then b else A.wr j } X (AH.set σ (A.l i) (lineO (A.d i) (A.c i) b)) := by
  have e := S.l i h0 hi
  have k : ∀ b' o, σ b' = some o → o ≠ lineO (A.d i) (A.c i) (A.wr i) → AH.set σ (A.l i) (lineO (A.d i) (A.c i) b) b' = some o := fun b' o e' h => by rw [AH.set_ne (fun q => by subst q; rw [e] at e'; cases e'; exact h rfl)]; exact e'
  exact { S with s := k _ _ S.s (by intro q; cases q), g := k _ _ S.g (by intro q; cases q), ls := k _ _ S.ls (by intro q; cases q), cu := k _ _ S.cu (by intro q; cases q), m := k _ _ S.m (by intro q; cases q), ch := k _ _ S.ch (by intro q; cases q), ma := k _ _ S.ma (by intro q; cases q), nm := k _ _ S.nm (by intro q; cases q), mo := k _ _ S.mo (by intro q; cases q), st := k _ _ S.st (by intro q; cases q), wt := k _ _ S.wt (by intro q; cases q), w1 := k _ _ S.w1 (by intro q; cases q), w2 := k _ _ S.w2 (by intro q; cases q), w3 := k _ _ S.w3 (by intro q; cases q), la := k _ _ S.la (by intro q; cases q), t := fun t e => k _ _ (S.t t e) (by intro q; cases q), l := fun j a q => (show AH.set σ (A.l i) (lineO (A.d i) (A.c i) b) (A.l j) = some (lineO (A.d j) (A.c j) (if j = i then b else A.wr j)) from (by
      by_cases z : j = i
      · subst z; rw [AH.set_same, if_pos rfl]
      · rw [AH.set_ne (S.ll j i a q h0 hi z), if_neg z]; exact S.l j a q)), c := fun i a b => k _ _ (S.c i a b) (by intro q; cases q) }
/-- a row is stored -/
theorem Scr.setRow {A : Ad} {X : SX} {σ : AH} (S : Scr A X σ) (i : Int) (cs : List Cell) (h0 : 0 ≤ i) (hi : i < X.R) : Scr A { X with rows := fun j => if j = i then cs else X.rows j } (AH.set σ (A.c i) (.list (rowV cs))) := by
  have e := S.c i h0 hi
  obtain ⟨n1, n2, n3, n4, n5, n6⟩ := S.cd i h0 hi
  have k : ∀ b' o, σ b' = some o → (∀ vs, o ≠ .list vs) → AH.set σ (A.c i) (.list (rowV cs)) b' = some o := fun b' o e' h => by rw [AH.set_ne (fun q => by subst q; rw [e] at e'; cases e'; exact h _ rfl)]; exact e'
  exact { S with s := k _ _ S.s (by intro vs q; cases q), g := k _ _ S.g (by intro vs q; cases q), ls := by rw [AH.set_ne n1.symm]; exact S.ls, cu := k _ _ S.cu (by intro vs q; cases q), m := k _ _ S.m (by intro vs q; cases q), ch := k _ _ S.ch (by intro vs q; cases q), ma := k _ _ S.ma (by intro vs q; cases q), nm := by rw [AH.set_ne n2.symm]; exact S.nm, mo := k _ _ S.mo (by intro vs q; cases q), st := k _ _ S.st (by intro vs q; cases q), wt := k _ _ S.wt (by intro vs q; cases q), w1 := by rw [AH.set_ne n3.symm]; exact S.w1, w2 := by rw [AH.set_ne n4.symm]; exact S.w2, w3 := by rw [AH.set_ne n5.symm]; exact S.w3, la := by rw [AH.set_ne n6.symm]; exact S.la, t := fun t e => k _ _ (S.t t e) (by intro vs q; cases q), l := fun i a b => k _ _ (S.l i a b) (by intro vs q; cases q), c := fun j a q => (show AH.set σ (A.c i) (.list (rowV cs)) (A.c j) = some (.list (rowV (if j = i then cs else X.rows j))) from (by
      by_cases z : j = i
      · subst z; rw [AH.set_same, if_pos rfl]
      · rw [AH.set_ne (S.cc j i a q h0 hi z), if_neg z]; exact S.c j a q)) }
/-- the last sign is stored, in a list of its own -/
theorem Scr.setLa {A : Ad} {X : SX} {σ : AH} (S : Scr A X σ) {a : Addr} (ha : σ a = none) (cs : List Int) : Scr { A with la := a } { X with last := cs } (AH.set (AH.set σ a (.list (cs.map .int))) A.s (scrO A.ds X.R X.C A.mo A.wt A.g A.cu A.m A.tb A.ch a)) := by
  have k0 : ∀ b o, σ b = some o → b ≠ a := fun b o e => ne_fresh e ha
  have k : ∀ b o, σ b = some o → o ≠ scrO A.ds X.R X.C A.mo A.wt A.g A.cu A.m A.tb A.ch A.la → AH.set (AH.set σ a (.list (cs.map .int))) A.s (scrO A.ds X.R X.C A.mo A.wt A.g A.cu A.m A.tb A.ch a) b = some o := fun b o e h => by
    rw [AH.set_ne (fun q => by subst q; rw [S.s] at e; cases e; exact h rfl), AH.set_ne (k0 b o e)]; exact e
  exact { S with s := AH.set_same, g := k _ _ S.g (by intro q; cases q), ls := k _ _ S.ls (by intro q; cases q), cu := k _ _ S.cu (by intro q; cases q), m := k _ _ S.m (by intro q; cases q), ch := k _ _ S.ch (by intro q; cases q), ma := k _ _ S.ma (by intro q; cases q), nm := k _ _ S.nm (by intro q; cases q), mo := k _ _ S.mo (by intro q; cases q), st := k _ _ S.st (by intro q; cases q), wt := k _ _ S.wt (by intro q; cases q), w1 := k _ _ S.w1 (by intro q; cases q), w2 := k _ _ S.w2 (by intro q; cases q), w3 := k _ _ S.w3 (by intro q; cases q), la := by rw [AH.set_ne (fun q => k0 _ _ S.s q.symm)]; exact AH.set_same, t := fun t e => k _ _ (S.t t e) (by intro q; cases q), l := fun i a b => k _ _ (S.l i a b) (by intro q; cases q), c := fun i a b => k _ _ (S.c i a b) (by intro q; cases q), cd := fun i a b => ⟨(S.cd i a b).1, (S.cd i a b).2.1, (S.cd i a b).2.2.1, (S.cd i a b).2.2.2.1, (S.cd i a b).2.2.2.2.1, k0 _ _ (S.c i a b)⟩ }
/-- a table of a set is kept -/
theorem Scr.setMa {A : Ad} {X : SX} {σ : AH} (S : Scr A X σ) {a : Addr} (ha : σ a = none) : Scr { A with t := some a } X (AH.set (AH.set σ a (.idict [])) A.ma (.bdict (mkL (some a)))) := by
  have k0 : ∀ b o, σ b = some o → b ≠ a := fun b o e => ne_fresh e ha
  have k : ∀ b o, σ b = some o → o ≠ .bdict (mkL A.t) → AH.set (AH.set σ a (.idict [])) A.ma (.bdict (mkL (some a))) b = some o := fun b o e h => by
    rw [AH.set_ne (fun q => by subst q; rw [S.ma] at e; cases e; exact h rfl), AH.set_ne (k0 b o e)]; exact e
  exact { S with s := k _ _ S.s (by intro q; cases q), g := k _ _ S.g (by intro q; cases q), ls := k _ _ S.ls (by intro q; cases q), cu := k _ _ S.cu (by intro q; cases q), m := k _ _ S.m (by intro q; cases q), ch := k _ _ S.ch (by intro q; cases q), ma := AH.set_same, nm := k _ _ S.nm (by intro q; cases q), mo := k _ _ S.mo (by intro q; cases q), st := k _ _ S.st (by intro q; cases q), wt := k _ _ S.wt (by intro q; cases q), w1 := k _ _ S.w1 (by intro q; cases q), w2 := k _ _ S.w2 (by intro q; cases q), w3 := k _ _ S.w3 (by intro q; cases q), la := k _ _ S.la (by intro q; cases q), t := fun t e => by cases e; rw [AH.set_ne (fun q => k0 _ _ S.ma q.symm)]; exact AH.set_same, l := fun i a b => k _ _ (S.l i a b) (by intro q; cases q), c := fun i a b => k _ _ (S.c i a b) (by intro q; cases q) }
/-- the rows go up by one -/
def scrollX (X : SX) : SX := { X with rows := fun i => if i = 0 then X.rows 1 else List.replicate X.C.toNat (blk X.p) }
theorem Scr.scroll {A : Ad} {X : SX} {σ τ : AH} (S : Scr A X σ) (R2 : X.R = 2) {x l d a : Addr} (ex : σ x = none) (ea : σ a = none) (el : σ l = none) (exa : x ≠ a) (tx : τ x = some (.list [.ref (A.l 1), .ref l])) (tl : τ l = some (lineO d a false)) (ta : τ a = some (.list (rowV (List.replicate X.C.toNat (blk X.p)))))
    (tg : τ A.g = some (gridO A.dg 2 X.C x)) (t1 : τ (A.l 1) = some (lineO (A.d 1) (A.c 1) false)) (fr : ∀ p o, p ≠ A.g → p ≠ A.l 1 → σ p = some o → τ p = some o) :
    Scr { A with ls := x, l := fun i => if i = 0 then A.l 1 else l, d := fun i => if i = 0 then A.d 1 else d, c := fun i => if i = 0 then A.c 1 else a, wr := fun _ => false } (scrollX X) τ := by
  have l1 := S.l 1 (by decide) (by omega)
  have c1 := S.c 1 (by decide) (by omega)
  have k : ∀ b o, σ b = some o → o ≠ gridO A.dg X.R X.C A.ls ∧ o ≠ lineO (A.d 1) (A.c 1) (A.wr 1) → τ b = some o := fun b o e h => fr b o (fun q => by subst q; rw [S.g] at e; cases e; exact h.1 rfl) (fun q => by subst q; rw [l1] at e; cases e; exact h.2 rfl) e
  have two : ∀ i : Int, 0 ≤ i → i < X.R → i = 0 ∨ i = 1 := fun i a b => by omega
  obtain ⟨n1, n2, n3, n4, n5, n6⟩ := S.cd 1 (by decide) (by omega)
  exact { S with s := k _ _ S.s ⟨(by intro q; cases q), (by intro q; cases q)⟩, g := by rw [show (scrollX X).R = 2 from R2]; exact tg, ls := by rw [show (scrollX X).R = 2 from R2]; exact tx, cu := k _ _ S.cu ⟨(by intro q; cases q), (by intro q; cases q)⟩, m := k _ _ S.m ⟨(by intro q; cases q), (by intro q; cases q)⟩, ch := k _ _ S.ch ⟨(by intro q; cases q), (by intro q; cases q)⟩, ma := k _ _ S.ma ⟨(by intro q; cases q), (by intro q; cases q)⟩, nm := k _ _ S.nm ⟨(by intro q; cases q), (by intro q; cases q)⟩, mo := k _ _ S.mo ⟨(by intro q; cases q), (by intro q; cases q)⟩, st := k _ _ S.st ⟨(by intro q; cases q), (by intro q; cases q)⟩, wt := k _ _ S.wt ⟨(by intro q; cases q), (by intro q; cases q)⟩, w1 := k _ _ S.w1 ⟨(by intro q; cases q), (by intro q; cases q)⟩, w2 := k _ _ S.w2 ⟨(by intro q; cases q), (by intro q; cases q)⟩, w3 := k _ _ S.w3 ⟨(by intro q; cases q), (by intro q; cases q)⟩, la := k _ _ S.la ⟨(by intro q; cases q), (by intro q; cases q)⟩, t := fun t e => k _ _ (S.t t e) ⟨(by intro q; cases q), (by intro q; cases q)⟩, l := fun i a b => by rcases two i a b with rfl | rfl <;> assumption, c := fun i p q => (by
      rcases two i p q with rfl | rfl
      · exact k _ _ c1 ⟨(by intro q; cases q), (by intro q; cases q)⟩
      · exact ta), ll := fun i j a b a' b' n => (by
      rcases two i a b with rfl | rfl <;> rcases two j a' b' with rfl | rfl
      · exact absurd rfl n
      · exact ne_fresh l1 el
      · exact (ne_fresh l1 el).symm
      · exact absurd rfl n), cc := fun i j p q p' q' n => (by
      rcases two i p q with rfl | rfl <;> rcases two j p' q' with rfl | rfl
      · exact absurd rfl n
      · exact ne_fresh c1 ea
      · exact (ne_fresh c1 ea).symm
      · exact absurd rfl n), cd := fun i p q => (by
      rcases two i p q with rfl | rfl
      · exact ⟨ne_fresh c1 ex, n2, n3, n4, n5, n6⟩
      · exact ⟨exa.symm, (ne_fresh S.nm ea).symm, (ne_fresh S.w1 ea).symm, (ne_fresh S.w2 ea).symm, (ne_fresh S.w3 ea).symm, (ne_fresh S.la ea).symm⟩) }
end Mine
end
section
open PySem PySem.W PySem.Calls PyProof.Rows
set_option Elab.async false
set_option linter.unusedVariables false
set_option linter.unusedSimpArgs false
set_option maxRecDepth 100000
set_option maxHeartbeats 0
namespace Mine
theorem OKX.setCu {k : Nat} {X : SX} (o : OKX k X) {r c : Int} {wt : Bool} {p : Int} (r0 : 0 ≤ r) (rR : r < X.R) (c0 : 0 ≤ c) (cC : c < X.C) : OKX k { X with r := r, c := c, wt := wt, p := p } := { o with r0 := r0, rR := rR, c0 := c0, cC := cC }
theorem OKX.scroll {k : Nat} {X : SX} (o : OKX k X) (R2 : X.R = 2) : OKX k (scrollX X) := { o with
  len := fun i a b => (by
    have := o.C2
    rcases (show i = 0 ∨ i = 1 by have : i < X.R := b; omega) with rfl | rfl
    · exact o.len 1 (by decide) (by omega)
    · simp only [scrollX, Int.one_ne_zero, if_false, List.length_replicate]; omega)
  cl := fun i a b => (by
    rcases (show i = 0 ∨ i = 1 by have : i < X.R := b; omega) with rfl | rfl
    · exact o.cl 1 (by decide) (by omega)
    · intro x hx
      simp only [scrollX, Int.one_ne_zero, if_false] at hx
      rw [(List.mem_replicate.mp hx).2]; exact Nat.zero_le _) }
section
variable {w : WX} {n : Nat} {ℓ : Loc} {σ : AH} {K : AV → Loc → AH → Prop} {A : Ad} {X : SX} {k : Nat}
theorem d_Screen_line (S : Scr A X σ) (o : OKX k X) (h : K (.ref (A.l X.r)) ℓ σ) : Cd (cx w) (n + 2) (.ref 963) [.ref A.s] ℓ σ K :=
  c_Screen_line S.s S.g S.ls S.cu o.r0 (by have := o.R12; have := o.rR; omega) (lsL_get o.R12 o.r0 o.rR) h
theorem d_Screen_left_bound (S : Scr A X σ) (o : OKX k X) (h : K (.int 0) ℓ σ) : Cd (cx w) (n + 1) (.ref 984) [.ref A.s] ℓ σ K := c_Screen_left_bound S.s S.cu S.m o.c0 h
theorem d_Screen_right_bound (S : Scr A X σ) (o : OKX k X) (h : K (.int (X.C - 1)) ℓ σ) : Cd (cx w) (n + 3) (.ref 977) [.ref A.s] ℓ σ K :=
  c_Screen_right_bound S.s S.g S.ls S.cu S.m o.r0 (by have := o.R12; have := o.rR; omega) (lsL_get o.R12 o.r0 o.rR) (S.l _ o.r0 o.rR) (by have := o.C2; omega) o.cC h
theorem d_Screen_width_of_line (S : Scr A X σ) (o : OKX k X) (h : K (.int X.C) ℓ σ) : Cd (cx w) (n + 2) (.ref 970) [.ref A.s, .int X.r] ℓ σ K :=
  c_Screen_width_of_line S.s S.g S.ls o.r0 (by have := o.R12; have := o.rR; omega) (lsL_get o.R12 o.r0 o.rR) (S.l _ o.r0 o.rR) h
theorem d_Screen_is_between_sides (S : Scr A X σ) (o : OKX k X) (h : K (.bool true) ℓ σ) : Cd (cx w) (n + 1) (.ref 991) [.ref A.s] ℓ σ K := c_Screen_is_between_sides S.s S.cu S.m o.c0 o.cC h
theorem d_Screen_keep_within_line (S : Scr A X σ) (o : OKX k X) (h : K .none ℓ σ) : Cd (cx w) (n + 3) (.ref 1103) [.ref A.s] ℓ σ K :=
  c_Screen_keep_within_line S.s S.g S.ls S.cu o.r0 (by have := o.R12; have := o.rR; omega) (lsL_get o.R12 o.r0 o.rR) (S.l _ o.r0 o.rR) (by have := o.C2; omega) o.cC h
theorem d_Screen_is_narrow (S : Scr A X σ) (o : OKX k X) (h : K (.bool false) ℓ σ) : Cd (cx w) (n + 2) (.ref 1040) [.ref A.s] ℓ σ K := c_Screen_is_narrow S.s S.cu S.m o.c0 o.cC o.C2 h
/-- the cursor goes behind a sign -/
def advX (X : SX) (i q : Int) : SX := { X with r := X.r, c := if i + q > X.C - 1 then X.C - 1 else i + q, wt := decide (i + q > X.C - 1), p := X.p }
theorem d_Screen_advance {i q : Int} (S : Scr A X σ) (o : OKX k X) (h : ∀ σ', Scr A (advX X i q) σ' → Fra X.R A σ A σ' → K .none ℓ σ') : Cd (cx w) (n + 4) (.ref 1054) [.ref A.s, .int i, .int q] ℓ σ K :=
  c_Screen_advance S.s S.g S.ls S.cu S.m o.r0 (by have := o.R12; have := o.rR; omega) (lsL_get o.R12 o.r0 o.rR) (S.l _ o.r0 o.rR) (by have := o.C2; omega) o.cC (h _ (S.setCu _ _ _ _) (Fra.set (.inr (.inr (.inl rfl))) fun _ q => q))
theorem d_Screen_carriage_return (S : Scr A X σ) (o : OKX k X) (h : ∀ σ', Scr A { X with r := X.r, c := 0, wt := false, p := X.p } σ' → Fra X.R A σ A σ' → K .none ℓ σ') : Cd (cx w) (n + 4) (.ref 1110) [.ref A.s] ℓ σ K :=
  c_Screen_carriage_return S.s S.g S.ls S.cu S.m o.r0 (by have := o.R12; have := o.rR; omega) (lsL_get o.R12 o.r0 o.rR) (S.l _ o.r0 o.rR) (by have := o.C2; omega) o.c0 (h _ (S.setCu _ _ _ _) (Fra.set (.inr (.inr (.inl rfl))) fun _ q => q))
theorem d_Screen_place {i j : Int} (S : Scr A X σ) (o : OKX k X) (i0 : 0 ≤ i) (iR : i < X.R) (j0 : 0 ≤ j) (jC : j < X.C) (h : ∀ σ', Scr A { X with r := i, c := j, wt := false, p := X.p } σ' → Fra X.R A σ A σ' → K .none ℓ σ') : Cd (cx w) (n + 4) (.ref 1005) [.ref A.s, .int i, .int j] ℓ σ K :=
  c_Screen_place S.s S.g S.ls S.cu i0 iR (by have := o.R12; omega) j0 jC (lsL_get o.R12 i0 iR) (S.l _ i0 iR) (h _ (S.setCu _ _ _ _) (Fra.set (.inr (.inr (.inl rfl))) fun _ q => q))
def scrA (A : Ad) (x l d a : Addr) : Ad := { A with ls := x, l := fun i => if i = 0 then A.l 1 else l, d := fun i => if i = 0 then A.d 1 else d, c := fun i => if i = 0 then A.c 1 else a, wr := fun _ => false }
theorem d_Screen_scroll_up (S : Scr A X σ) (o : OKX k X) (R2 : X.R = 2) (h : ∀ x l d a τ, Scr (scrA A x l d a) (scrollX X) τ → Fra X.R A σ (scrA A x l d a) τ → K .none ℓ τ) : Cd (cx w) (n + 8) (.ref 1075) [.ref A.s, .int 1] ℓ σ K := by
  have hs := S.s
  have hg := S.g
  have hl := S.ls
  have hc := S.cu
  have hm := S.m
  have h1 := S.l 1 (by decide) (by omega)
  have hC := o.C9
  have hC2 := o.C2
  rw [R2] at hs hg hl hm
  rw [show lsL A.l 2 = [.ref (A.l 0), .ref (A.l 1)] from rfl] at hl
  run_tac openFn 1075
  run_tac wk3 20
  rename_i τ x l d a y e1 e2 e3 e4 e5 e6 e7 e8 e9 e10
  have S' := Scr.scroll S R2 e1 e2 e3 e4 e5 e6 e7 e8 e9 e10
  have hs' : τ A.s = _ := S'.s
  dsimp only [scrollX] at hs'
  run_tac wk3 20
  refine h x l d a τ S' fun b o e m' => ?_
  have m : ¬ Mut A X.R b := fun q => m' (.inl q)
  refine ⟨e10 b o (fun q => m (.inr (.inl q))) (fun q => m (.inr (.inr (.inr (.inr (.inr (.inr ⟨1, by decide, by omega, .inl q⟩))))))) e, ?_⟩
  rintro ((q | q | q | q | q | q | ⟨i, i0, i2, q⟩) | q | q | q)
  · exact m (.inl q)
  · exact m (.inr (.inl q))
  · exact m (.inr (.inr (.inl q)))
  · exact m (.inr (.inr (.inr (.inl q))))
  · exact m (.inr (.inr (.inr (.inr (.inl q)))))
  · exact m (.inr (.inr (.inr (.inr (.inr (.inl q))))))
  · have : i = 0 ∨ i = 1 := by omega
    rcases this with rfl | rfl
    · exact m (.inr (.inr (.inr (.inr (.inr (.inr ⟨1, by decide, by omega, q⟩))))))
    · rcases q with q | q
      · exact ne_fresh e e3 q
      · exact ne_fresh e e2 q
  · exact m' (.inr (.inl q))
  · exact ne_fresh e e1 q
  · exact m' (.inr (.inr (.inr q)))
/-- other lines -/
def upA (A : Ad) (ls : Addr) (l d c : Int → Addr) (wr : Int → Bool) : Ad := { A with ls := ls, l := l, d := d, c := c, wr := wr }
theorem fraCu {R : Int} {A : Ad} {σ : AH} {o : AO} : Fra R A σ A (AH.set σ A.cu o) := Fra.set (.inr (.inr (.inl rfl))) fun _ q => q
theorem d_Screen_index (S : Scr A X σ) (o : OKX k X) (R2 : X.R = 2) (r1 : X.r = 1) (h : ∀ x l d a τ, Scr (scrA A x l d a) (scrollX { X with r := X.r, c := X.c, wt := false, p := X.p }) τ → Fra X.R A σ (scrA A x l d a) τ → K .none ℓ τ) : Cd (cx w) (n + 9) (.ref 1089) [.ref A.s] ℓ σ K := by
  have hs := S.s
  have hcu := S.cu
  have hm := S.m
  have rR := o.rR
  have r0 := o.r0
  have c0 := o.c0
  have cC := o.cC
  have S1 := S.setCu X.r X.c false X.p
  have o1 : OKX k { X with r := X.r, c := X.c, wt := false, p := X.p } := o.setCu r0 rR c0 cC
  have o2 := o1.scroll R2
  run_tac openFn 1089
  run_tac wk3 20
  exact h _ _ _ _ _ ‹_› (fraCu.trans ‹_›)
theorem d_Screen_index_l (S : Scr A X σ) (o : OKX k X) (r1 : X.r + 1 < X.R) (h : ∀ τ, Scr A { X with r := X.r + 1, c := X.c, wt := false, p := X.p } τ → Fra X.R A σ A τ → K .none ℓ τ) : Cd (cx w) (n + 9) (.ref 1089) [.ref A.s] ℓ σ K := by
  have hs := S.s
  have hcu := S.cu
  have hm := S.m
  have r0 := o.r0
  have c0 := o.c0
  have cC := o.cC
  have S1 := S.setCu (X.r + 1) X.c false X.p
  have o1 : OKX k { X with r := X.r + 1, c := X.c, wt := false, p := X.p } := o.setCu (by omega) r1 c0 cC
  run_tac openFn 1089
  run_tac wk3 20
  exact h _ ‹_› fraCu
/-- a line further, at its begin -/
def nextY (X : SX) : SX := if X.r = 1 then scrollX { X with r := X.r, c := 0, wt := false, p := X.p } else { X with r := X.r + 1, c := 0, wt := false, p := X.p }
theorem e_Screen_next_line (S : Scr A X σ) (o : OKX k X) (R2 : X.R = 2) (h : ∀ ls l d c wr τ, Scr (upA A ls l d c wr) (nextY X) τ → Fra X.R A σ (upA A ls l d c wr) τ → K .none ℓ τ) : Cd (cx w) (n + 10) (.ref 1117) [.ref A.s] ℓ σ K := by
  have hs := S.s
  have r0 := o.r0
  have rR := o.rR
  have c0 := o.c0
  have cC := o.cC
  unfold nextY at h
  by_cases r1 : X.r = 1
  · rw [if_pos r1] at h
    have o2 := (o.setCu (wt := false) (p := X.p) r0 rR c0 cC).scroll R2
    run_tac openFn 1117
    run_tac wk3 20
    exact h _ _ _ _ _ _ ‹Scr (scrA A _ _ _ _) _ _› (Fra.trans ‹_› ‹_›)
  · rw [if_neg r1] at h
    have o2 := (o.setCu (r := X.r + 1) (wt := false) (p := X.p) (by omega) (by omega) c0 cC)
    run_tac openFn 1117
    run_tac wk3 20
    exact h A.ls A.l A.d A.c A.wr _ ‹_› (Fra.trans ‹_› ‹_›)
theorem e_Screen_wrap (S : Scr A X σ) (o : OKX k X) (R2 : X.R = 2) (h : ∀ ls l d c wr τ, Scr (upA A ls l d c wr) (nextY X) τ → Fra X.R A σ (upA A ls l d c wr) τ → K .none ℓ τ) : Cd (cx w) (n + 10) (.ref 1061) [.ref A.s] ℓ σ K := by
  have hs := S.s
  have hcu := S.cu
  have r0 := o.r0
  have rR := o.rR
  have c0 := o.c0
  have cC := o.cC
  have C2 := o.C2
  unfold nextY at h
  by_cases r1 : X.r = 1
  · rw [if_pos r1] at h
    have o2 := (o.setCu (wt := false) (p := X.p) r0 rR c0 cC).scroll R2
    have o3 := o2.setCu (r := X.r) (c := 0) (wt := false) (p := X.p) r0 rR (Int.le_refl _) (show 0 < X.C by omega)
    run_tac openFn 1061
    run_tac wk3 20
    all_goals
      rename_i x l d a τ S1 F1
      have l2 : τ (A.l X.r) = some (lineO (A.d 1) (A.c 1) false) := by rw [r1]; exact S1.l 0 (by decide) (show 0 < X.R by omega)
      run_tac wk3 20
      have S3 := Scr.setLn (Scr.setCu S1 X.r 0 false X.p) 0 true (by decide) (show 0 < X.R by omega)
      rw [show A.l X.r = A.l 1 by rw [r1]]
      exact h _ _ _ _ _ _ S3 (F1.trans (fraCu.trans (Fra.set (.inr (.inr (.inr (.inr (.inr (.inr ⟨0, by decide, by omega, .inl rfl⟩)))))) fun _ q => q)))
  · rw [if_neg r1] at h
    have o2 := (o.setCu (r := X.r + 1) (wt := false) (p := X.p) (by omega) (by omega) c0 cC)
    have o3 := o2.setCu (r := X.r + 1) (c := 0) (wt := false) (p := X.p) (show 0 ≤ X.r + 1 by omega) (show X.r + 1 < X.R by omega) (Int.le_refl _) (show 0 < X.C by omega)
    run_tac openFn 1061
    run_tac wk3 20
    all_goals
      rename_i τ S1 F1
      have l2 := S1.l X.r r0 rR
      run_tac wk3 20
      have S3 := Scr.setLn (Scr.setCu S1 (X.r + 1) 0 false X.p) X.r true r0 rR
      exact h _ _ _ _ _ _ S3 (F1.trans (fraCu.trans (Fra.set (.inr (.inr (.inr (.inr (.inr (.inr ⟨X.r, r0, rR, .inl rfl⟩)))))) fun _ q => q)))
def nextRows (X : SX) : Int → List Cell := if X.r = 1 then (scrollX X).rows else X.rows
/-- a line further, at its begin; the screen has two lines -/
def nextX (X : SX) : SX := { X with r := 1, c := 0, wt := false, rows := nextRows X }
theorem next_eq (o : OKX k X) (R2 : X.R = 2) : nextY X = nextX X := by
  have r0 := o.r0
  have rR := o.rR
  unfold nextY nextX nextRows
  by_cases r1 : X.r = 1
  · rw [if_pos r1, if_pos r1]; simp only [scrollX, r1]
  · rw [if_neg r1, if_neg r1, show X.r + 1 = 1 by omega]
theorem OKX.next (o : OKX k X) (R2 : X.R = 2) : OKX k (nextX X) := by
  have r0 := o.r0
  have rR := o.rR
  have C2 := o.C2
  rw [← next_eq o R2]
  unfold nextY
  by_cases r1 : X.r = 1
  · rw [if_pos r1]; exact (o.setCu r0 rR (Int.le_refl _) (by omega)).scroll R2
  · rw [if_neg r1]; exact o.setCu (by omega) (by omega) (Int.le_refl _) (by omega)
theorem d_Screen_next_line (S : Scr A X σ) (o : OKX k X) (R2 : X.R = 2) (h : ∀ ls l d c wr τ, Scr (upA A ls l d c wr) (nextX X) τ → Fra X.R A σ (upA A ls l d c wr) τ → K .none ℓ τ) : Cd (cx w) (n + 10) (.ref 1117) [.ref A.s] ℓ σ K := e_Screen_next_line S o R2 (by rw [next_eq o R2]; exact h)
theorem d_Screen_wrap (S : Scr A X σ) (o : OKX k X) (R2 : X.R = 2) (h : ∀ ls l d c wr τ, Scr (upA A ls l d c wr) (nextX X) τ → Fra X.R A σ (upA A ls l d c wr) τ → K .none ℓ τ) : Cd (cx w) (n + 10) (.ref 1061) [.ref A.s] ℓ σ K := e_Screen_wrap S o R2 (by rw [next_eq o R2]; exact h)
end
end Mine
end
section
open PySem PySem.W PySem.Calls PyProof.Rows
set_option Elab.async false
set_option linter.unusedVariables false
set_option linter.unusedSimpArgs false
set_option maxRecDepth 100000
set_option maxHeartbeats 0
namespace Mine
section
variable {w : WX} {n : Nat} {ℓ : Loc} {σ : AH} {K : AV → Loc → AH → Prop} {A : Ad} {X : SX} {k : Nat}
theorem Mut.scr {R : Int} : Mut A R A.s := .inl rfl
theorem Mut.cur {R : Int} : Mut A R A.cu := .inr (.inr (.inl rfl))
theorem Mut.row {R i : Int} (h0 : 0 ≤ i) (h : i < R) : Mut A R (A.c i) := .inr (.inr (.inr (.inr (.inr (.inr ⟨i, h0, h, .inr rfl⟩)))))
theorem Mut.lin {R i : Int} (h0 : 0 ≤ i) (h : i < R) : Mut A R (A.l i) := .inr (.inr (.inr (.inr (.inr (.inr ⟨i, h0, h, .inl rfl⟩)))))
theorem partF_cl {cs : List Cell} {i : Int} (h : ∀ x ∈ cs, x.codes.length ≤ k) : ∀ x ∈ partF cs i, x.codes.length ≤ k := by
  intro x hx
  unfold partF at hx
  split at hx
  · rcases List.mem_or_eq_of_mem_set hx with hx | rfl
    · rcases List.mem_or_eq_of_mem_set hx with hx | rfl
      · exact h x hx
      · exact Nat.zero_le _
    · exact Nat.zero_le _
  · exact h x hx
theorem putCore_cl {cs : List Cell} {i : Int} {c : Cell} (h : ∀ x ∈ cs, x.codes.length ≤ k) (hc : c.codes.length ≤ k) : ∀ x ∈ putCore cs i c, x.codes.length ≤ k := by
  intro x hx
  have h2 := partF_cl (i := i + c.wd) (partF_cl (i := i) h)
  unfold putCore at hx
  split at hx
  · rcases List.mem_or_eq_of_mem_set hx with hx | rfl
    · rcases List.mem_or_eq_of_mem_set hx with hx | rfl
      · exact h2 x hx
      · exact hc
    · exact Nat.zero_le _
  · rcases List.mem_or_eq_of_mem_set hx with hx | rfl
    · exact h2 x hx
    · exact hc
theorem putCore_len (cs : List Cell) (i : Int) (c : Cell) : (putCore cs i c).length = cs.length := by
  unfold putCore
  split <;> simp only [List.length_set, partF_len]
theorem OKX.up (o : OKX k X) {j : Nat} (h : k ≤ j) (h5 : j ≤ 500) : OKX j X := { o with cl := fun i a b x hx => Nat.le_trans (o.cl i a b x hx) h, ll := Nat.le_trans o.ll h, k5 := h5 }
theorem OKX.setRow (o : OKX k X) {i : Int} {cs : List Cell} (hl : (cs.length : Int) = X.C) (hc : ∀ x ∈ cs, x.codes.length ≤ k) : OKX k { X with rows := fun j => if j = i then cs else X.rows j } := { o with
  len := fun j a b => (by
    show (((if j = i then cs else X.rows j).length : Nat) : Int) = X.C
    split
    · exact hl
    · exact o.len j a b)
  cl := fun j a b => (by
    show ∀ x ∈ (if j = i then cs else X.rows j), x.codes.length ≤ k
    split
    · exact hc
    · exact o.cl j a b) }
/-- a code of no turned set -/
theorem d_Charsets_mapped {x : Int} (S : Scr A X σ) (h0 : 32 ≤ x) (hx : x ≤ 127 ∨ 255 < x) (h : ∀ t τ, Scr { A with t := t } X τ → Fra X.R A σ { A with t := t } τ → K (.int x) ℓ τ) : Cd (cx w) (n + 3) (.ref 310) [.ref A.ch, .int x, .bool false] ℓ σ K := by
  have hs := S.s
  have hch := S.ch
  have hma := S.ma
  have hnm := S.nm
  have e := set_id hch
  unfold chsO at e
  by_cases q : x ≤ 127
  · cases ht : A.t with
    | none =>
      rw [ht] at hma
      run_tac openFn 310
      run_tac wk3 20
      rename_i a ha
      rw [e] at ha ⊢
      exact h (some a) _ (S.setMa ha) (Fra.made ha)
    | some t =>
      rw [ht] at hma
      have htt := S.t t ht
      run_tac openFn 310
      run_tac wk3 20
      rw [e]
      exact h A.t _ S (Fra.refl _ _ _)
  · run_tac openFn 310
    run_tac wk3 20
    rw [e]
    exact h A.t _ S (Fra.refl _ _ _)
/-- the column of the sign ahead -/
def aheadX (X : SX) : Option Int :=
  let i := if X.wt = true then X.c else X.c - 1
  if i < 0 then none else
    let j := if (at' (X.rows X.r) i).wd = 0 then i - 1 else i
    if 0 ≤ j ∧ (at' (X.rows X.r) j).codes ≠ [] then some j else none
theorem ahead_gen (S : Scr A X σ) (o : OKX k X) (h : ∀ v, (v = .none ∧ aheadX X = none ∨ ∃ i, v = .int i ∧ aheadX X = some i) → K v ℓ σ) : Cd (cx w) (n + 3) (.ref 1019) [.ref A.s] ℓ σ K := by
  have hs := S.s
  have hcu := S.cu
  have hln := S.l X.r o.r0 o.rR
  have hce := S.c X.r o.r0 o.rR
  have hlen := o.len X.r o.r0 o.rR
  have c0 := o.c0
  have cC := o.cC
  have C9 := o.C9
  run_tac openFn 1019
  run_tac wk3 20
  all_goals
    first
    | (refine h _ (.inl ⟨rfl, ?_⟩)
       unfold aheadX
       dsimp only
       repeat' split
       all_goals first | rfl | omega | (simp_all; done) | (exfalso; simp_all; omega))
    | (refine h _ (.inr ⟨_, rfl, ?_⟩)
       unfold aheadX
       dsimp only
       repeat' split
       all_goals first | rfl | omega | (simp_all; done) | (exfalso; simp_all; omega))
    | fail
theorem d_Screen_place_ahead (S : Scr A X σ) (o : OKX k X) (e : aheadX X = none) (h : K .none ℓ σ) : Cd (cx w) (n + 3) (.ref 1019) [.ref A.s] ℓ σ K := ahead_gen S o fun v q => by
  rcases q with ⟨rfl, _⟩ | ⟨i, rfl, e'⟩
  · exact h
  · rw [e] at e'; cases e'
theorem d_Screen_place_ahead_l {i : Int} (S : Scr A X σ) (o : OKX k X) (e : aheadX X = some i) (h : K (.int i) ℓ σ) : Cd (cx w) (n + 3) (.ref 1019) [.ref A.s] ℓ σ K := ahead_gen S o fun v q => by
  rcases q with ⟨rfl, e'⟩ | ⟨j, rfl, e'⟩
  · rw [e] at e'; cases e'
  · rw [e] at e'; cases e'; exact h
theorem ahead_in {X : SX} {i : Int} (o : OKX k X) (e : aheadX X = some i) : 0 ≤ i ∧ i < X.C ∧ (at' (X.rows X.r) i).codes ≠ [] ∧ (X.wt = false → i < X.c) := by
  have := o.c0
  have := o.cC
  unfold aheadX at e
  dsimp only at e
  generalize hi : (if X.wt = true then X.c else X.c - 1) = i0 at e
  have h1 : i0 ≤ X.c ∧ (X.wt = false → i0 = X.c - 1) := by
    subst hi
    refine ⟨by split <;> omega, fun z => by rw [z]; rfl⟩
  by_cases q : i0 < 0
  · rw [if_pos q] at e; cases e
  · rw [if_neg q] at e
    generalize hj : (if (at' (X.rows X.r) i0).wd = 0 then i0 - 1 else i0) = j at e
    have h2 : j ≤ i0 := by subst hj; split <;> omega
    by_cases q2 : 0 ≤ j ∧ (at' (X.rows X.r) j).codes ≠ []
    · rw [if_pos q2] at e
      cases e
      exact ⟨q2.1, by omega, q2.2, fun z => by have := h1.2 z; omega⟩
    · rw [if_neg q2] at e; cases e
/-- does a code belong to the sign ahead -/
def joinedX (X : SX) (x : Int) : Bool := match aheadX X with
  | none => false
  | some i => joinsF X.br (at' (X.rows X.r) i).codes x
theorem cell_cl {X : SX} (o : OKX k X) {i : Int} (h0 : 0 ≤ i) (h : i < X.C) : (at' (X.rows X.r) i).codes.length ≤ k := by
  have := o.len X.r o.r0 o.rR
  refine o.cl X.r o.r0 o.rR _ ?_
  have q : i.toNat < (X.rows X.r).length := by omega
  simp [at', List.getD, q]
theorem d_Screen_is_joined {x : Int} (S : Scr A X σ) (o : OKX k X) (h : K (.bool (joinedX X x)) ℓ σ) : Cd (cx w) (n + 4) (.ref 1026) [.ref A.s, .int x] ℓ σ K := by
  have hs := S.s
  have hwt := S.wt
  have h1 := S.w1
  have h2 := S.w2
  have h3 := S.w3
  have hln := S.l X.r o.r0 o.rR
  have hce := S.c X.r o.r0 o.rR
  have hlen := o.len X.r o.r0 o.rR
  have C9 := o.C9
  have k5 := o.k5
  unfold joinedX at h
  cases e : aheadX X with
  | none =>
    rw [e] at h
    run_tac openFn 1026
    run_tac wk3 20
    exact h
  | some i =>
    rw [e] at h
    have hi := ahead_in o e
    have hi0 := hi.1
    have hi1 := hi.2.1
    have hcl := cell_cl o hi0 hi1
    run_tac openFn 1026
    run_tac wk3 20
    all_goals first | exact h | fail
/-- a code goes into the sign ahead -/
def joinX (X : SX) (x i : Int) : SX :=
  let c := at' (X.rows X.r) i
  let cs := c.codes ++ [x]
  if ((if X.shr = true then clusterF X.br cs else c.wd) = 2 ∧ c.wd = 1 ∧ i < X.C - 1 ∧ X.wt = false) then
    { advX { X with rows := fun j => if j = X.r then putCore (X.rows X.r) i ⟨cs, 2, c.bg⟩ else X.rows j } i 2 with last := cs }
  else { X with rows := fun j => if j = X.r then putCore (X.rows X.r) i ⟨cs, c.wd, c.bg⟩ else X.rows j, last := cs }
theorem d_Screen_join {x : Int} (S : Scr A X σ) (o : OKX k X) (e : aheadX X = none) (h : K (.bool false) ℓ σ) : Cd (cx w) (n + 5) (.ref 1033) [.ref A.s, .int x] ℓ σ K := by
  have hs := S.s
  run_tac openFn 1033
  run_tac wk3 20
  exact h
theorem st_shr {hi a b c : Bool} : (look (Str.ofString "clusters") (stL hi a b c)).getD (.bool false) = .bool c := by cases hi <;> rfl
theorem st_wraps {hi a b c : Bool} : (look (Str.ofString "autowrap") (stL hi a b c)).getD (.bool false) = .bool a := by cases hi <;> rfl
theorem st_ins {hi a b c : Bool} (h : hi = false → b = false) : (look (Str.ofString "insert") (stL hi a b c)).getD (.bool false) = .bool b := by
  cases hi
  · rw [h rfl]; rfl
  · rfl
theorem d_Screen_join_l {x i : Int} (S : Scr A X σ) (o : OKX k X) (k4 : k ≤ 400) (e : aheadX X = some i) (hw : (at' (X.rows X.r) i).wd = 1 ∨ (at' (X.rows X.r) i).wd = 2 ∧ i + 1 < X.C) (h : ∀ la τ, Scr { A with la := la } (joinX X x i) τ → Fra X.R A σ { A with la := la } τ → K (.bool true) ℓ τ) : Cd (cx w) (n + 6) (.ref 1033) [.ref A.s, .int x] ℓ σ K := by
  have hs := S.s
  have hcu := S.cu
  have hwt := S.wt
  have h1 := S.w1
  have h2 := S.w2
  have h3 := S.w3
  have hln := S.l X.r o.r0 o.rR
  have hce := S.c X.r o.r0 o.rR
  have hlen := o.len X.r o.r0 o.rR
  have C9 := o.C9
  have k5 := o.k5
  have r0 := o.r0
  have rR := o.rR
  have hi := ahead_in o e
  have hi0 := hi.1
  have hi1 := hi.2.1
  have hcl := cell_cl o hi0 hi1
  have hmo := S.mo
  have hst := S.st
  have hsh := st_shr (hi := A.hi) (a := X.wraps) (b := X.ins) (c := X.shr)
  have o1 := o.up (j := k + 1) (by omega) (by omega)
  have o2 : OKX (k + 1) { X with rows := fun j => if j = X.r then putCore (X.rows X.r) i ⟨(at' (X.rows X.r) i).codes ++ [x], 2, (at' (X.rows X.r) i).bg⟩ else X.rows j } :=
    o1.setRow (by rw [putCore_len]; exact hlen) (putCore_cl (o1.cl X.r r0 rR) (by rw [List.length_append]; simp only [List.length_singleton]; omega))
  unfold joinX at h
  dsimp only at h
  by_cases q : ((if X.shr = true then clusterF X.br ((at' (X.rows X.r) i).codes ++ [x]) else (at' (X.rows X.r) i).wd) = 2 ∧ (at' (X.rows X.r) i).wd = 1 ∧ i < X.C - 1 ∧ X.wt = false)
  · rw [if_pos q] at h
    obtain ⟨q1, q2, q3, q4⟩ := q
    run_tac openFn 1033
    run_tac wk3 20
    all_goals first
      | exact h _ _ (Scr.setLa ‹Scr A (advX _ i 2) _› ‹_› _) (Fra.trans (A' := A) (Fra.set (Mut.row r0 rR) fun _ q => q) (Fra.trans ‹Fra _ A _ A _› (Fra.last ‹_›)))
      | (exfalso; simp_all; done)
      | (exfalso; simp_all; omega)
      | fail
  · rw [if_neg q] at h
    run_tac openFn 1033
    run_tac wk3 20
    all_goals first
      | exact h _ _ (Scr.setLa (Scr.setRow S X.r _ r0 rR) ‹_› _) (Fra.trans (A' := A) (Fra.set (Mut.row r0 rR) fun _ q => q) (Fra.last ‹_›))
      | (exfalso; simp_all; done)
      | (exfalso; simp_all; omega)
      | fail
end
end Mine
end
section
open PySem PySem.W PySem.Calls PyProof.Rows
set_option Elab.async false
set_option linter.unusedVariables false
set_option linter.unusedSimpArgs false
set_option maxRecDepth 100000
set_option maxHeartbeats 0
namespace Mine
section
variable {w : WX} {n : Nat} {ℓ : Loc} {σ : AH} {K : AV → Loc → AH → Prop} {A : Ad} {X : SX} {k : Nat}
/-- cells are put in, if so wished -/
def insX (X : SX) (q : Int) : SX := if X.ins = true then { X with rows := fun j => if j = X.r then shiftF (X.rows X.r) X.c q X.p else X.rows j } else X
def layP (X : SX) (cs : List Int) (q : Int) : SX := { advX { X with rows := fun j => if j = X.r then putCore (X.rows X.r) X.c ⟨cs, q, X.p⟩ else X.rows j } X.c q with last := cs }
/-- a sign is laid where the cursor stands -/
def layX (X : SX) (cs : List Int) (q : Int) : SX := layP (insX X q) cs q
/-- room is made for a sign -/
def roomX (X : SX) (q : Int) : SX :=
  let Y := if X.wt = true ∧ X.wraps = true then nextX X else X
  if q = 2 ∧ Y.c ≥ X.C - 1 then (if X.wraps = true then nextX Y else { Y with c := X.C - 1 - 1 }) else Y
def signX (X : SX) (cs : List Int) (q : Int) : SX := layX (roomX X q) cs q
/-- on one row, with room -/
theorem d_Screen_put_sign_l {cs : List Int} {q : Int} (S : Scr A X σ) (o : OKX k X) (hq : q = 1 ∨ q = 2) (hcs : cs.length ≤ k) (w1 : X.wt = false) (w2 : q = 2 → X.c < X.C - 1) (w3 : X.ins = false) (h : ∀ la τ, Scr { A with la := la } (layX X cs q) τ → Fra X.R A σ { A with la := la } τ → K .none ℓ τ) : Cd (cx w) (n + 11) (.ref 1047) [.ref A.s, .tup (cs.map .int), .int q] ℓ σ K := by
  have hs := S.s
  have hcu := S.cu
  have hmo := S.mo
  have hst := S.st
  have hln := S.l X.r o.r0 o.rR
  have hce := S.c X.r o.r0 o.rR
  have hlen := o.len X.r o.r0 o.rR
  have C9 := o.C9
  have C2 := o.C2
  have k5 := o.k5
  have r0 := o.r0
  have rR := o.rR
  have c0 := o.c0
  have cC := o.cC
  have hi2 := (st_ins (hi := A.hi) (a := X.wraps) (b := X.ins) (c := X.shr) S.hi).trans (show AV.bool X.ins = .bool false by rw [w3])
  have o2 : OKX k { X with rows := fun j => if j = X.r then putCore (X.rows X.r) X.c ⟨cs, q, X.p⟩ else X.rows j } :=
    o.setRow (by rw [putCore_len]; exact hlen) (putCore_cl (o.cl X.r r0 rR) hcs)
  unfold layX insX at h
  rw [if_neg (by rw [w3]; exact Bool.false_ne_true)] at h
  unfold layP at h
  rcases hq with rfl | rfl
  · run_tac openFn 1047
    run_tac wk3 20
    all_goals first
      | exact h _ _ (Scr.setLa ‹Scr A (advX _ X.c _) _› ‹_› _) (Fra.trans (A' := A) (Fra.set (Mut.row r0 rR) fun _ q => q) (Fra.trans ‹Fra _ A _ A _› (Fra.last ‹_›)))
      | fail
  · have w2 := w2 rfl
    run_tac openFn 1047
    run_tac wk3 20
    all_goals first
      | exact h _ _ (Scr.setLa ‹Scr A (advX _ X.c _) _› ‹_› _) (Fra.trans (A' := A) (Fra.set (Mut.row r0 rR) fun _ q => q) (Fra.trans ‹Fra _ A _ A _› (Fra.last ‹_›)))
      | fail
theorem shiftF_cl {cs : List Cell} {i m b : Int} (h : ∀ x ∈ cs, x.codes.length ≤ k) : ∀ x ∈ shiftF cs i m b, x.codes.length ≤ k := by
  have hD : ∀ x ∈ shiftD cs i m, x.codes.length ≤ k := partF_cl (partF_cl (partF_cl (partF_cl h)))
  intro x hx
  simp only [shiftF, splice, cut, List.mem_append] at hx
  rcases hx with (hx | (hx | hx)) | hx
  · exact hD x (List.mem_of_mem_take hx)
  · rw [(List.mem_replicate.mp hx).2]; exact Nat.zero_le _
  · exact hD x (List.mem_of_mem_drop (List.mem_of_mem_take hx))
  · exact hD x (List.mem_of_mem_drop hx)
theorem OKX.layA (o : OKX k X) {cs : List Int} {q : Int} (hcs : cs.length ≤ k) : OKX k { X with rows := fun j => if j = X.r then putCore (X.rows X.r) X.c ⟨cs, q, X.p⟩ else X.rows j } :=
  o.setRow (by rw [putCore_len]; exact o.len X.r o.r0 o.rR) (putCore_cl (o.cl X.r o.r0 o.rR) hcs)
theorem OKX.ins (o : OKX k X) {q : Int} (h1 : 1 ≤ q) (h2 : q ≤ X.C - X.c) : OKX k { X with rows := fun j => if j = X.r then shiftF (X.rows X.r) X.c q X.p else X.rows j } :=
  o.setRow (by rw [shiftF_len o.c0 (by rw [o.len X.r o.r0 o.rR]; exact o.cC) h1 (by rw [o.len X.r o.r0 o.rR]; exact h2)]; exact o.len X.r o.r0 o.rR) (shiftF_cl (o.cl X.r o.r0 o.rR))
end
end Mine
end
section
open PySem PySem.W PySem.Calls PyProof.Rows
set_option Elab.async false
set_option linter.unusedVariables false
set_option linter.unusedSimpArgs false
set_option maxRecDepth 100000
set_option maxHeartbeats 0
namespace Mine
section
variable {w : WX} {n : Nat} {ℓ : Loc} {σ : AH} {K : AV → Loc → AH → Prop} {A : Ad} {X : SX} {k : Nat}
theorem roomX_R {q : Int} : (roomX X q).R = X.R ∧ (roomX X q).C = X.C ∧ (roomX X q).p = X.p ∧ (roomX X q).wraps = X.wraps ∧ (roomX X q).ins = X.ins ∧ (roomX X q).shr = X.shr ∧ (roomX X q).br = X.br := by
  unfold roomX nextX
  dsimp only
  repeat' split
  all_goals exact ⟨rfl, rfl, rfl, rfl, rfl, rfl, rfl⟩
theorem roomX_ok {q : Int} (o : OKX k X) (R2 : X.R = 2) (hq : q = 1 ∨ q = 2) : OKX k (roomX X q) ∧ (roomX X q).c + q ≤ X.C := by
  have C2 := o.C2
  have cC := o.cC
  have h1 : OKX k (if X.wt = true ∧ X.wraps = true then nextX X else X) ∧ (if X.wt = true ∧ X.wraps = true then nextX X else X).C = X.C ∧ (if X.wt = true ∧ X.wraps = true then nextX X else X).R = 2 := by
    split
    · exact ⟨o.next R2, rfl, R2⟩
    · exact ⟨o, rfl, R2⟩
  unfold roomX
  generalize (if X.wt = true ∧ X.wraps = true then nextX X else X) = Y at h1
  obtain ⟨oY, hC, hR⟩ := h1
  have yC := oY.cC
  dsimp only
  split
  · split
    · exact ⟨oY.next hR, show 0 + q ≤ X.C by omega⟩
    · exact ⟨by rw [← hC]; exact oY.setCu oY.r0 oY.rR (by omega) (by omega), show X.C - 1 - 1 + q ≤ X.C by omega⟩
  · exact ⟨oY, by omega⟩
theorem d_Screen_put_sign {cs : List Int} {q : Int} (S : Scr A X σ) (o : OKX k X) (R2 : X.R = 2) (hq : q = 1 ∨ q = 2) (hcs : cs.length ≤ k) (h : ∀ la ls l d c wr τ, Scr { upA A ls l d c wr with la := la } (signX X cs q) τ → Fra X.R A σ { upA A ls l d c wr with la := la } τ → K .none ℓ τ) : Cd (cx w) (n + 11) (.ref 1047) [.ref A.s, .tup (cs.map .int), .int q] ℓ σ K := by
  run_tac openFn 1047
  refine Exs.cut 5 ?_
  refine Exs.mono (K := fun fl ℓ₁ σ₁ => fl = .next ∧ ∃ ls l d c wr, ℓ₁ = [(Str.ofString "self", .ref A.s), (Str.ofString "codes", .tup (cs.map .int)), (Str.ofString "width", .int q), (Str.ofString "right", .int (X.C - 1)), (Str.ofString "column", .int (roomX X q).c)] ∧ Scr (upA A ls l d c wr) (roomX X q) σ₁ ∧ Fra X.R A σ (upA A ls l d c wr) σ₁) ?_ ?_
  · have hs := S.s
    have hcu := S.cu
    have hmo := S.mo
    have hst := S.st
    have hwr := st_wraps (hi := A.hi) (a := X.wraps) (b := X.ins) (c := X.shr)
    have C9 := o.C9
    have C2 := o.C2
    have r0 := o.r0
    have rR := o.rR
    have c0 := o.c0
    have cC := o.cC
    have o1 := o.next R2
    unfold roomX
    dsimp only
    by_cases w1 : X.wt = true ∧ X.wraps = true
    · rw [if_pos w1, if_neg (show ¬ (q = 2 ∧ (nextX X).c ≥ X.C - 1) from fun z => by have : (0 : Int) ≥ X.C - 1 := z.2; omega)]
      obtain ⟨w1, w2⟩ := w1
      run_tac wk3 20
      all_goals exact ⟨_, _, _, _, _, rfl, ‹Scr _ (nextX X) _›, ‹Fra _ _ _ _ _›⟩
    · rw [if_neg w1]
      by_cases w2 : q = 2 ∧ X.c ≥ X.C - 1
      · rw [if_pos w2]
        obtain ⟨rfl, w2⟩ := w2
        by_cases w3 : X.wraps = true
        · rw [if_pos w3]
          have w4 : X.wt = false := by
            cases e : X.wt
            · rfl
            · exact absurd ⟨e, w3⟩ w1
          run_tac wk3 20
          all_goals exact ⟨_, _, _, _, _, rfl, ‹Scr _ (nextX X) _›, ‹Fra _ _ _ _ _›⟩
        · rw [if_neg w3]
          have o2 := o.setCu (r := X.r) (c := X.C - 1 - 1) (wt := X.wt) (p := X.p) r0 rR (by omega) (by omega)
          run_tac wk3 20
          all_goals exact ⟨A.ls, A.l, A.d, A.c, A.wr, rfl, Scr.setCu S _ _ _ _, fraCu⟩
      · rw [if_neg w2]
        by_cases w3 : X.wt = true
        · have w4 : X.wraps = false := by
            cases e : X.wraps
            · rfl
            · exact absurd ⟨w3, e⟩ w1
          run_tac wk3 20
          all_goals exact ⟨A.ls, A.l, A.d, A.c, A.wr, rfl, S, Fra.refl _ _ _⟩
        · run_tac wk3 20
          all_goals exact ⟨A.ls, A.l, A.d, A.c, A.wr, rfl, S, Fra.refl _ _ _⟩
  · rintro fl ℓ₁ σ₁ ⟨rfl, ls, l, d, c, wr, rfl, S1, F1⟩
    dsimp only
    obtain ⟨oY, hfit⟩ := roomX_ok o R2 hq
    obtain ⟨eR, eC, -⟩ := roomX_R (X := X) (q := q)
    unfold signX at h
    have h : ∀ wr' la τ, Scr { upA A ls l d c wr with wr := wr', la := la } (layX (roomX X q) cs q) τ → Fra X.R A σ { upA A ls l d c wr with wr := wr', la := la } τ → K .none ℓ τ := fun wr' la => h la ls l d c wr'
    have es : (upA A ls l d c wr).s = A.s := rfl
    generalize upA A ls l d c wr = B at S1 F1 h es
    rw [← es, ← eC]
    rw [← eC] at hfit
    rw [← eR] at h F1
    generalize roomX X q = Y at S1 F1 h hfit oY
    have hs := S1.s
    have hcu := S1.cu
    have hmo := S1.mo
    have hst := S1.st
    have hln := S1.l Y.r oY.r0 oY.rR
    have hce := S1.c Y.r oY.r0 oY.rR
    have hlen := oY.len Y.r oY.r0 oY.rR
    have C9 := oY.C9
    have C2 := oY.C2
    have k5 := oY.k5
    have r0 := oY.r0
    have rR := oY.rR
    have c0 := oY.c0
    have cC := oY.cC
    have hi2 := st_ins (hi := B.hi) (a := Y.wraps) (b := Y.ins) (c := Y.shr) S1.hi
    unfold layX insX at h
    have oA := oY.layA (cs := cs) (q := q) hcs
    by_cases w3 : Y.ins = true
    · rw [if_pos w3] at h
      have oZ := oY.ins (q := q) (by omega) (by omega)
      run_tac wk3 20
      have S3 := Scr.setLn (Scr.setRow S1 Y.r (shiftF (Y.rows Y.r) Y.c q Y.p) r0 rR) Y.r false r0 rR
      obtain ⟨σ₃, e3⟩ : ∃ σ₃, σ₃ = AH.set (AH.set σ₁ (B.c Y.r) (.list (rowV (shiftF (Y.rows Y.r) Y.c q Y.p)))) (B.l Y.r) (lineO (B.d Y.r) (B.c Y.r) false) := ⟨_, rfl⟩
      have F3 : Fra Y.R A σ _ σ₃ := F1.trans (Fra.trans (A' := B) (Fra.set (Mut.row r0 rR) fun _ q => q) (by rw [e3]; exact Fra.set (A' := { B with wr := fun j => if j = Y.r then false else B.wr j }) (Mut.lin r0 rR) fun _ q => q))
      rw [← e3] at S3
      rw [← e3]
      obtain ⟨G, eG⟩ : ∃ G : Ad, G = { B with wr := fun j => if j = Y.r then false else B.wr j } := ⟨_, rfl⟩
      have es3 : G.s = B.s := by rw [eG]
      have el3 : G.l = B.l := by rw [eG]
      rw [← eG] at S3 F3
      obtain ⟨Z, eZ⟩ : ∃ Z : SX, Z = { Y with rows := fun j => if j = Y.r then shiftF (Y.rows Y.r) Y.c q Y.p else Y.rows j } := ⟨_, rfl⟩
      have z1 : Z.C = Y.C := by rw [eZ]
      have z2 : Z.r = Y.r := by rw [eZ]
      have z3 : Z.c = Y.c := by rw [eZ]
      have z4 : Z.R = Y.R := by rw [eZ]
      have z5 : Z.p = Y.p := by rw [eZ]
      rw [← eZ] at S3 h oZ
      have h : ∀ wr' la τ, Scr { G with wr := wr', la := la } (layP Z cs q) τ → Fra Y.R A σ { G with wr := wr', la := la } τ → K .none ℓ τ := by rw [eG]; exact h
      unfold layP at h
      rw [← z1, ← z2, ← z3, ← z5, ← es3, ← el3]
      rw [← z1, ← z3] at hfit
      rw [← z4] at h F3
      clear S1 F1 hs hcu hmo hst hln hce hlen C9 C2 r0 rR c0 cC hi2 oA oY eZ eG e3
      have hs := S3.s
      have hcu := S3.cu
      have hln := S3.l Z.r oZ.r0 oZ.rR
      have hce := S3.c Z.r oZ.r0 oZ.rR
      have hlen := oZ.len Z.r oZ.r0 oZ.rR
      have C9 := oZ.C9
      have C2 := oZ.C2
      have r0 := oZ.r0
      have rR := oZ.rR
      have c0 := oZ.c0
      have cC := oZ.cC
      have oA := oZ.layA (cs := cs) (q := q) hcs
      run_tac wk3 20
      all_goals exact h _ _ _ (Scr.setLa ‹Scr G (advX _ Z.c _) _› ‹_› _) (F3.trans (Fra.trans (A' := G) (Fra.set (Mut.row r0 rR) fun _ q => q) (Fra.trans ‹Fra _ G _ G _› (Fra.last ‹_›))))
    · rw [if_neg w3] at h
      unfold layP at h
      run_tac wk3 20
      all_goals exact h _ _ _ (Scr.setLa ‹Scr B (advX _ Y.c _) _› ‹_› _) (F1.trans (Fra.trans (A' := B) (Fra.set (Mut.row r0 rR) fun _ q => q) (Fra.trans ‹Fra _ B _ B _› (Fra.last ‹_›))))
end
end Mine
end
section
open PySem PySem.W PySem.Calls PyProof.Rows
set_option Elab.async false
set_option linter.unusedVariables false
set_option linter.unusedSimpArgs false
set_option maxRecDepth 100000
set_option maxHeartbeats 0
namespace Mine
section
variable {w : WX} {n : Nat} {ℓ : Loc} {σ : AH} {K : AV → Loc → AH → Prop} {A : Ad} {X : SX} {k : Nat}
theorem d_WidthTable_width_of {x : Int} (S : Scr A X σ) (h : K (.int (widthF X.br x)) ℓ σ) : Cd (cx w) (n + 2) (.ref 134) [.ref A.wt, .int x] ℓ σ K := c_WidthTable_width_of S.wt S.w1 S.w2 h
theorem d_cluster_width {cs : List Int} (S : Scr A X σ) (hz : cs.length ≤ 1000) (q : cs ≠ []) (h : K (.int (clusterF X.br cs)) ℓ σ) : Cd (cx w) (n + 3) (.ref 179) [.tup (cs.map .int), .ref A.wt] ℓ σ K := c_cluster_width S.wt S.w1 S.w2 S.w3 hz q h
/-- all that a screen's own deeds put in another's stead -/
def mvA (A : Ad) (t : Option Addr) (la ls : Addr) (l d c : Int → Addr) (wr : Int → Bool) : Ad := { A with t := t, la := la, ls := ls, l := l, d := d, c := c, wr := wr }
def joinO (X : SX) (x : Int) : SX := match aheadX X with
  | none => X
  | some i => joinX X x i
/-- a code is put -/
def codeX (X : SX) (x : Int) : SX :=
  if widthF X.br x = 0 ∨ X.shr = true ∧ joinedX X x = true then joinO X x else signX X [x] (widthF X.br x)
theorem widthF_in (br : Bool) (x : Int) : widthF br x = 0 ∨ widthF br x = 1 ∨ widthF br x = 2 := by
  unfold widthF
  split
  · exact .inl rfl
  · split
    · exact .inr (.inr rfl)
    · exact .inr (.inl rfl)
theorem d_Screen_put_code {x : Int} (S : Scr A X σ) (o : OKX k X) (R2 : X.R = 2) (k1 : 1 ≤ k) (k4 : k ≤ 400) (h0 : 32 ≤ x) (hx : x ≤ 127 ∨ 255 < x)
    (hw : ∀ i, aheadX X = some i → (at' (X.rows X.r) i).wd = 1 ∨ (at' (X.rows X.r) i).wd = 2 ∧ i + 1 < X.C)
    (h : ∀ t la ls l d c wr τ, Scr (mvA A t la ls l d c wr) (codeX X x) τ → Fra X.R A σ (mvA A t la ls l d c wr) τ → K .none ℓ τ) : Cd (cx w) (n + 12) (.ref 1012) [.ref A.s, .int x] ℓ σ K := by
  have hs := S.s
  have hch := S.ch
  have hsh := st_shr (hi := A.hi) (a := X.wraps) (b := X.ins) (c := X.shr)
  have hl1 : ([x] : List Int).length ≤ k := k1
  unfold codeX joinO at h
  rcases widthF_in X.br x with q | q
  · rw [if_pos (.inl q)] at h
    cases e : aheadX X with
    | none =>
      rw [e] at h
      run_tac openFn 1012
      run_tac wk3 20
      exact h _ A.la A.ls A.l A.d A.c A.wr _ ‹Scr _ X _› ‹Fra _ _ _ _ _›
    | some i =>
      rw [e] at h
      have hw := hw i e
      run_tac openFn 1012
      run_tac wk3 20
      exact h _ _ A.ls A.l A.d A.c A.wr _ ‹Scr _ (joinX X x i) _› (Fra.trans ‹Fra _ A _ _ _› ‹_›)
  · have q0 : ¬ widthF X.br x = 0 := by omega
    by_cases j : X.shr = true ∧ joinedX X x = true
    · rw [if_pos (.inr j)] at h
      obtain ⟨j1, j2⟩ := j
      cases e : aheadX X with
      | none =>
        unfold joinedX at j2
        rw [e] at j2
        cases j2
      | some i =>
        rw [e] at h
        have hw := hw i e
        run_tac openFn 1012
        run_tac wk3 20
        exact h _ _ A.ls A.l A.d A.c A.wr _ ‹Scr _ (joinX X x i) _› (Fra.trans ‹Fra _ A _ _ _› ‹_›)
    · rw [if_neg (fun z => z.elim (fun z => by omega) j)] at h
      run_tac openFn 1012
      have e1 : [AV.int x] = List.map AV.int [x] := rfl
      run_tac wk3 20
      all_goals
        first
          | exact absurd ⟨‹X.shr = true›, ‹joinedX X x = true›⟩ j
          | (rw [e1]
             run_tac wk3 20
             exact h _ _ _ _ _ _ _ _ ‹Scr _ (signX X [x] _) _› (Fra.trans ‹Fra _ A _ _ _› ‹_›))
end
end Mine
end
section
open PySem PySem.W PySem.Calls PyProof.Rows
set_option Elab.async false
set_option linter.unusedVariables false
set_option linter.unusedSimpArgs false
set_option maxRecDepth 100000
set_option maxHeartbeats 0
namespace Mine
section
variable {w : WX} {n : Nat} {ℓ : Loc} {σ : AH} {K : AV → Loc → AH → Prop} {A : Ad} {X : SX} {k : Nat}
theorem Scr.keep {τ : AH} (S : Scr A X σ) (k : ∀ b o, σ b = some o → τ b = some o) : Scr A X τ :=
  { S with s := k _ _ S.s, g := k _ _ S.g, ls := k _ _ S.ls, cu := k _ _ S.cu, m := k _ _ S.m, ch := k _ _ S.ch, ma := k _ _ S.ma, nm := k _ _ S.nm, t := fun t e => k _ _ (S.t t e), mo := k _ _ S.mo, st := k _ _ S.st, wt := k _ _ S.wt, w1 := k _ _ S.w1, w2 := k _ _ S.w2, w3 := k _ _ S.w3, la := k _ _ S.la, l := fun i a b => k _ _ (S.l i a b), c := fun i a b => k _ _ (S.c i a b) }
theorem Scr.new (S : Scr A X σ) {a : Addr} {o : AO} (ha : σ a = none) : Scr A X (AH.set σ a o) := S.keep fun b ob e => by rw [AH.set_ne (ne_fresh e ha)]; exact e
theorem Scr.put (S : Scr A X σ) (a : Addr) (o : AO) (ha : σ a = none) : Scr A X (AH.set σ a o) := S.new ha
theorem Scr.own (S : Scr A X σ) {b : Addr} (ha : σ b = none) : ¬ Own A X.R b := by
  rintro ((q | q | q | q | q | q | ⟨i, i0, i2, q | q⟩) | q | q | q)
  · exact ne_fresh S.s ha q.symm
  · exact ne_fresh S.g ha q.symm
  · exact ne_fresh S.cu ha q.symm
  · exact ne_fresh S.ch ha q.symm
  · exact ne_fresh S.ma ha q.symm
  · exact ne_fresh S.st ha q.symm
  · exact ne_fresh (S.l i i0 i2) ha q.symm
  · exact ne_fresh (S.c i i0 i2) ha q.symm
  · exact ne_fresh S.la ha q.symm
  · exact ne_fresh S.ls ha q.symm
  · exact ne_fresh (S.t b q) ha rfl
/-- the width of the sign that is put again -/
def repW (X : SX) : Int := if (if X.shr = true then clusterF X.br X.last else widthF X.br (at0 X.last 0)) = 2 then 2 else 1
def repX (X : SX) : Nat → SX
  | 0 => X
  | m + 1 => if X.last = [] then repX X m else signX (repX X m) X.last (repW X)
theorem layX_last {cs : List Int} {q : Int} : (layX X cs q).last = cs := rfl
theorem signX_facts {cs : List Int} {q : Int} : (signX X cs q).R = X.R ∧ (signX X cs q).C = X.C ∧ (signX X cs q).p = X.p ∧ (signX X cs q).wraps = X.wraps ∧ (signX X cs q).ins = X.ins ∧ (signX X cs q).shr = X.shr ∧ (signX X cs q).br = X.br ∧ (signX X cs q).last = cs := by
  obtain ⟨h1, h2, h3, h4, h5, h6, h7⟩ := roomX_R (X := X) (q := q)
  unfold signX layX layP advX insX
  dsimp only
  split
  · exact ⟨h1, h2, h3, h4, h5, h6, h7, rfl⟩
  · exact ⟨h1, h2, h3, h4, h5, h6, h7, rfl⟩
theorem advX_ok {i q : Int} (o : OKX k X) (i0 : 0 ≤ i) (q0 : 0 ≤ q) : OKX k (advX X i q) := by
  have := o.C2
  unfold advX
  exact o.setCu o.r0 o.rR (by split <;> omega) (by split <;> omega)
theorem OKX.setLast (o : OKX k X) {cs : List Int} (h : cs.length ≤ k) : OKX k { X with last := cs } := { o with ll := h }
theorem layP_ok {cs : List Int} {q : Int} (o : OKX k X) (hq : q = 1 ∨ q = 2) (hcs : cs.length ≤ k) : OKX k (layP X cs q) := by
  have := o.c0
  exact (advX_ok (o.layA (cs := cs) (q := q) hcs) this (by omega)).setLast hcs
theorem signX_ok {cs : List Int} {q : Int} (o : OKX k X) (R2 : X.R = 2) (hq : q = 1 ∨ q = 2) (hcs : cs.length ≤ k) : OKX k (signX X cs q) := by
  obtain ⟨oY, hfit⟩ := roomX_ok o R2 hq
  obtain ⟨eR, eC, -⟩ := roomX_R (X := X) (q := q)
  unfold signX layX insX
  split
  · exact layP_ok (oY.ins (by omega) (by omega)) hq hcs
  · exact layP_ok oY hq hcs
theorem repX_facts (m : Nat) : (repX X m).R = X.R ∧ (repX X m).C = X.C ∧ (repX X m).shr = X.shr ∧ (repX X m).br = X.br ∧ (repX X m).last = X.last := by
  induction m with
  | zero => exact ⟨rfl, rfl, rfl, rfl, rfl⟩
  | succ m ih =>
    unfold repX
    split
    · exact ih
    · obtain ⟨h1, h2, h3, h4, h5, h6, h7, h8⟩ := signX_facts (X := repX X m) (cs := X.last) (q := repW X)
      exact ⟨h1.trans ih.1, h2.trans ih.2.1, h6.trans ih.2.2.1, h7.trans ih.2.2.2.1, h8⟩
theorem repW_in : repW X = 1 ∨ repW X = 2 := by
  unfold repW
  repeat' split
  all_goals first | exact .inl rfl | exact .inr rfl
theorem repX_ok (o : OKX k X) (R2 : X.R = 2) (m : Nat) : OKX k (repX X m) := by
  induction m with
  | zero => exact o
  | succ m ih =>
    unfold repX
    split
    · exact ih
    · exact signX_ok ih ((repX_facts m).1.trans R2) repW_in o.ll
theorem d_Screen_repeat {m : Int} (S : Scr A X σ) (o : OKX k X) (R2 : X.R = 2) (h0 : 0 ≤ m) (hm : m ≤ 1000)
    (h : ∀ la ls l d c wr τ, Scr (mvA A A.t la ls l d c wr) (repX X (min m (X.R * X.C)).toNat) τ → Fra X.R A σ (mvA A A.t la ls l d c wr) τ → K .none ℓ τ) : Cd (cx w) (n + 12) (.ref 1068) [.ref A.s, .int m] ℓ σ K := by
  have hs := S.s
  have hla := S.la
  have k5 := o.k5
  have ll := o.ll
  have C2 := o.C2
  have C9 := o.C9
  have mulOk : IntMulOk X.R X.C := IntMulOk.of_left (intBits_le_64 (by omega) (by omega))
  have hp : 0 ≤ min m (X.R * X.C) ∧ min m (X.R * X.C) ≤ 1000 := by rw [R2]; omega
  generalize hM : min m (X.R * X.C) = M at h hp
  obtain ⟨p0, p1⟩ := hp
  run_tac openFn 1068
  run_tac wk3 20
  rename_i b hb
  rw [hM]
  refine ⟨_, _, Src.rng (small_one (by omega) (by omega) (by omega) (by omega)), ?_⟩
  refine Lo.inv (fun vs ℓ' σ' => ∃ i j la ls l d c wr, vs = upto i j ∧ j ≤ M.toNat ∧ Scr (mvA A A.t la ls l d c wr) (repX X (M.toNat - j)) σ' ∧ Fra X.R A σ (mvA A A.t la ls l d c wr) σ' ∧ σ' b = some (.list (X.last.map .int)) ∧ ¬ Own (mvA A A.t la ls l d c wr) X.R b
    ∧ LS [(Str.ofString "self", .ref A.s), (Str.ofString "many", .int m), (Str.ofString "codes", .ref b)] ℓ') ?_ ?_ _ _ _ ?_
  · rintro v vs ℓ' σ' ⟨i, j, la, ls, l, d, c, wr, e, hj, S1, F1, hb1, hb2, hℓ⟩
    cases j with
    | zero => cases e
    | succ j =>
      cases e
      have eM : M.toNat - j = (M.toNat - (j + 1)) + 1 := by omega
      obtain ⟨f1, f2, f3, f4, f5⟩ := repX_facts (X := X) (M.toNat - (j + 1))
      have oY := repX_ok o R2 (M.toNat - (j + 1))
      have hn : repX X (M.toNat - j) = if X.last = [] then repX X (M.toNat - (j + 1)) else signX (repX X (M.toNat - (j + 1))) X.last (repW X) := by rw [eM]; rfl
      generalize repX X (M.toNat - (j + 1)) = Y at S1 f1 f2 f3 f4 f5 oY hn
      by_cases q : X.last = []
      · rw [if_pos q] at hn
        rw [q] at hb1
        refine As.weak hℓ ?_
        run_tac wk3 20
        exact ⟨_, j, la, ls, l, d, c, wr, rfl, by omega, by rw [hn]; exact S1.new ‹_›, F1.trans (Fra.new ‹_› fun _ q => q), by rw [AH.set_ne (ne_fresh hb1 ‹_›), q]; exact hb1, hb2, LS.app _ [_]⟩
      · rw [if_neg q] at hn
        unfold mvA at S1
        have hs : σ' A.s = some (scrO A.ds Y.R Y.C A.mo A.wt A.g A.cu A.m A.tb A.ch la) := S1.s
        have hmo : σ' A.mo = some (modO A.dmo A.st A.kp) := S1.mo
        have hst : σ' A.st = some (.dict (stL A.hi Y.wraps Y.ins Y.shr)) := S1.st
        have hsh := st_shr (hi := A.hi) (a := Y.wraps) (b := Y.ins) (c := Y.shr)
        have hg : (X.last.map AV.int)[(0 : Int).toNat]? = some (.int (at0 X.last 0)) := by
          cases e : X.last with
          | nil => exact absurd e q
          | cons a r => rfl
        have hne : (X.last.map AV.int).isEmpty = false := by
          cases e : X.last with
          | nil => exact absurd e q
          | cons a r => rfl
        have hwt : σ' A.wt = some (wtO A.dw A.w1 A.w2 A.w3) := S1.wt
        have hl0 : 0 < X.last.length := List.length_pos_iff.mpr q
        have hl1 := X.last.length_map AV.int
        have yR : Y.R = 2 := f1.trans R2
        have F2 : ∀ a o, σ' a = none → Fra X.R A σ (mvA A A.t la ls l d c wr) (AH.set σ' a o) := fun a o ha => F1.trans (Fra.new ha fun _ q => q)
        have hb3 : ∀ a o, σ' a = none → AH.set σ' a o b = some (.list (X.last.map .int)) := fun a o ha => by rw [AH.set_ne (ne_fresh hb1 ha)]; exact hb1
        refine As.weak hℓ ?_
        run_tac wk3 20
        all_goals
          have F3 := ‹Fra Y.R _ _ _ _›
          rw [f1] at F3
          first
            | exact ⟨_, j, _, _, _, _, _, _, rfl, by omega, by rw [hn, show repW X = 2 by unfold repW; rw [← f3, ← f4]; clear hn f1 f2 f3 f4 f5; simp [*]]; exact ‹Scr _ (signX Y X.last 2) _›, (F2 _ _ ‹_›).trans F3, (F3 b _ (hb3 _ _ ‹_›) hb2).1, (F3 b _ (hb3 _ _ ‹_›) hb2).2, LS.app _ [_, _]⟩
            | exact ⟨_, j, _, _, _, _, _, _, rfl, by omega, by rw [hn, show repW X = 1 by unfold repW; rw [← f3, ← f4]; clear hn f1 f2 f3 f4 f5; simp [*]]; exact ‹Scr _ (signX Y X.last 1) _›, (F2 _ _ ‹_›).trans F3, (F3 b _ (hb3 _ _ ‹_›) hb2).1, (F3 b _ (hb3 _ _ ‹_›) hb2).2, LS.app _ [_, _]⟩
  · rintro ℓ' σ' ⟨i, j, la, ls, l, d, c, wr, e, hj, S1, F1, hb1, hb2, hℓ⟩
    cases j with
    | succ j => cases e
    | zero =>
      run_tac wk3 20
      exact h _ _ _ _ _ _ _ S1 F1
  · exact ⟨0, (M - 0).toNat, A.la, A.ls, A.l, A.d, A.c, A.wr, rfl, by omega, by rw [show M.toNat - (M - 0).toNat = 0 by omega]; exact S.new hb, Fra.new hb fun _ q => q, AH.set_same, S.own hb, LS.refl _⟩
end
end Mine
end
section
open PySem PySem.W PySem.Calls PyProof.Rows
set_option Elab.async false
set_option linter.unusedVariables false
set_option linter.unusedSimpArgs false
set_option maxRecDepth 100000
set_option maxHeartbeats 0
namespace Mine
def X0 (R C : Int) (shr br : Bool) : SX := ⟨R, C, 0, 0, false, -1, fun _ => List.replicate C.toNat (blk (-1)), [], true, false, shr, br⟩
section
variable {w : WX} {n : Nat} {ℓ : Loc} {σ : AH} {K : AV → Loc → AH → Prop}
theorem c_Screen___init__ {x dx mo dmo st kp wt dw w1 w2 w3 : Addr} {C : Int} {br : Bool} (hx : σ x = none) (hC : 2 ≤ C) (hC9 : C ≤ 200) (hm : σ mo = some (modO dmo st kp)) (hs : σ st = some (.dict (stL false true false true)))
    (ht : σ wt = some (wtO dw w1 w2 w3)) (h1 : σ w1 = some (.list (rangesV (wideL br)))) (h2 : σ w2 = some (.list (rangesV marksL))) (h3 : σ w3 = some (.list (rangesV picsL)))
    (h : ∀ A τ, A.s = x → A.wt = wt → A.mo = mo → Scr A (X0 2 C true br) τ → Sub σ τ → (∀ b o, σ b = some o → b ≠ st → ¬ Own A 2 b) → K .none ℓ τ) : Cd (cx w) (n + 8) (.ref 956) [.ref x, .int 2, .int C, .ref mo, .ref wt] ℓ (AH.set σ x (.inst 1213 dx [])) K := by
  run_tac openFnN 956
  run_tac wk3 20
  rename_i g dg hg τ2 ls l0 l1 d0 d1 a0 a1 e1 e2 e3 e4 e5 n1 n2 n3 n4 n5 f1 f2 f3 f4 f5 f6 s2 cu dcu hcu mm dmm hmm tb dtb htb τ1 s1 ch dch hch τ ma nm e6 e7 n6 n7 n8 f7 f8 f9 s0 la hla
  have qg : σ g = none := by run_tac sideStep (← Lean.Elab.Tactic.getMainGoal)
  have qcu : σ cu = none := by run_tac sideStep (← Lean.Elab.Tactic.getMainGoal)
  have qch : σ ch = none := by run_tac sideStep (← Lean.Elab.Tactic.getMainGoal)
  have qma : σ ma = none := by run_tac sideStep (← Lean.Elab.Tactic.getMainGoal)
  have ql0 : σ l0 = none := by run_tac sideStep (← Lean.Elab.Tactic.getMainGoal)
  have qa0 : σ a0 = none := by run_tac sideStep (← Lean.Elab.Tactic.getMainGoal)
  have qla : σ la = none := by run_tac sideStep (← Lean.Elab.Tactic.getMainGoal)
  have qls : σ ls = none := by run_tac sideStep (← Lean.Elab.Tactic.getMainGoal)
  have ql1 : σ l1 = none := by run_tac sideStep (← Lean.Elab.Tactic.getMainGoal)
  have qa1 : σ a1 = none := by run_tac sideStep (← Lean.Elab.Tactic.getMainGoal)
  refine h { s := x, ds := dx, g := g, dg := dg, ls := ls, cu := cu, dc := dcu, m := mm, dm := dmm, tb := tb, ch := ch, dch := dch, ma := ma, nm := nm, t := none, mo := mo, dmo := dmo, st := st, kp := kp, hi := false, wt := wt, dw := dw, w1 := w1, w2 := w2, w3 := w3, la := la, l := fun i => if i = 0 then l0 else l1, d := fun i => if i = 0 then d0 else d1, c := fun i => if i = 0 then a0 else a1, wr := fun _ => false } _ rfl rfl rfl ?_ (fun p o e => ?_) ?_
  · exact {
      s := by run_tac sideStep (← Lean.Elab.Tactic.getMainGoal)
      g := by run_tac sideStep (← Lean.Elab.Tactic.getMainGoal)
      ls := by run_tac sideStep (← Lean.Elab.Tactic.getMainGoal)
      cu := by run_tac sideStep (← Lean.Elab.Tactic.getMainGoal)
      m := by run_tac sideStep (← Lean.Elab.Tactic.getMainGoal)
      ch := by run_tac sideStep (← Lean.Elab.Tactic.getMainGoal)
      ma := by run_tac sideStep (← Lean.Elab.Tactic.getMainGoal)
      nm := by run_tac sideStep (← Lean.Elab.Tactic.getMainGoal)
      mo := by run_tac sideStep (← Lean.Elab.Tactic.getMainGoal)
      st := by run_tac sideStep (← Lean.Elab.Tactic.getMainGoal)
      wt := by run_tac sideStep (← Lean.Elab.Tactic.getMainGoal)
      w1 := by run_tac sideStep (← Lean.Elab.Tactic.getMainGoal)
      w2 := by run_tac sideStep (← Lean.Elab.Tactic.getMainGoal)
      w3 := by run_tac sideStep (← Lean.Elab.Tactic.getMainGoal)
      la := by run_tac sideStep (← Lean.Elab.Tactic.getMainGoal)
      t := fun t e => by cases e
      hi := fun _ => rfl
      l := fun i h0 h => by
        rcases (show i = 0 ∨ i = 1 by have : i < 2 := h; omega) with rfl | rfl
        · show AH.set _ _ _ l0 = some (lineO d0 a0 false)
          run_tac sideStep (← Lean.Elab.Tactic.getMainGoal)
        · show AH.set _ _ _ l1 = some (lineO d1 a1 false)
          run_tac sideStep (← Lean.Elab.Tactic.getMainGoal)
      c := fun i h0 h => by
        rcases (show i = 0 ∨ i = 1 by have : i < 2 := h; omega) with rfl | rfl
        · show AH.set _ _ _ a0 = some (AO.list (rowV (List.replicate C.toNat (blk (-1)))))
          run_tac sideStep (← Lean.Elab.Tactic.getMainGoal)
        · show AH.set _ _ _ a1 = some (AO.list (rowV (List.replicate C.toNat (blk (-1)))))
          run_tac sideStep (← Lean.Elab.Tactic.getMainGoal)
      ll := fun i j a b c d z => by
        rcases (show i = 0 ∨ i = 1 by have : i < 2 := b; omega) with rfl | rfl <;> rcases (show j = 0 ∨ j = 1 by have : j < 2 := d; omega) with rfl | rfl
        · exact absurd rfl z
        · exact n2
        · exact n2.symm
        · exact absurd rfl z
      cc := fun i j a b c d z => by
        rcases (show i = 0 ∨ i = 1 by have : i < 2 := b; omega) with rfl | rfl <;> rcases (show j = 0 ∨ j = 1 by have : j < 2 := d; omega) with rfl | rfl
        · exact absurd rfl z
        · exact n3
        · exact n3.symm
        · exact absurd rfl z
      cd := fun i h0 h => by
        rcases (show i = 0 ∨ i = 1 by have : i < 2 := h; omega) with rfl | rfl
        · show a0 ≠ ls ∧ a0 ≠ nm ∧ a0 ≠ w1 ∧ a0 ≠ w2 ∧ a0 ≠ w3 ∧ a0 ≠ la
          refine ⟨n4, ?_, ?_, ?_, ?_, ?_⟩
          all_goals run_tac sideStep (← Lean.Elab.Tactic.getMainGoal)
        · show a1 ≠ ls ∧ a1 ≠ nm ∧ a1 ≠ w1 ∧ a1 ≠ w2 ∧ a1 ≠ w3 ∧ a1 ≠ la
          refine ⟨n5, ?_, ?_, ?_, ?_, ?_⟩
          all_goals run_tac sideStep (← Lean.Elab.Tactic.getMainGoal) }
  · run_tac sideStep (← Lean.Elab.Tactic.getMainGoal)
  · rintro b o e ns ((q | q | q | q | q | q | ⟨i, i0, i2, q | q⟩) | q | q | q)
    · exact ne_fresh e hx q
    · exact ne_fresh e qg q
    · exact ne_fresh e qcu q
    · exact ne_fresh e qch q
    · exact ne_fresh e qma q
    · exact ns q
    · rcases (show i = 0 ∨ i = 1 by omega) with rfl | rfl
      · exact ne_fresh e ql0 q
      · exact ne_fresh e ql1 q
    · rcases (show i = 0 ∨ i = 1 by omega) with rfl | rfl
      · exact ne_fresh e qa0 q
      · exact ne_fresh e qa1 q
    · exact ne_fresh e qla q
    · exact ne_fresh e qls q
    · cases q
theorem c_Screen___init___l {x dx mo dmo st kp wt dw w1 w2 w3 : Addr} {C : Int} {br : Bool} (hx : σ x = none) (hC : 2 ≤ C) (hC9 : C ≤ 200) (hm : σ mo = some (modO dmo st kp)) (hs : σ st = some (.dict (stL false true false true)))
    (ht : σ wt = some (wtO dw w1 w2 w3)) (h1 : σ w1 = some (.list (rangesV (wideL br)))) (h2 : σ w2 = some (.list (rangesV marksL))) (h3 : σ w3 = some (.list (rangesV picsL)))
    (h : ∀ A τ, A.s = x → A.wt = wt → A.mo = mo → Scr A (X0 1 C true br) τ → Sub σ τ → (∀ b o, σ b = some o → b ≠ st → ¬ Own A 1 b) → K .none ℓ τ) : Cd (cx w) (n + 8) (.ref 956) [.ref x, .int 1, .int C, .ref mo, .ref wt] ℓ (AH.set σ x (.inst 1213 dx [])) K := by
  run_tac openFnN 956
  run_tac wk3 20
  rename_i g dg hg τ2 ls l0 d0 a0 e1 e2 e4 n1 n4 f1 f2 f3 f5 s2 cu dcu hcu mm dmm hmm tb dtb htb τ1 s1 ch dch hch τ ma nm e6 e7 n6 n7 n8 f7 f8 f9 s0 la hla
  have qg : σ g = none := by run_tac sideStep (← Lean.Elab.Tactic.getMainGoal)
  have qcu : σ cu = none := by run_tac sideStep (← Lean.Elab.Tactic.getMainGoal)
  have qch : σ ch = none := by run_tac sideStep (← Lean.Elab.Tactic.getMainGoal)
  have qma : σ ma = none := by run_tac sideStep (← Lean.Elab.Tactic.getMainGoal)
  have ql0 : σ l0 = none := by run_tac sideStep (← Lean.Elab.Tactic.getMainGoal)
  have qa0 : σ a0 = none := by run_tac sideStep (← Lean.Elab.Tactic.getMainGoal)
  have qla : σ la = none := by run_tac sideStep (← Lean.Elab.Tactic.getMainGoal)
  have qls : σ ls = none := by run_tac sideStep (← Lean.Elab.Tactic.getMainGoal)
  refine h { s := x, ds := dx, g := g, dg := dg, ls := ls, cu := cu, dc := dcu, m := mm, dm := dmm, tb := tb, ch := ch, dch := dch, ma := ma, nm := nm, t := none, mo := mo, dmo := dmo, st := st, kp := kp, hi := false, wt := wt, dw := dw, w1 := w1, w2 := w2, w3 := w3, la := la, l := fun _ => l0, d := fun _ => d0, c := fun _ => a0, wr := fun _ => false } _ rfl rfl rfl ?_ (fun p o e => ?_) ?_
  · exact {
      s := by run_tac sideStep (← Lean.Elab.Tactic.getMainGoal)
      g := by run_tac sideStep (← Lean.Elab.Tactic.getMainGoal)
      ls := by run_tac sideStep (← Lean.Elab.Tactic.getMainGoal)
      cu := by run_tac sideStep (← Lean.Elab.Tactic.getMainGoal)
      m := by run_tac sideStep (← Lean.Elab.Tactic.getMainGoal)
      ch := by run_tac sideStep (← Lean.Elab.Tactic.getMainGoal)
      ma := by run_tac sideStep (← Lean.Elab.Tactic.getMainGoal)
      nm := by run_tac sideStep (← Lean.Elab.Tactic.getMainGoal)
      mo := by run_tac sideStep (← Lean.Elab.Tactic.getMainGoal)
      st := by run_tac sideStep (← Lean.Elab.Tactic.getMainGoal)
      wt := by run_tac sideStep (← Lean.Elab.Tactic.getMainGoal)
      w1 := by run_tac sideStep (← Lean.Elab.Tactic.getMainGoal)
      w2 := by run_tac sideStep (← Lean.Elab.Tactic.getMainGoal)
      w3 := by run_tac sideStep (← Lean.Elab.Tactic.getMainGoal)
      la := by run_tac sideStep (← Lean.Elab.Tactic.getMainGoal)
      t := fun t e => by cases e
      hi := fun _ => rfl
      l := fun i h0 h => by
        show AH.set _ _ _ l0 = some (lineO d0 a0 false)
        run_tac sideStep (← Lean.Elab.Tactic.getMainGoal)
      c := fun i h0 h => by
        show AH.set _ _ _ a0 = some (AO.list (rowV (List.replicate C.toNat (blk (-1)))))
        run_tac sideStep (← Lean.Elab.Tactic.getMainGoal)
      ll := fun i j a b c d z => absurd (show i = j by have : i < 1 := b; have : j < 1 := d; omega) z
      cc := fun i j a b c d z => absurd (show i = j by have : i < 1 := b; have : j < 1 := d; omega) z
      cd := fun i h0 h => by
        show a0 ≠ ls ∧ a0 ≠ nm ∧ a0 ≠ w1 ∧ a0 ≠ w2 ∧ a0 ≠ w3 ∧ a0 ≠ la
        refine ⟨n4, ?_, ?_, ?_, ?_, ?_⟩
        all_goals run_tac sideStep (← Lean.Elab.Tactic.getMainGoal) }
  · run_tac sideStep (← Lean.Elab.Tactic.getMainGoal)
  · rintro b o e ns ((q | q | q | q | q | q | ⟨i, i0, i2, q | q⟩) | q | q | q)
    · exact ne_fresh e hx q
    · exact ne_fresh e qg q
    · exact ne_fresh e qcu q
    · exact ne_fresh e qch q
    · exact ne_fresh e qma q
    · exact ns q
    · exact ne_fresh e ql0 q
    · exact ne_fresh e qa0 q
    · exact ne_fresh e qla q
    · exact ne_fresh e qls q
    · cases q
end
end Mine
end
section
open PySem PySem.W PySem.Calls PyProof.Rows
set_option Elab.async false
set_option linter.unusedVariables false
set_option linter.unusedSimpArgs false
set_option maxRecDepth 100000
set_option maxHeartbeats 0
namespace Mine
def deckO (ca : Addr) (k : Int) : AO := .dict [(Str.ofString "cells", .ref ca), (Str.ofString "place", .int k)]
/-- the k-th draw -/
def takeF (xs : List Int) (k : Int) : Int := if k < xs.length then xs.getD k.toNat 0 else k * 5 + k / 3
/-- a border through a wide sign: both its cells are wiped -/
def cutF (cs : List Cell) (i : Int) : List Cell := if 0 < i ∧ i < cs.length ∧ (at' cs i).wd = 0 then splice (some (i - 1)) (some (i + 1)) cs (List.replicate 2 (blk (at' cs i).bg)) else cs
def tileF (xs : List Int) (q b : Int) : List Cell := if q = 2 then [⟨xs, 2, b⟩, ⟨[], 0, b⟩] else [⟨xs, 1, b⟩]
def lsetF (cs : List Cell) (i : Int) (xs : List Int) (q b : Int) : List Cell := splice (some i) (some (i + q)) (cutF (cutF cs i) (i + q)) (tileF xs q b)
/-- what the law keeps of a screen -/
def wO (C : Int) (wd : List Int) (r c : Int) (wt : Bool) (p : Int) (wr ins sh : Bool) (last : List Int) (cl rs : Addr) : AO := .dict [(Str.ofString "columns", .int C), (Str.ofString "wide", .tup (wd.map .int)), (Str.ofString "row", .int r), (Str.ofString "column", .int c), (Str.ofString "waits", .bool wt), (Str.ofString "pen", penV p), (Str.ofString "wraps", .bool wr), (Str.ofString "inserts", .bool ins), (Str.ofString "shares", .bool sh), (Str.ofString "last", .tup (last.map .int)), (Str.ofString "codes", .ref cl), (Str.ofString "rows", .ref rs)]
section
variable {w : WX} {n : Nat} {ℓ : Loc} {σ : AH} {K : AV → Loc → AH → Prop}
theorem c__law_take {dk ca : Addr} {k b : Int} {xs : List Int} (hd : σ dk = some (deckO ca k)) (hc : σ ca = some (.list (xs.map .int))) (hx : xs.length ≤ 63) (k0 : 0 ≤ k) (k9 : k ≤ 1000) (hb : 0 < b) (h : K (.int (takeF xs k % b)) ℓ (AH.set σ dk (deckO ca (k + 1)))) : Cd (cx w) (n + 1) (.ref 1274) [.ref dk, .int b] ℓ σ K := by
  have hl := xs.length_map AV.int
  have mulOk : IntMulOk k 5 := IntMulOk.of_right (intBits_le_64 (by omega) (by omega))
  unfold takeF at h
  by_cases q : k < xs.length
  · rw [if_pos q] at h
    have g : (xs.map AV.int)[k.toNat]? = some (.int (xs.getD k.toNat 0)) := by
      have : k.toNat < xs.length := by omega
      simp [List.getD, this]
    run_tac openFn 1274
    run_tac wk3 20
    exact h
  · rw [if_neg q] at h
    run_tac openFn 1274
    run_tac wk3 20
    exact h
theorem c__law_bare {b : Int} (h : K (cellV (blk b)) ℓ σ) : Cd (cx w) (n + 1) (.ref 1288) [penV b] ℓ σ K := by
  unfold penV
  run_tac openFn 1288
  run_tac wk3 20
  exact h
theorem c__law_cut {a : Addr} {cs : List Cell} {i : Int} (ha : σ a = some (.list (rowV cs))) (hz : cs.length ≤ 900) (hi : i ≤ 1000) (h : K .none ℓ (AH.set σ a (.list (rowV (cutF cs i))))) : Cd (cx w) (n + 2) (.ref 1295) [.ref a, .int i] ℓ σ K := by
  refine Cd.forget ?_
  have hl := row_len cs
  unfold cutF at h
  by_cases q : 0 < i ∧ i < cs.length ∧ (at' cs i).wd = 0
  · rw [if_pos q] at h
    obtain ⟨q1, q2, q3⟩ := q
    run_tac openFn 1295
    run_tac wk3 20
    rw [reps_one, row_rep]
    run_tac wk3 20
    exact ⟨_, by run_tac subTac, h⟩
  · rw [if_neg q] at h
    have e := set_id ha
    rw [e] at h
    run_tac openFn 1295
    run_tac wk3 20
    all_goals first | exact ⟨_, Sub.refl _, h⟩ | exact absurd ⟨‹_›, ‹_›, ‹_›⟩ q
theorem cutF_len {cs : List Cell} {i : Int} : (cutF cs i).length = cs.length := by
  unfold cutF
  split
  · rename_i q
    obtain ⟨q1, q2, _⟩ := q
    simp only [splice, clip_in (show (0 : Int) ≤ i - 1 by omega) (show i - 1 ≤ ((cs.length : Nat) : Int) by omega), clip_in (show (0 : Int) ≤ i + 1 by omega) (show i + 1 ≤ ((cs.length : Nat) : Int) by omega), List.length_append, List.length_take, List.length_drop, List.length_replicate]
    generalize cs.length = N at *
    obtain ⟨I, hI⟩ := Int.eq_ofNat_of_zero_le (show 0 ≤ i - 1 by omega)
    rw [show (i - 1).toNat = I by omega, show (i + 1).toNat = I + 2 by omega, Nat.min_eq_left (show I ≤ N by omega), Nat.max_eq_right (show I ≤ I + 2 by omega)]
    omega
  · rfl
theorem c__law_set {a : Addr} {cs : List Cell} {xs : List Int} {i q b : Int} (ha : σ a = some (.list (rowV cs))) (hz : cs.length ≤ 500) (hi : 0 ≤ i) (hi' : i ≤ 600) (hq : q = 1 ∨ q = 2) (h : K .none ℓ (AH.set σ a (.list (rowV (lsetF cs i xs q b))))) : Cd (cx w) (n + 3) (.ref 1302) [.ref a, .int i, .tup (xs.map .int), .int q, penV b] ℓ σ K := by
  refine Cd.forget ?_
  have hl := row_len cs
  have h1 := cutF_len (cs := cs) (i := i)
  have h2 := cutF_len (cs := cutF cs i) (i := i + q)
  unfold lsetF tileF at h
  rcases hq with rfl | rfl
  · run_tac openFn 1302
    run_tac wk3 20
    rw [show splice (some i) (some (i + 1)) (rowV (cutF (cutF cs i) (i + 1))) (cut none (some 1) [AV.tup [.tup (xs.map .int), .int 1, penV b, .bool false], .tup [.tup [], .int 0, penV b, .bool false]]) = rowV (splice (some i) (some (i + 1)) (cutF (cutF cs i) (i + 1)) [⟨xs, 1, b⟩]) from splice_map cellV _ _ _ [⟨xs, 1, b⟩]]
    exact ⟨_, by run_tac subTac, h⟩
  · run_tac openFn 1302
    run_tac wk3 20
    rw [show splice (some i) (some (i + 2)) (rowV (cutF (cutF cs i) (i + 2))) (cut none (some 2) [AV.tup [.tup (xs.map .int), .int 2, penV b, .bool false], .tup [.tup [], .int 0, penV b, .bool false]]) = rowV (splice (some i) (some (i + 2)) (cutF (cutF cs i) (i + 2)) [⟨xs, 2, b⟩, ⟨[], 0, b⟩]) from splice_map cellV _ _ _ [⟨xs, 2, b⟩, ⟨[], 0, b⟩]]
    exact ⟨_, by run_tac subTac, h⟩
theorem c__law_behind {d cl rs : Addr} {C r c p i : Int} {wd last : List Int} {wt wr ins sh : Bool} (hd : σ d = some (wO C wd r c wt p wr ins sh last cl rs)) (h : K .none ℓ (AH.set σ d (wO C wd r (min i (C - 1)) (decide (C ≤ i)) p wr ins sh last cl rs))) : Cd (cx w) (n + 1) (.ref 1309) [.ref d, .int i] ℓ σ K := by
  run_tac openFn 1309
  run_tac wk3 20
  exact h
end
end Mine
end
section
open PySem PySem.W PySem.Calls PyProof.Rows
set_option Elab.async false
set_option linter.unusedVariables false
set_option linter.unusedSimpArgs false
set_option maxRecDepth 100000
set_option maxHeartbeats 0
namespace Mine
def laheadF (cs : List Cell) (c : Int) (wt : Bool) : Int :=
  let i := if wt = true then c else c - 1
  let j := if 0 ≤ i ∧ (at' cs i).wd = 0 then i - 1 else i
  if 0 ≤ j ∧ (at' cs j).codes ≠ [] then j else -1
def lmarks : List Int := [769, 8205, 65039, 8419]
def lregs : List Int := [127462, 127463]
def lpics : List Int := [10084, 128512, 128513]
def lbelongsF (cs : List Int) (x : Int) : Bool :=
  if lmarks.contains x = true then true
  else if lregs.contains x = true then lregs.contains (lastI cs) && (((cs.filter lregs.contains).length : Int) == 1)
  else if x = 127995 then lpics.contains (bareF cs)
  else lpics.contains x && (lpics.contains (at0 cs 0) && (lastI cs == 8205))
def lwideF (wd cs : List Int) : Bool :=
  if wd.contains (at0 cs 0) = true then true
  else if lregs.contains (at0 cs 0) = true then decide (1 < (cs.length : Int)) && lregs.contains (at0 cs 1)
  else if lpics.contains (at0 cs 0) = true then cs.contains 65039 || cs.contains 127995
  else [49, 35].contains (at0 cs 0) && decide (cut (some 1) (some 3) cs = [65039, 8419])
section
variable {w : WX} {n : Nat} {ℓ : Loc} {σ : AH} {K : AV → Loc → AH → Prop}
theorem c__law_ahead {d cl rs a : Addr} {rl : List AV} {cs : List Cell} {C r c p : Int} {wd last : List Int} {wt wr ins sh : Bool} (hd : σ d = some (wO C wd r c wt p wr ins sh last cl rs)) (hr : σ rs = some (.list rl)) (hv : rl[r.toNat]? = some (.ref a)) (r0 : 0 ≤ r) (r2 : r ≤ 10) (ha : σ a = some (.list (rowV cs))) (hz : cs.length ≤ 900) (c0 : 0 ≤ c) (cC : c < cs.length) (h : K (.int (laheadF cs c wt)) ℓ σ) : Cd (cx w) (n + 1) (.ref 1330) [.ref d] ℓ σ K := by
  have hl := row_len cs
  cases wt
  all_goals
    run_tac openFn 1330
    run_tac wk3 20
    all_goals refine (fun v (e : laheadF cs c _ = v) => (e ▸ h : K (.int v) ℓ σ)) _ ?_
    all_goals clear h hd hr hv ha
    all_goals unfold laheadF
    all_goals dsimp only
    all_goals repeat' split
    all_goals first | rfl | omega | (exfalso; simp_all; done) | (exfalso; simp_all; omega)
theorem c__law_belongs {cs : List Int} {x : Int} (hz : cs.length ≤ 1000) (q : cs ≠ []) (h : K (.bool (lbelongsF cs x)) ℓ σ) : Cd (cx w) (n + 1) (.ref 1335) [.tup (cs.map .int), .int x] ℓ σ K := by
  refine Cd.forget ?_
  have hl := cs.length_map AV.int
  have h0 := List.length_pos_iff.mpr q
  have e0 := s0 q
  have e1 := s1 q
  have g0 : (cs.map AV.int)[0]? = some (.int (at0 cs 0)) := ints_get (by omega)
  have g1 : (cs.map AV.int)[cs.length - 1]? = some (.int (lastI cs)) := ints_get (by omega)
  have fin : ∀ b, lbelongsF cs x = b → ∃ σ₁, Sub σ₁ σ ∧ K (.bool b) ℓ σ₁ := fun b e => ⟨σ, Sub.refl _, e ▸ h⟩
  unfold lbelongsF bareF at fin
  by_cases q1 : 1 < cs.length
  · have e2 := s2 q1
    have g2 : (cs.map AV.int)[cs.length - 2]? = some (.int (at0 cs (cs.length - 2))) := ints_get (by omega)
    run_tac openFn 1335
    run_tac wk3 20
    all_goals try exact fin _ (by clear fin h; (try (have e := ‹x = 127995›; subst e)); simp only [lmarks, lregs, lpics, *, if_true, if_false, Bool.false_eq_true, Bool.true_and, Bool.false_and, Bool.and_true, Bool.and_false, Bool.true_or, Bool.false_or, Bool.or_true, not_true_eq_false, not_false_eq_true, and_self, true_and, false_and, and_false, decide_true, decide_false, ne_eq])
    · refine Lc.filter lregs.contains (fun _ => by kernel_rfl) (by rfl) (fun _ _ g => g) (fun i ℓ τ K' hk hK => ?_) cs [] _ _ trivial AH.set_same (by simp only [List.length_nil, sizeLine_eq]; omega) ?_
      · run_tac wk3 10
        exact hK
      · rw [set_set, List.nil_append]
        have hf := List.length_filter_le lregs.contains cs
        run_tac wk3 10
        refine ⟨σ, ?_, ?_⟩
        · run_tac subTac
        · refine (fun b (e : lbelongsF cs x = b) => (e ▸ h : K (.bool b) ℓ σ)) _ ?_
          unfold lbelongsF
          clear fin h
          simp only [lmarks, lregs, lpics, *, if_true, if_false, Bool.false_eq_true, Bool.true_and]
          rw [List.length_map]
  · run_tac openFn 1335
    run_tac wk3 20
    all_goals try exact fin _ (by clear fin h; (try (have e := ‹x = 127995›; subst e)); simp only [lmarks, lregs, lpics, *, if_true, if_false, Bool.false_eq_true, Bool.true_and, Bool.false_and, Bool.and_true, Bool.and_false, Bool.true_or, Bool.false_or, Bool.or_true, not_true_eq_false, not_false_eq_true, and_self, true_and, false_and, and_false, decide_true, decide_false, ne_eq])
    · refine Lc.filter lregs.contains (fun _ => by kernel_rfl) (by rfl) (fun _ _ g => g) (fun i ℓ τ K' hk hK => ?_) cs [] _ _ trivial AH.set_same (by simp only [List.length_nil, sizeLine_eq]; omega) ?_
      · run_tac wk3 10
        exact hK
      · rw [set_set, List.nil_append]
        have hf := List.length_filter_le lregs.contains cs
        run_tac wk3 10
        refine ⟨σ, ?_, ?_⟩
        · run_tac subTac
        · refine (fun b (e : lbelongsF cs x = b) => (e ▸ h : K (.bool b) ℓ σ)) _ ?_
          unfold lbelongsF
          clear fin h
          simp only [lmarks, lregs, lpics, *, if_true, if_false, Bool.false_eq_true, Bool.true_and]
          rw [List.length_map]
theorem c__law_is_wide {d cl rs : Addr} {cs : List Int} {C r c p : Int} {wd last : List Int} {wt wr ins sh : Bool} (hd : σ d = some (wO C wd r c wt p wr ins sh last cl rs)) (hz : cs.length ≤ 1000) (q : cs ≠ []) (h : K (.bool (lwideF wd cs)) ℓ σ) : Cd (cx w) (n + 1) (.ref 1342) [.ref d, .tup (cs.map .int)] ℓ σ K := by
  have hl := cs.length_map AV.int
  have h0 := List.length_pos_iff.mpr q
  have e0 := s0 q
  have g0 : (cs.map AV.int)[0]? = some (.int (at0 cs 0)) := ints_get (by omega)
  by_cases q1 : 1 < cs.length
  · have e1 : seqIndex? 1 (cs.map AV.int).length = some 1 := sI (by omega) (.inl rfl)
    have g1 : (cs.map AV.int)[1]? = some (.int (at0 cs 1)) := ints_get (by omega)
    have d1 : decide (1 < (cs.length : Int)) = true := decide_eq_true (by omega)
    run_tac openFn 1342
    run_tac wk3 20
    all_goals exact (congrArg (fun z => K (.bool z) ℓ σ) (by clear h; unfold lwideF; simp only [lmarks, lregs, lpics, *, if_true, if_false, Bool.false_eq_true, Bool.true_and, Bool.false_and, Bool.and_true, Bool.and_false, Bool.true_or, Bool.false_or, Bool.or_true, not_true_eq_false, not_false_eq_true, and_self, true_and, false_and, and_false, decide_true, decide_false, ne_eq])).mp h
  · have d1 : decide (1 < (cs.length : Int)) = false := decide_eq_false (by omega)
    run_tac openFn 1342
    run_tac wk3 20
    all_goals exact (congrArg (fun z => K (.bool z) ℓ σ) (by clear h; unfold lwideF; simp only [lmarks, lregs, lpics, *, if_true, if_false, Bool.false_eq_true, Bool.true_and, Bool.false_and, Bool.and_true, Bool.and_false, Bool.true_or, Bool.false_or, Bool.or_true, not_true_eq_false, not_false_eq_true, and_self, true_and, false_and, and_false, decide_true, decide_false, ne_eq])).mp h
end
end Mine
end
section
open PySem PySem.W PySem.Calls PyProof.Rows
set_option Elab.async false
set_option linter.unusedVariables false
set_option linter.unusedSimpArgs false
set_option maxRecDepth 100000
set_option maxHeartbeats 0
namespace Mine
/-- the law's own addresses -/
structure LAd where
  d : Addr
  cl : Addr
  rs : Addr
  c : Int → Addr
def wideT (br : Bool) : List Int := [19968, 128512, 128513] ++ if br = true then [127995] else []
/-- the law's own state -/
structure Lw (B : LAd) (X : SX) (cd : List Int) (σ : AH) : Prop where
  d : σ B.d = some (wO X.C (wideT X.br) X.r X.c X.wt X.p X.wraps X.ins X.shr X.last B.cl B.rs)
  cl : σ B.cl = some (.list (cd.map .int))
  rs : σ B.rs = some (.list [.ref (B.c 0), .ref (B.c 1)])
  c : ∀ i, 0 ≤ i → i < 2 → σ (B.c i) = some (.list (rowV (X.rows i)))
  ne : B.c 0 ≠ B.c 1
  nl : ∀ i, 0 ≤ i → i < 2 → B.c i ≠ B.cl ∧ B.c i ≠ B.rs
  nr : B.rs ≠ B.cl
def OwnL (B : LAd) (b : Addr) : Prop := b = B.d ∨ b = B.cl ∨ b = B.rs ∨ b = B.c 0 ∨ b = B.c 1
def FraL (B : LAd) (σ : AH) (B' : LAd) (σ' : AH) : Prop := ∀ b o, σ b = some o → ¬ OwnL B b → σ' b = some o ∧ ¬ OwnL B' b
theorem FraL.refl (B : LAd) (σ : AH) : FraL B σ B σ := fun b o e h => ⟨e, h⟩
theorem FraL.trans {B B' B'' : LAd} {σ σ' σ'' : AH} (x : FraL B σ B' σ') (y : FraL B' σ' B'' σ'') : FraL B σ B'' σ'' := fun b o e h => let q := x b o e h; y b o q.1 q.2
theorem FraL.set {B : LAd} {σ : AH} {a : Addr} {o : AO} (ha : OwnL B a) : FraL B σ B (AH.set σ a o) := fun b ob e h => ⟨by rw [AH.set_ne (fun q => h (by rw [q]; exact ha))]; exact e, h⟩
theorem FraL.new {B : LAd} {σ : AH} {a : Addr} {o : AO} (ha : σ a = none) : FraL B σ B (AH.set σ a o) := fun b ob e h => ⟨by rw [AH.set_ne (ne_fresh e ha)]; exact e, h⟩
theorem two {i : Int} (h0 : 0 ≤ i) (h : i < 2) : i = 0 ∨ i = 1 := by omega
theorem OwnL.row {B : LAd} {i : Int} (h0 : 0 ≤ i) (h : i < 2) : OwnL B (B.c i) := by
  rcases two h0 h with rfl | rfl
  · exact .inr (.inr (.inr (.inl rfl)))
  · exact .inr (.inr (.inr (.inr rfl)))
theorem Lw.setD {B : LAd} {X : SX} {cd : List Int} {σ : AH} (S : Lw B X cd σ) (r c : Int) (wt : Bool) (p : Int) (wr ins sh : Bool) (last : List Int) :
    Lw B { X with r := r, c := c, wt := wt, p := p, wraps := wr, ins := ins, shr := sh, last := last } cd (AH.set σ B.d (wO X.C (wideT X.br) r c wt p wr ins sh last B.cl B.rs)) := by
  have k : ∀ b vs, σ b = some (.list vs) → AH.set σ B.d (wO X.C (wideT X.br) r c wt p wr ins sh last B.cl B.rs) b = some (.list vs) := fun b vs e => by rw [AH.set_ne (fun q => by subst q; rw [S.d] at e; cases e)]; exact e
  exact { S with d := AH.set_same, cl := k _ _ S.cl, rs := k _ _ S.rs, c := fun i a b => k _ _ (S.c i a b) }
theorem Lw.setRow {B : LAd} {X : SX} {cd : List Int} {σ : AH} (S : Lw B X cd σ) (i : Int) (cs : List Cell) (h0 : 0 ≤ i) (hi : i < 2) :
    Lw B { X with rows := fun j => if j = i then cs else X.rows j } cd (AH.set σ (B.c i) (.list (rowV cs))) := by
  have e := S.c i h0 hi
  exact { S with
    d := by rw [AH.set_ne (fun q => by have := S.d; rw [q, e] at this; cases this)]; exact S.d
    cl := by rw [AH.set_ne (S.nl i h0 hi).1.symm]; exact S.cl
    rs := by rw [AH.set_ne (S.nl i h0 hi).2.symm]; exact S.rs
    c := fun j a b => (by
      by_cases z : j = i
      · subst z; rw [AH.set_same]; simp only [if_true]
      · rw [AH.set_ne (by
          rcases two h0 hi with rfl | rfl <;> rcases two a b with rfl | rfl
          · exact absurd rfl z
          · exact S.ne.symm
          · exact S.ne
          · exact absurd rfl z)]; simp only [if_neg z]; exact S.c j a b) }
/-- a new list of rows -/
theorem Lw.next {B : LAd} {X : SX} {cd : List Int} {σ : AH} (S : Lw B X cd σ) {x a : Addr} {cs : List Cell} (hx : σ x = none) (ha : σ a = none) (xa : x ≠ a) (r c : Int) (wt : Bool) {τ : AH}
    (t : ∀ b o, b ≠ B.d → σ b = some o → τ b = some o) (td : τ B.d = some (wO X.C (wideT X.br) r c wt X.p X.wraps X.ins X.shr X.last B.cl x)) (tx : τ x = some (.list [.ref (B.c 1), .ref a])) (ta : τ a = some (.list (rowV cs))) :
    Lw { B with rs := x, c := fun i => if i = 0 then B.c 1 else a } { X with r := r, c := c, wt := wt, rows := fun i => if i = 0 then X.rows 1 else cs } cd τ := by
  have k : ∀ b vs, σ b = some (.list vs) → τ b = some (.list vs) := fun b vs e => t _ _ (fun q => by subst q; rw [S.d] at e; cases e) e
  have c1 := S.c 1 (by decide) (by decide)
  exact { d := td, cl := k _ _ S.cl, rs := tx
          c := fun i h0 h => (by
            rcases two h0 h with rfl | rfl
            · exact k _ _ c1
            · exact ta)
          ne := ne_fresh c1 ha
          nl := fun i h0 h => (by
            rcases two h0 h with rfl | rfl
            · exact ⟨(S.nl 1 (by decide) (by decide)).1, ne_fresh c1 hx⟩
            · exact ⟨(ne_fresh S.cl ha).symm, xa.symm⟩)
          nr := (ne_fresh S.cl hx).symm }
theorem FraL.next {B : LAd} {σ τ : AH} {x a : Addr} (hx : σ x = none) (ha : σ a = none) (t : ∀ b o, b ≠ B.d → σ b = some o → τ b = some o) : FraL B σ { B with rs := x, c := fun i => if i = 0 then B.c 1 else a } τ := fun b o e h => ⟨t b o (fun q => h (.inl q)) e, fun q => by
  rcases q with q | q | q | q | q
  · exact h (.inl q)
  · exact h (.inr (.inl q))
  · exact ne_fresh e hx q
  · exact h (.inr (.inr (.inr (.inr q))))
  · exact ne_fresh e ha q⟩
section
variable {w : WX} {n : Nat} {ℓ : Loc} {σ : AH} {K : AV → Loc → AH → Prop} {B : LAd} {X : SX} {k : Nat} {cd : List Int}
def lupB (B : LAd) (rs : Addr) (c : Int → Addr) : LAd := { B with rs := rs, c := c }
theorem d__law_next (S : Lw B X cd σ) (o : OKX k X) (R2 : X.R = 2) (h : ∀ rs c τ, Lw (lupB B rs c) (nextX X) cd τ → FraL B σ (lupB B rs c) τ → K .none ℓ τ) : Cd (cx w) (n + 2) (.ref 1316) [.ref B.d] ℓ σ K := by
  have r0 := o.r0
  have rR := o.rR
  have C2 := o.C2
  have C9 := o.C9
  unfold nextX nextRows at h
  by_cases r1 : X.r = 1
  · rw [if_pos r1] at h
    run_tac openFn 1316
    run_tac wk3 20
    rename_i t0 e0 b eb x ex
    have e0' := (fresh_set e0).1
    have eb' := (fresh_set (fresh_set eb).1).1
    have ex' := (fresh_set (fresh_set (fresh_set ex).1).1).1
    have xb := (fresh_set ex).2
    rw [reps_one, row_rep, r1]
    have t : ∀ p o, p ≠ B.d → σ p = some o → AH.set (AH.set (AH.set (AH.set (AH.set σ B.d (wO X.C (wideT X.br) 1 0 false X.p X.wraps X.ins X.shr X.last B.cl B.rs)) t0 (.list [cellV (blk X.p)])) b (.list (rowV (List.replicate X.C.toNat (blk X.p))))) x (.list [.ref (B.c 1), .ref b])) B.d (wO X.C (wideT X.br) 1 0 false X.p X.wraps X.ins X.shr X.last B.cl x) p = some o := fun p o q e => by
      rw [AH.set_ne q, AH.set_ne (ne_fresh e ex'), AH.set_ne (ne_fresh e eb'), AH.set_ne (ne_fresh e e0'), AH.set_ne q]; exact e
    have xd : x ≠ B.d := (ne_fresh S.d ex').symm
    have bd : b ≠ B.d := (ne_fresh S.d eb').symm
    exact h _ _ _ (S.next ex' eb' xb 1 0 false t AH.set_same (by rw [AH.set_ne xd, AH.set_same]) (by rw [AH.set_ne bd, AH.set_ne xb.symm, AH.set_same])) (FraL.next ex' eb' t)
  · have r3 : X.r = 0 := by omega
    rw [if_neg r1] at h
    run_tac openFn 1316
    run_tac wk3 20
    exact h B.rs B.c _ (S.setD 1 0 false _ _ _ _ _) (FraL.set (.inl rfl))
end
end Mine
end
section
open PySem PySem.W PySem.Calls PyProof.Rows
set_option Elab.async false
set_option linter.unusedVariables false
set_option linter.unusedSimpArgs false
set_option maxRecDepth 100000
set_option maxHeartbeats 0
namespace Mine
def linsF (cs : List Cell) (c q C p : Int) : List Cell := splice (some c) none (cutF (cutF cs c) (C - q)) (List.replicate q.toNat (blk p) ++ cut (some c) (some (C - q)) (cutF (cutF cs c) (C - q)))
def lroomX (X : SX) (q : Int) : SX :=
  let Y := if X.wt = true ∧ X.wraps = true then nextX X else X
  if q = 2 ∧ Y.c = X.C - 1 then (if X.wraps = true then nextX Y else { Y with c := X.C - 1 - 1 }) else Y
def linsX (X : SX) (q : Int) : SX := if X.ins = true then { X with rows := fun j => if j = X.r then linsF (X.rows X.r) X.c q X.C X.p else X.rows j } else X
def llayP (X : SX) (cs : List Int) (q : Int) : SX := { X with rows := fun j => if j = X.r then lsetF (X.rows X.r) X.c cs q X.p else X.rows j, c := min (X.c + q) (X.C - 1), wt := decide (X.C ≤ X.c + q), last := cs }
def lsignX (X : SX) (cs : List Int) (q : Int) : SX := llayP (linsX (lroomX X q) q) cs q
theorem linsF_len {cs : List Cell} {c q C p : Int} (h0 : 0 ≤ c) (h1 : 1 ≤ q) (h2 : c + q ≤ C) (hC : (cs.length : Int) = C) : (linsF cs c q C p).length = cs.length := by
  have a := cutF_len (cs := cutF cs c) (i := C - q)
  have b := cutF_len (cs := cs) (i := c)
  unfold linsF
  generalize cutF (cutF cs c) (C - q) = D at a
  have e : D.length = cs.length := a.trans b
  have e0 : clipN none D.length D.length = D.length := rfl
  simp only [splice, cut, e0, clip_in h0 (show c ≤ ((D.length : Nat) : Int) by omega), clip_in (show (0 : Int) ≤ C - q by omega) (show C - q ≤ ((D.length : Nat) : Int) by omega), List.length_append, List.length_take, List.length_drop, List.length_replicate]
  rw [← e]
  have hC : ((D.length : Nat) : Int) = C := by rw [e]; exact hC
  clear a b e e0 p
  generalize D.length = N at *
  subst hC
  obtain ⟨I, rfl⟩ := Int.eq_ofNat_of_zero_le h0
  obtain ⟨M, rfl⟩ := Int.eq_ofNat_of_zero_le (show 0 ≤ q by omega)
  rw [show ((I : Int)).toNat = I from rfl, show ((M : Int)).toNat = M from rfl, show ((N : Int) - M).toNat = N - M by omega, Nat.min_eq_left (show I ≤ N by omega), Nat.min_eq_left (show N - M - I ≤ N - I by omega), Nat.max_eq_right (show I ≤ N by omega)]
  omega
theorem rows_twice {i : Int} {f g : List Cell} {r : Int → List Cell} : (fun j => if j = i then g else if j = i then f else r j) = fun j => if j = i then g else r j := by
  funext j
  by_cases e : j = i
  · rw [if_pos e, if_pos e]
  · rw [if_neg e, if_neg e, if_neg e]
theorem llayP_ins {X : SX} {f : List Cell} {cs : List Int} {q : Int} : llayP { X with rows := fun j => if j = X.r then f else X.rows j } cs q = { X with rows := fun j => if j = X.r then lsetF f X.c cs q X.p else X.rows j, c := min (X.c + q) (X.C - 1), wt := decide (X.C ≤ X.c + q), last := cs } := by
  unfold llayP
  dsimp only
  rw [if_pos rfl, rows_twice]
theorem cut_le {α : Type} (i j : Option Int) (l : List α) : (cut i j l).length ≤ l.length := by
  unfold cut
  rw [List.length_take, List.length_drop]
  omega
theorem splice_row (i j : Option Int) (a b : List Cell) : splice i j (rowV a) (rowV b) = rowV (splice i j a b) := splice_map cellV i j a b
theorem cut_row (i j : Option Int) (a : List Cell) : cut i j (rowV a) = rowV (cut i j a) := cut_map cellV i j a
section
variable {w : WX} {n : Nat} {ℓ : Loc} {σ : AH} {K : AV → Loc → AH → Prop} {B : LAd} {X : SX} {k : Nat} {cd : List Int}
theorem lroomX_R {q : Int} : (lroomX X q).R = X.R ∧ (lroomX X q).C = X.C ∧ (lroomX X q).p = X.p ∧ (lroomX X q).wraps = X.wraps ∧ (lroomX X q).ins = X.ins ∧ (lroomX X q).shr = X.shr ∧ (lroomX X q).br = X.br := by
  unfold lroomX nextX
  dsimp only
  repeat' split
  all_goals exact ⟨rfl, rfl, rfl, rfl, rfl, rfl, rfl⟩
theorem lroomX_ok {q : Int} (o : OKX k X) (R2 : X.R = 2) (hq : q = 1 ∨ q = 2) : OKX k (lroomX X q) ∧ (lroomX X q).c + q ≤ X.C := by
  have C2 := o.C2
  have h1 : OKX k (if X.wt = true ∧ X.wraps = true then nextX X else X) ∧ (if X.wt = true ∧ X.wraps = true then nextX X else X).C = X.C ∧ (if X.wt = true ∧ X.wraps = true then nextX X else X).R = 2 := by
    split
    · exact ⟨o.next R2, rfl, R2⟩
    · exact ⟨o, rfl, R2⟩
  unfold lroomX
  generalize (if X.wt = true ∧ X.wraps = true then nextX X else X) = Y at h1
  obtain ⟨oY, hC, hR⟩ := h1
  have yC := oY.cC
  dsimp only
  split
  · split
    · exact ⟨oY.next hR, show 0 + q ≤ X.C by omega⟩
    · exact ⟨by rw [← hC]; exact oY.setCu oY.r0 oY.rR (by omega) (by omega), show X.C - 1 - 1 + q ≤ X.C by omega⟩
  · exact ⟨oY, by omega⟩
theorem d__law_written {cs : List Int} {q : Int} (S : Lw B X cd σ) (o : OKX k X) (R2 : X.R = 2) (hq : q = 1 ∨ q = 2) (h : ∀ rs c τ, Lw (lupB B rs c) (lsignX X cs q) cd τ → FraL B σ (lupB B rs c) τ → K .none ℓ τ) : Cd (cx w) (n + 4) (.ref 1323) [.ref B.d, .tup (cs.map .int), .int q] ℓ σ K := by
  refine Cd.forget ?_
  run_tac openFn 1323
  refine Exs.cut 3 ?_
  refine Exs.mono (K := fun fl ℓ₁ σ₁ => fl = .next ∧ ∃ rs c, ℓ₁ = [(Str.ofString "w", .ref B.d), (Str.ofString "codes", .tup (cs.map .int)), (Str.ofString "width", .int q), (Str.ofString "last", .int (X.C - 1))] ∧ Lw (lupB B rs c) (lroomX X q) cd σ₁ ∧ FraL B σ (lupB B rs c) σ₁) ?_ ?_
  · have C2 := o.C2
    have cC := o.cC
    have o1 := o.next R2
    unfold lroomX
    dsimp only
    by_cases w1 : X.wt = true ∧ X.wraps = true
    · rw [if_pos w1, if_neg (show ¬ (q = 2 ∧ (nextX X).c = X.C - 1) from fun z => by have : (0 : Int) = X.C - 1 := z.2; omega)]
      obtain ⟨w1, w2⟩ := w1
      run_tac wk3 20
      all_goals exact ⟨_, _, rfl, ‹Lw _ (nextX X) _ _›, ‹FraL _ _ _ _›⟩
    · rw [if_neg w1]
      by_cases w2 : q = 2 ∧ X.c = X.C - 1
      · rw [if_pos w2]
        obtain ⟨rfl, w2⟩ := w2
        by_cases w3 : X.wraps = true
        · rw [if_pos w3]
          have w4 : X.wt = false := by
            cases e : X.wt
            · rfl
            · exact absurd ⟨e, w3⟩ w1
          run_tac wk3 20
          all_goals exact ⟨_, _, rfl, ‹Lw _ (nextX X) _ _›, ‹FraL _ _ _ _›⟩
        · rw [if_neg w3]
          run_tac wk3 20
          all_goals exact ⟨B.rs, B.c, rfl, S.setD _ _ _ _ _ _ _ _, FraL.set (.inl rfl)⟩
      · rw [if_neg w2]
        have w2 : q = 2 → ¬ X.c = X.C - 1 := fun a b => w2 ⟨a, b⟩
        by_cases w3 : X.wt = true
        · have w4 : X.wraps = false := by
            cases e : X.wraps
            · rfl
            · exact absurd ⟨w3, e⟩ w1
          run_tac wk3 20
          all_goals first
            | exact ⟨B.rs, B.c, rfl, S, FraL.refl _ _⟩
            | exact absurd ‹_› (w2 ‹_›)
        · run_tac wk3 20
          all_goals first
            | exact ⟨B.rs, B.c, rfl, S, FraL.refl _ _⟩
            | exact absurd ‹_› (w2 ‹_›)
  · rintro fl ℓ₁ σ₁ ⟨rfl, rs, c, rfl, S1, F1⟩
    dsimp only
    obtain ⟨oY, hfit⟩ := lroomX_ok o R2 hq
    obtain ⟨eR, eC, -⟩ := lroomX_R (X := X) (q := q)
    unfold lsignX at h
    have h := h rs c
    have es : (lupB B rs c).d = B.d := rfl
    generalize lupB B rs c = D at S1 F1 h es
    rw [← es, ← eC]
    rw [← eC] at hfit
    have R2' : (lroomX X q).R = 2 := eR.trans R2
    generalize lroomX X q = Y at S1 h hfit oY R2'
    have r0 := oY.r0
    have rR := oY.rR
    have c0 := oY.c0
    have cC := oY.cC
    have C9 := oY.C9
    have hlen := oY.len Y.r r0 rR
    have hv : ([.ref (D.c 0), .ref (D.c 1)] : List AV)[Y.r.toNat]? = some (.ref (D.c Y.r)) := by rcases two r0 (by omega) with q | q <;> rw [q] <;> rfl
    unfold linsX at h
    by_cases w3 : Y.ins = true
    · rw [if_pos w3, llayP_ins] at h
      have e1 := cutF_len (cs := Y.rows Y.r) (i := Y.c)
      have e2 := cutF_len (cs := cutF (Y.rows Y.r) Y.c) (i := Y.C - 1 + 1 - q)
      run_tac wk3 20
      have e3 := linsF_len (C := Y.C) (p := Y.p) c0 (show 1 ≤ q by omega) hfit hlen
      unfold linsF at e3 h
      rw [reps_one, row_rep]
      rw [show Y.C - 1 + 1 - q = Y.C - q by omega] at e2 ⊢
      have e4 := cut_le (some Y.c) (some (Y.C - q)) (cutF (cutF (Y.rows Y.r) Y.c) (Y.C - q))
      have e5 := List.length_replicate (n := q.toNat) (a := blk Y.p)
      run_tac wk3 20
      exact ⟨_, by run_tac subTac, h _ ((S1.setRow Y.r _ r0 (by omega)).setD _ _ _ _ _ _ _ _) (F1.trans ((FraL.set (OwnL.row r0 (by omega))).trans (FraL.set (.inl rfl))))⟩
    · rw [if_neg w3] at h
      unfold llayP at h
      run_tac wk3 20
      refine ⟨_, Sub.refl _, ?_⟩
      exact h _ ((S1.setRow Y.r _ r0 (by omega)).setD _ _ _ _ _ _ _ _) (F1.trans ((FraL.set (OwnL.row r0 (by omega))).trans (FraL.set (.inl rfl))))
end
end Mine
end
section
open PySem PySem.W PySem.Calls PyProof.Rows
set_option Elab.async false
set_option linter.unusedVariables false
set_option linter.unusedSimpArgs false
set_option maxRecDepth 100000
set_option maxHeartbeats 0
namespace Mine
def lahX (X : SX) : Int := laheadF (X.rows X.r) X.c X.wt
def ljoinX (X : SX) (x i : Int) : SX :=
  let c := at' (X.rows X.r) i
  let cs := c.codes ++ [x]
  if X.shr = true ∧ c.wd = 1 ∧ i + 1 < X.C ∧ lwideF (wideT X.br) cs = true then
    { X with rows := fun j => if j = X.r then lsetF (X.rows X.r) i cs 2 c.bg else X.rows j, c := min (i + 2) (X.C - 1), wt := decide (X.C ≤ i + 2), last := cs }
  else { X with rows := fun j => if j = X.r then (X.rows X.r).set i.toNat ⟨cs, c.wd, c.bg⟩ else X.rows j, last := cs }
def lcodedX (X : SX) (x : Int) : SX :=
  if 0 ≤ lahX X ∧ (lmarks.contains x = true ∨ X.shr = true ∧ lbelongsF (at' (X.rows X.r) (lahX X)).codes x = true) then ljoinX X x (lahX X)
  else if lmarks.contains x = true then X else lsignX X [x] (if (wideT X.br).contains x = true then 2 else 1)
section
variable {w : WX} {n : Nat} {ℓ : Loc} {σ : AH} {K : AV → Loc → AH → Prop} {B : LAd} {X : SX} {k : Nat} {cd : List Int}
theorem lahX_in (o : OKX k X) (h : 0 ≤ lahX X) : lahX X < X.C ∧ (at' (X.rows X.r) (lahX X)).codes ≠ [] := by
  have c0 := o.c0
  have cC := o.cC
  unfold lahX laheadF at h ⊢
  dsimp only at h ⊢
  generalize hi : (if X.wt = true then X.c else X.c - 1) = i0 at h
  have h1 : i0 ≤ X.c := by subst hi; split <;> omega
  generalize hj : (if 0 ≤ i0 ∧ (at' (X.rows X.r) i0).wd = 0 then i0 - 1 else i0) = j at h
  have h2 : j ≤ i0 := by subst hj; split <;> omega
  by_cases q : 0 ≤ j ∧ (at' (X.rows X.r) j).codes ≠ []
  · rw [if_pos q] at h ⊢; exact ⟨by omega, q.2⟩
  · rw [if_neg q] at h; omega
theorem d__law_coded {x : Int} (S : Lw B X cd σ) (o : OKX k X) (R2 : X.R = 2) (k4 : k ≤ 400) (h : ∀ rs c τ, Lw (lupB B rs c) (lcodedX X x) cd τ → FraL B σ (lupB B rs c) τ → K .none ℓ τ) : Cd (cx w) (n + 6) (.ref 1349) [.ref B.d, .int x] ℓ σ K := by
  have r0 := o.r0
  have rR := o.rR
  have r2 : X.r < 2 := by omega
  have c0 := o.c0
  have cC := o.cC
  have C9 := o.C9
  have hlen := o.len X.r r0 rR
  have hv : ([.ref (B.c 0), .ref (B.c 1)] : List AV)[X.r.toNat]? = some (.ref (B.c X.r)) := by rcases two r0 r2 with q | q <;> rw [q] <;> rfl
  have e1 : [AV.int x] = List.map AV.int [x] := rfl
  unfold lcodedX at h
  by_cases q0 : 0 ≤ lahX X
  · obtain ⟨q1, q2⟩ := lahX_in o q0
    have hcl := cell_cl o q0 q1
    by_cases q3 : lmarks.contains x = true ∨ X.shr = true ∧ lbelongsF (at' (X.rows X.r) (lahX X)).codes x = true
    · rw [if_pos ⟨q0, q3⟩] at h
      unfold ljoinX at h
      have m3 : lmarks.contains x = true ∨ lmarks.contains x = false ∧ X.shr = true ∧ lbelongsF (at' (X.rows X.r) (lahX X)).codes x = true := by
        by_cases m1 : lmarks.contains x = true
        · exact .inl m1
        · exact .inr ⟨boolF m1, (q3.resolve_left m1).1, (q3.resolve_left m1).2⟩
      clear q3
      by_cases q4 : X.shr = true ∧ (at' (X.rows X.r) (lahX X)).wd = 1 ∧ lahX X + 1 < X.C ∧ lwideF (wideT X.br) ((at' (X.rows X.r) (lahX X)).codes ++ [x]) = true
      · dsimp only at h
        rw [if_pos q4] at h
        obtain ⟨q5, q6, q7, q8⟩ := q4
        unfold lahX at h q0 q1 q2 hcl q6 q7 q8 m3
        unfold lmarks at m3
        rcases m3 with m1 | ⟨m1, m4, m5⟩
        all_goals
          run_tac openFn 1349
          run_tac wk3 20
          exact h B.rs B.c _ ((S.setRow X.r _ r0 r2).setD _ _ _ _ _ _ _ _) ((FraL.set (OwnL.row r0 r2)).trans (FraL.set (.inl rfl)))
      · dsimp only at h
        rw [if_neg q4] at h
        unfold lahX at h q0 q1 q2 hcl q4 m3
        unfold lmarks at m3
        have rs := row_set (X.rows X.r) (laheadF (X.rows X.r) X.c X.wt).toNat ⟨(at' (X.rows X.r) (laheadF (X.rows X.r) X.c X.wt)).codes ++ [x], (at' (X.rows X.r) (laheadF (X.rows X.r) X.c X.wt)).wd, (at' (X.rows X.r) (laheadF (X.rows X.r) X.c X.wt)).bg⟩
        unfold cellV at rs
        dsimp only at rs
        rcases m3 with m1 | ⟨m1, m4, m5⟩
        all_goals
          run_tac openFn 1349
          run_tac wk3 20
          all_goals first
            | exact absurd ⟨‹_›, ‹_›, ‹_›, ‹_›⟩ q4
            | (rw [rs]
               exact h B.rs B.c _ ((S.setRow X.r _ r0 r2).setD _ _ _ _ _ _ _ _) ((FraL.set (OwnL.row r0 r2)).trans (FraL.set (.inl rfl))))
    · rw [if_neg fun z => q3 z.2] at h
      unfold lahX at q0 q1 q2 hcl q3
      by_cases m1 : lmarks.contains x = true
      · rw [if_pos m1] at h
        unfold lmarks at m1
        run_tac openFn 1349
        run_tac wk3 20
        all_goals first
          | exact absurd (.inl ‹_›) q3
          | exact absurd (.inr ⟨‹_›, ‹_›⟩) q3
          | exact h B.rs B.c _ S (FraL.refl _ _)
          | fail
      · rw [if_neg m1] at h
        have m1 := boolF m1
        unfold lmarks at m1
        by_cases m2 : (wideT X.br).contains x = true
        · rw [if_pos m2] at h
          run_tac openFn 1349
          run_tac wk3 20
          all_goals first
            | exact absurd (.inr ⟨‹_›, ‹_›⟩) q3
            | (rw [e1]
               run_tac wk3 20
               exact h _ _ _ ‹Lw _ (lsignX X [x] _) _ _› ‹_›)
            | fail
        · rw [if_neg m2] at h
          have m2 := boolF m2
          run_tac openFn 1349
          run_tac wk3 20
          all_goals first
            | exact absurd (.inr ⟨‹_›, ‹_›⟩) q3
            | (rw [e1]
               run_tac wk3 20
               exact h _ _ _ ‹Lw _ (lsignX X [x] _) _ _› ‹_›)
            | fail
  · rw [if_neg fun z => q0 z.1] at h
    unfold lahX at q0
    by_cases m1 : lmarks.contains x = true
    · rw [if_pos m1] at h
      unfold lmarks at m1
      run_tac openFn 1349
      run_tac wk3 20
      all_goals first
        | exact h B.rs B.c _ S (FraL.refl _ _)
        | fail
    · rw [if_neg m1] at h
      have m1 := boolF m1
      unfold lmarks at m1
      by_cases m2 : (wideT X.br).contains x = true
      · rw [if_pos m2] at h
        run_tac openFn 1349
        run_tac wk3 20
        all_goals first
          | (rw [e1]
             run_tac wk3 20
             exact h _ _ _ ‹Lw _ (lsignX X [x] _) _ _› ‹_›)
          | fail
      · rw [if_neg m2] at h
        have m2 := boolF m2
        run_tac openFn 1349
        run_tac wk3 20
        all_goals first
          | (rw [e1]
             run_tac wk3 20
             exact h _ _ _ ‹Lw _ (lsignX X [x] _) _ _› ‹_›)
          | fail
end
end Mine
end
section
open PySem PySem.W PySem.Calls PyProof.Rows
set_option Elab.async false
set_option linter.unusedVariables false
set_option linter.unusedSimpArgs false
set_option maxRecDepth 100000
set_option maxHeartbeats 0
namespace Mine
def lrepW (X : SX) : Int := if (if X.shr = true then lwideF (wideT X.br) X.last else (wideT X.br).contains (at0 X.last 0)) = true then 2 else 1
def lrepX (X : SX) : Nat → SX
  | 0 => X
  | m + 1 => if X.last = [] then lrepX X m else lsignX (lrepX X m) X.last (lrepW X)
section
variable {w : WX} {n : Nat} {ℓ : Loc} {σ : AH} {K : AV → Loc → AH → Prop} {B : LAd} {X : SX} {k : Nat} {cd : List Int}
theorem lsignX_facts {cs : List Int} {q : Int} : (lsignX X cs q).R = X.R ∧ (lsignX X cs q).C = X.C ∧ (lsignX X cs q).p = X.p ∧ (lsignX X cs q).wraps = X.wraps ∧ (lsignX X cs q).ins = X.ins ∧ (lsignX X cs q).shr = X.shr ∧ (lsignX X cs q).br = X.br ∧ (lsignX X cs q).last = cs := by
  obtain ⟨h1, h2, h3, h4, h5, h6, h7⟩ := lroomX_R (X := X) (q := q)
  unfold lsignX llayP linsX
  dsimp only
  split
  · exact ⟨h1, h2, h3, h4, h5, h6, h7, rfl⟩
  · exact ⟨h1, h2, h3, h4, h5, h6, h7, rfl⟩
theorem lrepW_in : lrepW X = 1 ∨ lrepW X = 2 := by
  unfold lrepW
  cases (if X.shr = true then lwideF (wideT X.br) X.last else (wideT X.br).contains (at0 X.last 0)) with
  | true => exact .inr (if_pos rfl)
  | false => exact .inl (if_neg Bool.false_ne_true)
theorem lrepX_facts (m : Nat) : (lrepX X m).R = X.R ∧ (lrepX X m).C = X.C ∧ (lrepX X m).shr = X.shr ∧ (lrepX X m).br = X.br ∧ (lrepX X m).last = X.last := by
  induction m with
  | zero => exact ⟨rfl, rfl, rfl, rfl, rfl⟩
  | succ m ih =>
    unfold lrepX
    split
    · exact ih
    · obtain ⟨h1, h2, h3, h4, h5, h6, h7, h8⟩ := lsignX_facts (X := lrepX X m) (cs := X.last) (q := lrepW X)
      exact ⟨h1.trans ih.1, h2.trans ih.2.1, h6.trans ih.2.2.1, h7.trans ih.2.2.2.1, h8⟩
theorem d__law_again {m : Int} (S : Lw B X cd σ) (o : ∀ i, OKX k (lrepX X i)) (R2 : X.R = 2) (h0 : 0 ≤ m) (hm : m ≤ 1000)
    (h : ∀ rs c τ, Lw (lupB B rs c) (lrepX X (min m (2 * X.C)).toNat) cd τ → FraL B σ (lupB B rs c) τ → K .none ℓ τ) : Cd (cx w) (n + 6) (.ref 1356) [.ref B.d, .int m] ℓ σ K := by
  have o0 : OKX k X := o 0
  have k5 := o0.k5
  have ll := o0.ll
  have C2 := o0.C2
  have C9 := o0.C9
  have mulOk : IntMulOk 2 X.C := IntMulOk.of_left (intBits_le_64 (by omega) (by omega))
  have hp : 0 ≤ min m (2 * X.C) ∧ min m (2 * X.C) ≤ 1000 := by omega
  generalize hM : min m (2 * X.C) = M at h hp
  obtain ⟨p0, p1⟩ := hp
  run_tac openFn 1356
  run_tac wk3 20
  rw [hM]
  refine ⟨_, _, Src.rng (small_one (by omega) (by omega) (by omega) (by omega)), ?_⟩
  refine Lo.inv (fun vs ℓ' σ' => ∃ i j rs c, vs = upto i j ∧ j ≤ M.toNat ∧ Lw (lupB B rs c) (lrepX X (M.toNat - j)) cd σ' ∧ FraL B σ (lupB B rs c) σ'
    ∧ LS [(Str.ofString "w", .ref B.d), (Str.ofString "many", .int m)] ℓ') ?_ ?_ _ _ _ ?_
  · rintro v vs ℓ' σ' ⟨i, j, rs, c, e, hj, S1, F1, hℓ⟩
    cases j with
    | zero => cases e
    | succ j =>
      cases e
      have eM : M.toNat - j = (M.toNat - (j + 1)) + 1 := by omega
      obtain ⟨f1, f2, f3, f4, f5⟩ := lrepX_facts (X := X) (M.toNat - (j + 1))
      have oY := o (M.toNat - (j + 1))
      have hn : lrepX X (M.toNat - j) = if X.last = [] then lrepX X (M.toNat - (j + 1)) else lsignX (lrepX X (M.toNat - (j + 1))) X.last (lrepW X) := by rw [eM]; rfl
      generalize lrepX X (M.toNat - (j + 1)) = Y at S1 f1 f2 f3 f4 f5 oY hn
      unfold lupB at S1
      by_cases q : X.last = []
      · rw [if_pos q] at hn
        have q' : Y.last = [] := f5.trans q
        refine As.weak hℓ ?_
        run_tac wk3 20
        exact ⟨_, j, rs, c, rfl, by omega, by rw [hn]; exact S1, F1, LS.app _ [_]⟩
      · rw [if_neg q] at hn
        have q' : Y.last ≠ [] := fun z => q (f5.symm.trans z)
        have yR : Y.R = 2 := f1.trans R2
        have yl := oY.ll
        have hg : (Y.last.map AV.int)[0]? = some (.int (at0 Y.last 0)) := by
          cases e : Y.last with
          | nil => exact absurd e q'
          | cons a r => rfl
        have e0 := s0 q'
        have hq := lrepW_in (X := X)
        have hw : lrepW X = lrepW Y := by unfold lrepW; rw [f3, f4, f5]
        rw [← f5, hw] at hn
        refine As.weak hℓ ?_
        run_tac wk3 20
        all_goals first
          | exact ⟨_, j, _, _, rfl, by omega, by rw [hn, show lrepW Y = 2 by unfold lrepW; (first | rw [if_pos ‹Y.shr = true›] | rw [if_neg (noT ‹Y.shr = false›)]); (first | exact if_pos ‹_› | exact if_neg (noT ‹_›))]; exact ‹Lw _ (lsignX Y _ 2) _ _›, F1.trans ‹FraL _ σ' _ _›, LS.app _ [_, _]⟩
          | exact ⟨_, j, _, _, rfl, by omega, by rw [hn, show lrepW Y = 1 by unfold lrepW; (first | rw [if_pos ‹Y.shr = true›] | rw [if_neg (noT ‹Y.shr = false›)]); (first | exact if_pos ‹_› | exact if_neg (noT ‹_›))]; exact ‹Lw _ (lsignX Y _ 1) _ _›, F1.trans ‹FraL _ σ' _ _›, LS.app _ [_, _]⟩
  · rintro ℓ' σ' ⟨i, j, rs, c, e, hj, S1, F1, hℓ⟩
    cases j with
    | succ j => cases e
    | zero =>
      run_tac wk3 20
      exact h _ _ _ S1 F1
  · exact ⟨0, (M - 0).toNat, B.rs, B.c, rfl, by omega, by rw [show M.toNat - (M - 0).toNat = 0 by omega]; exact S, FraL.refl _ _, LS.refl _⟩
end
end Mine
end
section
open PySem PySem.W PySem.Calls PyProof.Rows
set_option Elab.async false
set_option linter.unusedVariables false
set_option linter.unusedSimpArgs false
set_option maxRecDepth 100000
set_option maxHeartbeats 0
namespace Mine
section
variable {w : WX} {n : Nat} {ℓ : Loc} {σ : AH} {K : AV → Loc → AH → Prop}
theorem c__law_shared (h : ∀ τ m dm s k, σ m = none → σ s = none → σ k = none → τ m = some (modO dm s k) → τ s = some (.dict (stL false true false true)) → Sub σ τ → K (.ref m) ℓ τ) : Cd (cx w) (n + 3) (.ref 1375) [] ℓ σ K := by
  run_tac openFn 1375
  run_tac wk3 20
  rename_i m dm hm τ s k e1 e2 n1 n2 n3 f1 f2 f3 t0
  refine h _ m dm s k hm e1 e2 ?_ AH.set_same fun p o e => ?_
  all_goals run_tac sideStep (← Lean.Elab.Tactic.getMainGoal)
end
end Mine
end
section
open PySem PySem.W PySem.Calls PyProof.Rows
set_option Elab.async false
set_option linter.unusedVariables false
set_option linter.unusedSimpArgs false
set_option maxRecDepth 100000
set_option maxHeartbeats 0
namespace Mine
/-- a code is put, with room -/
def codeP (X : SX) (x : Int) : SX :=
  if widthF X.br x = 0 ∨ joinedX X x = true then joinO X x else layP X [x] (widthF X.br x)
section
variable {w : WX} {n : Nat} {ℓ : Loc} {σ : AH} {K : AV → Loc → AH → Prop} {A : Ad} {X : SX} {k : Nat}
theorem layX_ins {cs : List Int} {q : Int} (h : X.ins = false) : layX X cs q = layP X cs q := by
  unfold layX insX
  rw [if_neg (by rw [h]; exact Bool.false_ne_true)]
theorem d_Screen_put_code_l {x : Int} (S : Scr A X σ) (o : OKX k X) (k1 : 1 ≤ k) (k4 : k ≤ 400) (h0 : 32 ≤ x) (hx : x ≤ 127 ∨ 255 < x) (w1 : X.wt = false) (w2 : X.c < X.C - 1) (w3 : X.ins = false) (w4 : X.shr = true)
    (hw : ∀ i, aheadX X = some i → (at' (X.rows X.r) i).wd = 1 ∨ (at' (X.rows X.r) i).wd = 2 ∧ i + 1 < X.C)
    (h : ∀ t la τ, Scr (mvA A t la A.ls A.l A.d A.c A.wr) (codeP X x) τ → Fra X.R A σ (mvA A t la A.ls A.l A.d A.c A.wr) τ → K .none ℓ τ) : Cd (cx w) (n + 12) (.ref 1012) [.ref A.s, .int x] ℓ σ K := by
  have hs := S.s
  have hch := S.ch
  have hsh := st_shr (hi := A.hi) (a := X.wraps) (b := X.ins) (c := X.shr)
  have hl1 : ([x] : List Int).length ≤ k := k1
  have hc1 : X.c + widthF X.br x ≤ X.C ∧ (widthF X.br x = 2 → X.c < X.C - 1) := by
    rcases widthF_in X.br x with q | q | q <;> omega
  unfold codeP joinO at h
  rcases widthF_in X.br x with q | q
  · rw [if_pos (.inl q)] at h
    cases e : aheadX X with
    | none =>
      rw [e] at h
      run_tac openFn 1012
      run_tac wk3 20
      exact h _ A.la _ ‹Scr _ X _› ‹Fra _ _ _ _ _›
    | some i =>
      rw [e] at h
      have hw := hw i e
      run_tac openFn 1012
      run_tac wk3 20
      exact h _ _ _ ‹Scr _ (joinX X x i) _› (Fra.trans ‹Fra _ A _ _ _› ‹_›)
  · have q0 : ¬ widthF X.br x = 0 := by omega
    by_cases j : joinedX X x = true
    · rw [if_pos (.inr j)] at h
      cases e : aheadX X with
      | none =>
        unfold joinedX at j
        rw [e] at j
        cases j
      | some i =>
        rw [e] at h
        have hw := hw i e
        run_tac openFn 1012
        run_tac wk3 20
        exact h _ _ _ ‹Scr _ (joinX X x i) _› (Fra.trans ‹Fra _ A _ _ _› ‹_›)
    · rw [if_neg (fun z => z.elim (fun z => by omega) j), ← layX_ins w3] at h
      have j' := boolF j
      have e1 : [AV.int x] = List.map AV.int [x] := rfl
      run_tac openFn 1012
      run_tac wk3 20
      rw [e1]
      have hw1 := hc1.2
      run_tac wk3 20
      exact h _ _ _ ‹Scr _ (layX X [x] _) _› (Fra.trans ‹Fra _ A _ _ _› ‹_›)
end
end Mine
end
section
open PySem PySem.W PySem.Calls PyProof.Rows
set_option Elab.async false
set_option linter.unusedVariables false
set_option linter.unusedSimpArgs false
set_option maxRecDepth 100000
set_option maxHeartbeats 0
namespace Mine
theorem at_app (A : List Cell) (m : Cell) (B : List Cell) {i : Int} (h : i = A.length) : at' (A ++ m :: B) i = m := by
  subst h
  simp [at', List.getD]
theorem set_app (A : List Cell) (m y : Cell) (B : List Cell) {i : Nat} (h : i = A.length) : (A ++ m :: B).set i y = A ++ y :: B := by
  subst h
  rw [List.set_append_right _ _ (Nat.le_refl _), Nat.sub_self, List.set_cons_zero]
theorem partF_id {A B : List Cell} {m : Cell} {i : Int} (h : i = A.length) (hm : m.wd ≠ 0) : partF (A ++ m :: B) i = A ++ m :: B := partF_no fun z => hm (by rw [← at_app A m B h]; exact z.2.2)
theorem partF_end {A B : List Cell} {i : Int} (h : i = A.length) (hB : ∀ b B', B = b :: B' → b.wd ≠ 0) : partF (A ++ B) i = A ++ B := by
  cases B with
  | nil => exact partF_no fun z => by have := z.2.1; rw [List.append_nil] at this; omega
  | cons b B' => exact partF_id h (hB b B' rfl)
theorem put1 {A B : List Cell} {m : Cell} {i : Int} {cs : List Int} {p : Int} (h : i = A.length) (hm : m.wd ≠ 0) (hB : ∀ b B', B = b :: B' → b.wd ≠ 0) : putCore (A ++ m :: B) i ⟨cs, 1, p⟩ = A ++ ⟨cs, 1, p⟩ :: B := by
  unfold putCore
  rw [if_neg (by decide : ¬ (1 : Int) = 2), partF_id h hm]
  have e : A ++ m :: B = (A ++ [m]) ++ B := by simp
  dsimp only
  rw [e, partF_end (by rw [List.length_append, List.length_singleton]; omega) hB, ← e, set_app A m _ B (by omega)]
theorem put2 {A B : List Cell} {m m2 : Cell} {i : Int} {cs : List Int} {p : Int} (h : i = A.length) (hm : m.wd ≠ 0) (hB : ∀ b B', B = b :: B' → b.wd ≠ 0) : putCore (A ++ m :: m2 :: B) i ⟨cs, 2, p⟩ = A ++ ⟨cs, 2, p⟩ :: ⟨[], 0, p⟩ :: B := by
  unfold putCore
  rw [if_pos rfl, partF_id h hm]
  have e : A ++ m :: m2 :: B = (A ++ [m, m2]) ++ B := by simp
  dsimp only
  rw [e, partF_end (by rw [List.length_append]; simp only [List.length_cons, List.length_nil]; omega) hB, ← e, set_app A m _ _ (by omega)]
  have e2 : ∀ y : Cell, A ++ y :: m2 :: B = (A ++ [y]) ++ m2 :: B := fun y => by simp
  rw [e2, set_app _ m2 _ B (by rw [List.length_append, List.length_singleton]; omega)]
  simp
theorem blanks_head {n : Nat} {b : Cell} {B' : List Cell} (h : List.replicate n (blk (-1)) = b :: B') : b.wd ≠ 0 := by
  cases n with
  | zero => cases h
  | succ n => rw [List.replicate_succ] at h; cases h; decide
theorem widthF_in' (br : Bool) (x : Int) : widthF br x = 0 ∨ widthF br x = 1 ∨ widthF br x = 2 := by
  unfold widthF
  split
  · exact .inl rfl
  · split
    · exact .inr (.inr rfl)
    · exact .inr (.inl rfl)
theorem cluster_one {br : Bool} {x : Int} (h : widthF br x ≠ 0) : clusterF br [x] = widthF br x := by
  unfold clusterF
  rw [if_neg (by simp)]
  have e0 : at0 [x] 0 = x := rfl
  rw [e0]
  rcases widthF_in' br x with q | q | q
  · exact absurd q h
  · rw [q, if_neg (by simp)]
    split
    · rename_i hp
      rw [if_neg]
      intro z
      rcases z with z | z
      · simp at z
        rw [← z] at hp
        exact absurd hp (by decide)
      · exact z rfl
    · rw [if_neg]
      intro z
      have e : cut (some 1) (some 3) [x] = [] := rfl
      rw [e] at z
      cases z.2
  · rw [q, if_pos (.inl rfl)]
theorem cut13 (a b c : Int) (r : List Int) : cut (some 1) (some 3) (a :: b :: c :: r) = [b, c] := by
  have e1 : clipN (some 1) 0 (a :: b :: c :: r).length = 1 := by rw [clip_in (by decide) (by simp only [List.length_cons]; omega)]; rfl
  have e2 : clipN (some 3) (a :: b :: c :: r).length (a :: b :: c :: r).length = 3 := by rw [clip_in (by decide) (by simp only [List.length_cons]; omega)]; rfl
  unfold cut
  rw [e1, e2]
  rfl
theorem cut13_app {cs : List Int} {x : Int} (h : cut (some 1) (some 3) cs = [65039, 8419]) : cut (some 1) (some 3) (cs ++ [x]) = [65039, 8419] := by
  match cs, h with
  | [], h =>
    have e : cut (some 1) (some 3) ([] : List Int) = [] := rfl
    rw [e] at h; cases h
  | [a], h =>
    have e : cut (some 1) (some 3) [a] = [] := rfl
    rw [e] at h; cases h
  | [a, b], h =>
    have e : cut (some 1) (some 3) [a, b] = [b] := rfl
    rw [e] at h; cases h
  | a :: b :: c :: r, h =>
    rw [cut13] at h
    rw [List.cons_append, List.cons_append, List.cons_append, cut13]
    exact h
theorem cut1 (a : Int) (r : List Int) : cut (some 1) none (a :: r) = r := by
  have e1 : clipN (some 1) 0 (a :: r).length = 1 := by rw [clip_in (by decide) (by simp only [List.length_cons]; omega)]; rfl
  unfold cut
  rw [e1]
  show (List.drop 1 (a :: r)).take ((a :: r).length - 1) = r
  simp
theorem cluster_more {br : Bool} {cs : List Int} {x : Int} (h : clusterF br cs = 2) : clusterF br (cs ++ [x]) = 2 := by
  match cs, h with
  | [], h => cases h
  | a :: r, h =>
    have e0 : at0 (a :: r ++ [x]) 0 = at0 (a :: r) 0 := rfl
    have e1 : 1 < (a :: r).length → at0 (a :: r ++ [x]) 1 = at0 (a :: r) 1 := by
      cases r with
      | nil => intro z; simp at z
      | cons b r => intro _; rfl
    unfold clusterF at h ⊢
    rw [if_neg (by simp)] at h ⊢
    rw [e0]
    split at h
    · rename_i q
      rw [if_pos]
      rcases q with q | ⟨q1, q2, q3⟩
      · exact .inl q
      · exact .inr ⟨by simp only [List.length_append]; omega, q2, by rw [e1 q1]; exact q3⟩
    · split
      · rfl
      · split at h
        · rename_i q1 q2
          rw [if_pos q2]
          split at h
          · rename_i q3
            rw [if_pos]
            rcases q3 with q3 | q3
            · left
              rw [List.contains_eq_mem, decide_eq_true_eq] at q3 ⊢
              exact List.mem_append_left _ q3
            · right
              rw [cut1] at q3
              rw [List.cons_append, cut1, List.filter_append]
              intro z
              exact q3 (List.append_eq_nil_iff.mp z).1
          · cases h
        · rename_i q1 q2
          rw [if_neg q2]
          split at h
          · rename_i q3
            rw [if_pos ⟨q3.1, cut13_app q3.2⟩]
          · cases h
end Mine
end
section
open PySem PySem.W PySem.Calls PyProof.Rows
set_option Elab.async false
set_option linter.unusedVariables false
set_option linter.unusedSimpArgs false
set_option maxRecDepth 100000
set_option maxHeartbeats 0
namespace Mine
/-- all of a screen's objects -/
def Foot (A : Ad) (R : Int) (b : Addr) : Prop := Own A R b ∨ b = A.m ∨ b = A.nm ∨ b = A.mo ∨ b = A.wt ∨ b = A.w1 ∨ b = A.w2 ∨ b = A.w3
/-- a screen, what the law keeps of it, and the draws -/
structure Two (A : Ad) (B : LAd) (X : SX) (cd : List Int) (dk ca : Addr) (kc : Addr × AO) (k : Int) (xs : List Int) (σ : AH) : Prop where
  S : Scr A X σ
  L : Lw B X cd σ
  hdk : σ dk = some (deckO ca k)
  hca : σ ca = some (.list (xs.map .int))
  sep : ∀ b, OwnL B b → ¬ Foot A X.R b
  dS : ¬ Foot A X.R dk
  cS : ¬ Foot A X.R ca
  dL : ¬ OwnL B dk
  cL : ¬ OwnL B ca
  kk : σ kc.1 = some kc.2
  kS : ¬ Foot A X.R kc.1
  kL : ¬ OwnL B kc.1
  kD : kc.1 ≠ dk
section
variable {A A' : Ad} {B B' : LAd} {X Y : SX} {cd : List Int} {σ τ : AH} {k : Nat}
theorem Scr.keepF (S : Scr A X σ) (k : ∀ b o, σ b = some o → Foot A X.R b → τ b = some o) : Scr A X τ :=
  { S with s := k _ _ S.s (.inl (.inl (.inl rfl))), g := k _ _ S.g (.inl (.inl (.inr (.inl rfl)))), ls := k _ _ S.ls (.inl (.inr (.inr (.inl rfl)))), cu := k _ _ S.cu (.inl (.inl Mut.cur)), m := k _ _ S.m (.inr (.inl rfl)), ch := k _ _ S.ch (.inl (.inl (.inr (.inr (.inr (.inl rfl)))))), ma := k _ _ S.ma (.inl (.inl (.inr (.inr (.inr (.inr (.inl rfl))))))),
           nm := k _ _ S.nm (.inr (.inr (.inl rfl))), t := fun t e => k _ _ (S.t t e) (.inl (.inr (.inr (.inr e)))), mo := k _ _ S.mo (.inr (.inr (.inr (.inl rfl)))), st := k _ _ S.st (.inl (.inl (.inr (.inr (.inr (.inr (.inr (.inl rfl)))))))), wt := k _ _ S.wt (.inr (.inr (.inr (.inr (.inl rfl))))), w1 := k _ _ S.w1 (.inr (.inr (.inr (.inr (.inr (.inl rfl)))))),
           w2 := k _ _ S.w2 (.inr (.inr (.inr (.inr (.inr (.inr (.inl rfl))))))), w3 := k _ _ S.w3 (.inr (.inr (.inr (.inr (.inr (.inr (.inr rfl))))))), la := k _ _ S.la (.inl (.inr (.inl rfl))), l := fun i a b => k _ _ (S.l i a b) (.inl (.inl (Mut.lin a b))), c := fun i a b => k _ _ (S.c i a b) (.inl (.inl (Mut.row a b))) }
theorem Scr.foot (S : Scr A X σ) {b : Addr} (h : Foot A X.R b) : ∃ o, σ b = some o := by
  rcases h with ((q | q | q | q | q | q | ⟨i, i0, i2, q | q⟩) | q | q | q) | q | q | q | q | q | q | q
  all_goals try subst q
  · exact ⟨_, S.s⟩
  · exact ⟨_, S.g⟩
  · exact ⟨_, S.cu⟩
  · exact ⟨_, S.ch⟩
  · exact ⟨_, S.ma⟩
  · exact ⟨_, S.st⟩
  · exact ⟨_, S.l i i0 i2⟩
  · exact ⟨_, S.c i i0 i2⟩
  · exact ⟨_, S.la⟩
  · exact ⟨_, S.ls⟩
  · exact ⟨_, S.t b q⟩
  · exact ⟨_, S.m⟩
  · exact ⟨_, S.nm⟩
  · exact ⟨_, S.mo⟩
  · exact ⟨_, S.wt⟩
  · exact ⟨_, S.w1⟩
  · exact ⟨_, S.w2⟩
  · exact ⟨_, S.w3⟩
theorem Lw.keepF (L : Lw B X cd σ) (k : ∀ b o, σ b = some o → OwnL B b → τ b = some o) : Lw B X cd τ :=
  { L with d := k _ _ L.d (.inl rfl), cl := k _ _ L.cl (.inr (.inl rfl)), rs := k _ _ L.rs (.inr (.inr (.inl rfl))), c := fun i a b => k _ _ (L.c i a b) (OwnL.row a b) }
theorem Lw.own (L : Lw B X cd σ) {b : Addr} (h : OwnL B b) : ∃ o, σ b = some o := by
  rcases h with q | q | q | q | q
  all_goals subst q
  · exact ⟨_, L.d⟩
  · exact ⟨_, L.cl⟩
  · exact ⟨_, L.rs⟩
  · exact ⟨_, L.c 0 (by decide) (by decide)⟩
  · exact ⟨_, L.c 1 (by decide) (by decide)⟩
/-- what never changes of a screen's addresses -/
def Same (A A' : Ad) : Prop := A'.s = A.s ∧ A'.m = A.m ∧ A'.nm = A.nm ∧ A'.mo = A.mo ∧ A'.wt = A.wt ∧ A'.w1 = A.w1 ∧ A'.w2 = A.w2 ∧ A'.w3 = A.w3 ∧ A'.cu = A.cu ∧ A'.st = A.st
theorem Foot.same {R : Int} {b : Addr} (e : Same A A') (h : Foot A' R b) : Own A' R b ∨ Foot A R b := by
  obtain ⟨e1, e2, e3, e4, e5, e6, e7, e8, e9⟩ := e
  rcases h with q | q | q | q | q | q | q | q
  · exact .inl q
  · exact .inr (.inr (.inl (q.trans e2)))
  · exact .inr (.inr (.inr (.inl (q.trans e3))))
  · exact .inr (.inr (.inr (.inr (.inl (q.trans e4)))))
  · exact .inr (.inr (.inr (.inr (.inr (.inl (q.trans e5))))))
  · exact .inr (.inr (.inr (.inr (.inr (.inr (.inl (q.trans e6)))))))
  · exact .inr (.inr (.inr (.inr (.inr (.inr (.inr (.inl (q.trans e7))))))))
  · exact .inr (.inr (.inr (.inr (.inr (.inr (.inr (.inr (q.trans e8))))))))
/-- an object outside the screen stays so -/
theorem Fra.out {R : Int} (F : Fra R A σ A' τ) (e : Same A A') {b : Addr} {o : AO} (ho : σ b = some o) (h : ¬ Foot A R b) : τ b = some o ∧ ¬ Foot A' R b := by
  obtain ⟨q1, q2⟩ := F b o ho fun q => h (.inl q)
  exact ⟨q1, fun z => (Foot.same e z).elim q2 h⟩
/-- a screen's deed and then the law's own -/
theorem Two.deed {dk ca : Addr} {kc : Addr × AO} {j : Int} {xs : List Int} {ρ : AH} {cd' : List Int} (G : Two A B X cd dk ca kc j xs σ) (S' : Scr A' Y τ) (F : Fra X.R A σ A' τ) (e : Same A A') (hR : Y.R = X.R) (L' : Lw B' Y cd' ρ) (FL : FraL B τ B' ρ) : Two A' B' Y cd' dk ca kc j xs ρ := by
  have d1 := F.out e G.hdk G.dS
  have c1 := F.out e G.hca G.cS
  have d2 := FL _ _ d1.1 G.dL
  have c2 := FL _ _ c1.1 G.cL
  have k1 := F.out e G.kk G.kS
  have k2 := FL _ _ k1.1 G.kL
  have sep1 : ∀ b, OwnL B b → ¬ Foot A' X.R b := fun b h => by
    obtain ⟨o, ho⟩ := G.L.own h
    exact (F.out e ho (G.sep b h)).2
  have k : ∀ b o, τ b = some o → Foot A' Y.R b → ρ b = some o ∧ ¬ OwnL B' b := fun b o ho h => FL b o ho fun z => sep1 b z (hR ▸ h)
  exact ⟨S'.keepF fun b o ho h => (k b o ho h).1, L', d2.1, c2.1, fun b h z => by
    obtain ⟨o, ho⟩ := S'.foot z
    exact (k b o ho z).2 h, hR ▸ d1.2, hR ▸ c1.2, d2.2, c2.2, k2.1, hR ▸ k1.2, k2.2, G.kD⟩
/-- the law's own objects after a screen's deed -/
theorem Two.after {dk ca : Addr} {kc : Addr × AO} {j : Int} {xs : List Int} (G : Two A B X cd dk ca kc j xs σ) (F : Fra X.R A σ A' τ) : Lw B X cd τ := G.L.keepF fun b o ho h => (F b o ho fun q => G.sep b h (.inl q)).1
/-- a draw -/
theorem Two.take {dk ca : Addr} {kc : Addr × AO} {j : Int} {xs : List Int} (G : Two A B X cd dk ca kc j xs σ) (i : Int) : Two A B X cd dk ca kc i xs (AH.set σ dk (deckO ca i)) :=
  { G with S := G.S.keepF fun b o ho h => by rw [AH.set_ne (show b ≠ dk from fun q => G.dS (by rw [← q]; exact h))]; exact ho
           L := G.L.keepF fun b o ho h => by rw [AH.set_ne (show b ≠ dk from fun q => G.dL (by rw [← q]; exact h))]; exact ho
           hdk := AH.set_same
           kk := by rw [AH.set_ne G.kD]; exact G.kk
           hca := by rw [AH.set_ne (show ca ≠ dk from fun q => by have := G.hca; rw [q, G.hdk] at this; cases this)]; exact G.hca }
/-- a code is noted -/
theorem Two.note {dk ca : Addr} {kc : Addr × AO} {j : Int} {xs : List Int} (G : Two A B X cd dk ca kc j xs σ) (cd' : List Int) : Two A B X cd' dk ca kc j xs (AH.set σ B.cl (.list (cd'.map .int))) := by
  have k : ∀ b o, σ b = some o → b ≠ B.cl → AH.set σ B.cl (.list (cd'.map .int)) b = some o := fun b o ho h => by rw [AH.set_ne h]; exact ho
  have ne : B.d ≠ B.cl := fun q => by have := G.L.cl; rw [← q, G.L.d] at this; cases this
  exact { G with
    S := G.S.keepF fun b o ho h => k b o ho fun q => G.sep b (.inr (.inl q)) h
    L := { G.L with d := k _ _ G.L.d ne, cl := AH.set_same, rs := k _ _ G.L.rs G.L.nr, c := fun i a b => k _ _ (G.L.c i a b) (G.L.nl i a b).1 }
    hdk := k _ _ G.hdk fun q => G.dL (.inr (.inl q))
    hca := k _ _ G.hca fun q => G.cL (.inr (.inl q))
    kk := k _ _ G.kk fun q => G.kL (.inr (.inl q)) }
end
end Mine
end
section
open PySem PySem.W PySem.Calls PyProof.Rows
set_option Elab.async false
set_option linter.unusedVariables false
set_option linter.unusedSimpArgs false
set_option maxRecDepth 100000
set_option maxHeartbeats 0
namespace Mine
def codesL : List Int := [97, 49, 35, 19968, 769, 8205, 65039, 8419, 127462, 127463, 127995, 10084, 128512, 128513]
/-- one deed -/
def Step (X X' : SX) (cd cd' : List Int) : Prop := (∃ x, x ∈ codesL ∧ X' = codeX X x ∧ cd' = cd ++ [x]) ∨ cd' = cd ∧ ((∃ m, X' = repX X m) ∨ X' = nextX X ∨ (∃ r c, (0 ≤ r ∧ r < 2 ∧ 0 ≤ c ∧ c < X.C) ∧ X' = { X with r := r, c := c, wt := false }) ∨ (∃ p, X' = { X with p := p }) ∨ ∃ wr ins sh, X' = { X with wraps := wr, ins := ins, shr := sh })
theorem codes_get {v : Int} (h0 : 0 ≤ v) (h : v < 14) : ∃ x, x ∈ codesL ∧ (codesL.map AV.int)[v.toNat]? = some (.int x) := by
  have hn : v.toNat < codesL.length := by show v.toNat < 14; omega
  exact ⟨codesL[v.toNat], List.getElem_mem hn, by simp [hn]⟩
theorem codes_bound {x : Int} (h : x ∈ codesL) : 32 ≤ x ∧ (x ≤ 127 ∨ 255 < x) := by
  unfold codesL at h
  simp only [List.mem_cons, List.not_mem_nil, or_false] at h
  omega
section
variable {w : WX} {n : Nat} {ℓ : Loc} {σ : AH} {K : AV → Loc → AH → Prop} {A : Ad} {B : LAd} {X : SX} {k : Nat} {cd xs : List Int} {dk ca : Addr} {kc : Addr × AO} {j : Int}
theorem mv_same {t : Option Addr} {la ls : Addr} {l d c : Int → Addr} {wr : Int → Bool} : Same A (mvA A t la ls l d c wr) := ⟨rfl, rfl, rfl, rfl, rfl, rfl, rfl, rfl, rfl, rfl⟩
/-- the law's own deed and then the screen's -/
theorem Two.deedR {A' : Ad} {B' : LAd} {Y : SX} {ρ τ : AH} {cd' : List Int} (G : Two A B X cd dk ca kc j xs σ) (L' : Lw B' Y cd' ρ) (FL : FraL B σ B' ρ) (S' : Scr A' Y τ) (F : Fra X.R A ρ A' τ) (e : Same A A') (hR : Y.R = X.R) : Two A' B' Y cd' dk ca kc j xs τ := by
  have d1 := FL _ _ G.hdk G.dL
  have c1 := FL _ _ G.hca G.cL
  have d2 := F.out e d1.1 G.dS
  have c2 := F.out e c1.1 G.cS
  have k1 := FL _ _ G.kk G.kL
  have k2 := F.out e k1.1 G.kS
  have sep1 : ∀ b, OwnL B' b → ¬ Foot A X.R b := fun b h z => by
    obtain ⟨o, ho⟩ := G.S.foot z
    exact (FL b o ho fun q => G.sep b q z).2 h
  exact ⟨S', L'.keepF fun b o ho h => (F b o ho fun q => sep1 b h (.inl q)).1, d2.1, c2.1, fun b h => by
    obtain ⟨o, ho⟩ := L'.own h
    rw [hR]; exact (F.out e ho (sep1 b h)).2, hR ▸ d2.2, hR ▸ c2.2, d1.2, c1.2, k2.1, hR ▸ k2.2, k1.2, G.kD⟩
theorem Two.scrD (G : Two A B X cd dk ca kc j xs σ) {o : AO} : Scr A X (AH.set σ B.d o) := G.S.keepF fun b ob ho h => by rw [AH.set_ne (show b ≠ B.d from fun q => G.sep b (.inl q) h)]; exact ho
theorem codeX_R {x : Int} : (codeX X x).R = X.R := by
  unfold codeX joinO joinX
  dsimp only
  repeat' split
  all_goals first | rfl | exact signX_facts.1
theorem deed_code {v : Int} (G : Two A B X cd dk ca kc j xs σ) (o : OKX k X) (R2 : X.R = 2) (k1 : 1 ≤ k) (k4 : k ≤ 400) (hcd : cd.length ≤ 100) (hxs : xs.length ≤ 63) (j0 : 0 ≤ j) (j9 : j ≤ 900) (e1 : ∀ x ∈ codesL, codeX X x = lcodedX X x) (hw : ∀ i, aheadX X = some i → (at' (X.rows X.r) i).wd = 1 ∨ (at' (X.rows X.r) i).wd = 2 ∧ i + 1 < X.C)
    (hv : takeF xs j % 20 = v) (v0 : 0 ≤ v) (v1 : v < 14)
    (h : ∀ A' B' X' cd' j' τ, Two A' B' X' cd' dk ca kc j' xs τ → Step X X' cd cd' → Same A A' → B'.d = B.d → j ≤ j' → j' ≤ j + 4 → K .none ℓ τ) : Cd (cx w) (n + 13) (.ref 1363) [.ref dk, .ref A.s, .ref B.d] ℓ σ K := by
  obtain ⟨x, hx, hg⟩ := codes_get v0 v1
  obtain ⟨b1, b2⟩ := codes_bound hx
  have hk : seqIndex? v (codesL.map AV.int).length = some v.toNat := sI (by show v.toNat < 14; omega) (.inl (by omega))
  unfold codesL at hg hk
  subst hv
  have hdk := G.hdk
  have hca := G.hca
  have G1 := G.take (j + 1)
  have L1 := G1.L
  have G2 : Two A B X (cd ++ [x]) dk ca kc (j + 1) xs (AH.set (AH.set σ dk (deckO ca (j + 1))) B.cl (.list (cd.map AV.int ++ [.int x]))) := by
    have q := G1.note (cd ++ [x])
    rw [List.map_append] at q
    exact q
  have S2 := G2.S
  have hcl := cd.length_map AV.int
  run_tac openFn 1363
  run_tac wk3 20
  rename_i t la ls l d c wr τ S' F
  have L3 := G2.after F
  run_tac wk3 20
  have L' := ‹Lw _ (lcodedX X x) _ _›
  rw [← e1 x hx] at L'
  exact h _ _ _ _ _ _ (G2.deed S' F mv_same codeX_R L' ‹FraL _ τ _ _›) (.inl ⟨x, hx, rfl, rfl⟩) mv_same rfl (by omega) (by omega)
theorem deed_again (G : Two A B X cd dk ca kc j xs σ) (o : OKX k X) (o2 : ∀ i, OKX k (lrepX X i)) (R2 : X.R = 2) (hcd : cd.length ≤ 100) (hxs : xs.length ≤ 63) (j0 : 0 ≤ j) (j9 : j ≤ 900) (e2 : ∀ m, repX X m = lrepX X m)
    (v0 : 14 ≤ takeF xs j % 20) (v1 : takeF xs j % 20 < 16)
    (h : ∀ A' B' X' cd' j' τ, Two A' B' X' cd' dk ca kc j' xs τ → Step X X' cd cd' → Same A A' → B'.d = B.d → j ≤ j' → j' ≤ j + 4 → K .none ℓ τ) : Cd (cx w) (n + 13) (.ref 1363) [.ref dk, .ref A.s, .ref B.d] ℓ σ K := by
  obtain ⟨m, m0, m9, hg⟩ : ∃ m : Int, 0 ≤ m ∧ m ≤ 20 ∧ (([1, 2, 3, 20] : List Int).map AV.int)[(takeF xs (j + 1) % 4).toNat]? = some (.int m) := by
    have hn : (takeF xs (j + 1) % 4).toNat < 4 := by omega
    generalize (takeF xs (j + 1) % 4).toNat = q at hn
    have : q = 0 ∨ q = 1 ∨ q = 2 ∨ q = 3 := by omega
    rcases this with rfl | rfl | rfl | rfl
    · exact ⟨1, by decide, by decide, rfl⟩
    · exact ⟨2, by decide, by decide, rfl⟩
    · exact ⟨3, by decide, by decide, rfl⟩
    · exact ⟨20, by decide, by decide, rfl⟩
  have hk : seqIndex? (takeF xs (j + 1) % 4) (([1, 2, 3, 20] : List Int).map AV.int).length = some (takeF xs (j + 1) % 4).toNat := sI (by show (takeF xs (j + 1) % 4).toNat < 4; omega) (.inl (by omega))
  have hdk := G.hdk
  have hca := G.hca
  have G2 : Two A B X cd dk ca kc (j + 1 + 1) xs (AH.set σ dk (deckO ca (j + 1 + 1))) := G.take (j + 1 + 1)
  have S2 := G2.S
  run_tac openFn 1363
  run_tac wk3 20
  rename_i la ls l d c wr τ S' F
  have L3 := G2.after F
  run_tac wk3 20
  have L' := ‹Lw _ (lrepX X _) _ _›
  rw [← R2, ← e2] at L'
  exact h _ _ _ _ _ _ (G2.deed S' F mv_same (repX_facts _).1 L' ‹FraL _ τ _ _›) (.inr ⟨rfl, .inl ⟨_, rfl⟩⟩) mv_same rfl (by omega) (by omega)
theorem deed_next (G : Two A B X cd dk ca kc j xs σ) (o : OKX k X) (R2 : X.R = 2) (hcd : cd.length ≤ 100) (hxs : xs.length ≤ 63) (j0 : 0 ≤ j) (j9 : j ≤ 900)
    (v0 : takeF xs j % 20 = 16)
    (h : ∀ A' B' X' cd' j' τ, Two A' B' X' cd' dk ca kc j' xs τ → Step X X' cd cd' → Same A A' → B'.d = B.d → j ≤ j' → j' ≤ j + 4 → K .none ℓ τ) : Cd (cx w) (n + 13) (.ref 1363) [.ref dk, .ref A.s, .ref B.d] ℓ σ K := by
  have hdk := G.hdk
  have hca := G.hca
  have G2 : Two A B X cd dk ca kc (j + 1) xs (AH.set σ dk (deckO ca (j + 1))) := G.take (j + 1)
  have S2 := G2.S
  run_tac openFn 1363
  run_tac wk3 20
  rename_i ls l d c wr τ S' F
  have L3 := G2.after F
  run_tac wk3 20
  have L' := ‹Lw _ (nextX X) _ _›
  exact h _ _ _ _ _ _ (G2.deed S' F ⟨rfl, rfl, rfl, rfl, rfl, rfl, rfl, rfl, rfl, rfl⟩ rfl L' ‹FraL _ τ _ _›) (.inr ⟨rfl, .inr (.inl rfl)⟩) ⟨rfl, rfl, rfl, rfl, rfl, rfl, rfl, rfl, rfl, rfl⟩ rfl (by omega) (by omega)
theorem deed_place (G : Two A B X cd dk ca kc j xs σ) (o : OKX k X) (R2 : X.R = 2) (hcd : cd.length ≤ 100) (hxs : xs.length ≤ 63) (j0 : 0 ≤ j) (j9 : j ≤ 900)
    (v0 : takeF xs j % 20 = 17)
    (h : ∀ A' B' X' cd' j' τ, Two A' B' X' cd' dk ca kc j' xs τ → Step X X' cd cd' → Same A A' → B'.d = B.d → j ≤ j' → j' ≤ j + 4 → K .none ℓ τ) : Cd (cx w) (n + 13) (.ref 1363) [.ref dk, .ref A.s, .ref B.d] ℓ σ K := by
  have hdk := G.hdk
  have hca := G.hca
  have C2 := o.C2
  have G2 : Two A B X cd dk ca kc (j + 1) xs (AH.set σ dk (deckO ca (j + 1))) := G.take (j + 1)
  have L2 := G2.L
  have G3 : Two A B X cd dk ca kc (j + 1 + 1) xs (AH.set σ dk (deckO ca (j + 1 + 1))) := G.take (j + 1 + 1)
  have L3 := G3.L
  have G4 : Two A B X cd dk ca kc (j + 1 + 1 + 1) xs (AH.set σ dk (deckO ca (j + 1 + 1 + 1))) := G.take (j + 1 + 1 + 1)
  have L4 := G4.L
  have m0 := Int.emod_nonneg (takeF xs (j + 1 + 1)) (show X.C ≠ 0 by omega)
  have m1 := Int.emod_lt_of_pos (takeF xs (j + 1 + 1)) (show 0 < X.C by omega)
  have S5 : Scr A X (AH.set (AH.set σ dk (deckO ca (j + 1 + 1 + 1))) B.d (wO X.C (wideT X.br) (takeF xs (j + 1) % 2) (takeF xs (j + 1 + 1) % X.C) false X.p X.wraps X.ins X.shr X.last B.cl B.rs)) := G4.scrD
  have L5 := L4.setD (takeF xs (j + 1) % 2) (takeF xs (j + 1 + 1) % X.C) false X.p X.wraps X.ins X.shr X.last
  have F5 : FraL B _ B _ := FraL.set (σ := AH.set σ dk (deckO ca (j + 1 + 1 + 1))) (o := wO X.C (wideT X.br) (takeF xs (j + 1) % 2) (takeF xs (j + 1 + 1) % X.C) false X.p X.wraps X.ins X.shr X.last B.cl B.rs) (.inl rfl : OwnL B B.d)
  unfold wO at S5
  run_tac openFn 1363
  run_tac wk3 20
  rename_i σ' S' F'
  exact h _ _ _ _ _ _ (G4.deedR L5 F5 S' F' ⟨rfl, rfl, rfl, rfl, rfl, rfl, rfl, rfl, rfl, rfl⟩ rfl) (.inr ⟨rfl, .inr (.inr (.inl ⟨_, _, ⟨by omega, by omega, m0, m1⟩, rfl⟩))⟩) ⟨rfl, rfl, rfl, rfl, rfl, rfl, rfl, rfl, rfl, rfl⟩ rfl (by omega) (by omega)
theorem deed_pen (G : Two A B X cd dk ca kc j xs σ) (o : OKX k X) (R2 : X.R = 2) (hcd : cd.length ≤ 100) (hxs : xs.length ≤ 63) (j0 : 0 ≤ j) (j9 : j ≤ 900)
    (v0 : takeF xs j % 20 = 18)
    (h : ∀ A' B' X' cd' j' τ, Two A' B' X' cd' dk ca kc j' xs τ → Step X X' cd cd' → Same A A' → B'.d = B.d → j ≤ j' → j' ≤ j + 4 → K .none ℓ τ) : Cd (cx w) (n + 13) (.ref 1363) [.ref dk, .ref A.s, .ref B.d] ℓ σ K := by
  obtain ⟨p, hg⟩ : ∃ p : Int, (([-1, 4, 1] : List Int).map AV.int)[(takeF xs (j + 1) % 3).toNat]? = some (.int p) := by
    have hn : (takeF xs (j + 1) % 3).toNat < 3 := by omega
    generalize (takeF xs (j + 1) % 3).toNat = q at hn
    have : q = 0 ∨ q = 1 ∨ q = 2 := by omega
    rcases this with rfl | rfl | rfl
    · exact ⟨-1, rfl⟩
    · exact ⟨4, rfl⟩
    · exact ⟨1, rfl⟩
  have hk : seqIndex? (takeF xs (j + 1) % 3) (([-1, 4, 1] : List Int).map AV.int).length = some (takeF xs (j + 1) % 3).toNat := sI (by show (takeF xs (j + 1) % 3).toNat < 3; omega) (.inl (by omega))
  have hdk := G.hdk
  have hca := G.hca
  have G2 : Two A B X cd dk ca kc (j + 1 + 1) xs (AH.set σ dk (deckO ca (j + 1 + 1))) := G.take (j + 1 + 1)
  have L2 := G2.L
  have L5 := L2.setD X.r X.c X.wt p X.wraps X.ins X.shr X.last
  have S5 : Scr A X (AH.set (AH.set σ dk (deckO ca (j + 1 + 1))) B.d (wO X.C (wideT X.br) X.r X.c X.wt p X.wraps X.ins X.shr X.last B.cl B.rs)) := G2.scrD
  have F5 : FraL B _ B _ := FraL.set (σ := AH.set σ dk (deckO ca (j + 1 + 1))) (o := wO X.C (wideT X.br) X.r X.c X.wt p X.wraps X.ins X.shr X.last B.cl B.rs) (.inl rfl : OwnL B B.d)
  have S6 := S5.setCu X.r X.c X.wt p
  unfold wO penV at S5
  run_tac openFn 1363
  run_tac wk3 20
  exact h _ _ _ _ _ _ (G2.deedR L5 F5 S6 fraCu ⟨rfl, rfl, rfl, rfl, rfl, rfl, rfl, rfl, rfl, rfl⟩ rfl) (.inr ⟨rfl, .inr (.inr (.inr (.inl ⟨p, rfl⟩)))⟩) ⟨rfl, rfl, rfl, rfl, rfl, rfl, rfl, rfl, rfl, rfl⟩ rfl (by omega) (by omega)
theorem deed_wraps (G : Two A B X cd dk ca kc j xs σ) (o : OKX k X) (R2 : X.R = 2) (hcd : cd.length ≤ 100) (hxs : xs.length ≤ 63) (j0 : 0 ≤ j) (j9 : j ≤ 900)
    (v0 : takeF xs j % 20 = 19) (v1 : takeF xs (j + 1) % 3 = 0)
    (h : ∀ A' B' X' cd' j' τ, Two A' B' X' cd' dk ca kc j' xs τ → Step X X' cd cd' → Same A A' → B'.d = B.d → j ≤ j' → j' ≤ j + 4 → K .none ℓ τ) : Cd (cx w) (n + 13) (.ref 1363) [.ref dk, .ref A.s, .ref B.d] ℓ σ K := by
  have hdk := G.hdk
  have hca := G.hca
  have G2 : Two A B X cd dk ca kc (j + 1 + 1) xs (AH.set σ dk (deckO ca (j + 1 + 1))) := G.take (j + 1 + 1)
  have L2 := G2.L
  have L5 := L2.setD X.r X.c X.wt X.p (!X.wraps) X.ins X.shr X.last
  have S5 : Scr A X (AH.set (AH.set σ dk (deckO ca (j + 1 + 1))) B.d (wO X.C (wideT X.br) X.r X.c X.wt X.p (!X.wraps) X.ins X.shr X.last B.cl B.rs)) := G2.scrD
  have F5 : FraL B _ B _ := FraL.set (σ := AH.set σ dk (deckO ca (j + 1 + 1))) (o := wO X.C (wideT X.br) X.r X.c X.wt X.p (!X.wraps) X.ins X.shr X.last B.cl B.rs) (.inl rfl : OwnL B B.d)
  have hst : (stL A.hi X.wraps X.ins X.shr).length ≤ 100 := by unfold stL; split <;> simp
  have e : puts (Str.ofString "autowrap") (.bool (!X.wraps)) (stL A.hi X.wraps X.ins X.shr) = stL A.hi (!X.wraps) X.ins X.shr := by cases A.hi <;> rfl
  have S6 := S5.setSt A.hi (!X.wraps) X.ins X.shr G.S.hi
  rw [← e] at S6
  have hk : seqIndex? (takeF xs (j + 1) % 3) 3 = some 0 := by rw [v1]; rfl
  unfold wO at S5
  run_tac openFn 1363
  run_tac wk3 20
  all_goals exact h _ _ _ _ _ _ (G2.deedR L5 F5 S6 (Fra.set (.inr (.inr (.inr (.inr (.inr (.inl rfl)))))) fun _ q => q) ⟨rfl, rfl, rfl, rfl, rfl, rfl, rfl, rfl, rfl, rfl⟩ rfl) (.inr ⟨rfl, .inr (.inr (.inr (.inr ⟨_, _, _, rfl⟩)))⟩) ⟨rfl, rfl, rfl, rfl, rfl, rfl, rfl, rfl, rfl, rfl⟩ rfl (by omega) (by omega)
theorem deed_inserts (G : Two A B X cd dk ca kc j xs σ) (o : OKX k X) (R2 : X.R = 2) (hcd : cd.length ≤ 100) (hxs : xs.length ≤ 63) (j0 : 0 ≤ j) (j9 : j ≤ 900)
    (v0 : takeF xs j % 20 = 19) (v1 : takeF xs (j + 1) % 3 = 1)
    (h : ∀ A' B' X' cd' j' τ, Two A' B' X' cd' dk ca kc j' xs τ → Step X X' cd cd' → Same A A' → B'.d = B.d → j ≤ j' → j' ≤ j + 4 → K .none ℓ τ) : Cd (cx w) (n + 13) (.ref 1363) [.ref dk, .ref A.s, .ref B.d] ℓ σ K := by
  have hdk := G.hdk
  have hca := G.hca
  have G2 : Two A B X cd dk ca kc (j + 1 + 1) xs (AH.set σ dk (deckO ca (j + 1 + 1))) := G.take (j + 1 + 1)
  have L2 := G2.L
  have L5 := L2.setD X.r X.c X.wt X.p X.wraps (!X.ins) X.shr X.last
  have S5 : Scr A X (AH.set (AH.set σ dk (deckO ca (j + 1 + 1))) B.d (wO X.C (wideT X.br) X.r X.c X.wt X.p X.wraps (!X.ins) X.shr X.last B.cl B.rs)) := G2.scrD
  have F5 : FraL B _ B _ := FraL.set (σ := AH.set σ dk (deckO ca (j + 1 + 1))) (o := wO X.C (wideT X.br) X.r X.c X.wt X.p X.wraps (!X.ins) X.shr X.last B.cl B.rs) (.inl rfl : OwnL B B.d)
  have hst : (stL A.hi X.wraps X.ins X.shr).length ≤ 100 := by unfold stL; split <;> simp
  have e : puts (Str.ofString "insert") (.bool (!X.ins)) (stL A.hi X.wraps X.ins X.shr) = stL true X.wraps (!X.ins) X.shr := by
    cases q : A.hi
    · rw [G.S.hi q]; rfl
    · rfl
  have S6 := S5.setSt true X.wraps (!X.ins) X.shr (fun z => by cases z)
  rw [← e] at S6
  have hk : seqIndex? (takeF xs (j + 1) % 3) 3 = some 1 := by rw [v1]; rfl
  unfold wO at S5
  run_tac openFn 1363
  run_tac wk3 20
  all_goals exact h _ _ _ _ _ _ (G2.deedR L5 F5 S6 (Fra.set (.inr (.inr (.inr (.inr (.inr (.inl rfl)))))) fun _ q => q) ⟨rfl, rfl, rfl, rfl, rfl, rfl, rfl, rfl, rfl, rfl⟩ rfl) (.inr ⟨rfl, .inr (.inr (.inr (.inr ⟨_, _, _, rfl⟩)))⟩) ⟨rfl, rfl, rfl, rfl, rfl, rfl, rfl, rfl, rfl, rfl⟩ rfl (by omega) (by omega)
theorem deed_shares (G : Two A B X cd dk ca kc j xs σ) (o : OKX k X) (R2 : X.R = 2) (hcd : cd.length ≤ 100) (hxs : xs.length ≤ 63) (j0 : 0 ≤ j) (j9 : j ≤ 900)
    (v0 : takeF xs j % 20 = 19) (v1 : takeF xs (j + 1) % 3 = 2)
    (h : ∀ A' B' X' cd' j' τ, Two A' B' X' cd' dk ca kc j' xs τ → Step X X' cd cd' → Same A A' → B'.d = B.d → j ≤ j' → j' ≤ j + 4 → K .none ℓ τ) : Cd (cx w) (n + 13) (.ref 1363) [.ref dk, .ref A.s, .ref B.d] ℓ σ K := by
  have hdk := G.hdk
  have hca := G.hca
  have G2 : Two A B X cd dk ca kc (j + 1 + 1) xs (AH.set σ dk (deckO ca (j + 1 + 1))) := G.take (j + 1 + 1)
  have L2 := G2.L
  have L5 := L2.setD X.r X.c X.wt X.p X.wraps X.ins (!X.shr) X.last
  have S5 : Scr A X (AH.set (AH.set σ dk (deckO ca (j + 1 + 1))) B.d (wO X.C (wideT X.br) X.r X.c X.wt X.p X.wraps X.ins (!X.shr) X.last B.cl B.rs)) := G2.scrD
  have F5 : FraL B _ B _ := FraL.set (σ := AH.set σ dk (deckO ca (j + 1 + 1))) (o := wO X.C (wideT X.br) X.r X.c X.wt X.p X.wraps X.ins (!X.shr) X.last B.cl B.rs) (.inl rfl : OwnL B B.d)
  have hst : (stL A.hi X.wraps X.ins X.shr).length ≤ 100 := by unfold stL; split <;> simp
  have e : puts (Str.ofString "clusters") (.bool (!X.shr)) (stL A.hi X.wraps X.ins X.shr) = stL A.hi X.wraps X.ins (!X.shr) := by cases A.hi <;> rfl
  have S6 := S5.setSt A.hi X.wraps X.ins (!X.shr) G.S.hi
  rw [← e] at S6
  have hk : seqIndex? (takeF xs (j + 1) % 3) 3 = some 2 := by rw [v1]; rfl
  unfold wO at S5
  run_tac openFn 1363
  run_tac wk3 20
  all_goals exact h _ _ _ _ _ _ (G2.deedR L5 F5 S6 (Fra.set (.inr (.inr (.inr (.inr (.inr (.inl rfl)))))) fun _ q => q) ⟨rfl, rfl, rfl, rfl, rfl, rfl, rfl, rfl, rfl, rfl⟩ rfl) (.inr ⟨rfl, .inr (.inr (.inr (.inr ⟨_, _, _, rfl⟩)))⟩) ⟨rfl, rfl, rfl, rfl, rfl, rfl, rfl, rfl, rfl, rfl⟩ rfl (by omega) (by omega)
end
end Mine
end
section
open PySem PySem.W PySem.Calls PyProof.Rows
set_option Elab.async false
set_option linter.unusedVariables false
set_option linter.unusedSimpArgs false
set_option maxRecDepth 100000
set_option maxHeartbeats 0
namespace Mine
def cellD (c : Cell) : PyData := .tuple [.tuple (c.codes.map .int), .int c.wd, .tuple [.int 0, .int (-1), .int c.bg, .int (-1), .int 0], .bool false]
def rowD (cs : List Cell) : PyData := .list (cs.map cellD)
theorem cell_dv {σ : AH} (c : Cell) : DV σ (cellV c) (cellD c) := .tup (.cons (.tup (DVs.ints σ c.codes)) (.cons (.int _) (.cons (.tup (.cons (.int _) (.cons (.int _) (.cons (.int _) (.cons (.int _) (.cons (.int _) .nil)))))) (.cons (.bool _) .nil))))
theorem row_dvs {σ : AH} : ∀ cs : List Cell, DVs σ (rowV cs) (cs.map cellD)
  | [] => .nil
  | c :: cs => .cons (cell_dv c) (row_dvs cs)
theorem row_dv {σ : AH} {a : Addr} {cs : List Cell} (h : σ a = some (.list (rowV cs))) : DV σ (.ref a) (rowD cs) := .list h (row_dvs cs)
theorem lay_cell (c : Cell) : (cellD c).canLay0 = true := by
  have := lay_ints c.codes
  simp only [cellD, PyData.canLay0, PyData.canLayAll0, this]; rfl
theorem lay_cells : ∀ cs : List Cell, PyData.canLayAll0 (cs.map cellD) = true
  | [] => rfl
  | c :: cs => by
    have := lay_cells cs
    simp only [List.map_cons, PyData.canLayAll0, lay_cell c, this]; rfl
theorem dep_cell (c : Cell) : (cellD c).depth ≤ 10 := by
  have := dep_ints c.codes
  simp only [cellD, PyData.depth, PyData.depthAll]
  generalize PyData.depthAll (c.codes.map PyData.int) = d at this ⊢
  have : d = 0 ∨ d = 1 := by omega
  rcases this with rfl | rfl <;> decide
theorem dep_cells : ∀ cs : List Cell, PyData.depthAll (cs.map cellD) ≤ 20
  | [] => by simp [PyData.depthAll]
  | c :: cs => by
    have := dep_cells cs
    have := dep_cell c
    simp only [List.map_cons, PyData.depthAll]; omega
theorem shaped_row (cs : List Cell) : PySem.SeqAt.shaped (rowD cs) = true := by
  have := dep_cells cs
  rw [PySem.SeqAt.shaped, rowD, PyData.canLay0, lay_cells, PyData.depth]
  exact decide_eq_true (by omega)
theorem shaped_rows (a b : List Cell) : PySem.SeqAt.shaped (.list [rowD a, rowD b]) = true := by
  have h1 := dep_cells a
  have h2 := dep_cells b
  have e : PyData.canLay0 (.list [rowD a, rowD b]) = true := by
    simp only [rowD, PyData.canLay0, PyData.canLayAll0, lay_cells]; rfl
  rw [PySem.SeqAt.shaped, e]
  simp only [rowD, PyData.depth, PyData.depthAll]
  exact decide_eq_true (by omega)
theorem O2.eqSame {c : Cx} {n : Nat} {ℓ : Loc} {σ : AH} {u v : AV} {d : PyData} {K : AV → Loc → AH → Prop} (hu : DV σ u d) (hv : DV σ v d) (sd : PySem.SeqAt.shaped d = true) (h : K (.bool true) ℓ σ) : O2 c n (compareOp .Eq) u v ℓ σ K :=
  O2.eq hu hv sd sd (by rw [PySem.SeqAt.eqv_refl d (PySem.SeqAt.canLay_of_shaped sd)]; exact h)
section
variable {w : WX} {n : Nat} {ℓ : Loc} {σ : AH} {K : AV → Loc → AH → Prop} {A : Ad} {B : LAd} {X : SX} {k : Nat} {cd xs : List Int} {dk ca : Addr} {kc : Addr × AO} {j : Int}
theorem d__law_deed (G : Two A B X cd dk ca kc j xs σ) (o : OKX k X) (o2 : ∀ i, OKX k (lrepX X i)) (R2 : X.R = 2) (k1 : 1 ≤ k) (k4 : k ≤ 400) (hcd : cd.length ≤ 100) (hxs : xs.length ≤ 63) (j0 : 0 ≤ j) (j9 : j ≤ 900) (e1 : ∀ x ∈ codesL, codeX X x = lcodedX X x) (e2 : ∀ m, repX X m = lrepX X m)
    (hw : ∀ i, aheadX X = some i → (at' (X.rows X.r) i).wd = 1 ∨ (at' (X.rows X.r) i).wd = 2 ∧ i + 1 < X.C)
    (h : ∀ A' B' X' cd' j' τ, Two A' B' X' cd' dk ca kc j' xs τ → Step X X' cd cd' → Same A A' → B'.d = B.d → j ≤ j' → j' ≤ j + 4 → K .none ℓ τ) : Cd (cx w) (n + 13) (.ref 1363) [.ref dk, .ref A.s, .ref B.d] ℓ σ K := by
  have v0 : 0 ≤ takeF xs j % 20 := by omega
  have v1 : takeF xs j % 20 < 20 := by omega
  by_cases q1 : takeF xs j % 20 < 14
  · exact deed_code G o R2 k1 k4 hcd hxs j0 j9 e1 hw rfl v0 q1 h
  by_cases q2 : takeF xs j % 20 < 16
  · exact deed_again G o o2 R2 hcd hxs j0 j9 e2 (by omega) q2 h
  by_cases q3 : takeF xs j % 20 = 16
  · exact deed_next G o R2 hcd hxs j0 j9 q3 h
  by_cases q4 : takeF xs j % 20 = 17
  · exact deed_place G o R2 hcd hxs j0 j9 q4 h
  by_cases q5 : takeF xs j % 20 = 18
  · exact deed_pen G o R2 hcd hxs j0 j9 q5 h
  have q6 : takeF xs j % 20 = 19 := by omega
  rcases (show takeF xs (j + 1) % 3 = 0 ∨ takeF xs (j + 1) % 3 = 1 ∨ takeF xs (j + 1) % 3 = 2 by omega) with q | q | q
  · exact deed_wraps G o R2 hcd hxs j0 j9 q6 q h
  · exact deed_inserts G o R2 hcd hxs j0 j9 q6 q h
  · exact deed_shares G o R2 hcd hxs j0 j9 q6 q h
theorem d__law_is_so (S : Scr A X σ) (L : Lw B X cd σ) (o : OKX k X) (R2 : X.R = 2) (h : ∀ τ, Sub σ τ → K (.bool true) ℓ τ) : Cd (cx w) (n + 2) (.ref 1368) [.ref A.s, .ref B.d] ℓ σ K := by
  have C9 := o.C9
  have hl0 := o.len 0 (by decide) (by omega)
  have hl1 := o.len 1 (by decide) (by omega)
  have hls := S.ls
  rw [R2, show lsL A.l 2 = [.ref (A.l 0), .ref (A.l 1)] from rfl] at hls
  have x0 := S.l 0 (by decide) (by omega)
  have x1 := S.l 1 (by decide) (by omega)
  have y0 := S.c 0 (by decide) (by omega)
  have y1 := S.c 1 (by decide) (by omega)
  run_tac openFn 1368
  run_tac wk3 20
  rename_i D hD b0 hb0 b1 hb1
  refine O2.eqSame (d := .list [rowD (X.rows 0), rowD (X.rows 1)]) (.list (vs := [.ref b0, .ref b1]) ?_ (.cons (row_dv ?_) (.cons (row_dv ?_) .nil))) (.list (vs := [.ref (B.c 0), .ref (B.c 1)]) ?_ (.cons (row_dv ?_) (.cons (row_dv ?_) .nil))) (shaped_rows _ _) ?_
  · run_tac sideStep (← Lean.Elab.Tactic.getMainGoal)
  · run_tac sideStep (← Lean.Elab.Tactic.getMainGoal)
  · run_tac sideStep (← Lean.Elab.Tactic.getMainGoal)
  · run_tac sideStep (← Lean.Elab.Tactic.getMainGoal)
  · run_tac sideStep (← Lean.Elab.Tactic.getMainGoal)
  · run_tac sideStep (← Lean.Elab.Tactic.getMainGoal)
  run_tac wk3 20
  refine O2.eqSame (d := .tuple [.int X.r, .int X.c, .bool X.wt]) (.tup (.cons (.int _) (.cons (.int _) (.cons (.bool _) .nil)))) (.tup (.cons (.int _) (.cons (.int _) (.cons (.bool _) .nil)))) rfl ?_
  run_tac wk3 20
  refine h _ fun p o e => ?_
  run_tac sideStep (← Lean.Elab.Tactic.getMainGoal)
end
end Mine
end
section
open PySem PySem.W PySem.Calls PyProof.Rows
set_option Elab.async false
set_option linter.unusedVariables false
set_option linter.unusedSimpArgs false
set_option maxRecDepth 100000
set_option maxHeartbeats 0
namespace Mine
/-- a code more -/
def splitS (br : Bool) (acc : List (List Int)) (x : Int) : List (List Int) := if acc ≠ [] ∧ joinsF br (acc.getLastD []) x = true then acc.dropLast ++ [acc.getLastD [] ++ [x]] else acc ++ [[x]]
def splitF (br : Bool) (cs : List Int) : List (List Int) := cs.foldl (splitS br) []
structure Spl (f : Addr) (ps : List (Addr × List Int)) (σ σ' : AH) : Prop where
  hf : σ' f = some (.list (ps.map fun p => .ref p.1))
  c : ∀ p ∈ ps, σ' p.1 = some (.list (p.2.map .int))
  nf : ∀ p ∈ ps, p.1 ≠ f
  nd : (ps.map (·.1)).Nodup
  fr : ∀ p ∈ ps, σ p.1 = none
  ff : σ f = none
  sub : Sub σ σ'
  ne : ∀ p ∈ ps, p.2 ≠ []
theorem Spl.mono {f : Addr} {ps : List (Addr × List Int)} {σ σ' τ : AH} (h : Spl f ps σ σ') (s : Sub σ' τ) : Spl f ps σ τ := { h with hf := s _ _ h.hf, c := fun p hp => s _ _ (h.c p hp), sub := h.sub.trans s }
theorem Spl.last {f : Addr} {qs : List (Addr × List Int)} {a : Addr} {c : List Int} {x : Int} {σ σ' : AH} (h : Spl f (qs ++ [(a, c)]) σ σ') : Spl f (qs ++ [(a, c ++ [x])]) σ (AH.set σ' a (.list (c.map .int ++ [.int x]))) := by
  have ma : (a, c) ∈ qs ++ [(a, c)] := List.mem_append_right _ (List.mem_singleton.mpr rfl)
  have hq : ∀ p ∈ qs, p ∈ qs ++ [(a, c)] := fun p hp => List.mem_append_left _ hp
  have nd := h.nd
  rw [List.map_append] at nd
  have na : ∀ p ∈ qs, p.1 ≠ a := fun p hp e => by
    have := (List.nodup_append.mp nd).2.2 p.1 (List.mem_map_of_mem hp) a (List.mem_singleton.mpr rfl)
    exact this e
  refine ⟨?_, ?_, ?_, ?_, ?_, h.ff, ?_, ?_⟩
  · rw [AH.set_ne (h.nf (a, c) ma).symm, h.hf, List.map_append, List.map_append]; rfl
  · intro p hp
    rcases List.mem_append.mp hp with hp | hp
    · rw [AH.set_ne (na p hp)]; exact h.c p (hq p hp)
    · rw [List.mem_singleton.mp hp, AH.set_same, List.map_append]; rfl
  · intro p hp
    rcases List.mem_append.mp hp with hp | hp
    · exact h.nf p (hq p hp)
    · rw [List.mem_singleton.mp hp]; exact h.nf (a, c) ma
  · rw [List.map_append]; exact nd
  · intro p hp
    rcases List.mem_append.mp hp with hp | hp
    · exact h.fr p (hq p hp)
    · rw [List.mem_singleton.mp hp]; exact h.fr (a, c) ma
  · intro b o e
    rw [AH.set_ne (ne_fresh e (h.fr (a, c) ma))]; exact h.sub b o e
  · intro p hp
    rcases List.mem_append.mp hp with hp | hp
    · exact h.ne p (hq p hp)
    · rw [List.mem_singleton.mp hp]; simp
theorem Spl.more {f : Addr} {ps : List (Addr × List Int)} {b : Addr} {x : Int} {σ σ' : AH} (h : Spl f ps σ σ') (hb : σ' b = none) : Spl f (ps ++ [(b, [x])]) σ (AH.set (AH.set σ' b (.list [.int x])) f (.list (ps.map (fun p => AV.ref p.1) ++ [.ref b]))) := by
  have bf : b ≠ f := (ne_fresh h.hf hb).symm
  have hσ : σ b = none := by
    cases e : σ b with
    | none => rfl
    | some o => rw [h.sub b o e] at hb; cases hb
  refine ⟨?_, ?_, ?_, ?_, ?_, h.ff, ?_, ?_⟩
  · rw [AH.set_same, List.map_append]; rfl
  · intro p hp
    rcases List.mem_append.mp hp with hp | hp
    · rw [AH.set_ne (h.nf p hp), AH.set_ne (ne_fresh (h.c p hp) hb)]; exact h.c p hp
    · rw [List.mem_singleton.mp hp, AH.set_ne bf, AH.set_same]; rfl
  · intro p hp
    rcases List.mem_append.mp hp with hp | hp
    · exact h.nf p hp
    · rw [List.mem_singleton.mp hp]; exact bf
  · rw [List.map_append]
    refine List.nodup_append.mpr ⟨h.nd, by simp, ?_⟩
    intro y hy z hz e
    obtain ⟨p, hp, rfl⟩ := List.mem_map.mp hy
    rw [List.mem_singleton.mp hz] at e
    exact ne_fresh (h.c p hp) hb e
  · intro p hp
    rcases List.mem_append.mp hp with hp | hp
    · exact h.fr p hp
    · rw [List.mem_singleton.mp hp]; exact hσ
  · intro c o e
    rw [AH.set_ne (ne_fresh e h.ff), AH.set_ne (ne_fresh e hσ)]; exact h.sub c o e
  · intro p hp
    rcases List.mem_append.mp hp with hp | hp
    · exact h.ne p hp
    · rw [List.mem_singleton.mp hp]; simp
section
variable {w : WX} {n : Nat} {ℓ : Loc} {σ : AH} {K : AV → Loc → AH → Prop}
theorem c_split_clusters {a t dt w1 w2 w3 : Addr} {br : Bool} {cs : List Int} (ha : σ a = some (.list (cs.map .int))) (ht : σ t = some (wtO dt w1 w2 w3)) (h1 : σ w1 = some (.list (rangesV (wideL br)))) (h2 : σ w2 = some (.list (rangesV marksL))) (h3 : σ w3 = some (.list (rangesV picsL))) (hz : cs.length ≤ 100)
    (h : ∀ τ D, σ D = none → τ D = some (.list ((splitF br cs).map fun c => .tup (c.map .int))) → Sub σ τ → K (.ref D) ℓ τ) : Cd (cx w) (n + 4) (.ref 184) [.ref a, .ref t] ℓ σ K := by
  have hl := cs.length_map AV.int
  run_tac openFn 184
  run_tac wk3 20
  rename_i f hf
  refine Lo.inv (fun vs ℓ' σ' => ∃ dn rest ps, cs = dn ++ rest ∧ vs = rest.map .int ∧ ps.map (·.2) = splitF br dn ∧ Spl f ps σ σ' ∧ (∀ p ∈ ps, p.2.length ≤ dn.length) ∧ ps.length ≤ dn.length ∧
    LS [(Str.ofString "codes", .ref a), (Str.ofString "table", .ref t), (Str.ofString "found", .ref f)] ℓ') ?_ ?_ _ _ _ ?_
  · rintro v vs ℓ' σ' ⟨dn, rest, ps, ec, ev, ep, hS, hb, hpl, hℓ⟩
    cases rest with
    | nil => cases ev
    | cons x rest =>
      cases ev
      have hle : dn.length < cs.length := by rw [ec]; simp
      have ec' : cs = (dn ++ [x]) ++ rest := by rw [ec]; simp
      have es : splitF br (dn ++ [x]) = splitS br (splitF br dn) x := by unfold splitF; rw [List.foldl_append]; rfl
      have ha' := hS.sub _ _ ha
      have ht' := hS.sub _ _ ht
      have h1' := hS.sub _ _ h1
      have h2' := hS.sub _ _ h2
      have h3' := hS.sub _ _ h3
      rcases List.eq_nil_or_concat ps with rfl | ⟨qs, ⟨a0, c0⟩, rfl⟩
      · have hff : σ' f = some (.list []) := hS.hf
        first | refine As.weak hℓ ?_ | refine Exs.weak hℓ ?_
        all_goals
          run_tac wk3 20
          refine ⟨dn ++ [x], rest, [] ++ [(_, [x])], ec', rfl, ?_, (hS.mono (Sub.drop ‹σ' _ = none›)).more ‹_›, fun p hp => ?_, ?_, LS.app _ [_]⟩
          · rw [es, ← ep]; rfl
          · rw [List.mem_singleton.mp hp]; simp
          · simp
      · rw [List.concat_eq_append] at ep hS hb hpl
        have ma : (a0, c0) ∈ qs ++ [(a0, c0)] := List.mem_append_right _ (List.mem_singleton.mpr rfl)
        have hff : σ' f = some (.list (qs.map (fun p => AV.ref p.1) ++ [.ref a0])) := by rw [hS.hf, List.map_append]; rfl
        have haa : σ' a0 = some (.list (c0.map .int)) := hS.c _ ma
        have fa0 : σ a0 = none := hS.fr _ ma
        have c0n : c0 ≠ [] := hS.ne _ ma
        have c0l : c0.length ≤ dn.length := hb _ ma
        have hlen : (qs.map (fun p => AV.ref p.1) ++ [AV.ref a0]).length = qs.length + 1 := by simp
        have hpl' : qs.length + 1 ≤ dn.length := by simpa using hpl
        have hv : (qs.map (fun p => AV.ref p.1) ++ [AV.ref a0])[(-1 + ((qs.map (fun p => AV.ref p.1) ++ [AV.ref a0]).length : Int)).toNat]? = some (.ref a0) := by rw [hlen, show (-1 + ((qs.length + 1 : Nat) : Int)).toNat = qs.length by omega]; simp
        have hne : (qs.map (fun p => AV.ref p.1) ++ [AV.ref a0]).isEmpty = false := by simp
        have hlast : (splitF br dn).getLastD [] = c0 := by rw [← ep]; simp
        have hdrop : (splitF br dn).dropLast = qs.map (·.2) := by rw [← ep]; simp
        have hnn : splitF br dn ≠ [] := by rw [← ep]; simp
        have hcl := c0.length_map AV.int
        by_cases jx : joinsF br c0 x = true
        · first | refine As.weak hℓ ?_ | refine Exs.weak hℓ ?_
          all_goals
            run_tac wk3 20
            refine ⟨dn ++ [x], rest, qs ++ [(a0, c0 ++ [x])], ec', rfl, ?_, (hS.mono (Sub.drop ‹σ' _ = none›)).last, fun p hp => ?_, ?_, LS.app _ [_]⟩
            · rw [List.map_append, es]; unfold splitS; rw [if_pos ⟨hnn, by rw [hlast]; exact jx⟩, hlast, hdrop]; rfl
            · rcases List.mem_append.mp hp with hp | hp
              · exact Nat.le_trans (hb p (List.mem_append_left _ hp)) (by simp)
              · rw [List.mem_singleton.mp hp]; simp; omega
            · simp; omega
        · have jx' := boolF jx
          first | refine As.weak hℓ ?_ | refine Exs.weak hℓ ?_
          all_goals
            run_tac wk3 20
            rename_i z ez b eb
            have m2 := (hS.mono (Sub.drop (o := .list []) ez)).more (x := x) eb
            rw [List.map_append] at m2
            refine ⟨dn ++ [x], rest, _, ec', rfl, ?_, m2, fun p hp => ?_, ?_, LS.app _ [_]⟩
            · rw [List.map_append, es, ep]; unfold splitS; rw [if_neg (fun z => jx (by rw [← hlast]; exact z.2))]; rfl
            · rcases List.mem_append.mp hp with hp | hp
              · exact Nat.le_trans (hb p hp) (by simp)
              · rw [List.mem_singleton.mp hp]; simp
            · simp; omega
  · rintro ℓ' σ' ⟨dn, rest, ps, ec, ev, ep, hS, hb, hpl, hℓ⟩
    cases rest with
    | cons y rest => cases ev
    | nil =>
      rw [List.append_nil] at ec
      subst ec
      have hff := hS.hf
      have hpz : (ps.map fun p => AV.ref p.1).length ≤ 100 := by rw [List.length_map]; omega
      first | refine As.weak hℓ ?_ | refine Exs.weak hℓ ?_
      all_goals
        run_tac wk3 20
        rename_i L D hD
        refine Lc.inv (fun vs ℓ₂ τ => ∃ dn rest, ps = dn ++ rest ∧ vs = rest.map (fun p => AV.ref p.1) ∧ τ D = some (.list (dn.map fun p => .tup (p.2.map .int))) ∧ Sub σ' τ ∧ LS [] ℓ₂) ?_ ?_ _ _ _ ?_
        · rintro v vs ℓ₂ τ ⟨d2, r2, e1, e2, e3, e4, hℓ⟩
          cases r2 with
          | nil => cases e2
          | cons p r2 =>
            cases e2
            have hp : p ∈ ps := by rw [e1]; simp
            have hq := e4 _ _ (hS.c p hp)
            have hpl := hb p hp
            have hql := p.2.length_map AV.int
            have hdl : d2.length ≤ 100 := by
              have : ps.length = d2.length + (r2.length + 1) := by rw [e1]; simp
              omega
            first | refine As.weak hℓ ?_ | refine Exs.weak hℓ ?_
            all_goals
              run_tac wk3 20
              exact ⟨d2 ++ [p], r2, by rw [e1]; simp, rfl, by rw [AH.set_same, List.map_append]; rfl, fun q o e => by rw [AH.set_ne (ne_fresh e hD)]; exact e4 q o e, LS.app _ [_]⟩
        · rintro ℓ₂ τ ⟨d2, r2, e1, e2, e3, e4, hℓ⟩
          cases r2 with
          | cons p r2 => cases e2
          | nil =>
            run_tac wk3 20
            rw [List.append_nil] at e1
            exact h τ D (fresh_sub hS.sub hD) (by rw [e3, ← ep, List.map_map, e1]; rfl) (hS.sub.trans e4)
        · exact ⟨[], ps, rfl, rfl, AH.set_same, Sub.drop hD, LS.refl _⟩
  · exact ⟨[], cs, [], rfl, rfl, rfl, ⟨AH.set_same, fun p hp => (List.not_mem_nil hp).elim, fun p hp => (List.not_mem_nil hp).elim, List.nodup_nil, fun p hp => (List.not_mem_nil hp).elim, hf, Sub.drop hf, fun p hp => (List.not_mem_nil hp).elim⟩, fun p hp => (List.not_mem_nil hp).elim, Nat.le_refl _, LS.refl _⟩
end
end Mine
end
section
open PySem PySem.W PySem.Calls PyProof.Rows
set_option Elab.async false
set_option linter.unusedVariables false
set_option linter.unusedSimpArgs false
set_option maxRecDepth 100000
set_option maxHeartbeats 0
namespace Mine
theorem split_inv (br : Bool) : ∀ (l : List Int) (acc : List (List Int)) (m : Nat), (∀ c ∈ acc, c ≠ [] ∧ c.length ≤ m) → acc.length ≤ m → (∀ c ∈ l.foldl (splitS br) acc, c ≠ [] ∧ c.length ≤ m + l.length) ∧ (l.foldl (splitS br) acc).length ≤ m + l.length
  | [], acc, m, h1, h2 => ⟨h1, h2⟩
  | x :: l, acc, m, h1, h2 => by
    have hs : (∀ c ∈ splitS br acc x, c ≠ [] ∧ c.length ≤ m + 1) ∧ (splitS br acc x).length ≤ m + 1 := by
      unfold splitS
      split
      · rename_i q
        refine ⟨fun c hc => ?_, ?_⟩
        · rcases List.mem_append.mp hc with hc | hc
          · have := h1 c (List.dropLast_subset _ hc)
            exact ⟨this.1, by omega⟩
          · rw [List.mem_singleton.mp hc]
            have hm : acc.getLastD [] ∈ acc := by
              cases acc with
              | nil => exact absurd rfl q.1
              | cons a r => rw [List.getLastD_cons, List.getLastD_eq_getLast?]; cases e : r.getLast? with
                | none => simp
                | some y => simp; right; exact List.mem_of_getLast? e
            have := h1 _ hm
            exact ⟨by simp, by rw [List.length_append, List.length_singleton]; omega⟩
        · simp only [List.length_append, List.length_dropLast, List.length_singleton]; omega
      · refine ⟨fun c hc => ?_, by simp; omega⟩
        rcases List.mem_append.mp hc with hc | hc
        · have := h1 c hc
          exact ⟨this.1, by omega⟩
        · rw [List.mem_singleton.mp hc]; simp
    have := split_inv br l (splitS br acc x) (m + 1) hs.1 hs.2
    rw [List.length_cons, List.foldl_cons]
    refine ⟨fun c hc => ⟨(this.1 c hc).1, by have := (this.1 c hc).2; omega⟩, by have := this.2; omega⟩
theorem splitF_inv (br : Bool) (cs : List Int) : (∀ c ∈ splitF br cs, c ≠ [] ∧ c.length ≤ cs.length) ∧ (splitF br cs).length ≤ cs.length := by
  have := split_inv br cs [] 0 (fun c hc => (List.not_mem_nil hc).elim) (Nat.le_refl _)
  rw [Nat.zero_add] at this
  exact this
/-- a cluster's cells -/
def tilesF (br : Bool) (p : Int) (c : List Int) : List Cell := if clusterF br c = 2 then [⟨c, 2, p⟩, ⟨[], 0, p⟩] else [⟨c, clusterF br c, p⟩]
def cellsF (br : Bool) (p : Int) (l : List (List Int)) : List Cell := l.flatMap (tilesF br p)
theorem cellsF_snoc {br : Bool} {p : Int} {l : List (List Int)} {c : List Int} : cellsF br p (l ++ [c]) = cellsF br p l ++ tilesF br p c := by unfold cellsF; rw [List.flatMap_append]; simp
theorem cellsF_len {br : Bool} {p : Int} (l : List (List Int)) : (cellsF br p l).length ≤ 2 * l.length := by
  induction l with
  | nil => simp [cellsF]
  | cons c l ih =>
    unfold cellsF at ih ⊢
    rw [List.flatMap_cons, List.length_append, List.length_cons]
    have : (tilesF br p c).length ≤ 2 := by unfold tilesF; split <;> simp
    omega
theorem row_app1 {m : List Cell} {a : Cell} : rowV (m ++ [a]) = rowV m ++ [cellV a] := by unfold rowV; rw [List.map_append]; rfl
theorem row_app2 {m : List Cell} {a b : Cell} : rowV (m ++ [a, b]) = rowV m ++ [cellV a] ++ [cellV b] := by unfold rowV; rw [List.map_append, List.append_assoc]; rfl
theorem clusterF_in (br : Bool) (c : List Int) : clusterF br c = 1 ∨ clusterF br c = 2 := by
  unfold clusterF
  repeat' split
  all_goals first | exact .inl rfl | exact .inr rfl
theorem getD_mem {ns : List Int} {j : Nat} (h : j < ns.length) : ns.getD j 0 ∈ ns := by
  rw [List.getD_eq_getElem?_getD, List.getElem?_eq_getElem h]
  exact List.getElem_mem h
theorem preSum_take (ns : List Int) : ∀ j, j ≤ ns.length → preSum (fun i => ns.getD i 0) j = (ns.take j).sum
  | 0, _ => by simp [preSum]
  | j + 1, h => by
    have hj : j < ns.length := by omega
    have e : ns.take (j + 1) = ns.take j ++ [ns[j]] := by simp
    rw [preSum, preSum_take ns j (by omega), e, List.sum_append, List.getD_eq_getElem?_getD, List.getElem?_eq_getElem hj]
    simp
theorem preSum_bound (ns : List Int) (hb : ∀ x ∈ ns, 0 ≤ x ∧ x ≤ 2) : ∀ j, j ≤ ns.length → 0 ≤ preSum (fun i => ns.getD i 0) j ∧ preSum (fun i => ns.getD i 0) j ≤ 2 * j
  | 0, _ => by simp [preSum]
  | j + 1, h => by
    have h1 := preSum_bound ns hb j (by omega)
    have hx := hb (ns.getD j 0) (getD_mem (by omega))
    rw [preSum]
    omega
section
variable {w : WX} {n : Nat} {ℓ : Loc} {σ : AH} {K : AV → Loc → AH → Prop}
theorem d_cluster_width_l {t dt w1 w2 w3 : Addr} {br : Bool} {cs : List Int} (ht : σ t = some (wtO dt w1 w2 w3)) (h1 : σ w1 = some (.list (rangesV (wideL br)))) (h2 : σ w2 = some (.list (rangesV marksL))) (h3 : σ w3 = some (.list (rangesV picsL))) (hz : cs.length ≤ 1000) (q : cs ≠ [])
    (h : K (.int (clusterF br cs)) ℓ σ) : Cd (cx w) (n + 3) (.ref 179) [.tup (cs.map .int), .ref t] ℓ σ K := c_cluster_width ht h1 h2 h3 hz q h
theorem c_cells_of_codes {a t dt w1 w2 w3 : Addr} {br : Bool} {cs : List Int} {p : Int} (ha : σ a = some (.list (cs.map .int))) (ht : σ t = some (wtO dt w1 w2 w3)) (h1 : σ w1 = some (.list (rangesV (wideL br)))) (h2 : σ w2 = some (.list (rangesV marksL))) (h3 : σ w3 = some (.list (rangesV picsL))) (hz : cs.length ≤ 100)
    (h : ∀ τ D, σ D = none → τ D = some (.list (rowV (cellsF br p (splitF br cs)))) → Sub σ τ → K (.ref D) ℓ τ) : Cd (cx w) (n + 5) (.ref 196) [.ref a, penV p, .ref t] ℓ σ K := by
  have inv := splitF_inv br cs
  run_tac openFn 196
  run_tac wk3 20
  rename_i f hf τ0 D e1 e2 e3
  have Df : D ≠ f := (fresh_set e1).2
  refine Lo.inv (fun vs ℓ' σ' => ∃ dn rest, splitF br cs = dn ++ rest ∧ vs = rest.map (fun c => .tup (c.map .int)) ∧ σ' f = some (.list (rowV (cellsF br p dn))) ∧ (∀ q o, q ≠ f → τ0 q = some o → σ' q = some o) ∧
    LS [(Str.ofString "codes", .ref a), (Str.ofString "pen", penV p), (Str.ofString "table", .ref t), (Str.ofString "found", .ref f)] ℓ') ?_ ?_ _ _ _ ?_
  · rintro v vs ℓ' σ' ⟨dn, rest, ec, ev, hff, keep, hℓ⟩
    cases rest with
    | nil => cases ev
    | cons c rest =>
      cases ev
      have up : ∀ q o, σ q = some o → σ' q = some o := fun q o e => keep q o (ne_fresh e hf) (e3 q o (by rw [AH.set_ne (ne_fresh e hf)]; exact e))
      have ht' := up _ _ ht
      have h1' := up _ _ h1
      have h2' := up _ _ h2
      have h3' := up _ _ h3
      have hD' := keep D _ Df e2
      have hc := inv.1 c (by rw [ec]; simp)
      have cn := hc.1
      have cl : c.length ≤ 100 := by omega
      have dl : dn.length ≤ 100 := by
        have : (splitF br cs).length = dn.length + (rest.length + 1) := by rw [ec]; simp
        omega
      have rl := cellsF_len (br := br) (p := p) dn
      have rl2 := row_len (cellsF br p dn)
      first | refine As.weak hℓ ?_ | refine Exs.weak hℓ ?_
      all_goals
        dsimp only
        run_tac wk3 20
        all_goals first
          | exact ⟨dn ++ [c], rest, by rw [ec]; simp, rfl, by rw [AH.set_same, cellsF_snoc]; unfold tilesF; rw [if_pos ‹clusterF br c = 2›, row_app2, ‹clusterF br c = 2›]; rfl, fun q o z e => by rw [AH.set_ne z]; exact keep q o z e, LS.app _ [_, _]⟩
          | exact ⟨dn ++ [c], rest, by rw [ec]; simp, rfl, by rw [AH.set_same, cellsF_snoc]; unfold tilesF; rw [if_neg ‹¬ clusterF br c = 2›, row_app1]; rfl, fun q o z e => by rw [AH.set_ne z]; exact keep q o z e, LS.app _ [_, _]⟩
  · rintro ℓ' σ' ⟨dn, rest, ec, ev, hff, keep, hℓ⟩
    cases rest with
    | cons y rest => cases ev
    | nil =>
      rw [List.append_nil] at ec
      first | refine As.weak hℓ ?_ | refine Exs.weak hℓ ?_
      all_goals
        run_tac wk3 20
        exact h σ' f hf (by rw [ec]; exact hff) fun q o e => keep q o (ne_fresh e hf) (e3 q o (by rw [AH.set_ne (ne_fresh e hf)]; exact e))
  · exact ⟨[], _, rfl, rfl, e3 f _ AH.set_same, fun q o _ e => e, LS.refl _⟩
theorem c_codes_width {a t dt w1 w2 w3 : Addr} {br : Bool} {cs : List Int} (ha : σ a = some (.list (cs.map .int))) (ht : σ t = some (wtO dt w1 w2 w3)) (h1 : σ w1 = some (.list (rangesV (wideL br)))) (h2 : σ w2 = some (.list (rangesV marksL))) (h3 : σ w3 = some (.list (rangesV picsL))) (hz : cs.length ≤ 100)
    (h : ∀ τ, Sub σ τ → K (.int ((splitF br cs).map (clusterF br)).sum) ℓ τ) : Cd (cx w) (n + 5) (.ref 189) [.ref a, .ref t] ℓ σ K := by
  have inv := splitF_inv br cs
  run_tac openFnC 189
  run_tac wk3 20
  rename_i τ0 D0 e1 e2 e3 L2 D hD
  refine Lc.inv (fun vs ℓ' σ' => ∃ dn rest, splitF br cs = dn ++ rest ∧ vs = rest.map (fun c => .tup (c.map .int)) ∧ σ' D = some (.list ((dn.map (clusterF br)).map .int)) ∧ Sub τ0 σ' ∧ LS [] ℓ') ?_ ?_ _ _ _ ?_
  · rintro v vs ℓ' σ' ⟨dn, rest, ec, ev, hff, keep, hℓ⟩
    cases rest with
    | nil => cases ev
    | cons c rest =>
      cases ev
      have up : ∀ q o, σ q = some o → σ' q = some o := fun q o e => keep q o (e3 q o (by rw [AH.set_ne (ne_fresh e hfr0)]; exact e))
      have ht' := up _ _ ht
      have h1' := up _ _ h1
      have h2' := up _ _ h2
      have h3' := up _ _ h3
      have hD' := keep _ _ e2
      have hcell := keep _ _ (e3 _ _ AH.set_same)
      have hc := inv.1 c (by rw [ec]; simp)
      have cn := hc.1
      have cl : c.length ≤ 100 := by omega
      have dl : dn.length ≤ 100 := by
        have : (splitF br cs).length = dn.length + (rest.length + 1) := by rw [ec]; simp
        omega
      have rl2 : ((dn.map (clusterF br)).map AV.int).length = dn.length := by simp
      first | refine As.weak hℓ ?_ | refine Exs.weak hℓ ?_
      all_goals
        dsimp only
        run_tac wk3 20
        exact ⟨dn ++ [c], rest, by rw [ec]; simp, rfl, by rw [AH.set_same, List.map_append, List.map_append]; rfl, fun q o e => by rw [AH.set_ne (ne_fresh e hD)]; exact keep q o e, LS.app _ [_]⟩
  · rintro ℓ' σ' ⟨dn, rest, ec, ev, hff, keep, hℓ⟩
    cases rest with
    | cons y rest => cases ev
    | nil =>
      rw [List.append_nil] at ec
      run_tac wk3 20
      have hb : ∀ x ∈ dn.map (clusterF br), 0 ≤ x ∧ x ≤ 2 := fun x hx => by
        obtain ⟨c, _, rfl⟩ := List.mem_map.mp hx
        rcases clusterF_in br c with q | q <;> rw [q] <;> decide
      have hlen : (dn.map (clusterF br)).length ≤ 100 := by rw [List.length_map, ← ec]; omega
      refine Ca.sum (ns := dn.map (clusterF br)) hff (fun j hj => ⟨?_, ?_⟩) ?_
      · have := hb ((dn.map (clusterF br)).getD j 0) (getD_mem hj)
        unfold InLong; omega
      · have := preSum_bound _ hb (j + 1) hj
        unfold InLong; omega
      · rw [preSum_take _ _ (Nat.le_refl _), List.take_length, ← ec]
        run_tac wk3 20
        exact h σ' fun q o e => keep q o (e3 q o (by rw [AH.set_ne (ne_fresh e hfr0)]; exact e))
  · exact ⟨[], _, rfl, rfl, AH.set_same, Sub.drop hD, LS.refl _⟩
end
end Mine
end
section
open PySem PySem.W PySem.Calls PyProof.Rows
set_option Elab.async false
set_option linter.unusedVariables false
set_option linter.unusedSimpArgs false
set_option maxRecDepth 100000
set_option maxHeartbeats 0
namespace Mine
/-- the width of all clusters -/
def totF (br : Bool) (l : List Int) : Int := ((splitF br l).map (clusterF br)).sum
/-- the long row after some codes -/
structure LongI (br : Bool) (C : Int) (dn : List Int) (X : SX) : Prop where
  eR : X.R = 1
  eC : X.C = C
  er : X.r = 0
  ec : X.c = totF br dn
  ewt : X.wt = false
  eins : X.ins = false
  eshr : X.shr = true
  ebr : X.br = br
  ep : X.p = -1
  erows : X.rows 0 = cellsF br (-1) (splitF br dn) ++ List.replicate (C - totF br dn).toNat (blk (-1))
  ok : OKX (dn.length + 1) X
theorem long_zero {br : Bool} {C : Int} (h : 2 ≤ C) (h2 : C ≤ 200) : LongI br C [] (X0 1 C true br) where
  eR := rfl
  eC := rfl
  er := rfl
  ec := rfl
  ewt := rfl
  eins := rfl
  eshr := rfl
  ebr := rfl
  ep := rfl
  erows := by show List.replicate C.toNat _ = [] ++ List.replicate (C - 0).toNat _; rw [Int.sub_zero]; rfl
  ok := ⟨.inl rfl, h, h2, Int.le_refl _, (by decide : (0 : Int) < 1), Int.le_refl _, (by show 0 < C; omega), fun i _ _ => by show ((List.replicate C.toNat (blk (-1))).length : Int) = C; rw [List.length_replicate]; omega, fun i _ _ x hx => by
    have hx : x ∈ List.replicate C.toNat (blk (-1)) := hx
    rw [(List.mem_replicate.mp hx).2]; exact Nat.zero_le _, Nat.zero_le _, by decide⟩
theorem cellsF_total {br : Bool} {p : Int} (l : List (List Int)) : ((cellsF br p l).length : Int) = (l.map (clusterF br)).sum := by
  induction l with
  | nil => rfl
  | cons c l ih =>
    unfold cellsF at ih ⊢
    rw [List.flatMap_cons, List.length_append, List.map_cons, List.sum_cons, ← ih]
    have : ((tilesF br p c).length : Int) = clusterF br c := by
      unfold tilesF
      rcases clusterF_in br c with q | q <;> rw [q] <;> rfl
    omega
theorem tile_len {br : Bool} {p : Int} (c : List Int) : ((tilesF br p c).length : Int) = clusterF br c := by
  unfold tilesF
  rcases clusterF_in br c with q | q <;> rw [q] <;> rfl
theorem joinX_ok {k : Nat} {X : SX} {x i : Int} (o : OKX k X) (k4 : k ≤ 400) (h0 : 0 ≤ i) (hi : i < X.C) : OKX (k + 1) (joinX X x i) := by
  have o1 := o.up (j := k + 1) (by omega) (by omega)
  have hlen := o.len X.r o.r0 o.rR
  have hc : ((at' (X.rows X.r) i).codes ++ [x]).length ≤ k + 1 := by
    rw [List.length_append, List.length_singleton]
    have := cell_cl o h0 hi
    omega
  have oR : ∀ q, OKX (k + 1) { X with rows := fun j => if j = X.r then putCore (X.rows X.r) i ⟨(at' (X.rows X.r) i).codes ++ [x], q, (at' (X.rows X.r) i).bg⟩ else X.rows j } := fun q =>
    o1.setRow (by rw [putCore_len]; exact hlen) (putCore_cl (o1.cl X.r o.r0 o.rR) hc)
  unfold joinX
  dsimp only
  split
  · split
    · exact (advX_ok (oR 2) h0 (by decide)).setLast hc
    · exact (oR _).setLast hc
  · split
    · exact (advX_ok (oR 2) h0 (by decide)).setLast hc
    · exact (oR _).setLast hc
theorem splitS_ne {br : Bool} {acc : List (List Int)} {x : Int} : splitS br acc x ≠ [] := by
  unfold splitS
  split <;> simp
theorem splitF_snoc {br : Bool} {dn : List Int} {x : Int} : splitF br (dn ++ [x]) = splitS br (splitF br dn) x := by unfold splitF; rw [List.foldl_append]; rfl
theorem splitF_nil {br : Bool} {dn : List Int} (h : splitF br dn = []) : dn = [] := by
  rcases List.eq_nil_or_concat dn with q | ⟨l, y, q⟩
  · exact q
  · rw [q, List.concat_eq_append, splitF_snoc] at h
    exact absurd h splitS_ne
theorem code_mark {br : Bool} {x : Int} (hx : x ∈ codesL) (h : lmarks.contains x = false) : widthF br x ≠ 0 := by
  have e : inR marksL x = false := by
    have : ∀ y ∈ codesL, lmarks.contains y = false → inR marksL y = false := by decide
    exact this x hx h
  unfold widthF
  rw [e, if_neg Bool.false_ne_true]
  split <;> decide
theorem totF_snoc {br : Bool} {S : List (List Int)} {c : List Int} : ((S ++ [c]).map (clusterF br)).sum = (S.map (clusterF br)).sum + clusterF br c := by simp
theorem long_bound {br : Bool} {C : Int} {dn : List Int} {X : SX} (h : LongI br C dn X) : 0 ≤ totF br dn ∧ totF br dn ≤ 2 * dn.length ∧ ((cellsF br (-1) (splitF br dn)).length : Int) = totF br dn := by
  have h1 := cellsF_total (br := br) (p := -1) (splitF br dn)
  have h2 := cellsF_len (br := br) (p := -1) (splitF br dn)
  have h3 := (splitF_inv br dn).2
  unfold totF
  omega
theorem long_lay {br : Bool} {C : Int} {dn : List Int} {X : SX} {x : Int} (h : LongI br C dn X) (hC : 2 * ((dn.length : Int) + 1) + 2 ≤ C) (hl : dn.length ≤ 100) (hs : splitF br (dn ++ [x]) = splitF br dn ++ [[x]]) (hq : widthF br x ≠ 0) : LongI br C (dn ++ [x]) (layP X [x] (widthF br x)) := by
  obtain ⟨b0, b1, b2⟩ := long_bound h
  have ho := h.ok
  have hq' := widthF_in br x
  have et : totF br (dn ++ [x]) = totF br dn + widthF br x := by unfold totF; rw [hs, totF_snoc, cluster_one hq]
  have o2 := ho.up (j := dn.length + 1 + 1) (by omega) (by omega)
  have eC := h.eC
  have ec := h.ec
  refine ⟨h.eR, h.eC, h.er, ?_, ?_, h.eins, h.eshr, h.ebr, h.ep, ?_, ?_⟩
  · show (if X.c + widthF br x > X.C - 1 then X.C - 1 else X.c + widthF br x) = _
    rw [if_neg (by omega), et, ec]
  · show decide (X.c + widthF br x > X.C - 1) = false
    exact decide_eq_false (by omega)
  · show (if (0 : Int) = X.r then putCore (X.rows X.r) X.c ⟨[x], widthF br x, X.p⟩ else X.rows 0) = _
    rw [if_pos h.er.symm, h.er, h.erows, h.ep, hs, cellsF_snoc, et]
    unfold tilesF
    rw [cluster_one hq]
    rcases hq' with q | q | q
    · exact absurd q hq
    · rw [q, if_neg (by decide)]
      obtain ⟨m, hm⟩ : ∃ m, (C - totF br dn).toNat = m + 1 := ⟨(C - totF br dn).toNat - 1, by omega⟩
      rw [hm, List.replicate_succ, put1 (by omega) (by decide) (fun b B' e => blanks_head e), show (C - (totF br dn + 1)).toNat = m by omega]
      simp
    · rw [q, if_pos rfl]
      obtain ⟨m, hm⟩ : ∃ m, (C - totF br dn).toNat = m + 1 + 1 := ⟨(C - totF br dn).toNat - 2, by omega⟩
      rw [hm, List.replicate_succ, List.replicate_succ, put2 (by omega) (by decide) (fun b B' e => blanks_head e), show (C - (totF br dn + 2)).toNat = m by omega]
      simp
  · rw [List.length_append]
    exact layP_ok o2 (by omega) (by simp)
theorem long_at {br : Bool} {C : Int} {dn : List Int} {X : SX} {S' : List (List Int)} {c0 : List Int} (h : LongI br C dn X) (e : splitF br dn = S' ++ [c0]) :
    ∃ T : List Cell, T = cellsF br (-1) S' ∧ (T.length : Int) = totF br dn - clusterF br c0 ∧ X.rows 0 = T ++ tilesF br (-1) c0 ++ List.replicate (C - totF br dn).toNat (blk (-1)) ∧ at' (X.rows 0) (totF br dn - clusterF br c0) = ⟨c0, clusterF br c0, -1⟩ := by
  have h1 := cellsF_total (br := br) (p := -1) S'
  have et : totF br dn = (S'.map (clusterF br)).sum + clusterF br c0 := by unfold totF; rw [e, totF_snoc]
  have hr := h.erows
  rw [e, cellsF_snoc] at hr
  refine ⟨_, rfl, by omega, hr, ?_⟩
  rw [hr]
  unfold tilesF
  rcases clusterF_in br c0 with q | q
  · rw [q, if_neg (by decide), List.append_assoc, List.singleton_append]
    exact at_app _ _ _ (by omega)
  · rw [q, if_pos rfl, List.append_assoc, List.cons_append]
    exact at_app _ _ _ (by omega)
theorem long_ahead {br : Bool} {C : Int} {dn : List Int} {X : SX} {S' : List (List Int)} {c0 : List Int} (h : LongI br C dn X) (e : splitF br dn = S' ++ [c0]) : aheadX X = some (totF br dn - clusterF br c0) := by
  obtain ⟨T, hT, hTl, hr, ha⟩ := long_at h e
  have hc0 : c0 ≠ [] := ((splitF_inv br dn).1 c0 (by rw [e]; simp)).1
  have hlast : at' (X.rows 0) (totF br dn - 1) = if clusterF br c0 = 2 then ⟨[], 0, -1⟩ else ⟨c0, clusterF br c0, -1⟩ := by
    rcases clusterF_in br c0 with q | q
    · rw [q, if_neg (by decide)]; rw [q] at ha; exact ha
    · rw [q, if_pos rfl, hr]
      unfold tilesF
      rw [if_pos q, show T ++ [(⟨c0, 2, -1⟩ : Cell), ⟨[], 0, -1⟩] ++ List.replicate (C - totF br dn).toNat (blk (-1)) = (T ++ [⟨c0, 2, -1⟩]) ++ ⟨[], 0, -1⟩ :: List.replicate (C - totF br dn).toNat (blk (-1)) by simp]
      exact at_app _ _ _ (by rw [List.length_append, List.length_singleton]; omega)
  have hw := clusterF_in br c0
  unfold aheadX
  dsimp only
  rw [h.ewt, if_neg Bool.false_ne_true, h.ec, h.er, hlast, if_neg (by omega)]
  rcases hw with q | q
  · rw [q, if_neg (by decide : ¬ (1 : Int) = 2)]
    dsimp only
    rw [if_neg (by decide : ¬ (1 : Int) = 0), hlast, q, if_neg (by decide : ¬ (1 : Int) = 2), if_pos ⟨by omega, hc0⟩]
  · rw [if_pos q]
    dsimp only
    rw [if_pos rfl, q, show totF br dn - 1 - 1 = totF br dn - 2 by omega]
    rw [q] at ha
    rw [ha, if_pos ⟨by omega, hc0⟩]
theorem long_join {br : Bool} {C : Int} {dn : List Int} {X : SX} {x : Int} {S' : List (List Int)} {c0 : List Int} (h : LongI br C dn X) (hC : 2 * ((dn.length : Int) + 1) + 2 ≤ C) (hl : dn.length ≤ 100) (e : splitF br dn = S' ++ [c0]) (hs : splitF br (dn ++ [x]) = S' ++ [c0 ++ [x]]) : LongI br C (dn ++ [x]) (joinX X x (totF br dn - clusterF br c0)) := by
  obtain ⟨b0, b1, b2⟩ := long_bound h
  obtain ⟨T, hT, hTl, hr, ha⟩ := long_at h e
  have hw := clusterF_in br c0
  have hw2 := clusterF_in br (c0 ++ [x])
  have et0 : totF br dn = (S'.map (clusterF br)).sum + clusterF br c0 := by unfold totF; rw [e, totF_snoc]
  have et : totF br (dn ++ [x]) = (S'.map (clusterF br)).sum + clusterF br (c0 ++ [x]) := by unfold totF; rw [hs, totF_snoc]
  have eC := h.eC
  have ok := joinX_ok (x := x) h.ok (by omega) (show 0 ≤ totF br dn - clusterF br c0 by omega) (show totF br dn - clusterF br c0 < X.C by omega)
  have hcells : cellsF br (-1) (S' ++ [c0 ++ [x]]) = T ++ tilesF br (-1) (c0 ++ [x]) := by rw [cellsF_snoc, hT]
  rw [show dn.length + 1 + 1 = (dn ++ [x]).length + 1 by simp] at ok
  revert ok
  unfold joinX
  dsimp only
  rw [h.er, ha, h.eshr, if_pos rfl, h.ebr]
  dsimp only
  rcases hw with q | q
  · rw [q] at et0 ha hTl ⊢
    rcases hw2 with q2 | q2
    · rw [q2, if_neg (fun z => by have := z.1; omega)]
      intro ok
      refine ⟨h.eR, h.eC, rfl, ?_, h.ewt, h.eins, rfl, rfl, h.ep, ?_, ok⟩
      · show X.c = _
        rw [h.ec]; omega
      · show (if (0 : Int) = 0 then putCore (X.rows 0) (totF br dn - 1) ⟨c0 ++ [x], 1, -1⟩ else X.rows 0) = _
        rw [if_pos rfl, hr, hs, hcells]
        unfold tilesF
        rw [q, q2, if_neg (by decide), if_neg (by decide), List.append_assoc, List.singleton_append, put1 (by omega) (show (1 : Int) ≠ 0 by decide) (fun b B' e => blanks_head e), show totF br (dn ++ [x]) = totF br dn by omega]
        simp
    · rw [q2, if_pos ⟨rfl, rfl, by omega, h.ewt⟩]
      intro ok
      refine ⟨h.eR, h.eC, rfl, ?_, ?_, h.eins, rfl, rfl, h.ep, ?_, ok⟩
      · show (if totF br dn - 1 + 2 > X.C - 1 then X.C - 1 else totF br dn - 1 + 2) = _
        rw [if_neg (by omega)]; omega
      · show decide (totF br dn - 1 + 2 > X.C - 1) = false
        exact decide_eq_false (by omega)
      · show (if (0 : Int) = 0 then putCore (X.rows 0) (totF br dn - 1) ⟨c0 ++ [x], 2, -1⟩ else X.rows 0) = _
        obtain ⟨m, hm⟩ : ∃ m, (C - totF br dn).toNat = m + 1 := ⟨(C - totF br dn).toNat - 1, by omega⟩
        rw [if_pos rfl, hr, hs, hcells]
        unfold tilesF
        rw [q, q2, if_neg (by decide), if_pos rfl, List.append_assoc, List.singleton_append, hm, List.replicate_succ, put2 (by omega) (show (1 : Int) ≠ 0 by decide) (fun b B' e => blanks_head e), show (C - totF br (dn ++ [x])).toNat = m by omega]
        simp
  · have q2 : clusterF br (c0 ++ [x]) = 2 := cluster_more q
    rw [q] at et0 ha hTl ⊢
    rw [q2, if_neg (fun z => by have := z.2.1; omega)]
    intro ok
    refine ⟨h.eR, h.eC, rfl, ?_, h.ewt, h.eins, rfl, rfl, h.ep, ?_, ok⟩
    · show X.c = _
      rw [h.ec]; omega
    · show (if (0 : Int) = 0 then putCore (X.rows 0) (totF br dn - 2) ⟨c0 ++ [x], 2, -1⟩ else X.rows 0) = _
      rw [if_pos rfl, hr, hs, hcells]
      unfold tilesF
      rw [q, q2, if_pos rfl, if_pos rfl, List.append_assoc, List.cons_append, List.singleton_append, put2 (by omega) (show (2 : Int) ≠ 0 by decide) (fun b B' e => blanks_head e), show totF br (dn ++ [x]) = totF br dn by omega]
      simp
theorem long_step {br : Bool} {C : Int} {dn : List Int} {X : SX} {x : Int} (h : LongI br C dn X) (hx : x ∈ codesL) (hm : dn ≠ [] ∨ lmarks.contains x = false) (hC : 2 * ((dn.length : Int) + 1) + 2 ≤ C) (hl : dn.length ≤ 100) :
    LongI br C (dn ++ [x]) (codeP X x) ∧ (∀ i, aheadX X = some i → (at' (X.rows X.r) i).wd = 1 ∨ (at' (X.rows X.r) i).wd = 2 ∧ i + 1 < X.C) ∧ X.c < X.C - 1 := by
  obtain ⟨b0, b1, b2⟩ := long_bound h
  have ec := h.ec
  have eC := h.eC
  refine ⟨?_, ?_, by omega⟩
  · rcases List.eq_nil_or_concat (splitF br dn) with q | ⟨S', c0, q⟩
    · have hd := splitF_nil q
      have hmk : lmarks.contains x = false := hm.resolve_left (fun z => z hd)
      have hq := code_mark (br := br) hx hmk
      have ha : aheadX X = none := by
        unfold aheadX
        dsimp only
        have e0 : totF br dn = 0 := by unfold totF; rw [q]; rfl
        rw [h.ewt, if_neg Bool.false_ne_true, ec, e0, if_pos (by decide)]
      unfold codeP joinedX
      rw [ha, h.ebr, if_neg (fun z => z.elim hq (fun z => Bool.false_ne_true z))]
      exact long_lay h hC hl (by rw [splitF_snoc, q]; rfl) hq
    · rw [List.concat_eq_append] at q
      have ha := long_ahead h q
      obtain ⟨T, hT, hTl, hr, hat⟩ := long_at h q
      have hc0 : c0 ≠ [] := ((splitF_inv br dn).1 c0 (by rw [q]; simp)).1
      have jj : joinedX X x = joinsF br c0 x := by unfold joinedX; rw [ha]; dsimp only; rw [h.er, hat, h.ebr]
      have jo : joinO X x = joinX X x (totF br dn - clusterF br c0) := by unfold joinO; rw [ha]
      unfold codeP
      rw [jj, jo, h.ebr]
      by_cases j : joinsF br c0 x = true
      · rw [if_pos (.inr j)]
        exact long_join h hC hl q (by rw [splitF_snoc, q]; unfold splitS; rw [if_pos ⟨by simp, by simpa using j⟩]; simp)
      · have hq : widthF br x ≠ 0 := fun z => j (by unfold joinsF; rw [if_neg hc0, if_pos z])
        rw [if_neg (fun z => z.elim hq j)]
        exact long_lay h hC hl (by rw [splitF_snoc, q]; unfold splitS; rw [if_neg (fun z => j (by simpa using z.2))]) hq
  · intro i hi
    rcases List.eq_nil_or_concat (splitF br dn) with q | ⟨S', c0, q⟩
    · exfalso
      have e0 : totF br dn = 0 := by unfold totF; rw [q]; rfl
      unfold aheadX at hi
      dsimp only at hi
      rw [h.ewt, if_neg Bool.false_ne_true, ec, e0, if_pos (by decide)] at hi
      cases hi
    · rw [List.concat_eq_append] at q
      rw [long_ahead h q] at hi
      cases hi
      obtain ⟨T, hT, hTl, hr, hat⟩ := long_at h q
      rw [h.er, hat]
      rcases clusterF_in br c0 with w | w
      · exact .inl w
      · exact .inr ⟨w, by omega⟩
end Mine
end
section
open PySem PySem.W PySem.Calls PyProof.Rows
set_option Elab.async false
set_option linter.unusedVariables false
set_option linter.unusedSimpArgs false
set_option maxRecDepth 100000
set_option maxHeartbeats 0
namespace Mine
theorem cut_tail {α : Type} {a : α} {l : List α} : cut (some 1) none (a :: l) = l := by
  have e : clipN (some 1) 0 (a :: l).length = 1 := by unfold clipN; simp; omega
  have e2 : clipN none (a :: l).length (a :: l).length = (a :: l).length := rfl
  unfold cut
  rw [e, e2]
  simp
theorem O2.neSame {c : Cx} {n : Nat} {ℓ : Loc} {σ : AH} {u v : AV} {d : PyData} {K : AV → Loc → AH → Prop} (hu : DV σ u d) (hv : DV σ v d) (sd : PySem.SeqAt.shaped d = true) (h : K (.bool false) ℓ σ) : O2 c n (compareOp .NotEq) u v ℓ σ K :=
  O2.ne hu hv sd sd (by rw [PySem.SeqAt.eqv_refl d (PySem.SeqAt.canLay_of_shaped sd)]; exact h)
section
variable {w : WX} {n : Nat} {ℓ : Loc} {σ : AH} {K : AV → Loc → AH → Prop}
theorem c__law_long_row {d cl rs t dt w1 w2 w3 : Addr} {C r c p : Int} {wd last cd : List Int} {wt wr ins sh br : Bool} (hd : σ d = some (wO C wd r c wt p wr ins sh last cl rs)) (hcl : σ cl = some (.list (cd.map .int)))
    (ht : σ t = some (wtO dt w1 w2 w3)) (h1 : σ w1 = some (.list (rangesV (wideL br)))) (h2 : σ w2 = some (.list (rangesV marksL))) (h3 : σ w3 = some (.list (rangesV picsL)))
    (hcd : ∀ x ∈ cd, x ∈ codesL) (hz : cd.length ≤ 90) (h : ∀ τ, K (.bool true) ℓ τ) : Cd (cx w) (n + 20) (.ref 1382) [.ref d, .ref t] ℓ σ K := by
  run_tac openFn 1382
  refine Exs.cut 2 ?_
  refine Exs.mono (K := fun fl ℓ' σ' => fl = .next ∧ ∃ b l, ℓ' = [(Str.ofString "w", .ref d), (Str.ofString "table", .ref t), (Str.ofString "codes", .ref b)] ∧ l.length ≤ 90 ∧ (∀ x ∈ l, x ∈ codesL) ∧ (∀ x l', l = x :: l' → lmarks.contains x = false) ∧ σ' b = some (.list (l.map .int)) ∧ Sub σ σ') ?_ ?_
  · run_tac wk3 20
    refine Ex.while_ (fun k ℓ' σ' => ∃ b l, ℓ' = [(Str.ofString "w", .ref d), (Str.ofString "table", .ref t), (Str.ofString "codes", .ref b)] ∧ l.length = k ∧ l.length ≤ 90 ∧ (∀ x ∈ l, x ∈ codesL) ∧ σ' b = some (.list (l.map .int)) ∧ Sub σ σ') ?_ cd.length ⟨cl, cd, rfl, rfl, hz, hcd, hcl, Sub.refl _⟩
    rintro k ℓ' σ' ⟨b, l, rfl, rfl, hz', hl', hb, hs⟩
    cases l with
    | nil =>
      run_tac wk3 20
      exact ⟨b, [], rfl, hz', hl', (fun x l' e => by cases e), by rw [AH.set_ne (ne_fresh hb ‹_›)]; exact hb, hs.trans (Sub.drop ‹_›)⟩
    | cons x l =>
      have hne : ((x :: l).map AV.int).isEmpty = false := rfl
      have hg : ((x :: l).map AV.int)[(0 : Int).toNat]? = some (.int x) := rfl
      have hz2 : l.length + 1 ≤ 90 := hz'
      run_tac wk3 20
      · rename_i a ea nb eb
        refine ⟨l.length, Nat.lt_succ_self _, nb, l, rfl, rfl, by omega, fun y hy => hl' y (List.mem_cons_of_mem _ hy), ?_, ?_⟩
        · have e : cut (some 1) none ((x :: l).map AV.int) = l.map AV.int := cut_tail
          rw [AH.set_same, e]
        · exact hs.trans ((Sub.drop ea).trans (Sub.drop eb))
      · refine ⟨b, x :: l, rfl, hz', hl', (fun x l' e => by cases e; assumption), by rw [AH.set_ne (ne_fresh hb ‹_›)]; exact hb, hs.trans (Sub.drop ‹_›)⟩
  · rintro fl ℓ' σ' ⟨rfl, b, l, rfl, hz', hl', hm, hb, hs⟩
    have hlm := l.length_map AV.int
    have ht' := hs _ _ ht
    have h1' := hs _ _ h1
    have h2' := hs _ _ h2
    have h3' := hs _ _ h3
    have mulOk : IntMulOk 2 (l.map AV.int).length := IntMulOk.of_left (intBits_le_64 (by omega) (by omega))
    dsimp only
    run_tac wk3 20
    rename_i τ1 m dm s k e1 e2 e3 f1 f2 s1 x dx hx A τ eA eW eM S s2 own
    subst eA
    subst eW
    have ub := s1 _ _ hb
    refine Lo.inv (fun vs ℓ' τ' => ∃ dn rest A' X, l = dn ++ rest ∧ vs = rest.map .int ∧ A'.s = A.s ∧ A'.wt = A.wt ∧ Scr A' X τ' ∧ LongI br (2 * (l.map AV.int).length + 2) dn X ∧ τ' b = some (.list (l.map .int)) ∧ ¬ Own A' 1 b ∧
      LS [(Str.ofString "w", .ref d), (Str.ofString "table", .ref A.wt), (Str.ofString "codes", .ref b), (Str.ofString "screen", .ref A.s)] ℓ') ?_ ?_ _ _ _ ?_
    · rintro v vs ℓ' τ' ⟨dn, rest, A', X, el, ev, es, ew, S1, hL, hb', hO, hℓ⟩
      cases rest with
      | nil => cases ev
      | cons x rest =>
        cases ev
        have hx := hl' x (by rw [el]; simp)
        have hlen : dn.length + 1 ≤ l.length := by rw [el]; simp
        have hmm : dn ≠ [] ∨ lmarks.contains x = false := by
          cases dn with
          | nil => exact .inr (hm x rest el)
          | cons a r => exact .inl (by simp)
        obtain ⟨L2, hw, hc⟩ := long_step hL hx hmm (by rw [hlm]; omega) (by omega)
        obtain ⟨b1, b2⟩ := codes_bound hx
        have o := hL.ok
        have w1 := hL.ewt
        have w3 := hL.eins
        have w4 := hL.eshr
        rw [← es] at hℓ
        first | refine As.weak hℓ ?_ | refine Exs.weak hℓ ?_
        all_goals
          run_tac wk3 20
          rename_i t2 la2 τ2 S2 F2
          rw [hL.eR] at F2
          have q := F2 b _ hb' hO
          exact ⟨q.1, dn ++ [x], rest, mvA A' t2 la2 A'.ls A'.l A'.d A'.c A'.wr, _, by rw [el]; simp, rfl, es, ew, S2, L2, q.1, q.2, (by rw [es]; exact LS.app _ [_])⟩
    · rintro ℓ' τ' ⟨dn, rest, A', X, el, ev, es, ew, S1, hL, hb', hO, hℓ⟩
      cases rest with
      | cons y rest => cases ev
      | nil =>
        rw [List.append_nil] at el
        subst el
        rw [← es, ← ew] at hℓ
        have eb := hL.ebr
        subst eb
        have eR := hL.eR
        have tot := cellsF_total (br := X.br) (p := -1) (splitF X.br l)
        have ec := hL.ec
        unfold totF at ec
        have hcu : τ' A'.cu = some (curO A'.dc 0 ((splitF X.br l).map (clusterF X.br)).sum false X.p) := by
          have q := S1.cu
          rw [hL.er, ec, hL.ewt] at q
          exact q
        have hls : τ' A'.ls = some (.list [.ref (A'.l 0)]) := by
          have q := S1.ls
          rw [eR] at q
          exact q
        have hlen0 := hL.ok.len 0 (by decide) (by omega)
        rw [hL.eC] at hlen0
        have rl := row_len (X.rows 0)
        have rl2 := row_len (cellsF X.br (-1) (splitF X.br l))
        have rl3 : ((rowV (cellsF X.br (-1) (splitF X.br l))).length : Int) = ((splitF X.br l).map (clusterF X.br)).sum := by rw [rl2]; exact tot
        have cll := cellsF_len (br := X.br) (p := -1) (splitF X.br l)
        have sl := (splitF_inv X.br l).2
        first | refine As.weak hℓ ?_ | refine Exs.weak hℓ ?_
        all_goals
          run_tac wk3 20
          refine O2.neSame (d := .tuple [.int 0, .int ((splitF X.br l).map (clusterF X.br)).sum, .bool false]) (.tup (.cons (.int _) (.cons (.int _) (.cons (.bool _) .nil)))) (.tup (.cons (.int _) (.cons (.int _) (.cons (.bool _) .nil)))) rfl ?_
          run_tac wk3 20
          rw [reps_one, row_rep]
          have e5 := List.length_replicate (n := (((X.rows 0).length : Int) - ((splitF X.br l).map (clusterF X.br)).sum).toNat) (a := blk (-1))
          run_tac wk3 20
          have erow : cellsF X.br (-1) (splitF X.br l) ++ List.replicate (((X.rows 0).length : Int) - ((splitF X.br l).map (clusterF X.br)).sum).toNat (blk (-1)) = X.rows 0 := by rw [hlen0]; exact hL.erows.symm
          rw [erow]
          refine O2.eqSame (d := rowD (X.rows 0)) (row_dv ?_) (row_dv ?_) (shaped_row _) ?_
          · run_tac sideStep (← Lean.Elab.Tactic.getMainGoal)
          · run_tac sideStep (← Lean.Elab.Tactic.getMainGoal)
          run_tac wk3 20
          exact h _
    · exact ⟨[], l, A, _, rfl, rfl, rfl, rfl, S, long_zero (by omega) (by rw [hlm]; omega), s2 _ _ ub, own b _ ub (fun q => by rw [q] at ub; rw [f2] at ub; cases ub), LS.refl _⟩
end
end Mine
end
section
open PySem PySem.W PySem.Calls PyProof.Rows
set_option Elab.async false
set_option linter.unusedVariables false
set_option linter.unusedSimpArgs false
set_option maxRecDepth 100000
set_option maxHeartbeats 0
namespace Mine
/-- a row of whole signs -/
inductive WFl : List Cell → Prop
  | nil : WFl []
  | one {c : Cell} {r : List Cell} : c.wd = 1 → WFl r → WFl (c :: r)
  | two {c : Cell} {r : List Cell} : c.wd = 2 → WFl r → WFl (c :: ⟨[], 0, c.bg⟩ :: r)
theorem WFl.app {a b : List Cell} (ha : WFl a) (hb : WFl b) : WFl (a ++ b) := by
  induction ha with
  | nil => exact hb
  | one h _ ih => exact .one h ih
  | two h _ ih => exact .two h ih
theorem WFl.head {b : Cell} {r : List Cell} (h : WFl (b :: r)) : b.wd ≠ 0 := by
  cases h with
  | one h _ => rw [h]; decide
  | two h _ => rw [h]; decide
theorem WFl.blanks (b : Int) : ∀ n, WFl (List.replicate n (blk b))
  | 0 => .nil
  | n + 1 => by rw [List.replicate_succ]; exact .one rfl (WFl.blanks b n)
/-- a row is cut in two, or through a wide sign -/
theorem WFl.at {cs : List Cell} (h : WFl cs) : ∀ i : Nat, i ≤ cs.length → (∃ A B, cs = A ++ B ∧ A.length = i ∧ WFl A ∧ WFl B) ∨ ∃ A c B, cs = A ++ c :: ⟨[], 0, c.bg⟩ :: B ∧ A.length + 1 = i ∧ c.wd = 2 ∧ WFl A ∧ WFl B := by
  induction h with
  | nil => intro i hi; exact .inl ⟨[], [], rfl, by simp at hi; exact hi.symm, .nil, .nil⟩
  | @one c r hc hr ih =>
    intro i hi
    cases i with
    | zero => exact .inl ⟨[], c :: r, rfl, rfl, .nil, .one hc hr⟩
    | succ i =>
      rcases ih i (by simp at hi; exact hi) with ⟨A, B, e, l, a, b⟩ | ⟨A, d, B, e, l, q, a, b⟩
      · exact .inl ⟨c :: A, B, by rw [e]; rfl, by simp [l], .one hc a, b⟩
      · exact .inr ⟨c :: A, d, B, by rw [e]; rfl, by simp [l], q, .one hc a, b⟩
  | @two c r hc hr ih =>
    intro i hi
    match i, hi with
    | 0, _ => exact .inl ⟨[], _, rfl, rfl, .nil, .two hc hr⟩
    | 1, _ => exact .inr ⟨[], c, r, rfl, rfl, hc, .nil, hr⟩
    | i + 2, hi =>
      rcases ih i (by simp at hi; exact hi) with ⟨A, B, e, l, a, b⟩ | ⟨A, d, B, e, l, q, a, b⟩
      · exact .inl ⟨c :: ⟨[], 0, c.bg⟩ :: A, B, by rw [e]; rfl, by simp [l], .two hc a, b⟩
      · exact .inr ⟨c :: ⟨[], 0, c.bg⟩ :: A, d, B, by rw [e]; rfl, by simp [l], q, .two hc a, b⟩
theorem cutF_no {cs : List Cell} {i : Int} (h : ¬ (0 < i ∧ i < cs.length ∧ (at' cs i).wd = 0)) : cutF cs i = cs := if_neg h
theorem clean_no {A B : List Cell} {i : Int} (hi : i = A.length) (hB : WFl B) : ¬ (0 < i ∧ i < (A ++ B).length ∧ (at' (A ++ B) i).wd = 0) := by
  intro z
  cases B with
  | nil => have := z.2.1; rw [List.append_nil] at this; omega
  | cons b r => rw [at_app A b r hi] at z; exact hB.head z.2.2
theorem splice_app {α : Type} (A M B U : List α) {i j : Int} (hi : i = A.length) (hj : j = A.length + M.length) : splice (some i) (some j) (A ++ M ++ B) U = A ++ U ++ B := by
  have l : (A ++ M ++ B).length = A.length + M.length + B.length := by rw [List.length_append, List.length_append]
  have e1 : clipN (some i) 0 (A ++ M ++ B).length = A.length := by rw [clip_in (by omega) (by omega)]; omega
  have e2 : clipN (some j) (A ++ M ++ B).length (A ++ M ++ B).length = A.length + M.length := by rw [clip_in (by omega) (by omega)]; omega
  unfold splice
  rw [e1, e2, show max A.length (A.length + M.length) = A.length + M.length by omega]
  rw [List.append_assoc A M B, List.take_left, ← List.append_assoc A M B, ← List.length_append, List.drop_left]
theorem cut_thru {A B : List Cell} {c : Cell} {i : Int} (hi : i = A.length + 1) : cutF (A ++ c :: ⟨[], 0, c.bg⟩ :: B) i = A ++ blk c.bg :: blk c.bg :: B ∧ partF (A ++ c :: ⟨[], 0, c.bg⟩ :: B) i = A ++ blk c.bg :: blk c.bg :: B := by
  have e2 : A ++ c :: (⟨[], 0, c.bg⟩ : Cell) :: B = (A ++ [c]) ++ ⟨[], 0, c.bg⟩ :: B := by simp
  have ha : at' (A ++ c :: ⟨[], 0, c.bg⟩ :: B) i = ⟨[], 0, c.bg⟩ := by rw [e2]; exact at_app _ _ _ (by simp; omega)
  have y : 0 < i ∧ i < (A ++ c :: (⟨[], 0, c.bg⟩ : Cell) :: B).length ∧ (at' (A ++ c :: ⟨[], 0, c.bg⟩ :: B) i).wd = 0 := ⟨by omega, by simp; omega, by rw [ha]⟩
  have ha1 : at' (A ++ c :: ⟨[], 0, c.bg⟩ :: B) (i - 1) = c := at_app _ _ _ (by omega)
  constructor
  · unfold cutF
    rw [if_pos y, ha]
    have e3 : A ++ c :: (⟨[], 0, c.bg⟩ : Cell) :: B = A ++ [c, ⟨[], 0, c.bg⟩] ++ B := by simp
    rw [e3, splice_app A [c, ⟨[], 0, c.bg⟩] B _ (by omega) (by simp; omega)]
    simp [List.replicate]
  · rw [partF_yes y, ha1]
    have s1 : (A ++ c :: (⟨[], 0, c.bg⟩ : Cell) :: B).set (i - 1).toNat (blk c.bg) = A ++ blk c.bg :: ⟨[], 0, c.bg⟩ :: B := set_app _ _ _ _ (by omega)
    have s1' : A ++ blk c.bg :: (⟨[], 0, c.bg⟩ : Cell) :: B = (A ++ [blk c.bg]) ++ ⟨[], 0, c.bg⟩ :: B := by simp
    rw [s1, s1', at_app _ _ _ (by simp; omega), set_app _ _ _ _ (by simp; omega)]
    simp
/-- both cuts are one -/
theorem part_cut {cs : List Cell} (h : WFl cs) {i : Int} (h0 : 0 ≤ i) (hi : i ≤ cs.length) : partF cs i = cutF cs i ∧ ∃ A B, cutF cs i = A ++ B ∧ (A.length : Int) = i ∧ WFl A ∧ WFl B ∧ (A ++ B).length = cs.length := by
  rcases h.at i.toNat (by omega) with ⟨A, B, e, l, a, b⟩ | ⟨A, c, B, e, l, q, a, b⟩
  · have n := clean_no (A := A) (i := i) (by omega) b
    rw [← e] at n
    refine ⟨by rw [partF_no n, cutF_no n], A, B, by rw [cutF_no n, e], by omega, a, b, by rw [e]⟩
  · obtain ⟨r, p⟩ := cut_thru (A := A) (B := B) (c := c) (i := i) (by omega)
    rw [e]
    exact ⟨by rw [p, r], A ++ [blk c.bg], blk c.bg :: B, by rw [r]; simp, by simp; omega, a.app (.one rfl .nil), .one rfl b, by simp⟩
theorem cut_app {A B : List Cell} {a j : Int} (ha : a = A.length) (hB : WFl B) (h0 : 0 ≤ j) (hj : j ≤ B.length) : cutF (A ++ B) (a + j) = A ++ cutF B j ∧ partF (A ++ B) (a + j) = A ++ partF B j := by
  rcases hB.at j.toNat (by omega) with ⟨B1, B2, e, l, w1, w2⟩ | ⟨B1, c, B2, e, l, q, w1, w2⟩
  · have n := clean_no (A := B1) (i := j) (by omega) w2
    have n2 := clean_no (A := A ++ B1) (i := a + j) (by rw [List.length_append]; omega) w2
    rw [List.append_assoc, ← e] at n2
    rw [← e] at n
    rw [cutF_no n2, cutF_no n, partF_no n2, partF_no n]
    exact ⟨rfl, rfl⟩
  · obtain ⟨r, p⟩ := cut_thru (A := B1) (B := B2) (c := c) (i := j) (by omega)
    obtain ⟨r2, p2⟩ := cut_thru (A := A ++ B1) (B := B2) (c := c) (i := a + j) (by rw [List.length_append]; omega)
    rw [List.append_assoc] at r2 p2
    rw [e, r, p, r2, p2, List.append_assoc]
    exact ⟨rfl, rfl⟩
/-- a row cut at two places -/
theorem cut_two {cs : List Cell} (h : WFl cs) {i q : Int} (h0 : 0 ≤ i) (hq : 0 ≤ q) (hi : i + q ≤ cs.length) : ∃ A M B, partF (partF cs i) (i + q) = A ++ M ++ B ∧ cutF (cutF cs i) (i + q) = A ++ M ++ B ∧ (A.length : Int) = i ∧ (M.length : Int) = q ∧ WFl A ∧ WFl M ∧ WFl B ∧ (A ++ M ++ B).length = cs.length := by
  obtain ⟨p1, A, B, r1, la, wa, wb, ll⟩ := part_cut h h0 (show i ≤ cs.length by omega)
  rw [List.length_append] at ll
  obtain ⟨c1, c2⟩ := cut_app (A := A) (B := B) la.symm wb hq (by omega)
  obtain ⟨p2, M, B2, r2, lm, wm, wb2, ll2⟩ := part_cut wb hq (show q ≤ B.length by omega)
  rw [List.length_append] at ll2
  refine ⟨A, M, B2, by rw [p1, r1, c2, p2, r2, List.append_assoc], by rw [r1, c1, r2, List.append_assoc], la, lm, wa, wm, wb2, by rw [List.length_append, List.length_append]; omega⟩
/-- a sign is laid alike -/
theorem set_eq {cs : List Cell} (h : WFl cs) {i q p : Int} {xs : List Int} (h0 : 0 ≤ i) (hq : q = 1 ∨ q = 2) (hi : i + q ≤ cs.length) : putCore cs i ⟨xs, q, p⟩ = lsetF cs i xs q p ∧ WFl (lsetF cs i xs q p) := by
  obtain ⟨A, M, B, p1, c1, la, lm, wa, wm, wb, ll⟩ := cut_two h h0 (show 0 ≤ q by omega) hi
  have e : lsetF cs i xs q p = A ++ tileF xs q p ++ B := by
    unfold lsetF
    rw [c1, splice_app A M B _ la.symm (by omega)]
  rw [e]
  unfold putCore
  dsimp only
  rw [p1]
  unfold tileF
  rcases hq with rfl | rfl
  · rw [if_neg (by decide), if_neg (by decide)]
    obtain ⟨m, rfl⟩ := List.length_eq_one_iff.mp (show M.length = 1 by omega)
    rw [List.append_assoc, List.singleton_append, set_app _ _ _ _ (by omega)]
    exact ⟨by simp, (wa.app (.one rfl .nil)).app wb⟩
  · rw [if_pos rfl, if_pos rfl]
    obtain ⟨m, m2, rfl⟩ : ∃ m m2, M = [m, m2] := ⟨_, _, List.eq_getElem_of_length_eq_two M (by omega)⟩
    have e1 : A ++ [m, m2] ++ B = A ++ m :: m2 :: B := by simp
    have e2 : A ++ (⟨xs, 2, p⟩ : Cell) :: m2 :: B = (A ++ [⟨xs, 2, p⟩]) ++ m2 :: B := by simp
    rw [e1, set_app _ _ _ _ (by omega), e2, set_app _ _ _ _ (by simp; omega)]
    exact ⟨by simp, (wa.app (.two rfl .nil)).app wb⟩
end Mine
end
section
open PySem PySem.W PySem.Calls PyProof.Rows
set_option Elab.async false
set_option linter.unusedVariables false
set_option linter.unusedSimpArgs false
set_option maxRecDepth 100000
set_option maxHeartbeats 0
namespace Mine
theorem cut_mid {α : Type} (A M B : List α) {i j : Int} (hi : i = A.length) (hj : j = A.length + M.length) : cut (some i) (some j) (A ++ M ++ B) = M := by
  have l : (A ++ M ++ B).length = A.length + M.length + B.length := by rw [List.length_append, List.length_append]
  have e1 : clipN (some i) 0 (A ++ M ++ B).length = A.length := by rw [clip_in (by omega) (by omega)]; omega
  have e2 : clipN (some j) (A ++ M ++ B).length (A ++ M ++ B).length = A.length + M.length := by rw [clip_in (by omega) (by omega)]; omega
  unfold cut
  rw [e1, e2, List.append_assoc, List.drop_left, show A.length + M.length - A.length = M.length by omega, List.take_left]
theorem splice_end {α : Type} (A M U : List α) {i : Int} (hi : i = A.length) : splice (some i) none (A ++ M) U = A ++ U := by
  have l : (A ++ M).length = A.length + M.length := List.length_append
  have e1 : clipN (some i) 0 (A ++ M).length = A.length := by rw [clip_in (by omega) (by omega)]; omega
  have e2 : clipN none (A ++ M).length (A ++ M).length = (A ++ M).length := rfl
  unfold splice
  rw [e1, e2, List.take_left, show max A.length (A ++ M).length = (A ++ M).length by omega, List.drop_length, List.append_nil]
/-- cells are put in alike -/
theorem shift_eq {cs : List Cell} (h : WFl cs) {i q p C : Int} (h0 : 0 ≤ i) (hq : 0 ≤ q) (hi : i + q ≤ cs.length) (hC : (cs.length : Int) = C) : shiftF cs i q p = linsF cs i q C p ∧ WFl (linsF cs i q C p) := by
  subst hC
  obtain ⟨A, M, B, p1, c1, la, lm, wa, wm, wb, ll⟩ := cut_two h h0 (show 0 ≤ (cs.length : Int) - q - i by omega) (by omega)
  rw [show i + ((cs.length : Int) - q - i) = (cs.length : Int) - q by omega] at p1 c1
  have hD : shiftD cs i q = A ++ M ++ B := by
    unfold shiftD
    rw [show (cs.length : Int) - 1 + 1 = cs.length by omega]
    rw [partF_no (cs := partF cs i) (i := (cs.length : Int)) (fun z => by have := z.2.1; rw [partF_len] at this; omega)]
    have n : partF (partF cs i) i = partF cs i := by
      obtain ⟨e, A', B', r, la', _, wb', _⟩ := part_cut h h0 (show i ≤ cs.length by omega)
      rw [e, r]
      exact partF_no (clean_no la'.symm wb')
    rw [n, p1]
  have lB : (B.length : Int) = q := by
    rw [List.length_append, List.length_append] at ll
    omega
  have e : linsF cs i q cs.length p = A ++ (List.replicate q.toNat (blk p) ++ M) := by
    unfold linsF
    rw [c1, cut_mid A M B la.symm (by omega), List.append_assoc, splice_end A (M ++ B) _ la.symm]
  refine ⟨?_, ?_⟩
  · rw [e]
    unfold shiftF
    rw [hD, show (cs.length : Int) - 1 + 1 = cs.length by omega, cut_mid A M B la.symm (by omega)]
    have e3 : A ++ M ++ B = A ++ (M ++ B) ++ [] := by simp
    rw [e3, splice_app A (M ++ B) [] _ la.symm (by rw [List.length_append, List.length_append] at ll; rw [List.length_append]; omega)]
    simp
  · rw [e]
    exact wa.app ((WFl.blanks p _).app wm)
end Mine
end
section
open PySem PySem.W PySem.Calls PyProof.Rows
set_option Elab.async false
set_option linter.unusedVariables false
set_option linter.unusedSimpArgs false
set_option maxRecDepth 100000
set_option maxHeartbeats 0
namespace Mine
def Good (l : List Int) : Prop := ∀ x ∈ l, x ∈ codesL
def GoodR (r : List Cell) : Prop := ∀ c ∈ r, Good c.codes
theorem Good.nil : Good [] := fun x h => (List.not_mem_nil h).elim
theorem GoodR.part {cs : List Cell} {i : Int} (h : GoodR cs) : GoodR (partF cs i) := by
  intro x hx
  unfold partF at hx
  split at hx
  · rcases List.mem_or_eq_of_mem_set hx with hx | rfl
    · rcases List.mem_or_eq_of_mem_set hx with hx | rfl
      · exact h x hx
      · exact Good.nil
    · exact Good.nil
  · exact h x hx
theorem GoodR.put {cs : List Cell} {i : Int} {c : Cell} (h : GoodR cs) (hc : Good c.codes) : GoodR (putCore cs i c) := by
  intro x hx
  have h2 := (h.part (i := i)).part (i := i + c.wd)
  unfold putCore at hx
  split at hx
  · rcases List.mem_or_eq_of_mem_set hx with hx | rfl
    · rcases List.mem_or_eq_of_mem_set hx with hx | rfl
      · exact h2 x hx
      · exact hc
    · exact Good.nil
  · rcases List.mem_or_eq_of_mem_set hx with hx | rfl
    · exact h2 x hx
    · exact hc
theorem GoodR.blanks {n : Nat} {b : Int} : GoodR (List.replicate n (blk b)) := fun x hx => by rw [(List.mem_replicate.mp hx).2]; exact Good.nil
theorem GoodR.shift {cs : List Cell} {i m b : Int} (h : GoodR cs) : GoodR (shiftF cs i m b) := by
  have hD : GoodR (shiftD cs i m) := h.part.part.part.part
  intro x hx
  simp only [shiftF, splice, cut, List.mem_append] at hx
  rcases hx with (hx | (hx | hx)) | hx
  · exact hD x (List.mem_of_mem_take hx)
  · rw [(List.mem_replicate.mp hx).2]; exact Good.nil
  · exact hD x (List.mem_of_mem_drop (List.mem_of_mem_take hx))
  · exact hD x (List.mem_of_mem_drop hx)
/-- what holds between the deeds; without the word on the waiting cursor -/
structure Inv0 (k : Nat) (X : SX) : Prop where
  ok : OKX k X
  R2 : X.R = 2
  C3 : 3 ≤ X.C
  wf : ∀ i, 0 ≤ i → i < 2 → WFl (X.rows i)
  gd : ∀ i, 0 ≤ i → i < 2 → GoodR (X.rows i)
  la : Good X.last
structure Inv (k : Nat) (X : SX) : Prop extends Inv0 k X where
  wt : X.wt = true → X.c = X.C - 1
section
variable {k : Nat} {X : SX} {q : Int} {cs : List Int}
theorem Inv0.next (I : Inv0 k X) : Inv0 k (nextX X) := by
  refine ⟨I.ok.next I.R2, I.R2, I.C3, fun i h0 h => ?_, fun i h0 h => ?_, I.la⟩
  · show WFl (nextRows X i)
    unfold nextRows
    split
    · show WFl (if i = 0 then X.rows 1 else List.replicate X.C.toNat (blk X.p))
      split
      · exact I.wf 1 (by decide) (by decide)
      · exact WFl.blanks _ _
    · exact I.wf i h0 h
  · show GoodR (nextRows X i)
    unfold nextRows
    split
    · show GoodR (if i = 0 then X.rows 1 else List.replicate X.C.toNat (blk X.p))
      split
      · exact I.gd 1 (by decide) (by decide)
      · exact GoodR.blanks
    · exact I.gd i h0 h
theorem room_eq (I : Inv0 k X) (hq : q = 1 ∨ q = 2) : roomX X q = lroomX X q ∧ Inv0 k (roomX X q) := by
  have h1 : Inv0 k (if X.wt = true ∧ X.wraps = true then nextX X else X) ∧ (if X.wt = true ∧ X.wraps = true then nextX X else X).C = X.C := by
    split
    · exact ⟨I.next, rfl⟩
    · exact ⟨I, rfl⟩
  unfold roomX lroomX
  generalize (if X.wt = true ∧ X.wraps = true then nextX X else X) = Y at h1
  obtain ⟨J, hC⟩ := h1
  have cC := J.ok.cC
  have C3 := J.C3
  dsimp only
  have e : (q = 2 ∧ Y.c ≥ X.C - 1) = (q = 2 ∧ Y.c = X.C - 1) := propext ⟨fun z => ⟨z.1, by omega⟩, fun z => ⟨z.1, by omega⟩⟩
  refine ⟨by simp only [e], ?_⟩
  split
  · split
    · exact J.next
    · exact ⟨by rw [← hC]; exact J.ok.setCu J.ok.r0 J.ok.rR (by omega) (by omega), J.R2, J.C3, J.wf, J.gd, J.la⟩
  · exact J
theorem ins_eq (I : Inv0 k X) (hq : q = 1 ∨ q = 2) (hc : X.c + q ≤ X.C) : insX X q = linsX X q ∧ Inv0 k (insX X q) := by
  have hr : X.r < 2 := by have := I.ok.rR; have := I.R2; omega
  have hlen := I.ok.len X.r I.ok.r0 I.ok.rR
  obtain ⟨e, w⟩ := shift_eq (p := X.p) (I.wf X.r I.ok.r0 hr) I.ok.c0 (show 0 ≤ q by omega) (show X.c + q ≤ (X.rows X.r).length by omega) hlen
  unfold insX linsX
  split
  · refine ⟨by rw [e], ⟨I.ok.ins (by omega) (by omega), I.R2, I.C3, fun i h0 h => ?_, fun i h0 h => ?_, I.la⟩⟩
    · show WFl (if i = X.r then shiftF (X.rows X.r) X.c q X.p else X.rows i)
      split
      · rw [e]; exact w
      · exact I.wf i h0 h
    · show GoodR (if i = X.r then shiftF (X.rows X.r) X.c q X.p else X.rows i)
      split
      · exact (I.gd X.r I.ok.r0 hr).shift
      · exact I.gd i h0 h
  · exact ⟨rfl, I⟩
theorem lay_eq (I : Inv0 k X) (hq : q = 1 ∨ q = 2) (hc : X.c + q ≤ X.C) (hcs : cs.length ≤ k) (hg : Good cs) : layP X cs q = llayP X cs q ∧ Inv k (layP X cs q) := by
  have hr : X.r < 2 := by have := I.ok.rR; have := I.R2; omega
  have hlen := I.ok.len X.r I.ok.r0 I.ok.rR
  obtain ⟨e, w⟩ := set_eq (p := X.p) (xs := cs) (I.wf X.r I.ok.r0 hr) I.ok.c0 hq (show X.c + q ≤ (X.rows X.r).length by omega)
  have ok := layP_ok (cs := cs) (q := q) I.ok hq hcs
  refine ⟨?_, ⟨⟨ok, I.R2, I.C3, fun i h0 h => ?_, fun i h0 h => ?_, hg⟩, ?_⟩⟩
  · unfold layP llayP advX
    dsimp only
    rw [e, show (if X.c + q > X.C - 1 then X.C - 1 else X.c + q) = min (X.c + q) (X.C - 1) by split <;> omega, show decide (X.c + q > X.C - 1) = decide (X.C ≤ X.c + q) from decide_eq_decide.mpr ⟨fun _ => by omega, fun _ => by omega⟩]
  · show WFl (if i = X.r then putCore (X.rows X.r) X.c ⟨cs, q, X.p⟩ else X.rows i)
    split
    · rw [e]; exact w
    · exact I.wf i h0 h
  · show GoodR (if i = X.r then putCore (X.rows X.r) X.c ⟨cs, q, X.p⟩ else X.rows i)
    split
    · exact (I.gd X.r I.ok.r0 hr).put hg
    · exact I.gd i h0 h
  · show decide (X.c + q > X.C - 1) = true → (if X.c + q > X.C - 1 then X.C - 1 else X.c + q) = X.C - 1
    intro z
    rw [if_pos (of_decide_eq_true z)]
theorem sign_eq (I : Inv0 k X) (hq : q = 1 ∨ q = 2) (hcs : cs.length ≤ k) (hg : Good cs) : signX X cs q = lsignX X cs q ∧ Inv k (signX X cs q) := by
  obtain ⟨e1, I1⟩ := room_eq I hq
  obtain ⟨o1, hc⟩ := roomX_ok I.ok I.R2 hq
  obtain ⟨eR, eC, -⟩ := roomX_R (X := X) (q := q)
  obtain ⟨e2, I2⟩ := ins_eq I1 hq (by rw [eC]; exact hc)
  have h3 : (insX (roomX X q) q).c = (roomX X q).c ∧ (insX (roomX X q) q).C = (roomX X q).C := by
    unfold insX
    split <;> exact ⟨rfl, rfl⟩
  obtain ⟨e3, I3⟩ := lay_eq (cs := cs) I2 hq (by rw [h3.1, h3.2, eC]; exact hc) hcs hg
  refine ⟨?_, I3⟩
  unfold signX layX lsignX
  rw [e3, e2, e1]
end
end Mine
end
section
open PySem PySem.W PySem.Calls PyProof.Rows
set_option Elab.async false
set_option linter.unusedVariables false
set_option linter.unusedSimpArgs false
set_option maxRecDepth 100000
set_option maxHeartbeats 0
namespace Mine
theorem code_facts (y : Int) (h : y ∈ codesL) : regF y = lregs.contains y ∧ modF y = decide (y = 127995) ∧ inR picsL y = lpics.contains y ∧ inR marksL y = lmarks.contains y ∧ [35, 42, 48, 49, 50, 51, 52, 53, 54, 55, 56, 57].contains y = [49, 35].contains y ∧ (∀ br, inR (wideL br) y = (wideT br).contains y) ∧ (lpics.contains y = true → y ≠ 127995) := by
  have : ∀ y ∈ codesL, regF y = lregs.contains y ∧ modF y = decide (y = 127995) ∧ inR picsL y = lpics.contains y ∧ inR marksL y = lmarks.contains y ∧ [35, 42, 48, 49, 50, 51, 52, 53, 54, 55, 56, 57].contains y = [49, 35].contains y ∧ (∀ br, inR (wideL br) y = (wideT br).contains y) ∧ (lpics.contains y = true → y ≠ 127995) := by decide
  exact this y h
theorem at0_mem {cs : List Int} {i : Nat} (h : i < cs.length) : at0 cs i ∈ cs := by
  unfold at0
  rw [List.getD_eq_getElem?_getD, List.getElem?_eq_getElem h]
  exact List.getElem_mem h
theorem last_mem {cs : List Int} (h : cs ≠ []) : lastI cs ∈ cs := at0_mem (by have := List.length_pos_iff.mpr h; omega)
theorem bare_mem {cs : List Int} (h : cs ≠ []) : bareF cs ∈ cs := by
  have := List.length_pos_iff.mpr h
  unfold bareF
  split
  · exact at0_mem (by omega)
  · exact last_mem h
theorem width_zero {br : Bool} {x : Int} (hx : x ∈ codesL) : (widthF br x = 0) = (lmarks.contains x = true) := by
  obtain ⟨_, _, _, f4, _, f6, _⟩ := code_facts x hx
  unfold widthF
  rw [f4, f6]
  apply propext
  constructor
  · intro z
    split at z
    · assumption
    · split at z <;> cases z
  · intro z
    rw [if_pos z]
theorem width_wide {br : Bool} {x : Int} (hx : x ∈ codesL) (h : ¬ lmarks.contains x = true) : widthF br x = if (wideT br).contains x = true then 2 else 1 := by
  obtain ⟨_, _, _, f4, _, f6, _⟩ := code_facts x hx
  unfold widthF
  rw [f4, f6, if_neg h]
theorem joins_eq {br : Bool} {cs : List Int} {x : Int} (hg : Good cs) (hn : cs ≠ []) (hx : x ∈ codesL) : joinsF br cs x = lbelongsF cs x := by
  obtain ⟨f1, f2, f3, f4, f5, f6, f7⟩ := code_facts x hx
  obtain ⟨l1, _⟩ := code_facts _ (hg _ (last_mem hn))
  obtain ⟨_, _, b3, _⟩ := code_facts _ (hg _ (bare_mem hn))
  obtain ⟨_, _, z3, _⟩ := code_facts _ (hg _ (at0_mem (cs := cs) (i := 0) (List.length_pos_iff.mpr hn)))
  have hf : cs.filter regF = cs.filter lregs.contains := List.filter_congr fun y hy => (code_facts y (hg y hy)).1
  unfold joinsF lbelongsF
  rw [if_neg hn]
  simp only [width_zero hx]
  rw [f1, l1, f2, f3, b3, z3, hf]
  split
  · rfl
  · split
    · rfl
    · by_cases q : x = 127995
      · rw [if_pos q, if_pos (decide_eq_true q)]
      · rw [if_neg q, if_neg (by simpa using q)]
        cases (lastI cs == 8205) <;> cases lpics.contains x <;> cases lpics.contains (at0 cs 0) <;> rfl
theorem cluster_eq {br : Bool} {cs : List Int} (hg : Good cs) (hn : cs ≠ []) : (clusterF br cs = 2) = (lwideF (wideT br) cs = true) := by
  have hp := List.length_pos_iff.mpr hn
  have h0 := hg _ (at0_mem (cs := cs) (i := 0) hp)
  obtain ⟨f1, f2, f3, f4, f5, f6, f7⟩ := code_facts _ h0
  have e1 : 1 < cs.length → regF (at0 cs 1) = lregs.contains (at0 cs 1) := fun h => (code_facts _ (hg _ (at0_mem h))).1
  have ew : (widthF br (at0 cs 0) = 2) = ((wideT br).contains (at0 cs 0) = true) := by
    unfold widthF
    rw [f4, f6]
    apply propext
    by_cases m : lmarks.contains (at0 cs 0) = true
    · rw [if_pos m]
      refine ⟨(fun z => by cases z), fun z => ?_⟩
      exfalso
      have : ∀ y ∈ codesL, ∀ br, lmarks.contains y = true → (wideT br).contains y = false := by decide
      rw [this _ h0 br m] at z
      cases z
    · rw [if_neg m]
      split
      · rename_i z; exact ⟨fun _ => z, fun _ => rfl⟩
      · rename_i z; exact ⟨(fun z' => by cases z'), fun z' => absurd z' z⟩
  have em : ∀ z, lpics.contains (at0 cs 0) = true → (((cut (some 1) none cs).filter modF ≠ []) = (cs.contains z = true) ∨ z ≠ 127995) := by
    intro z hpic
    by_cases hz : z = 127995
    · left
      subst hz
      match cs, hn with
      | a :: r, _ =>
        rw [cut1]
        have ha : a ≠ 127995 := f7 hpic
        apply propext
        rw [List.contains_eq_mem, decide_eq_true_eq]
        constructor
        · intro h
          obtain ⟨y, hy⟩ := List.exists_mem_of_ne_nil _ h
          obtain ⟨hy1, hy2⟩ := List.mem_filter.mp hy
          have := (code_facts y (hg y (List.mem_cons_of_mem _ hy1))).2.1
          rw [this, decide_eq_true_eq] at hy2
          rw [← hy2]; exact List.mem_cons_of_mem _ hy1
        · intro h
          rcases List.mem_cons.mp h with h | h
          · exact absurd h.symm ha
          · exact List.ne_nil_of_mem (List.mem_filter.mpr ⟨h, by decide⟩)
    · exact .inr hz
  unfold clusterF lwideF
  rw [if_neg hn]
  apply propext
  by_cases w : (wideT br).contains (at0 cs 0) = true
  · rw [if_pos w, if_pos (.inl (by rw [ew]; exact w))]
    exact ⟨fun _ => rfl, fun _ => rfl⟩
  · rw [if_neg w]
    by_cases r : lregs.contains (at0 cs 0) = true
    · rw [if_pos r]
      have np : ¬ inR picsL (at0 cs 0) = true := by
        have : ∀ y ∈ codesL, lregs.contains y = true → inR picsL y = false := by decide
        rw [this _ h0 r]; exact Bool.false_ne_true
      have nk : ¬ ([35, 42, 48, 49, 50, 51, 52, 53, 54, 55, 56, 57].contains (at0 cs 0) = true ∧ cut (some 1) (some 3) cs = [65039, 8419]) := by
        have : ∀ y ∈ codesL, lregs.contains y = true → [35, 42, 48, 49, 50, 51, 52, 53, 54, 55, 56, 57].contains y = false := by decide
        rw [this _ h0 r]; exact fun z => Bool.false_ne_true z.1
      rw [if_neg np, if_neg nk]
      by_cases l1 : 1 < cs.length
      · rw [e1 l1, f1, decide_eq_true (show (1 : Int) < cs.length by omega), Bool.true_and]
        by_cases r2 : lregs.contains (at0 cs 1) = true
        · rw [if_pos (.inr ⟨l1, r, r2⟩)]
          exact ⟨fun _ => r2, fun _ => rfl⟩
        · rw [if_neg (fun z => z.elim (fun z => w (by rw [← ew]; exact z)) (fun z => r2 z.2.2))]
          exact ⟨(fun z => by cases z), fun z => absurd z r2⟩
      · rw [if_neg (fun z => z.elim (fun z => w (by rw [← ew]; exact z)) (fun z => l1 z.1)), decide_eq_false (show ¬ (1 : Int) < cs.length by omega), Bool.false_and]
        exact ⟨(fun z => by cases z), fun z => by cases z⟩
    · rw [if_neg r, if_neg (fun z => z.elim (fun z => w (by rw [← ew]; exact z)) (fun z => r (by rw [← f1]; exact z.2.1)))]
      rw [f3]
      by_cases p : lpics.contains (at0 cs 0) = true
      · rw [if_pos p, if_pos p]
        have em := (em 127995 p).resolve_right (fun z => z rfl)
        simp only [em, Bool.or_eq_true]
        split
        · rename_i z; exact ⟨fun _ => z, fun _ => rfl⟩
        · rename_i z; exact ⟨(fun z' => by cases z'), fun z' => absurd z' z⟩
      · rw [if_neg p, if_neg p, f5]
        simp only [Bool.and_eq_true, decide_eq_true_eq]
        split
        · rename_i z; exact ⟨fun _ => z, fun _ => rfl⟩
        · rename_i z; exact ⟨(fun z' => by cases z'), fun z' => absurd z' z⟩
end Mine
end
section
open PySem PySem.W PySem.Calls PyProof.Rows
set_option Elab.async false
set_option linter.unusedVariables false
set_option linter.unusedSimpArgs false
set_option maxRecDepth 100000
set_option maxHeartbeats 0
namespace Mine
section
variable {k : Nat} {X : SX} {x : Int}
theorem ahead_eq : (aheadX X = none ∧ lahX X < 0) ∨ ∃ i, aheadX X = some i ∧ lahX X = i ∧ 0 ≤ i := by
  unfold aheadX lahX laheadF
  dsimp only
  generalize (if X.wt = true then X.c else X.c - 1) = i
  by_cases h : i < 0
  · left
    rw [if_pos h, if_neg (fun z : 0 ≤ i ∧ _ => by omega), if_neg (fun z : 0 ≤ i ∧ _ => by omega)]
    exact ⟨rfl, by decide⟩
  · rw [if_neg h]
    have e : (if 0 ≤ i ∧ (at' (X.rows X.r) i).wd = 0 then i - 1 else i) = if (at' (X.rows X.r) i).wd = 0 then i - 1 else i := by
      by_cases z : (at' (X.rows X.r) i).wd = 0
      · rw [if_pos z, if_pos ⟨by omega, z⟩]
      · rw [if_neg z, if_neg (fun y => z y.2)]
    rw [e]
    generalize (if (at' (X.rows X.r) i).wd = 0 then i - 1 else i) = j
    by_cases q : 0 ≤ j ∧ (at' (X.rows X.r) j).codes ≠ []
    · right
      rw [if_pos q, if_pos q]
      exact ⟨j, rfl, rfl, q.1⟩
    · left
      rw [if_neg q, if_neg q]
      exact ⟨rfl, by decide⟩
/-- the sign ahead stands whole in its row -/
theorem ahead_tile (I : Inv k X) {i : Int} (h : aheadX X = some i) : ∃ A c B, X.rows X.r = A ++ c :: B ∧ (A.length : Int) = i ∧ WFl A ∧ at' (X.rows X.r) i = c ∧ c.codes ≠ [] ∧ Good c.codes ∧ c.codes.length ≤ k ∧ (c.wd = 1 ∧ WFl B ∨ c.wd = 2 ∧ ∃ B', B = ⟨[], 0, c.bg⟩ :: B' ∧ WFl B') := by
  have hr : X.r < 2 := by have := I.ok.rR; have := I.R2; omega
  have hlen := I.ok.len X.r I.ok.r0 I.ok.rR
  obtain ⟨i0, i1, hc, -⟩ := ahead_in I.ok h
  rcases (I.wf X.r I.ok.r0 hr).at i.toNat (by omega) with ⟨A, B, e, l, a, b⟩ | ⟨A, c, B, e, l, q, a, b⟩
  · cases b with
    | nil => rw [e] at hlen; simp at hlen; omega
    | @one c r hw wr =>
      have ha : at' (X.rows X.r) i = c := by rw [e]; exact at_app _ _ _ (by omega)
      have hm : c ∈ X.rows X.r := by rw [e]; simp
      exact ⟨A, c, r, e, by omega, a, ha, by rw [← ha]; exact hc, I.gd X.r I.ok.r0 hr c hm, I.ok.cl X.r I.ok.r0 I.ok.rR c hm, .inl ⟨hw, wr⟩⟩
    | @two c r hw wr =>
      have ha : at' (X.rows X.r) i = c := by rw [e]; exact at_app _ _ _ (by omega)
      have hm : c ∈ X.rows X.r := by rw [e]; simp
      exact ⟨A, c, _, e, by omega, a, ha, by rw [← ha]; exact hc, I.gd X.r I.ok.r0 hr c hm, I.ok.cl X.r I.ok.r0 I.ok.rR c hm, .inr ⟨hw, _, rfl, wr⟩⟩
  · exfalso
    have e2 : X.rows X.r = (A ++ [c]) ++ ⟨[], 0, c.bg⟩ :: B := by rw [e]; simp
    have ha : at' (X.rows X.r) i = ⟨[], 0, c.bg⟩ := by rw [e2]; exact at_app _ _ _ (by simp; omega)
    rw [ha] at hc
    exact hc rfl
theorem WFl.first {B : List Cell} (h : WFl B) : ∀ b B', B = b :: B' → b.wd ≠ 0 := fun b B' e => by rw [e] at h; exact h.head
theorem ahead_wd (I : Inv k X) : ∀ i, aheadX X = some i → (at' (X.rows X.r) i).wd = 1 ∨ (at' (X.rows X.r) i).wd = 2 ∧ i + 1 < X.C := by
  intro i h
  have hlen := I.ok.len X.r I.ok.r0 I.ok.rR
  obtain ⟨A, c, B, e, l, wa, ha, hc, hg, hk, hw⟩ := ahead_tile I h
  rw [ha]
  rcases hw with ⟨w, wb⟩ | ⟨w, B', eB, wb⟩
  · exact .inl w
  · refine .inr ⟨w, ?_⟩
    rw [e, eB] at hlen
    simp at hlen
    omega
/-- a code goes into the sign ahead, alike -/
theorem join_eq (I : Inv k X) (k4 : k ≤ 400) {i : Int} (h : aheadX X = some i) (hx : x ∈ codesL) : joinX X x i = ljoinX X x i ∧ Inv (k + 1) (joinX X x i) := by
  have hr : X.r < 2 := by have := I.ok.rR; have := I.R2; omega
  have hlen := I.ok.len X.r I.ok.r0 I.ok.rR
  obtain ⟨i0, i1, -, -⟩ := ahead_in I.ok h
  obtain ⟨A, c, B, e, l, wa, ha, hc, hg, hk, hw⟩ := ahead_tile I h
  have gcs : Good (c.codes ++ [x]) := fun y hy => by
    rcases List.mem_append.mp hy with hy | hy
    · exact hg y hy
    · rw [List.mem_singleton.mp hy]; exact hx
  have ncs : c.codes ++ [x] ≠ [] := by simp
  have ce := cluster_eq (br := X.br) gcs ncs
  have ok := joinX_ok (x := x) I.ok k4 i0 i1
  -- where the sign ahead stands when the cursor waits
  have hwt : X.wt = true → c.wd = 1 → i = X.C - 1 := by
    intro z w
    have hcC := I.wt z
    unfold aheadX at h
    dsimp only at h
    rw [if_pos z, hcC, if_neg (by have := I.C3; omega)] at h
    by_cases q : (at' (X.rows X.r) (X.C - 1)).wd = 0
    · rw [if_pos q] at h
      split at h
      · cases h
        exfalso
        have hB : B = [⟨[], 0, c.bg⟩] ∨ WFl B ∧ B ≠ [] := by
          rcases hw with ⟨w1, wb⟩ | ⟨w2, _⟩
          · right
            refine ⟨wb, fun z => ?_⟩
            rw [e, z] at hlen
            simp at hlen
            omega
          · omega
        rcases hB with hB | ⟨wb, nb⟩
        · rcases hw with ⟨w1, wb⟩ | ⟨w2, _⟩
          · rw [hB] at wb; exact wb.head rfl
          · omega
        · cases B with
          | nil => exact nb rfl
          | cons b B' =>
            have e2 : X.rows X.r = (A ++ [c]) ++ b :: B' := by rw [e]; simp
            rw [e2, at_app _ _ _ (by rw [List.length_append, List.length_singleton]; omega)] at q
            exact wb.head q
      · cases h
    · rw [if_neg q] at h
      split at h
      · cases h; rfl
      · cases h
  have condE : ((if X.shr = true then clusterF X.br (c.codes ++ [x]) else c.wd) = 2 ∧ c.wd = 1 ∧ i < X.C - 1 ∧ X.wt = false) = (X.shr = true ∧ c.wd = 1 ∧ i + 1 < X.C ∧ lwideF (wideT X.br) (c.codes ++ [x]) = true) := by
    apply propext
    constructor
    · rintro ⟨a, b, d, f⟩
      by_cases s : X.shr = true
      · rw [if_pos s, ce] at a
        exact ⟨s, b, by omega, a⟩
      · rw [if_neg s] at a; omega
    · rintro ⟨s, b, d, f⟩
      refine ⟨by rw [if_pos s, ce]; exact f, b, by omega, ?_⟩
      cases z : X.wt
      · rfl
      · have := hwt z b; omega
  revert ok
  unfold joinX ljoinX
  dsimp only
  rw [ha]
  by_cases cond : X.shr = true ∧ c.wd = 1 ∧ i + 1 < X.C ∧ lwideF (wideT X.br) (c.codes ++ [x]) = true
  · have cond2 := cond
    rw [← condE] at cond2
    rw [if_pos cond, if_pos cond2]
    intro ok
    obtain ⟨e1, w1⟩ := set_eq (p := c.bg) (xs := c.codes ++ [x]) (q := 2) (I.wf X.r I.ok.r0 hr) i0 (.inr rfl) (show i + 2 ≤ (X.rows X.r).length by omega)
    refine ⟨?_, ⟨⟨ok, I.R2, I.C3, fun j h0 h => ?_, fun j h0 h => ?_, gcs⟩, ?_⟩⟩
    · unfold advX
      dsimp only
      rw [e1, show (if i + 2 > X.C - 1 then X.C - 1 else i + 2) = min (i + 2) (X.C - 1) by split <;> omega, show decide (i + 2 > X.C - 1) = decide (X.C ≤ i + 2) from decide_eq_decide.mpr ⟨fun _ => by omega, fun _ => by omega⟩]
    · show WFl (if j = X.r then putCore (X.rows X.r) i ⟨c.codes ++ [x], 2, c.bg⟩ else X.rows j)
      split
      · rw [e1]; exact w1
      · exact I.wf j h0 h
    · show GoodR (if j = X.r then putCore (X.rows X.r) i ⟨c.codes ++ [x], 2, c.bg⟩ else X.rows j)
      split
      · exact (I.gd X.r I.ok.r0 hr).put gcs
      · exact I.gd j h0 h
    · show decide (i + 2 > X.C - 1) = true → (if i + 2 > X.C - 1 then X.C - 1 else i + 2) = X.C - 1
      intro z
      rw [if_pos (of_decide_eq_true z)]
  · have cond2 := cond
    rw [← condE] at cond2
    rw [if_neg cond, if_neg cond2]
    intro ok
    have e1 : putCore (X.rows X.r) i ⟨c.codes ++ [x], c.wd, c.bg⟩ = (X.rows X.r).set i.toNat ⟨c.codes ++ [x], c.wd, c.bg⟩ ∧ WFl ((X.rows X.r).set i.toNat ⟨c.codes ++ [x], c.wd, c.bg⟩) := by
      rw [e, set_app _ _ _ _ (by omega)]
      rcases hw with ⟨w, wb⟩ | ⟨w, B', eB, wb⟩
      · rw [w, put1 l.symm (by omega) wb.first]
        exact ⟨rfl, wa.app (.one rfl wb)⟩
      · rw [w, eB, put2 l.symm (by omega) wb.first]
        exact ⟨rfl, wa.app (.two rfl wb)⟩
    refine ⟨by rw [e1.1], ⟨⟨ok, I.R2, I.C3, fun j h0 h => ?_, fun j h0 h => ?_, gcs⟩, I.wt⟩⟩
    · show WFl (if j = X.r then putCore (X.rows X.r) i ⟨c.codes ++ [x], c.wd, c.bg⟩ else X.rows j)
      split
      · rw [e1.1]; exact e1.2
      · exact I.wf j h0 h
    · show GoodR (if j = X.r then putCore (X.rows X.r) i ⟨c.codes ++ [x], c.wd, c.bg⟩ else X.rows j)
      split
      · exact (I.gd X.r I.ok.r0 hr).put gcs
      · exact I.gd j h0 h
end
end Mine
end
section
open PySem PySem.W PySem.Calls PyProof.Rows
set_option Elab.async false
set_option linter.unusedVariables false
set_option linter.unusedSimpArgs false
set_option maxRecDepth 100000
set_option maxHeartbeats 0
namespace Mine
section
variable {k : Nat} {X : SX} {x : Int}
theorem Inv.up {j : Nat} (I : Inv k X) (h : k ≤ j) (h5 : j ≤ 500) : Inv j X := { I with ok := I.ok.up h h5 }
theorem Inv.up0 {j : Nat} (I : Inv0 k X) (h : k ≤ j) (h5 : j ≤ 500) : Inv0 j X := { I with ok := I.ok.up h h5 }
theorem width_two {br : Bool} {y : Int} (h : y ∈ codesL) : (widthF br y = 2) = ((wideT br).contains y = true) := by
  have : ∀ y ∈ codesL, ∀ br, (widthF br y = 2) = ((wideT br).contains y = true) := by
    intro y hy br
    apply propext
    have d : ∀ y ∈ codesL, ∀ br, (widthF br y = 2 ↔ (wideT br).contains y = true) := by decide
    exact d y hy br
  exact this y h br
theorem code_eq (I : Inv k X) (k1 : 1 ≤ k) (k4 : k ≤ 400) (hx : x ∈ codesL) : codeX X x = lcodedX X x ∧ Inv (k + 1) (codeX X x) := by
  have g1 : Good [x] := fun y hy => by rw [List.mem_singleton.mp hy]; exact hx
  have sgn : ¬ lmarks.contains x = true → signX X [x] (widthF X.br x) = lsignX X [x] (if (wideT X.br).contains x = true then 2 else 1) ∧ Inv (k + 1) (signX X [x] (widthF X.br x)) := by
    intro hm
    have hw := width_wide (br := X.br) hx hm
    have hq : widthF X.br x = 1 ∨ widthF X.br x = 2 := by
      rw [hw]; split
      · exact .inr rfl
      · exact .inl rfl
    obtain ⟨e, J⟩ := sign_eq (cs := [x]) I.toInv0 hq k1 g1
    exact ⟨by rw [e, hw], J.up (by omega) (by omega)⟩
  have wz := width_zero (br := X.br) hx
  unfold codeX lcodedX
  rcases ahead_eq (X := X) with ⟨ha, hl⟩ | ⟨i, ha, hl, h0⟩
  · have jj : joinedX X x = false := by unfold joinedX; rw [ha]
    have jo : joinO X x = X := by unfold joinO; rw [ha]
    rw [jj, jo, if_neg (fun z : 0 ≤ lahX X ∧ _ => by omega)]
    by_cases hm : lmarks.contains x = true
    · rw [if_pos hm, if_pos (.inl (by rw [wz]; exact hm))]
      exact ⟨rfl, I.up (by omega) (by omega)⟩
    · rw [if_neg hm, if_neg (fun z => z.elim (fun z => hm (by rw [← wz]; exact z)) (fun z => Bool.false_ne_true z.2))]
      exact sgn hm
  · obtain ⟨A, c, B, e, l, wa, hc, nc, gc, -, -⟩ := ahead_tile I ha
    have jj : joinedX X x = lbelongsF c.codes x := by unfold joinedX; rw [ha]; dsimp only; rw [hc, joins_eq gc nc hx]
    have jo : joinO X x = joinX X x i := by unfold joinO; rw [ha]
    rw [jj, jo, hl, hc]
    by_cases hA : widthF X.br x = 0 ∨ X.shr = true ∧ lbelongsF c.codes x = true
    · rw [if_pos hA, if_pos ⟨h0, by rw [← wz]; exact hA⟩]
      exact join_eq I k4 ha hx
    · have hm : ¬ lmarks.contains x = true := fun z => hA (.inl (by rw [wz]; exact z))
      rw [if_neg hA, if_neg (fun z => hA (by rw [wz]; exact z.2)), if_neg hm]
      exact sgn hm
theorem repW_eq (I : Inv k X) (hn : X.last ≠ []) : repW X = lrepW X := by
  unfold repW lrepW
  by_cases s : X.shr = true
  · simp only [if_pos s, cluster_eq (br := X.br) I.la hn]
  · simp only [if_neg s, width_two (br := X.br) (I.la _ (at0_mem (cs := X.last) (i := 0) (List.length_pos_iff.mpr hn)))]
theorem rep_eq (I : Inv k X) (m : Nat) : repX X m = lrepX X m ∧ Inv k (repX X m) := by
  induction m with
  | zero => exact ⟨rfl, I⟩
  | succ m ih =>
    unfold repX lrepX
    by_cases q : X.last = []
    · rw [if_pos q, if_pos q]; exact ih
    · rw [if_neg q, if_neg q]
      obtain ⟨e, J⟩ := sign_eq (cs := X.last) ih.2.toInv0 (repW_in (X := X)) I.ok.ll I.la
      exact ⟨by rw [e, ih.1, repW_eq I q], J⟩
/-- the law holds on, deed by deed -/
theorem step_inv {X' : SX} {cd cd' : List Int} (I : Inv k X) (k1 : 1 ≤ k) (k4 : k ≤ 400) (h : Step X X' cd cd') : Inv (k + 1) X' ∧ X'.C = X.C := by
  rcases h with ⟨x, hx, rfl, -⟩ | ⟨-, ⟨m, rfl⟩ | rfl | ⟨r, c, ⟨r0, r2, c0, cC⟩, rfl⟩ | ⟨p, rfl⟩ | ⟨wr, ins, sh, rfl⟩⟩
  · refine ⟨(code_eq I k1 k4 hx).2, ?_⟩
    unfold codeX joinO joinX
    dsimp only
    repeat' split
    all_goals first | rfl | exact signX_facts.2.1
  · exact ⟨(rep_eq I m).2.up (by omega) (by omega), (repX_facts m).2.1⟩
  · have J := I.toInv0.next
    exact ⟨{ Inv.up0 J (show k ≤ k + 1 by omega) (by omega) with wt := fun z => by cases z }, rfl⟩
  · exact ⟨{ Inv.up0 I.toInv0 (show k ≤ k + 1 by omega) (by omega) with ok := (I.ok.up (show k ≤ k + 1 by omega) (by omega)).setCu (wt := false) (p := X.p) r0 (by have := I.R2; omega) c0 cC, wt := fun z => by cases z }, rfl⟩
  · exact ⟨{ I.up (show k ≤ k + 1 by omega) (by omega) with ok := (I.ok.up (show k ≤ k + 1 by omega) (by omega)).setCu I.ok.r0 I.ok.rR I.ok.c0 I.ok.cC }, rfl⟩
  · exact ⟨{ I.up (show k ≤ k + 1 by omega) (by omega) with ok := { I.ok.up (show k ≤ k + 1 by omega) (by omega) with } }, rfl⟩
/-- at the begin -/
theorem inv_zero {C : Int} {br : Bool} (h : 3 ≤ C) (h2 : C ≤ 200) : Inv 1 (X0 2 C true br) where
  ok := ⟨.inr rfl, (by show 2 ≤ C; omega), h2, Int.le_refl _, (by decide : (0 : Int) < 2), Int.le_refl _, (by show 0 < C; omega), fun i _ _ => by show ((List.replicate C.toNat (blk (-1))).length : Int) = C; rw [List.length_replicate]; omega, fun i _ _ x hx => by
    have hx : x ∈ List.replicate C.toNat (blk (-1)) := hx
    rw [(List.mem_replicate.mp hx).2]; exact Nat.zero_le _, Nat.zero_le _, by decide⟩
  R2 := rfl
  C3 := h
  wf := fun _ _ _ => WFl.blanks _ _
  gd := fun _ _ _ => GoodR.blanks
  la := Good.nil
  wt := fun z => by cases z
end
end Mine
end
section
open PySem PySem.W PySem.Calls PyProof.Rows PySem.SeqAt
set_option Elab.async false
set_option linter.unusedVariables false
set_option maxRecDepth 100000
namespace Mine
def itE (o : Obj) : Prop := ∃ T : String, o.cls = .type T ∧ (T = "list_iterator" ∨ T = "enumerate") ∧ ∃ fs, o.data = .fields fs
theorem itE.ne {o : Obj} (x : itE o) {T : String} (h : T = "list" ∨ T = "dict" ∨ T = "tuple" ∨ T = "range") : o.cls ≠ .type T := by
  obtain ⟨U, e, hu, _⟩ := x
  rw [e]
  rcases hu with rfl | rfl <;> rcases h with rfl | rfl | rfl | rfl <;> decide
section
variable {prog : Program} {w : World} {h₀ : Heap} {σ : AH} {h h' : Heap} {L I : Addr} {ℓ : Loc}
theorem St.offE (S : St prog w h₀ σ h) {o : Obj} (ho : h.get? I = some o) (hc : itE o) : ∀ a oa, σ a = some oa → mu a oa ≠ I ∧ a ≠ I := by
  intro a oa e
  obtain ⟨_, _, _, fs, hd⟩ := hc
  have n1 : mu a oa ≠ I := fun q => by subst q; exact (S.muCls e ho).2.1 _ hd
  refine ⟨n1, ?_⟩
  cases oa with
  | inst C dx fs' =>
    obtain ⟨sl, gs, es, n, h1, h2, _⟩ := S.obj a _ e
    intro q; subst q; rw [ho] at h1; cases h1; cases hd
  | _ => exact n1
/-- iterators move on: the state stands -/
theorem St.movedE (S : St prog w h₀ σ h) (F : Frm h₀ σ h L ℓ) (P : Addr → Prop) (hP : ∀ I, P I → h₀.objs.size ≤ I ∧ ∃ o, h.get? I = some o ∧ itE o) (hk : ∀ b o, ¬ P b → h.get? b = some o → h'.get? b = some o) :
    St prog w h₀ σ h' ∧ Frm h₀ σ h' L ℓ ∧ TupKeep h h' := by
  have off : ∀ a oa, σ a = some oa → ¬ P (mu a oa) ∧ ¬ P a := fun a oa e => ⟨fun q => by obtain ⟨_, o, ho, hc⟩ := hP _ q; exact (S.offE ho hc a oa e).1 rfl, fun q => by obtain ⟨_, o, ho, hc⟩ := hP _ q; exact (S.offE ho hc a oa e).2 rfl⟩
  have kt : TupKeep h h' := fun b o eb fx => hk b o (fun q => by
    obtain ⟨_, o', ho, hc⟩ := hP _ q
    rw [ho] at eb; cases eb; rcases fx.1 with y | y
    · exact hc.ne (T := "tuple") (by simp) y
    · exact hc.ne (T := "range") (by simp) y) eb
  have S' : St prog w h₀ σ h' := by
    refine ⟨fun b o e => hk b o (fun q => Nat.ne_of_lt (Nat.lt_of_lt_of_le (Heap.lt_size e) (hP b q).1) rfl) (S.keep b o e), fun a oa e => ?_, S.own, S.inj⟩
    have R := S.obj a oa e
    have ⟨n1, n2⟩ := off a oa e
    cases oa with
    | list vs => obtain ⟨ws, n, h1, h2⟩ := R; exact ⟨ws, n, hk _ _ n2 h1, h2.keep kt⟩
    | dict es => obtain ⟨kvs, ⟨o', es', ep, h1, r⟩, h2⟩ := R; exact ⟨kvs, ⟨o', es', ep, hk _ _ n2 h1, r⟩, h2.keep kt⟩
    | idict es => obtain ⟨kvs, ⟨o', es', ep, h1, r⟩, h2⟩ := R; exact ⟨kvs, ⟨o', es', ep, hk _ _ n2 h1, r⟩, h2.keep kt⟩
    | bdict es => obtain ⟨kvs, ⟨o', es', ep, h1, r⟩, h2⟩ := R; exact ⟨kvs, ⟨o', es', ep, hk _ _ n2 h1, r⟩, h2.keep kt⟩
    | cell v => obtain ⟨y, ⟨o', h1, r⟩, h2⟩ := R; exact ⟨y, ⟨o', hk _ _ n2 h1, r⟩, h2.keep kt⟩
    | inst C dx fs => obtain ⟨sl, gs, es, m, h1, h2, h3, h4⟩ := R; exact ⟨sl, gs, es, m, hk _ _ n2 h1, hk _ _ n1 h2, h3, h4.keep kt⟩
  obtain ⟨⟨m, hm, hl⟩, foff, oL, es, k, hLo, hdat⟩ := F
  have hL : ¬ P L := fun q => by obtain ⟨_, o, ho, _, _, _, fs, e⟩ := hP _ q; rw [ho] at hLo; cases hLo; rw [e] at hdat; cases hdat
  obtain ⟨oL', es', ep, g1, g2, g3⟩ := hm.ns
  exact ⟨S', ⟨⟨m, ⟨⟨oL', es', ep, hk L _ hL g1, g2, g3⟩, S'.keep, hm.above⟩, fun x v e => let ⟨y, a, b⟩ := hl x v e; ⟨y, a, b.keep kt⟩⟩, foff, oL, es, k, hk L _ hL hLo, hdat⟩, kt⟩
theorem Ext.movedE {σ₀ : AH} {hs : Heap} (X : Ext L σ₀ hs σ h) (P : Addr → Prop) (hI : ∀ I, P I → hs.get? I = none) (hk : ∀ b o, ¬ P b → h.get? b = some o → h'.get? b = some o) : Ext L σ₀ hs σ h' := by
  have ne : ∀ b o, hs.get? b = some o → ¬ P b := fun b o e q => by rw [hI b q] at e; cases e
  exact ⟨fun b o e hL hm => hk b o (ne b o e) (X.keep b o e hL hm), X.dom, fun b o e => let ⟨o', e'⟩ := X.there b o e; ⟨o', hk b o' (ne b o e) e'⟩⟩
end
/-- numbered items -/
def enumV : Nat → List AV → List AV
  | _, [] => []
  | i, v :: vs => .tup [.int i, v] :: enumV (i + 1) vs
section
variable {c : Cx} {n : Nat} {f : Fe} {ℓ : Loc} {σ : AH}
theorem loop_runE {elts : List Expr} {x1} {pt : Pos} {body : List Stmt} {K : AF → Loc → AH → Prop} {vs : List AV} {a : Addr} (hL : Lo c n f (.Tuple elts x1 pt) body (fun τ => τ a = some (.list vs)) K (enumV 0 vs) ℓ σ) (hG : σ a = some (.list vs))
    {h₀ : Heap} {A : Around} {L e it : Addr} {s : Shared} {hs : Heap} {R : Result → Shared → Prop} (hB : c.Base h₀) (hA : Lv n A) (hS : St c.prog c.w h₀ σ s.heap) (hF : Frm h₀ σ s.heap L ℓ) (hX : Ext L σ hs σ s.heap)
    (he : IsEnum s.heap e it 0 .none) (hit : s.heap.IsListIter it a 0) (hne : e ≠ it) (hIn : ∀ I, I = e ∨ I = it → hs.get? I = none) (hI₀ : ∀ I, I = e ∨ I = it → h₀.objs.size ≤ I)
    (hC : ∀ fl fl' ℓ' σ' h' tk, K fl ℓ' σ' → St c.prog c.w h₀ σ' h' → Frm h₀ σ' h' L ℓ' → Ext L σ hs σ' h' → RF h' fl fl' → R (.ok fl') { s with heap := h', toks := tk }) :
    codeAny (model c.prog c.w) A (.forLoop (.Tuple elts x1 pt) (.ref e) body [] (f.env L)) R s := by
  refine codeAny_forLoop_any (fun k s' => ∃ ℓ' σ' h' tk i old, s' = { s with heap := h', toks := tk } ∧ i ≤ vs.length ∧ k = vs.length - i ∧ σ' a = some (.list vs) ∧ Lo c n f (.Tuple elts x1 pt) body (fun τ => τ a = some (.list vs)) K (enumV i (vs.drop i)) ℓ' σ' ∧ St c.prog c.w h₀ σ' h' ∧ Frm h₀ σ' h' L ℓ' ∧ Ext L σ hs σ' h' ∧ IsEnum h' e it (i : Nat) old ∧ h'.IsListIter it a i) ?_ vs.length
    ⟨ℓ, σ, s.heap, s.toks, 0, .none, rfl, Nat.zero_le _, rfl, hG, hL, hS, hF, hX, he, hit⟩
  rintro k s' ⟨ℓ', σ', h', tk, i, old, rfl, hi, rfl, hG', hL', hS', hF', hX', he', hit'⟩
  obtain ⟨ws, m, h1, h2⟩ := hS'.obj a _ hG'
  obtain ⟨oi, ho1, ho2, ho3⟩ := id hit'
  have hP : ∀ I, I = e ∨ I = it → h₀.objs.size ≤ I ∧ ∃ o, h'.get? I = some o ∧ itE o := by
    rintro I (rfl | rfl)
    · exact ⟨hI₀ _ (.inl rfl), _, he', _, rfl, .inr rfl, _, rfl⟩
    · exact ⟨hI₀ _ (.inr rfl), _, ho1, _, ho2, .inl rfl, _, ho3⟩
  by_cases hlt : i < vs.length
  · have ed : vs.drop i = vs[i] :: vs.drop (i + 1) := List.drop_eq_getElem_cons hlt
    rw [ed] at hL'
    obtain ⟨x, ex, rx⟩ := h2.get (List.getElem?_eq_getElem hlt)
    refine wpAny_pyNext_enum_item he' hit' (isList_of h1) (by simpa using ex) hne fun h₁ heo hit₁ ht₁ hz₁ hk₁ => ?_
    refine wpAny_letOwnedTupleGo_enum heo fun h₂ he₂ hs₂ => ?_
    replace hs₂ : Heap.SameBut e h₁ h₂ := hs₂
    replace hk₁ : ∀ b o, b ≠ e → b ≠ it → h'.get? b = some o → h₁.get? b = some o := hk₁
    have hk : ∀ b o, ¬ (b = e ∨ b = it) → h'.get? b = some o → h₂.get? b = some o := fun b o hb eb => (hs₂.2 b fun q => hb (.inl q)).trans (hk₁ b o (fun q => hb (.inl q)) (fun q => hb (.inr q)) eb)
    have it₂ : h₂.IsListIter it a (i + 1) := by
      obtain ⟨o, q1, q2⟩ := hit₁
      exact ⟨o, (hs₂.2 it hne.symm).trans q1, q2⟩
    obtain ⟨S₁, F₁, kt₁⟩ := hS'.movedE hF' _ hP hk
    have X₁ := hX'.movedE _ hIn hk
    have ltE : e < h'.objs.size := Heap.lt_size he'
    have tv : VR h₂ (.tup [.int (i : Nat), vs[i]]) (.ref h'.objs.size) := .tup (n := 0) ((hs₂.2 _ (Nat.ne_of_gt ltE)).trans ht₁) (.cons (.int _ _) (.cons (rx.keep kt₁) .nil))
    refine hL' h₀ A L _ _ _ _ hB hA S₁ F₁ tv fun _ _ ℓ₂ σ₂ h₃ tk₂ hK₂ S₂ F₂ X₂ _ => ?_
    refine hK₂ h₀ A L _ () _ _ hB hA S₂ F₂ trivial fun fl fl' ℓ₃ σ₃ h₄ tk₃ hK₃ S₃ F₃ X₃ hR₃ => ?_
    have X₁₃ := X₂.trans X₃
    have hP₂ : ∀ I, I = e ∨ I = it → ∃ o, h₂.get? I = some o ∧ itE o := by
      obtain ⟨o, q1, q2, q3⟩ := it₂
      rintro I (rfl | rfl)
      · exact ⟨_, he₂, _, rfl, .inr rfl, _, rfl⟩
      · exact ⟨_, q1, _, q2, .inl rfl, _, q3⟩
    have up : ∀ I o, I = e ∨ I = it → h₂.get? I = some o → h₄.get? I = some o := fun I o q eo => by
      obtain ⟨o', e1, e2⟩ := hP₂ I q
      refine X₁₃.keep I o eo (fun qL => ?_) fun b ob eb => (S₁.offE e1 e2 b ob eb).1
      obtain ⟨_, _, oL, es, k, hLo, hdat⟩ := F₁
      rw [qL, hLo] at e1; cases e1
      obtain ⟨_, _, _, fs, z⟩ := e2
      rw [z] at hdat; cases hdat
    have X₃' := X₁.trans X₁₃
    have it₄ : h₄.IsListIter it a (i + 1) := by
      obtain ⟨o, q1, q2⟩ := it₂
      exact ⟨o, up it o (.inr rfl) q1, q2⟩
    have he₄ : IsEnum h₄ e it ((i + 1 : Nat) : Int) x := up e _ (.inl rfl) he₂
    cases hR₃ with
    | next => exact ⟨_, by omega, ℓ₃, σ₃, h₄, tk₃, i + 1, _, rfl, hlt, rfl, hK₃.1, hK₃.2, S₃, F₃, X₃', he₄, it₄⟩
    | cont => exact ⟨_, by omega, ℓ₃, σ₃, h₄, tk₃, i + 1, _, rfl, hlt, rfl, hK₃.1, hK₃.2, S₃, F₃, X₃', he₄, it₄⟩
    | brk => exact hC _ _ _ _ _ _ hK₃ S₃ F₃ X₃' .next
    | ret r => exact hC _ _ _ _ _ _ hK₃ S₃ F₃ X₃' (.ret r)
  · have hin : i = vs.length := by omega
    subst hin
    rw [List.drop_length] at hL'
    refine wpAny_pyNext_enum_end hA.handled he' hit' (isList_of h1) (by rw [h2.length]; simp) fun h₁ hx => wpAny_execs_nil ?_
    have hk : ∀ b o, ¬ (b = e ∨ b = it) → h'.get? b = some o → h₁.get? b = some o := fun b o hb eb => hx b o (fun q => hb (.inr q)) eb
    obtain ⟨S₁, F₁, kt₁⟩ := hS'.movedE hF' _ hP hk
    exact hC _ _ _ _ _ _ hL' S₁ F₁ (hX'.movedE _ hIn hk) .next
/-- for .. in enumerate(a list) -/
theorem Ex.forEnum {o : Expr} {args elts : List Expr} {x1} {pt pos pos2 : Pos} {body : List Stmt} {K : AF → Loc → AH → Prop}
    (hs : ∀ env x, foldedSetIterable (.Call o args [] pos2) env x = pure x)
    (he : ∀ env, eval (.Call o args [] pos2) env = (do callWith pos2 (← eval o env) [] (backTo pos2 (starEach args env)) (backToKw pos2 (keywordEach [] env))))
    (hp : ∀ env, (backTo pos2 (starEach args env)).any (·.1) = false)
    (h : Ev c n f o ℓ σ fun u ℓ₁ σ₁ => (u = .raw (.type "enumerate") ∧ Kept c (.type "enumerate")) ∧ Els c n f pos2 args ℓ₁ σ₁ fun vs ℓ₂ σ₂ => ∃ a l, (vs = [.ref a] ∧ σ₂ a = some (.list l)) ∧ Lo c n f (.Tuple elts x1 pt) body (fun τ => τ a = some (.list l)) K (enumV 0 l) ℓ₂ σ₂) :
    Ex c n f (.For (.Tuple elts x1 pt) (.Call o args [] pos2) body [] pos) ℓ σ K := by
  intro h₀ A L s _ Q E hB hA hS hF _ hC
  refine wpAny_For ?_ (hs _)
  refine Call_ (h h₀ A L s () _ E hB hA hS hF trivial fun u y ℓ₁ σ₁ h₁ tk₁ hK₁ hS₁ hF₁ hX₁ hR₁ => ?_) (he _)
  obtain ⟨⟨rfl, hk⟩, hE⟩ := hK₁
  cases hR₁
  refine callWith_of (P := fun h => c.K.In h) (by rw [hp _]; rfl) hk (evalArgs_all (hp _) ?_)
  refine hE h₀ A L _ () _ E hB hA hS₁ hF₁ trivial fun vs xs ℓ₃ σ₃ h₃ tk₃ hK₃ hS₃ hF₃ hX₃ hR₃ => ⟨hB.k.keeps hS₃.keep, ?_⟩
  obtain ⟨a, l, ⟨rfl, hl⟩, hLo⟩ := hK₃
  cases hR₃ with
  | cons r rs =>
    cases rs
    cases r
    obtain ⟨ws, m, g1, g2⟩ := hS₃.obj a _ hl
    refine call_enumerate_list (isList_of g1) fun h₄ he₄ it₄ hz₄ hk₄ => ?_
    replace hk₄ : ∀ b o, h₃.get? b = some o → h₄.get? b = some o := hk₄
    have S₄ := hS₃.keepAll (h' := h₄) hk₄
    have X₄ : Ext L σ₃ h₃ σ₃ h₄ := ⟨fun b o e _ _ => hk₄ b o e, fun a o e => .inl ⟨o, e, rfl⟩, fun b o e => ⟨o, hk₄ b o e⟩⟩
    have F₄ := hF₃.carry S₄ X₄.dom (fun o e => hk₄ _ _ e) (fun b o e _ => hk₄ b o e)
    refine wpAny_pyIter_enum he₄ ?_
    exact loop_runE (hs := h₃) hLo hl hB hA S₄ F₄ X₄ he₄ it₄ (Nat.succ_ne_self _) (by
      rintro I (rfl | rfl)
      · exact Heap.get?_none_of_le (Nat.le_succ _)
      · exact Heap.get?_none_of_le (Nat.le_refl _)) (by
      have := hF₃.le
      rintro I (rfl | rfl)
      · exact Nat.le_succ_of_le this
      · exact this) fun fl fl' ℓ' σ' h' tk hK S' F' X' r => hC _ _ _ _ _ _ hK S' F' ((hX₁.trans hX₃).trans X') r
end
end Mine
end
section
open PySem PySem.W PySem.Calls PyProof.Rows
set_option Elab.async false
set_option linter.unusedVariables false
set_option linter.unusedSimpArgs false
set_option maxRecDepth 100000
set_option maxHeartbeats 0
namespace Mine
/-- ranges in order, behind a number -/
def okR : Int → List (Int × Int) → Prop
  | _, [] => True
  | b, p :: r => b < p.1 ∧ p.1 ≤ p.2 ∧ okR p.2 r
section
variable {w : WX} {n : Nat} {ℓ : Loc} {σ : AH} {K : AV → Loc → AH → Prop}
theorem c_width_check_ranges {a : Addr} {rs : List (Int × Int)} (ha : σ a = some (.list (rangesV rs))) (hs : okR (-1) rs) (h : K .none ℓ σ) : Cd (cx w) (n + 1) (.ref 113) [.ref a] ℓ σ K := by
  run_tac openFn 113
  run_tac wkN 2
  refine Ex.forEnum (fun _ _ => rfl) (fun _ => rfl) (fun _ => rfl) ?_
  refine g_enumerate (fun _ => by kernel_rfl) ?_
  refine ⟨⟨rfl, Kept.type⟩, ?_⟩
  run_tac wkN 2
  refine ⟨a, _, ⟨rfl, ha⟩, ?_⟩
  refine Lo.inv (fun vs ℓ' σ' => ∃ i b r, vs = enumV i (rangesV r) ∧ okR b r ∧ σ' = σ ∧ LS [(Str.ofString "ranges", .ref a), (Str.ofString "before", .int b)] ℓ') ?_ ?_ _ _ _ ⟨0, -1, rs, rfl, hs, rfl, LS.refl _⟩
  · rintro v vs ℓ' σ' ⟨i, b, r, e, hr, rfl, hℓ⟩
    cases r with
    | nil => cases e
    | cons p r =>
      cases e
      obtain ⟨r1, r2, r3⟩ := hr
      first | refine As.weak hℓ ?_ | refine Exs.weak hℓ ?_
      all_goals
        run_tac wk3 20
        exact ⟨i + 1, p.2, r, rfl, r3, rfl, LS.app _ [_, _, _]⟩
  · rintro ℓ' σ' ⟨i, b, r, e, hr, rfl, hℓ⟩
    first | refine As.weak hℓ ?_ | refine Exs.weak hℓ ?_
    all_goals
      run_tac wk3 20
      exact h
theorem c_WidthTable___init__ {x dx a1 a2 a3 : Addr} {l1 l2 l3 : List (Int × Int)} (hx : σ x = none) (h1 : σ a1 = some (.list (rangesV l1))) (h2 : σ a2 = some (.list (rangesV l2))) (h3 : σ a3 = some (.list (rangesV l3))) (o1 : okR (-1) l1) (o2 : okR (-1) l2) (o3 : okR (-1) l3)
    (z1 : (rangesV l1).length ≤ 1000) (z2 : (rangesV l2).length ≤ 1000) (z3 : (rangesV l3).length ≤ 1000)
    (h : ∀ τ w1 w2 w3, σ w1 = none → σ w2 = none → σ w3 = none → τ x = some (wtO dx w1 w2 w3) → τ w1 = some (.list (rangesV l1)) → τ w2 = some (.list (rangesV l2)) → τ w3 = some (.list (rangesV l3)) → Sub σ τ → K .none ℓ τ) : Cd (cx w) (n + 2) (.ref 127) [.ref x, .ref a1, .ref a2, .ref a3] ℓ (AH.set σ x (.inst 144 dx [])) K := by
  run_tac openFn 127
  run_tac wk3 20
  rename_i w1 e1 w2 e2 w3 e3
  refine h _ w1 w2 w3 ?_ ?_ ?_ ?_ ?_ ?_ ?_ fun p o e => ?_
  all_goals run_tac sideStep (← Lean.Elab.Tactic.getMainGoal)
theorem ok_wide : ∀ br, okR (-1) (wideL br)
  | true => by simp [okR, wideL]
  | false => by simp [okR, wideL]
theorem ok_marks : okR (-1) marksL := by simp [okR, marksL]
theorem ok_pics : okR (-1) picsL := by simp [okR, picsL]
theorem c__law_table {br : Bool} (h : ∀ τ t dt w1 w2 w3, σ t = none → σ w1 = none → σ w2 = none → σ w3 = none → τ t = some (wtO dt w1 w2 w3) → τ w1 = some (.list (rangesV (wideL br))) → τ w2 = some (.list (rangesV marksL)) → τ w3 = some (.list (rangesV picsL)) → Sub σ τ → K (.ref t) ℓ τ) : Cd (cx w) (n + 5) (.ref 1281) [.bool br] ℓ σ K := by
  cases br
  · run_tac openFn 1281
    run_tac wkN 13
    refine Ex.assign ?_ ?_ ?_ ?_
    · exact fun _ => rfl
    · exact fun _ => rfl
    · exact fun _ => rfl
    run_tac wkN 60
    rename_i a1 e1 a2 e2 a3 e3 x4 e4 a5 e5 x6 e6 a7 e7 x dx e8
    refine c_WidthTable___init__ (n := n + 1) (l1 := wideL false) (l2 := marksL) (l3 := picsL) e8 ?_ ?_ ?_ (ok_wide _) ok_marks ok_pics (by decide) (by decide) (by decide) fun τ w1 w2 w3 n1 n2 n3 h0 h1 h2 h3 hs => ?_
    · run_tac sideStep (← Lean.Elab.Tactic.getMainGoal)
    · run_tac sideStep (← Lean.Elab.Tactic.getMainGoal)
    · run_tac sideStep (← Lean.Elab.Tactic.getMainGoal)
    · refine ⟨rfl, ?_⟩
      run_tac wkN 20
      refine h _ x dx w1 w2 w3 ?_ ?_ ?_ ?_ h0 h1 h2 h3 fun p o e => ?_
      all_goals run_tac sideStep (← Lean.Elab.Tactic.getMainGoal)
  · run_tac openFn 1281
    run_tac wkN 13
    refine Ex.assign ?_ ?_ ?_ ?_
    · exact fun _ => rfl
    · exact fun _ => rfl
    · exact fun _ => rfl
    run_tac wkN 60
    rename_i a1 e1 a2 e2 a3 e3 x4 e4 a5 e5 x6 e6 a7 e7 x dx e8
    refine c_WidthTable___init__ (n := n + 1) (l1 := wideL true) (l2 := marksL) (l3 := picsL) e8 ?_ ?_ ?_ (ok_wide _) ok_marks ok_pics (by decide) (by decide) (by decide) fun τ w1 w2 w3 n1 n2 n3 h0 h1 h2 h3 hs => ?_
    · run_tac sideStep (← Lean.Elab.Tactic.getMainGoal)
    · run_tac sideStep (← Lean.Elab.Tactic.getMainGoal)
    · run_tac sideStep (← Lean.Elab.Tactic.getMainGoal)
    · refine ⟨rfl, ?_⟩
      run_tac wkN 20
      refine h _ x dx w1 w2 w3 ?_ ?_ ?_ ?_ h0 h1 h2 h3 fun p o e => ?_
      all_goals run_tac sideStep (← Lean.Elab.Tactic.getMainGoal)
end
end Mine
end
section
open PySem PySem.W PySem.Calls PyProof.Rows
set_option Elab.async false
set_option linter.unusedVariables false
set_option linter.unusedSimpArgs false
set_option maxRecDepth 100000
set_option maxHeartbeats 0
namespace Mine
section
variable {c : Cx} {n : Nat} {f : Fe} {ℓ : Loc} {σ : AH}
/-- a slice of a list of the first heap -/
theorem Ev.sliceRaw {o : Expr} {lo hi : Option Expr} {p pos : Pos} {K : AV → Loc → AH → Prop} {a : Addr} {ws : List Value} {m : Nat} {vs : List AV} {ob : Obj} (hl : c.K.lookup a = some ob) (hl' : ob.cls = .type "list" ∧ ob.data = .seq (List.toArray ws) m) (hv : ∀ h, VRs h vs ws) (hz : vs.length ≤ sizeLine)
    (h : Ev c n f o ℓ σ fun u ℓ₁ σ₁ => Pt c n f lo ℓ₁ σ₁ fun i ℓ₂ σ₂ => Pt c n f hi ℓ₂ σ₂ fun j ℓ₃ σ₃ => u = .raw (.ref a) ∧ ∀ b, σ₃ b = none → K (.ref b) ℓ₃ (AH.set σ₃ b (.list (cut i j vs)))) :
    Ev c n f (.Subscript o (.Slice lo hi none p) pos) ℓ σ K := by
  intro h₀ A L s _ Q E hB hA hS hF _ hC
  refine Subscript_ (h h₀ A L s () _ E hB hA hS hF trivial fun u x _ _ _ tk₁ hK₁ hS₁ hF₁ hX₁ hR₁ => wpAny_Slice (hK₁ h₀ A L _ () _ E hB hA hS₁ hF₁ trivial fun i y _ _ _ tk₂ hK₂ hS₂ hF₂ hX₂ hR₂ =>
    hK₂ h₀ A L _ () _ E hB hA hS₂ hF₂ trivial fun j z ℓ₃ σ₃ h₃ tk₃ hK₃ hS₃ hF₃ hX₃ hR₃ => wpAny_pure ?_))
  obtain ⟨rfl, hK⟩ := hK₃
  cases hR₁
  have h1 := hB.k.keeps hS₃.keep a _ hl
  have h2 := hv h₃
  have h1' : Heap.IsList _ a ws.toArray := ⟨_, Heap.get?_push_of_some { cls := .type "slice", data := .fields #[y, z, .none] } h1, hl'.1, m, hl'.2⟩
  refine tail_any h1'.typeIs slot_list_getitem.lookup (wpAny_getItem_list_slice h1' (Heap.IsSliceOf.new ..) hR₂ hR₃ .none (by simp) ?_ (by rw [h2.size]; exact hz)) rfl
  rw [slicePick_cut]
  have hX := (hX₁.trans hX₂).trans hX₃
  exact (hC.after hX tk₃).new (ob := .list (cut i j vs)) hS₃ hF₃ (fun b o e => Heap.get?_push_of_some _ (Heap.get?_push_of_some _ e)) (by rw [Heap.size_push]; exact Nat.le_succ _) rfl (fun kt => ⟨cut i j ws, 0, Heap.get?_push_size _ rfl, (h2.cut i j).keep kt⟩) (hK _) (fun _ => .ref _) tk₃
theorem O2.powc {K : AV → Loc → AH → Prop} (h : K (.int 1000000000) ℓ σ) : O2 c n (binaryOp .Pow) (.int 10) (.int 9) ℓ σ K :=
  O2.int (fun A E s t u Q q => PySem.AutoIntOps.pow_4 (by decide) (by decide) (by decide) (by decide) (by decide) (q _ _ (.int _ _))) h
end
open Lean Meta Elab Tactic in
def names : TacticM Unit := withMainContext do
  let mut o := m!""
  for d in ← getLCtx do
    unless d.isImplementationDetail do
      let t := d.type
      if ← isProp t then
        o := o ++ (if t.isAppOfArity ``Eq 3 then m!"\n{d.userName.eraseMacroScopes}{if d.userName.hasMacroScopes then "*" else ""} : AT {(t.getArg! 1).appArg!} IS {(t.getArg! 2).getAppFn} {if (t.getArg! 2).isApp then m!"{(t.getArg! 2).appArg!}" else m!""}" else m!"\n{d.userName.eraseMacroScopes}{if d.userName.hasMacroScopes then "*" else ""} : P {t.getAppFn}")
      else o := o ++ m!"\n{d.userName.eraseMacroScopes}{if d.userName.hasMacroScopes then "*" else ""} DATA {mkFVar d.fvarId}"
  logInfo o
open Lean Meta Elab Tactic in
def updTac : TacticM Unit := withMainContext do
  let t ← goalOf (← getMainGoal)
  let a := t.getAppArgs
  let vs := listOf 10 a[3]!
  let some (_, p) ← sigS a[5]! vs[0]! | throwError "upd 1"
  let some (_, q) ← sigS a[5]! vs[1]! | throwError "upd 2"
  let some n ← neq 60 (vs[0]!).appArg! (vs[1]!).appArg! | throwError "upd 3"
  runW "refine Mine.Ca.update P1 P2 P3 (by simp only [List.length_cons, List.length_nil, sizeLine_eq]; omega) ?_" [("P1", p), ("P2", q), ("P3", n)]
open Lean Meta Elab Tactic in
/-- a dict's display, its pairs in a row -/
def dictTac : Nat → TacticM Unit
  | 0 => return
  | k + 1 => withMainContext do
    let t ← goalOf (← getMainGoal)
    let a := t.getAppArgs
    if t.isAppOf ``Mine.Ev then
      let e ← ctorOf a[3]!
      unless hd e == "Dict" do return
      let ks := (listOf 30 (e.getArg! 0)).map fun x => x.appArg!
      let vs := listOf 30 (e.getArg! 1)
      let E := mkConst ``PySem.Expr
      let ps := (ks.zip vs).map fun p => mkApp4 (mkConst ``Prod.mk [0, 0]) E E p.1 p.2
      runW "refine Mine.Ev.dict ES (fun _ => rfl) (by simp) (by simp) fun d hd => ?_" [("ES", listTo (mkApp2 (mkConst ``Prod [0, 0]) E E) ps)]
      dictTac k
    else if t.isAppOf ``Mine.Prs then
      let es ← ctorOf a[4]!
      runW (if hd es == "nil" then "refine Mine.Prs.nil ?_" else "refine Mine.Prs.cons ?_") []
      unless hd es == "nil" do
        wkN 300
        dictTac k
    else return
section
variable {w : WX} {n : Nat} {ℓ : Loc} {σ : AH} {K : AV → Loc → AH → Prop}
theorem cut_all {α : Type} {l : List α} (h : l.length ≤ 63) : cut none (some 63) l = l := by
  have e1 : clipN none 0 l.length = 0 := rfl
  have e2 : clipN (some 63) l.length l.length = l.length := clip_hi (by omega)
  unfold cut
  rw [e1, e2]
  simp
theorem wt_inj {a b c d a' b' c' d' : Addr} (h : some (wtO a b c d) = some (wtO a' b' c' d')) : b = b' ∧ c = c' ∧ d = d' := by
  unfold wtO at h
  cases h
  exact ⟨rfl, rfl, rfl⟩
/-- what is old is not the screen's -/
theorem old_out {A : Ad} {X : SX} {τ τ0 : AH} {dt w1 w2 w3 b : Addr} {o : AO} (S : Scr A X τ) (gt : τ A.wt = some (wtO dt w1 w2 w3)) (n0 : τ0 A.mo = none) (n1 : τ0 A.wt = none) (n2 : τ0 w1 = none) (n3 : τ0 w2 = none) (n4 : τ0 w3 = none) (hb : τ0 b = some o) (hb' : τ b = some o) (h1 : ∀ c d l, o ≠ .inst c d l) (h2 : o ≠ .list nmL) (own : ¬ Own A X.R b) : ¬ Foot A X.R b := by
  have ew := S.wt
  rw [gt] at ew
  obtain ⟨q1, q2, q3⟩ := wt_inj ew
  rintro (q | q | q | q | q | q | q | q)
  · exact own q
  · rw [q, S.m] at hb'; exact h1 _ _ _ (Option.some.inj hb').symm
  · rw [q, S.nm] at hb'; exact h2 (Option.some.inj hb').symm
  · rw [q, n0] at hb; cases hb
  · rw [q, n1] at hb; cases hb
  · rw [q, ← q1, n2] at hb; cases hb
  · rw [q, ← q2, n3] at hb; cases hb
  · rw [q, ← q3, n4] at hb; cases hb
theorem ints_nm {ys : List Int} : AO.list (ys.map .int) ≠ .list nmL := by
  intro e
  cases ys <;> cases e
theorem row_nm {cs : List Cell} : AO.list (rowV cs) ≠ .list nmL := by
  intro e
  cases cs <;> cases e
theorem Two.sub {A : Ad} {B : LAd} {X : SX} {cd : List Int} {σ τ : AH} {dk ca : Addr} {kc : Addr × AO} {j : Int} {xs : List Int} (G : Two A B X cd dk ca kc j xs σ) (s : Sub σ τ) : Two A B X cd dk ca kc j xs τ :=
  { G with S := G.S.keepF fun _ _ h _ => s _ _ h
           L := G.L.keepF fun _ _ h _ => s _ _ h
           hdk := s _ _ G.hdk
           hca := s _ _ G.hca
           kk := s _ _ G.kk }
theorem step_cd {X X' : SX} {cd cd' : List Int} (h : Step X X' cd cd') (hc : ∀ x ∈ cd, x ∈ codesL) : cd'.length ≤ cd.length + 1 ∧ ∀ x ∈ cd', x ∈ codesL := by
  rcases h with ⟨x, hx, -, rfl⟩ | ⟨rfl, -⟩
  · refine ⟨by simp, fun y hy => ?_⟩
    rcases List.mem_append.mp hy with q | q
    · exact hc y q
    · rw [List.mem_singleton.mp q]; exact hx
  · exact ⟨by omega, hc⟩
theorem Same.trans {A A' A'' : Ad} (e : Same A A') (e' : Same A' A'') : Same A A'' := by
  obtain ⟨h0, h1, h2, h3, h4, h5, h6, h7, h8, h9⟩ := e
  obtain ⟨k0, k1, k2, k3, k4, k5, k6, k7, k8, k9⟩ := e'
  exact ⟨k0.trans h0, k1.trans h1, k2.trans h2, k3.trans h3, k4.trans h4, k5.trans h5, k6.trans h6, k7.trans h7, k8.trans h8, k9.trans h9⟩
theorem c_law {sc : Addr} {ws : List Value} {m : Nat} {xs : List Int} {ob : Obj} (hl : (cx w).K.lookup sc = some ob) (hl' : ob.cls = .type "list" ∧ ob.data = .seq (List.toArray ws) m) (hv : ∀ h, VRs h (xs.map .int) ws) (hx : xs.length ≤ 63) (h : ∀ τ, K (.bool true) ℓ τ) : Cd0 (cx w) (n + 25) (.ref 1387) [.raw (.ref sc)] ℓ σ K := by
  have hxl := xs.length_map AV.int
  run_tac openFnC 1387
  generalize L + 1 = cw at hfr0 ⊢
  run_tac wk3 20
  run_tac dictTac 1
  refine Prs.cons ?_
  run_tac wkN 2
  refine Mine.Ev.compS (fun _ _ => rfl) (fun _ _ => rfl) (fun _ => rfl) (by decide +kernel) rfl (by decide +kernel) ?_
  refine Ev.sliceRaw hl hl' hv (by rw [hxl, sizeLine_eq]; omega) ?_
  run_tac wk3 20
  rename_i b0 hb0 L2 D hD
  rw [cut_all (by rw [hxl]; exact hx)] at hD ⊢
  generalize hσ : AH.set (AH.set (AH.set σ cw (.cell none)) d (.dict [])) b0 (.list (xs.map .int)) = σb at hD ⊢
  have hdb : σb d = some (.dict []) := by rw [← hσ, AH.set_ne (ne_fresh AH.set_same hb0), AH.set_same]
  have hLb : σb cw = some (.cell none) := by rw [← hσ, AH.set_ne (ne_fresh (by rw [AH.set_ne (ne_fresh AH.set_same hd)]; exact AH.set_same) hb0), AH.set_ne (ne_fresh AH.set_same hd)]; exact AH.set_same
  have hb0' : σb b0 = some (.list (xs.map .int)) := by rw [← hσ]; exact AH.set_same
  refine Lc.inv (fun vs ℓ' τ => ∃ dn rest, xs = dn ++ rest ∧ vs = rest.map .int ∧ τ = AH.set σb D (.list ((dn.map (· % 1000000000)).map .int)) ∧ LS [] ℓ') ?_ ?_ _ _ _ ⟨[], xs, rfl, rfl, rfl, LS.refl _⟩
  · rintro v vs ℓ' τ ⟨dn, rest, ex, ev, rfl, hℓ⟩
    cases rest with
    | nil => cases ev
    | cons x rest =>
      cases ev
      have dl : dn.length ≤ 63 := by
        have : xs.length = dn.length + (rest.length + 1) := by rw [ex]; simp
        omega
      have dl2 : ((dn.map (· % 1000000000)).map AV.int).length = dn.length := by simp
      first | refine As.weak hℓ ?_ | refine Exs.weak hℓ ?_
      all_goals
        run_tac wk3 20
        refine O2.powc ?_
        run_tac wk3 20
        exact ⟨dn ++ [x], rest, by rw [ex]; simp, rfl, by rw [List.map_append, List.map_append]; rfl, LS.app _ [_]⟩
  · rintro ℓ' τ ⟨dn, rest, ex, ev, rfl, hℓ⟩
    cases rest with
    | cons y rest => cases ev
    | nil =>
      rw [List.append_nil] at ex
      subst ex
      run_tac wk3 20
      run_tac dictTac 60
      rw [show putAll [] [(Str.ofString "cells", AV.ref D), (Str.ofString "place", .int 0)] = [(Str.ofString "cells", .ref D), (Str.ofString "place", .int 0)] from rfl]
      generalize hys : xs.map (· % 1000000000) = ys
      have hyl : ys.length ≤ 63 := by rw [← hys, List.length_map]; exact hx
      clear hys
      run_tac wk3 20
      run_tac dictTac 60
      rw [show ∀ a b c d e : AV, putAll [] [(Str.ofString "columns", a), (Str.ofString "wide", b), (Str.ofString "row", c), (Str.ofString "column", d), (Str.ofString "waits", e)] = [(Str.ofString "columns", a), (Str.ofString "wide", b), (Str.ofString "row", c), (Str.ofString "column", d), (Str.ofString "waits", e)] from fun _ _ _ _ _ => rfl]
      run_tac wkN 1
      refine As.cell (fun _ => by kernel_rfl) (fun _ => by rfl) (v₀ := none) ?_ ?_
      · run_tac sideStep (← Lean.Elab.Tactic.getMainGoal)
      run_tac wk3 20
      run_tac dictTac 60
      rw [show ∀ a b c d e f : AV, putAll [] [(Str.ofString "pen", a), (Str.ofString "wraps", b), (Str.ofString "inserts", c), (Str.ofString "shares", d), (Str.ofString "last", e), (Str.ofString "codes", f)] = [(Str.ofString "pen", a), (Str.ofString "wraps", b), (Str.ofString "inserts", c), (Str.ofString "shares", d), (Str.ofString "last", e), (Str.ofString "codes", f)] from fun _ _ _ _ _ _ => rfl]
      run_tac wk3 20
      run_tac updTac
      rw [show ∀ a b c d e f g h i j k : AV, putAll [(Str.ofString "columns", a), (Str.ofString "wide", b), (Str.ofString "row", c), (Str.ofString "column", d), (Str.ofString "waits", e)] [(Str.ofString "pen", f), (Str.ofString "wraps", g), (Str.ofString "inserts", h), (Str.ofString "shares", i), (Str.ofString "last", j), (Str.ofString "codes", k)] = [(Str.ofString "columns", a), (Str.ofString "wide", b), (Str.ofString "row", c), (Str.ofString "column", d), (Str.ofString "waits", e), (Str.ofString "pen", f), (Str.ofString "wraps", g), (Str.ofString "inserts", h), (Str.ofString "shares", i), (Str.ofString "last", j), (Str.ofString "codes", k)] from fun _ _ _ _ _ _ _ _ _ _ _ => rfl]
      dsimp only
      rename_i d0 hd0 d1 hd1 a8 ha8
      refine Exs.cut 3 ?_
      refine Exs.mono (K := fun fl ℓ' σ' => fl = .next ∧ ∃ br B D, ℓ' = [(Str.ofString "script", .raw (.ref sc)), (Str.ofString "deck", .ref d0), (Str.ofString "is_broad", .bool br)] ∧ σ' cw = some (.cell (some (.ref B.d))) ∧ σ' d0 = some (deckO D (0 + 1 + 1)) ∧ σ' D = some (.list (ys.map .int)) ∧ Lw B (X0 2 (3 + takeF ys 0 % 3) true br) [] σ' ∧ ¬ OwnL B D) ?_ ?_
      · run_tac wk3 20
        all_goals
          rename_i Dr _ _ _ b1 _ _ _ b2 _
          rw [reps_one, row_rep]
          refine ⟨_, ⟨d1, a8, Dr, fun i => if i = 0 then b1 else b2⟩, D, rfl, ?_, ?_, ?_, ⟨?_, ?_, ?_, fun i i0 i2 => ?_, ?_, fun i i0 i2 => ⟨?_, ?_⟩, ?_⟩, ?_⟩
          all_goals try dsimp only
          · run_tac sideStep (← Lean.Elab.Tactic.getMainGoal)
          · run_tac sideStep (← Lean.Elab.Tactic.getMainGoal)
          · run_tac sideStep (← Lean.Elab.Tactic.getMainGoal)
          · first | rw [show (takeF ys (0 + 1) % 2 == 1) = true from beq_iff_eq.mpr hc] | rw [show (takeF ys (0 + 1) % 2 == 1) = false from beq_eq_false_iff_ne.mpr hc]
            run_tac sideStep (← Lean.Elab.Tactic.getMainGoal)
          · run_tac sideStep (← Lean.Elab.Tactic.getMainGoal)
          · run_tac sideStep (← Lean.Elab.Tactic.getMainGoal)
          · rcases two i0 i2 with rfl | rfl
            · simp only [if_true]
              run_tac sideStep (← Lean.Elab.Tactic.getMainGoal)
            · simp only [show ¬ (1 : Int) = 0 by decide, if_false]
              run_tac sideStep (← Lean.Elab.Tactic.getMainGoal)
          · simp only [if_true, show ¬ (1 : Int) = 0 by decide, if_false]
            run_tac sideStep (← Lean.Elab.Tactic.getMainGoal)
          · rcases two i0 i2 with rfl | rfl
            · simp only [if_true]
              run_tac sideStep (← Lean.Elab.Tactic.getMainGoal)
            · simp only [show ¬ (1 : Int) = 0 by decide, if_false]
              run_tac sideStep (← Lean.Elab.Tactic.getMainGoal)
          · rcases two i0 i2 with rfl | rfl
            · simp only [if_true]
              run_tac sideStep (← Lean.Elab.Tactic.getMainGoal)
            · simp only [show ¬ (1 : Int) = 0 by decide, if_false]
              run_tac sideStep (← Lean.Elab.Tactic.getMainGoal)
          · run_tac sideStep (← Lean.Elab.Tactic.getMainGoal)
          · rintro (q | q | q | q | q)
            all_goals
              refine absurd q ?_
              try dsimp only
              try simp only [if_true, show ¬ (1 : Int) = 0 by decide, if_false]
              show _ ≠ _
              run_tac sideStep (← Lean.Elab.Tactic.getMainGoal)
      · rintro fl ℓ' σ' ⟨rfl, br, B, D, rfl, hcw, hdk, hD, L, hO⟩
        dsimp only
        have hwd := L.d
        unfold X0 at hwd
        dsimp only at hwd
        run_tac wk3 20
        rename_i τt t dt w1 w2 w3 et e1 e2 e3 gt g1 g2 g3 sT τ1 m1 dm s kk e5 e6 e7 f1 f2 s1 x1 dx hx0 A τ eA eW eM S s2 own
        have sub : Sub σ' τ := fun p o h => s2 _ _ (s1 _ _ (sT _ _ h))
        have hR : (X0 2 (3 + takeF ys 0 % 3) true br).R = 2 := rfl
        have out : ∀ b o, σ' b = some o → (∀ c d l, o ≠ .inst c d l) → o ≠ .list nmL → ¬ Foot A (X0 2 (3 + takeF ys 0 % 3) true br).R b := fun b o hb h1 h2 => by
          have ht := s2 _ _ (s1 _ _ gt)
          rw [← eW] at ht et
          have hne : σ' A.mo = none := by
            rw [eM]
            cases q : σ' m1 with
            | none => rfl
            | some o => have := sT _ _ q; rw [e5] at this; cases this
          exact old_out S ht hne et e1 e2 e3 hb (sub _ _ hb) h1 h2 (own b o (s1 _ _ (sT _ _ hb)) fun q => by
            have := sT _ _ hb
            rw [q, e6] at this; cases this)
        have G0 : Two A B (X0 2 (3 + takeF ys 0 % 3) true br) [] d0 D (cw, .cell (some (.ref B.d))) (0 + 1 + 1) ys τ := by
          refine ⟨S, L.keepF fun b o h _ => sub _ _ h, sub _ _ hdk, sub _ _ hD, fun b h => ?_, out _ _ hdk (fun _ _ _ e => by cases e) (fun e => by cases e), out _ _ hD (fun _ _ _ e => by cases e) ints_nm, ?_, hO, sub _ _ hcw, out _ _ hcw (fun _ _ _ e => by cases e) (fun e => by cases e), ?_, ?_⟩
          · rcases h with q | q | q | q | q
            all_goals subst q
            · exact out _ _ L.d (fun _ _ _ e => by cases e) (fun e => by cases e)
            · exact out _ _ L.cl (fun _ _ _ e => by cases e) ints_nm
            · exact out _ _ L.rs (fun _ _ _ e => by cases e) (fun e => by cases e)
            · exact out _ _ (L.c 0 (by decide) (by decide)) (fun _ _ _ e => by cases e) row_nm
            · exact out _ _ (L.c 1 (by decide) (by decide)) (fun _ _ _ e => by cases e) row_nm
          · rintro (q | q | q | q | q)
            · have := L.d; rw [← q, hdk] at this; cases this
            · have := L.cl; rw [← q, hdk] at this; cases this
            · have := L.rs; rw [← q, hdk] at this; cases this
            · have := L.c 0 (by decide) (by decide); rw [← q, hdk] at this; cases this
            · have := L.c 1 (by decide) (by decide); rw [← q, hdk] at this; cases this
          · rintro (q | q | q | q | q)
            · have := L.d; rw [← q, hcw] at this; cases this
            · have := L.cl; rw [← q, hcw] at this; cases this
            · have := L.rs; rw [← q, hcw] at this; cases this
            · have := L.c 0 (by decide) (by decide); rw [← q, hcw] at this; cases this
            · have := L.c 1 (by decide) (by decide); rw [← q, hcw] at this; cases this
          · intro q; dsimp only at q; rw [q, hdk] at hcw; cases hcw
        have G1 := G0.take (0 + 1 + 1 + 1)
        have I1 : Inv 1 (X0 2 (3 + takeF ys 0 % 3) true br) := inv_zero (by omega) (by omega)
        generalize hN : 1 + takeF ys (0 + 1 + 1) % 14 = N
        have N1 : 1 ≤ N := by omega
        have N14 : N ≤ 14 := by omega
        refine ⟨_, _, Src.rng (small_one (by omega) (by omega) (by omega) (by omega)), ?_⟩
        refine Lo.inv (fun vs ℓ' τ' => ∃ i j A' B' X cd q, vs = upto i j ∧ j ≤ N.toNat ∧ Two A' B' X cd d0 D (cw, .cell (some (.ref B.d))) q ys τ' ∧ Inv (N.toNat - j + 1) X ∧ Same A A' ∧ B'.d = B.d ∧ cd.length ≤ N.toNat - j ∧ (∀ x ∈ cd, x ∈ codesL) ∧ 0 ≤ q ∧ q ≤ 3 + 4 * ((N.toNat - j : Nat) : Int)
          ∧ LS [(Str.ofString "script", .raw (.ref sc)), (Str.ofString "deck", .ref d0), (Str.ofString "is_broad", .bool br), (Str.ofString "table", .ref t), (Str.ofString "screen", .ref A.s)] ℓ') ?_ ?_ _ _ _ ?_
        · rintro v vs ℓ' τ' ⟨i, j, A', B', X, cd, q, e, hj, G, I, eS, eB, hcd, hin, q0, q9, hℓ⟩
          cases j with
          | zero => cases e
          | succ j =>
            cases e
            have es := eS.1
            have hk := G.kk
            dsimp only at hk
            rw [← eB] at hk
            rw [← es] at hℓ
            have o := I.ok
            have o2 : ∀ m, OKX _ (lrepX X m) := fun m => (rep_eq I m).1 ▸ (rep_eq I m).2.ok
            have R2 := I.R2
            have k1 : 1 ≤ N.toNat - (j + 1) + 1 := by omega
            have k4 : N.toNat - (j + 1) + 1 ≤ 400 := by omega
            have hcd' : cd.length ≤ 100 := by omega
            have hxs := hyl
            have q9' : q ≤ 900 := by omega
            have e1' : ∀ x ∈ codesL, codeX X x = lcodedX X x := fun x hx => (code_eq I k1 k4 hx).1
            have e2' : ∀ m, repX X m = lrepX X m := fun m => (rep_eq I m).1
            have hw := ahead_wd I
            first | refine As.weak hℓ ?_ | refine Exs.weak hℓ ?_
            all_goals
              run_tac wkN 1
              refine Exs.cut 1 ?_
              run_tac wk3 20
              rename_i A2 B2 X2 cd2 q2 τ2 G2 st es2 eB2 q20 q29
              obtain ⟨I2, C2⟩ := step_inv I k1 k4 st
              obtain ⟨z1, z2⟩ := step_cd st hin
              have hk2 := G2.kk
              dsimp only at hk2
              rw [← eB, ← eB2] at hk2
              have o3 := I2.ok
              have R3 := I2.R2
              have S2 := G2.S
              have L2 := G2.L
              rw [← es2.1]
              run_tac wk3 20
              exact ⟨_, j, A2, B2, X2, cd2, q2, rfl, by omega, G2.sub ‹_›, by rw [show N.toNat - j + 1 = N.toNat - (j + 1) + 1 + 1 by omega]; exact I2, eS.trans es2, eB2.trans eB, by omega, z2, by omega, by omega, (by rw [(eS.trans es2).1]; exact LS.app _ [_])⟩
        · rintro ℓ' τ' ⟨i, j, A', B', X, cd, q, e, hj, G, I, eS, eB, hcd, hin, q0, q9, hℓ⟩
          cases j with
          | succ j => cases e
          | zero =>
            have hk := G.kk
            dsimp only at hk
            rw [← eB] at hk
            have S' := G.S
            have hd' := G.L.d
            have hcl' := G.L.cl
            have ht' := S'.wt
            have h1' := S'.w1
            have h2' := S'.w2
            have h3' := S'.w3
            rw [← eW, ← eS.2.2.2.2.1] at hℓ
            have hz : cd.length ≤ 90 := by omega
            first | refine As.weak hℓ ?_ | refine Exs.weak hℓ ?_
            all_goals
              run_tac wk3 20
              exact h _
        · exact ⟨0, _, A, B, _, [], _, rfl, by omega, G1, by rw [show N.toNat - (N - 0).toNat + 1 = 1 by omega]; exact I1, ⟨rfl, rfl, rfl, rfl, rfl, rfl, rfl, rfl, rfl, rfl⟩, rfl, by simp, (fun x h => by cases h), by omega, by omega, (by rw [eA]; exact LS.refl _)⟩
end
end Mine
end
section
open PySem PySem.W PySem.Calls PyProof.Rows
set_option Elab.async false
set_option linter.unusedVariables false
set_option maxRecDepth 100000
set_option maxHeartbeats 0
namespace Mine
theorem look_app {K : Frag} {a : Addr} {o : Obj} (h : ∀ o', K.lookup a = some o' → o' = o) : (K ++ [(a, o)]).lookup a = some o := by
  induction K with
  | nil => simp [List.lookup]
  | cons p K ih =>
    obtain ⟨b, o'⟩ := p
    rw [List.cons_append, List.lookup_cons]
    rw [List.lookup_cons] at h
    split
    · rename_i e; rw [e] at h; exact congrArg some (h _ rfl)
    · rename_i e; rw [e] at h; exact ih h
theorem look_in {K : Frag} {a b : Addr} {o x : Obj} (h : (K ++ [(a, o)]).lookup b = some x) : K.lookup b = some x ∨ (b = a ∧ x = o) := by
  induction K with
  | nil =>
    rw [List.nil_append, List.lookup_cons] at h
    split at h
    · rename_i e; exact .inr ⟨by simpa using e, (Option.some.inj h).symm⟩
    · cases h
  | cons p K ih =>
    obtain ⟨c, o'⟩ := p
    rw [List.cons_append, List.lookup_cons] at h
    rw [List.lookup_cons]
    split at h
    · exact .inl h
    · exact ih h
theorem ints_vrs {h : Heap} : ∀ {ws : List Value} {xs : List Int}, IntsAre ws xs → VRs h (xs.map .int) ws := by
  intro ws xs e
  induction e with
  | nil => exact .nil
  | cons n t _ ih => exact .cons (.int _ _) ih
theorem walkO (loose : List Str) (d : DefRec) (kwd : List (Str × Expr)) (hn : d.name = Str.ofString "law") : WalkO qq loose (XL qq []) (fun w h => (KK w.params).In h) (PySem.Challenge.rw_rh0241_01.row.toRowW) d kwd (fun f vs => PySem.call f vs) := by
  intro w s₀ s₁ mg mb G Y a o pm cd doc dV kV ho hd hcd hD hmg hg args vals as hpre hlay hrd hwl hlo
  have TR := topRead_of G.T
  wrow_args hpre hlay hrd hwl hlo
  rename_i xs _ _ _ _ _ _ _ sc ws _ hL _ _ _ hI _ hc _
  obtain ⟨ob, h1, h2, m, h3⟩ := hL
  have ea : a = 1387 := by
    have e := mg_of (n := Str.ofString "law") (v := .ref 1387) Y TR.g (by kernel_rfl)
    rw [hn, e] at hmg
    cases hmg; rfl
  subst ea
  have hIn : (KK w.params ++ [(sc, ob)]).In s₁.heap := fun b x e => by
    rcases look_in e with e | ⟨rfl, rfl⟩
    · exact Y _ _ e
    · exact h1
  refine wpAny_call (c_law (w := (w, [(sc, ob)])) (n := 0) (ℓ := []) (σ := fun _ => none) (K := fun v _ _ => v = .bool true) (xs := xs) (look_app fun o' e => ?_) ⟨h2, h3⟩ (fun h => ints_vrs hI) (by omega) (fun _ => rfl) s₁.heap callerA s₁ [.ref sc] _ ⟨hIn, G.low, _, _, _, _, TR⟩ ⟨rfl, by decide, by decide⟩ ⟨fun _ _ e => e, nofun, nofun, nofun⟩ (Nat.le_refl _) (.cons (.raw _) .nil) fun v x σ' h' tk hK S X r => ?_)
  · have := Y _ _ e
    rw [h1] at this; cases this; rfl
  · subst hK
    cases r
    exact ⟨.inl ⟨_, _, [], rfl, fun _ => rfl, ReadsW.bool true, by first | rfl | wrow_post, fun _ => ⟨List.nodup_nil, nofun⟩⟩, .of_keep S.keep, rfl, .of_eq hg⟩
theorem in_app {K K' : Frag} {h : Heap} (x : K.In h) (y : K'.In h) : (K ++ K').In h := by
  intro b o e
  induction K with
  | nil => exact y b o e
  | cons p K ih =>
    obtain ⟨c, o'⟩ := p
    rw [List.cons_append, List.lookup_cons] at e
    split at e
    · rename_i q
      exact x b o (by rw [List.lookup_cons, q]; exact e)
    · rename_i q
      by_cases z : K.lookup b = none
      · have : ∀ {K : Frag}, K.lookup b = none → (K ++ K').lookup b = K'.lookup b := by
          intro K
          induction K with
          | nil => exact fun _ => rfl
          | cons p K ih =>
            intro z
            obtain ⟨c, o'⟩ := p
            rw [List.lookup_cons] at z
            rw [List.cons_append, List.lookup_cons]
            split at z
            · cases z
            · rename_i q; exact ih z
        exact y b o (by rw [← this z]; exact e)
      · have : ∀ {K : Frag}, K.lookup b ≠ none → (K ++ K').lookup b = K.lookup b := by
          intro K
          induction K with
          | nil => exact fun z => absurd rfl z
          | cons p K ih =>
            intro z
            obtain ⟨c, o'⟩ := p
            rw [List.lookup_cons] at z
            rw [List.cons_append, List.lookup_cons, List.lookup_cons]
            split at z
            · rfl
            · rename_i q; exact ih z
        exact x b o (by rw [List.lookup_cons, q]; dsimp only; rw [← this z]; exact e)
end Mine
end
section
namespace Mine
open Lean Meta
/-- what is known of a proof's parts, binders opened -/
structure Sq where
  opened : Std.HashMap Lean.Expr (FVarId × Lean.Expr) := {}
  depth : Std.HashMap FVarId Nat := {}
  inner : Std.HashMap Lean.Expr (Option FVarId) := {}
  order : Array Lean.Expr := #[]
  lctx : LocalContext := {}
abbrev SqM := StateRefT Sq MetaM
def isB (e : Lean.Expr) : Bool := match e with | .lam .. | .forallE .. | .letE .. => true | _ => false
/-- the deeper of two binders -/
def deeper (a b : Option FVarId) : SqM (Option FVarId) := do
  match a, b with
  | none, b => return b
  | a, none => return a
  | some x, some y =>
    let d := (← get).depth
    return if d.getD x 0 < d.getD y 0 then some y else some x
/-- parts are met, children first; handed back: the innermost binder that it speaks of -/
def visit : Nat → Lean.Expr → SqM (Option FVarId)
  | 0, _ => throwError "visit"
  | k + 1, e => do
  match e with
  | .bvar _ => throwError "visit: loose"
  | .fvar x => return some x
  | .const .. | .sort _ | .lit _ | .mvar _ => return none
  | _ =>
  if let some r := (← get).inner.get? e then return r
  let r ← match e with
    | .app f a => do deeper (← visit k f) (← visit k a)
    | .mdata _ b => visit k b
    | .proj _ _ b => visit k b
    | .lam n t b bi | .forallE n t b bi => do
      let r ← visit k t
      let x ← mkFreshFVarId
      let b' := b.instantiate1 (.fvar x)
      modify fun s => { s with lctx := s.lctx.mkLocalDecl x n t bi }
      let r2 ← pure (if e.hasFVar then some e else none)
      let _ := r2
      -- the binder's depth: one more than what it speaks of
      let mut m := r
      for y in (collectFVars {} e).fvarIds do m ← deeper m (some y)
      let d ← match m with | some y => do pure ((← get).depth.getD y 0 + 1) | none => pure 1
      modify fun s => { s with depth := s.depth.insert x d, opened := s.opened.insert e (x, b') }
      discard <| visit k b'
      pure m
    | .letE n t v b _ => do
      discard <| visit k t
      discard <| visit k v
      let x ← mkFreshFVarId
      let b' := b.instantiate1 (.fvar x)
      modify fun s => { s with lctx := s.lctx.mkLetDecl x n t v }
      let mut m : Option FVarId := none
      for y in (collectFVars {} e).fvarIds do m ← deeper m (some y)
      let d ← match m with | some y => do pure ((← get).depth.getD y 0 + 1) | none => pure 1
      modify fun s => { s with depth := s.depth.insert x d, opened := s.opened.insert e (x, b') }
      discard <| visit k b'
      pure m
    | _ => pure none
  modify fun s => { s with inner := s.inner.insert e r, order := s.order.push e }
  return r
def opn (s : Sq) (e : Lean.Expr) : FVarId × Lean.Expr := (s.opened.get? e).getD (⟨.anonymous⟩, .bvar 0)
def kids (s : Sq) (e : Lean.Expr) : List (Lean.Expr × Bool) := match e with
  | .app f a => [(f, false), (a, false)]
  | .mdata _ b => [(b, false)]
  | .proj _ _ b => [(b, false)]
  | .lam _ t _ _ | .forallE _ t _ _ => [(t, false), ((opn s e).2, true)]
  | .letE _ t v _ _ => [(t, false), (v, false), ((opn s e).2, true)]
  | _ => []
/-- parts, children first, the types of what is to be bound among them -/
def ordered (s : Sq) (tys : Std.HashMap Lean.Expr Lean.Expr) : Nat → Lean.Expr → StateM (Std.HashSet Lean.Expr × Array Lean.Expr) Unit
  | 0, _ => return
  | k + 1, e => do
    if !(s.inner.contains e) then return
    if (← get).1.contains e then return
    modify fun q => (q.1.insert e, q.2)
    if let some t := tys.get? e then ordered s tys k t
    for (c, _) in kids s e do ordered s tys k c
    modify fun q => (q.1, q.2.push e)
/-- the depths at which each part stands; what is worth a name is given one -/
def plan (s : Sq) (order : Array Lean.Expr) (size : Std.HashMap Lean.Expr Nat) (e0 : Lean.Expr) (worth : Lean.Expr → Nat → Option Lean.Expr) : Std.HashMap Lean.Expr Lean.Expr := Id.run do
  let mut ctx : Std.HashMap Lean.Expr (List (Nat × Nat)) := {}
  let mut base := 1
  let mut lets : Std.HashMap Lean.Expr Lean.Expr := {}
  let add (l : List (Nat × Nat)) (m : List (Nat × Nat)) : List (Nat × Nat) := m.foldl (fun l x => if l.contains x || l.length > 60 then l else x :: l) l
  ctx := ctx.insert e0 [(0, 0)]
  for e in order.reverse do
    let mut D := ctx.getD e []
    match s.inner.getD e none with
    | none => D := [(base, 0)]; base := base + 1
    | some _ =>
      if D.length ≥ 2 then
        if let some t := worth e ((D.length - 1) * size.getD e 0) then
          lets := lets.insert e t
          D := [(base, 0)]; base := base + 1
          if s.inner.contains t then ctx := ctx.insert t (add (ctx.getD t []) D)
    for (c, under) in kids s e do
      let D' := if under then D.map fun x => (x.1, x.2 + 1) else D
      if s.inner.contains c then ctx := ctx.insert c (add (ctx.getD c []) D')
  return lets
/-- nodes of a term that stand nowhere else: some, or too many -/
def newNodes (s : Sq) : Nat → Lean.Expr → StateM Nat Unit
  | 0, _ => set 1000
  | k + 1, e => do
    if (← get) > 60 then return
    if s.inner.contains e || e.isFVar || e.isConst || e.isSort || !e.hasFVar then return
    modify (· + 1)
    match e with
    | .app f a => newNodes s k f; newNodes s k a
    | .mdata _ b => newNodes s k b
    | .proj _ _ b => newNodes s k b
    | _ => set 1000
/-- the proof again, what stands at several depths bound once -/
def squash (e0 : Lean.Expr) (least : Nat := 3) (most : Nat := 12) : MetaM Lean.Expr := do
  let (_, s) ← (visit 100000 e0).run {}
  let mut size : Std.HashMap Lean.Expr Nat := {}
  for e in s.order do
    if (s.inner.getD e none).isSome then
      size := size.insert e (min 1000 (1 + (kids s e).foldl (fun n c => n + size.getD c.1 0) 0))
  -- who might be worth it
  let l0 := plan s s.order size e0 fun e n => if n ≥ least then some (.sort .zero) else none
  let mut tys : Std.HashMap Lean.Expr Lean.Expr := {}
  let mut s := s
  for (e, _) in l0.toArray do
    let ty? ← withLCtx s.lctx {} do
      try
        let t ← instantiateMVars (← inferType e)
        if t.hasMVar then pure none else pure (some t)
      catch _ => pure none
    if let some t := ty? then
      let n := ((newNodes s 60 t).run 0).2
      if n ≤ most then
        tys := tys.insert e t
  for (_, t) in tys.toArray do
    let (_, s') ← (visit 100000 t).run s
    s := s'
  for e in s.order do
    if (s.inner.getD e none).isSome && !size.contains e then
      size := size.insert e (min 1000 (1 + (kids s e).foldl (fun n c => n + size.getD c.1 0) 0))
  let order := (((ordered s tys 100000 e0).run ({}, #[])).2).2
  let lets := plan s order size e0 fun e n => match tys.get? e with
    | some t => if n ≥ (if t.hasFVar then least + 3 else least) then some t else none
    | none => none
  let mut zs : Std.HashMap Lean.Expr FVarId := {}
  for (e, _) in lets.toArray do zs := zs.insert e (← mkFreshFVarId)
  let order := (((ordered s lets 100000 e0).run ({}, #[])).2).2
  -- built again
  let mut out : Std.HashMap Lean.Expr Lean.Expr := {}
  let mut under : Std.HashMap FVarId (Array (FVarId × Lean.Expr × Lean.Expr)) := {}
  let get (out : Std.HashMap Lean.Expr Lean.Expr) (e : Lean.Expr) : Lean.Expr := out.getD e e
  for e in order do
    let close (x : FVarId) (b : Lean.Expr) (under : Std.HashMap FVarId (Array (FVarId × Lean.Expr × Lean.Expr))) : Lean.Expr := Id.run do
      let ls := under.getD x #[]
      let fs := #[Lean.Expr.fvar x] ++ ls.map fun l => Lean.Expr.fvar l.1
      let mut r := b.abstract fs
      let mut i := ls.size
      for (_, t, v) in ls.reverse do
        i := i - 1
        let gs := fs.extract 0 (i + 1)
        r := .letE `x (t.abstract gs) (v.abstract gs) r false
      return r
    let r := match e with
      | .app f a => Lean.Expr.app (get out f) (get out a)
      | .mdata _ b => get out b
      | .proj n i b => .proj n i (get out b)
      | .lam n t _ bi => let (x, b) := opn s e; .lam n (get out t) (close x (get out b) under) bi
      | .forallE n t _ bi => let (x, b) := opn s e; .forallE n (get out t) (close x (get out b) under) bi
      | .letE n t v _ nd => let (x, b) := opn s e; .letE n (get out t) (get out v) (close x (get out b) under) nd
      | e => e
    match zs.get? e, s.inner.getD e none with
    | some z, some y =>
      under := under.insert y ((under.getD y #[]).push (z, get out (lets[e]!), r))
      out := out.insert e (.fvar z)
    | _, _ => out := out.insert e r
  return get out e0
end Mine
end
section
namespace Mine
open Lean Meta
structure Gn where
  atoms : Array (Lean.Expr × Lean.Expr × Lean.Expr) := #[]  -- what, its variable, its type
def gAtom (e ty : Lean.Expr) : StateRefT Gn MetaM Lean.Expr := do
  for (x, v, _) in (← get).atoms do if x == e then return v
  let v := Lean.Expr.fvar (← mkFreshFVarId)
  modify fun s => { s with atoms := s.atoms.push (e, v, ty) }
  return v
def isLitN (e : Lean.Expr) : Bool := e.isAppOfArity ``OfNat.ofNat 3 && (e.getArg! 1).isRawNatLit || e.isRawNatLit
def litLike (e : Lean.Expr) : Bool := isLitN e || (e.isAppOfArity ``Neg.neg 3 && isLitN e.appArg!) || (e.isAppOfArity ``HPow.hPow 6 && isLitN (e.getArg! 4) && isLitN (e.getArg! 5))
def isNum (t : Lean.Expr) : Bool := t.isConstOf ``Int || t.isConstOf ``Nat
/-- a number's term, what is no arithmetic made a variable -/
def gTerm : Nat → Lean.Expr → Lean.Expr → StateRefT Gn MetaM Lean.Expr
  | 0, _, _ => throwError "gTerm"
  | k + 1, ty, e => do
  let e := e.consumeMData
  if litLike e then return e
  let f := e.getAppFn
  let a := e.getAppArgs
  let two : StateRefT Gn MetaM Lean.Expr := do return mkAppN f ((a.set! (a.size - 2) (← gTerm k ty a[a.size - 2]!)).set! (a.size - 1) (← gTerm k ty a[a.size - 1]!))
  match f.constName?, a.size with
  | some ``HAdd.hAdd, 6 | some ``HSub.hSub, 6 => if a[0]! == ty && a[1]! == ty then two else gAtom e ty
  | some ``Max.max, 4 | some ``Min.min, 4 => two
  | some ``HMul.hMul, 6 => if litLike a[4]! || litLike a[5]! then two else gAtom e ty
  | some ``HDiv.hDiv, 6 | some ``HMod.hMod, 6 => if litLike a[5]! then two else gAtom e ty
  | some ``Neg.neg, 3 => return mkAppN f (a.set! 2 (← gTerm k ty a[2]!))
  | some ``Nat.cast, 3 => if ty.isConstOf ``Int then return mkAppN f (a.set! 2 (← gTerm k (mkConst ``Nat) a[2]!)) else gAtom e ty
  | some ``Int.toNat, 1 => return mkAppN f (a.set! 0 (← gTerm k (mkConst ``Int) a[0]!))
  | some ``Nat.succ, 1 => return mkAppN f (a.set! 0 (← gTerm k ty a[0]!))
  | _, _ => gAtom e ty
def gProp : Nat → Lean.Expr → StateRefT Gn MetaM Lean.Expr
  | 0, _ => throwError "gProp"
  | k + 1, e => do
  let e := e.consumeMData
  let f := e.getAppFn
  let a := e.getAppArgs
  match f.constName?, a.size with
  | some ``And, 2 | some ``Or, 2 | some ``Iff, 2 => return mkApp2 f (← gProp k a[0]!) (← gProp k a[1]!)
  | some ``Not, 1 => return mkApp f (← gProp k a[0]!)
  | some ``Eq, 3 | some ``Ne, 3 => if isNum a[0]! then return mkApp3 f a[0]! (← gTerm k a[0]! a[1]!) (← gTerm k a[0]! a[2]!) else gAtom e (.sort .zero)
  | some ``LE.le, 4 | some ``LT.lt, 4 | some ``GE.ge, 4 | some ``GT.gt, 4 => if isNum a[0]! then return mkAppN f ((a.set! 2 (← gTerm k a[0]! a[2]!)).set! 3 (← gTerm k a[0]! a[3]!)) else gAtom e (.sort .zero)
  | some ``False, 0 | some ``True, 0 => return e
  | _, _ =>
    if let .forallE n t b bi := e then
      if !b.hasLooseBVars then
        if ← isProp t then return .forallE n (← gProp k t) (← gProp k b) bi
    gAtom e (.sort .zero)
/-- sorted by their look, the variables nameless -/
def lookOf (e : Lean.Expr) : String := toString (e.replace fun x => if x.isFVar then some (.const `v []) else none)
structure Core where
  made : Std.HashMap Lean.Expr Name := {}
/-- a statement of arithmetic, its core proved once: the term that proves it -/
def arith (ref : IO.Ref Core) (ty : Lean.Expr) : MetaM (Option Lean.Expr) := forallTelescope ty fun xs B => do
  let hs ← xs.filterM fun x => do isProp (← inferType x)
  let run : StateRefT Gn MetaM (Array (Lean.Expr × Lean.Expr) × Lean.Expr) := do
    let mut ps := #[]
    for h in hs do ps := ps.push (← gProp 100 (← instantiateMVars (← inferType h)), h)
    return (ps, ← gProp 100 B)
  let ((ps, G), s) ← run.run {}
  let try_ (ps : Array (Lean.Expr × Lean.Expr)) : MetaM (Option (Lean.Expr × Lean.Expr × Array Lean.Expr × Array Lean.Expr)) := do
    let ps := ps.qsort fun a b => lookOf a.1 < lookOf b.1
    -- variables in the order of their first use
    let st := ps.foldl (fun st p => collectFVars st p.1) ({} : CollectFVars.State)
    let st := collectFVars st G
    let vs := st.fvarIds.filterMap fun x => s.atoms.find? fun a => a.2.1 == .fvar x
    -- a variable each
    let rec go : List (Lean.Expr × Lean.Expr × Lean.Expr) → Array Lean.Expr → MetaM (Option (Lean.Expr × Lean.Expr × Array Nat))
      | [], ys => do
        let old := vs.map (·.2.1)
        let sub (e : Lean.Expr) : Lean.Expr := (e.abstract old).instantiateRev ys
        let rec hyps : List Lean.Expr → Array Lean.Expr → MetaM (Option (Lean.Expr × Lean.Expr × Array Nat))
          | [], hs' => do
            let goal := sub G
            let m ← mkFreshExprMVar goal
            try
              let g? ← if goal.isConstOf ``False then pure (some m.mvarId!) else m.mvarId!.falseOrByContra
              match g? with
              | some g => g.withContext do
                let fs ← (← getLocalHyps).filterM fun h => do return hs'.contains h || !(xs.contains h)
                Lean.Elab.Tactic.Omega.omega fs.toList g {}
              | none => pure ()
              let pf ← instantiateMVars m
              let used := (collectFVars {} pf).fvarIds
              let mut ix := #[]
              for i in [0:hs'.size] do if used.contains hs'[i]!.fvarId! then ix := ix.push i
              return some (← mkForallFVars (ys ++ hs') goal, ← mkLambdaFVars (ys ++ hs') pf, ix)
            catch _ => return none
          | p :: r, hs' => withLocalDeclD `h p fun h => hyps r (hs'.push h)
        hyps (ps.toList.map fun p => sub p.1) #[]
      | (_, _, t) :: r, ys => withLocalDeclD `x t fun y => go r (ys.push y)
    let core ← mkFor vs ps G
    match (← ref.get).made.get? core with
    | some n => return some (core, mkConst n, vs.map (·.1), ps.map (·.2))
    | none =>
    let some (T, pf, ix) ← go vs.toList #[] | return none
    if ix.size < ps.size then return some (.bvar 0, .bvar 0, #[], ix.map fun i => (ps[i]!).2)
    return some (T, pf, vs.map (·.1), ps.map (·.2))
  let r ← try_ ps
  let r ← match r with
    | some (.bvar 0, _, _, keep) => try_ (ps.filter fun p => keep.contains p.2)
    | r => pure r
  let some (T, pf, as, hs') := r | return none
  if pf.isConst then return some (← mkLambdaFVars xs (mkAppN pf (as ++ hs')))
  if T.isBVar then return none
  let n := `Mine ++ Name.mkSimple s!"om{(← ref.get).made.size}"
  addDecl (.thmDecl { name := n, levelParams := [], type := T, value := pf })
  ref.modify fun c => { c with made := c.made.insert T n }
  return some (← mkLambdaFVars xs (mkAppN (mkConst n) (as ++ hs')))
where
  mkFor (vs : Array (Lean.Expr × Lean.Expr × Lean.Expr)) (ps : Array (Lean.Expr × Lean.Expr)) (G : Lean.Expr) : MetaM Lean.Expr := do
    let old := vs.map (·.2.1)
    let rec go : List (Lean.Expr × Lean.Expr × Lean.Expr) → Array Lean.Expr → MetaM Lean.Expr
      | [], ys => do
        let sub (e : Lean.Expr) : Lean.Expr := (e.abstract old).instantiateRev ys
        let b := ps.foldr (fun p b => .forallE `h (sub p.1) b .default) (sub G)
        mkForallFVars ys b
      | (_, _, t) :: r, ys => withLocalDeclD `x t fun y => go r (ys.push y)
    go vs.toList #[]
end Mine
end
section
set_option linter.unusedVariables false
namespace Mine
/-- terms of arithmetic, closed: numbers of the naturals, of the integers -/
inductive NE where
  | a (i : Nat) | k (c : Nat) | add (x y : NE) | ml (c : Nat) (x : NE) | mr (x : NE) (c : Nat)
inductive IE where
  | a (i : Nat) | k (c : Int) | add (x y : IE) | sub (x y : IE) | neg (x : IE) | ml (c : Int) (x : IE) | mr (x : IE) (c : Int) | nat (n : NE)
structure Rh where
  i : List Int
  n : List Nat
noncomputable abbrev nth {α : Type} (d : α) (l : List α) : Nat → α := @List.rec α (fun _ => Nat → α) (fun _ => d) (fun x _ ih k => @Nat.rec (fun _ => α) x (fun k _ => ih k) k) l
noncomputable abbrev NE.ev (ρ : Rh) (e : NE) : Nat := @NE.rec (fun _ => Nat) (fun i => nth 0 ρ.n i) (fun c => c) (fun _ _ x y => x + y) (fun c _ x => c * x) (fun _ c x => x * c) e
noncomputable abbrev IE.ev (ρ : Rh) (e : IE) : Int := @IE.rec (fun _ => Int) (fun i => nth 0 ρ.i i) (fun c => c) (fun _ _ x y => x + y) (fun _ _ x y => x - y) (fun _ x => -x) (fun c _ x => c * x) (fun _ c x => x * c) (fun n => (n.ev ρ : Int)) e
/-- a linear form: its constant, its numbers at the integers, at the naturals -/
structure Lf where
  c : Int
  i : List Int
  n : List Int
def addL : List Int → List Int → List Int
  | [], l => l
  | l, [] => l
  | x :: l, y :: m => (x + y) :: addL l m
def mulL (c : Int) : List Int → List Int
  | [] => []
  | x :: l => (c * x) :: mulL c l
def unit : Nat → List Int
  | 0 => [1]
  | k + 1 => 0 :: unit k
def Lf.add (x y : Lf) : Lf := ⟨x.c + y.c, addL x.i y.i, addL x.n y.n⟩
def Lf.mul (c : Int) (x : Lf) : Lf := ⟨c * x.c, mulL c x.i, mulL c x.n⟩
def dotI : List Int → List Int → Int
  | x :: l, y :: m => x * y + dotI l m
  | _, _ => 0
def dotN : List Int → List Nat → Int
  | x :: l, y :: m => x * y + dotN l m
  | _, _ => 0
def Lf.ev (ρ : Rh) (f : Lf) : Int := f.c + dotI f.i ρ.i + dotN f.n ρ.n
def NE.lf : NE → Lf
  | .a i => ⟨0, [], unit i⟩
  | .k c => ⟨c, [], []⟩
  | .add x y => x.lf.add y.lf
  | .ml c x => x.lf.mul c
  | .mr x c => x.lf.mul c
def IE.lf : IE → Lf
  | .a i => ⟨0, unit i, []⟩
  | .k c => ⟨c, [], []⟩
  | .add x y => x.lf.add y.lf
  | .sub x y => x.lf.add (y.lf.mul (-1))
  | .neg x => x.lf.mul (-1)
  | .ml c x => x.lf.mul c
  | .mr x c => x.lf.mul c
  | .nat n => n.lf
theorem dotI_add : ∀ (l m r : List Int), dotI (addL l m) r = dotI l r + dotI m r
  | [], m, r => by simp [addL, dotI]
  | x :: l, [], r => by simp [addL, dotI]
  | x :: l, y :: m, [] => by simp [addL, dotI]
  | x :: l, y :: m, z :: r => by simp only [addL, dotI, dotI_add l m r, Int.add_mul]; omega
theorem dotN_add : ∀ (l m : List Int) (r : List Nat), dotN (addL l m) r = dotN l r + dotN m r
  | [], m, r => by simp [addL, dotN]
  | x :: l, [], r => by simp [addL, dotN]
  | x :: l, y :: m, [] => by simp [addL, dotN]
  | x :: l, y :: m, z :: r => by simp only [addL, dotN, dotN_add l m r, Int.add_mul]; omega
theorem dotI_mul (c : Int) : ∀ (l r : List Int), dotI (mulL c l) r = c * dotI l r
  | [], r => by simp [mulL, dotI]
  | x :: l, [] => by simp [mulL, dotI]
  | x :: l, z :: r => by simp only [mulL, dotI, dotI_mul c l r, Int.mul_add, Int.mul_assoc]
theorem dotN_mul (c : Int) : ∀ (l : List Int) (r : List Nat), dotN (mulL c l) r = c * dotN l r
  | [], r => by simp [mulL, dotN]
  | x :: l, [] => by simp [mulL, dotN]
  | x :: l, z :: r => by simp only [mulL, dotN, dotN_mul c l r, Int.mul_add, Int.mul_assoc]
theorem dotI_unit : ∀ (k : Nat) (r : List Int), dotI (unit k) r = nth 0 r k
  | 0, [] => rfl
  | 0, z :: r => by show 1 * z + dotI [] r = z; simp [dotI]
  | k + 1, [] => rfl
  | k + 1, z :: r => by show 0 * z + dotI (unit k) r = nth 0 r k; rw [dotI_unit k r, Int.zero_mul, Int.zero_add]
theorem dotN_unit : ∀ (k : Nat) (r : List Nat), dotN (unit k) r = ((nth 0 r k : Nat) : Int)
  | 0, [] => rfl
  | 0, z :: r => by show 1 * (z : Int) + dotN [] r = (z : Int); simp [dotN]
  | k + 1, [] => rfl
  | k + 1, z :: r => by show 0 * (z : Int) + dotN (unit k) r = ((nth 0 r k : Nat) : Int); rw [dotN_unit k r, Int.zero_mul, Int.zero_add]
theorem Lf.add_ev (ρ : Rh) (x y : Lf) : (x.add y).ev ρ = x.ev ρ + y.ev ρ := by simp only [Lf.ev, Lf.add, dotI_add, dotN_add]; omega
theorem Lf.mul_ev (ρ : Rh) (c : Int) (x : Lf) : (x.mul c).ev ρ = c * x.ev ρ := by simp only [Lf.ev, Lf.mul, dotI_mul, dotN_mul, Int.mul_add]
theorem lfI (ρ : Rh) (c : Int) : (⟨c, [], []⟩ : Lf).ev ρ = c := by simp [Lf.ev, dotI, dotN]
theorem NE.lf_ev (ρ : Rh) : ∀ e : NE, e.lf.ev ρ = (e.ev ρ : Int)
  | .a i => by show 0 + dotI [] ρ.i + dotN (unit i) ρ.n = ((nth 0 ρ.n i : Nat) : Int); rw [dotN_unit]; simp [dotI]
  | .k c => lfI ρ c
  | .add x y => by show (x.lf.add y.lf).ev ρ = ((x.ev ρ + y.ev ρ : Nat) : Int); rw [Lf.add_ev, x.lf_ev ρ, y.lf_ev ρ, Int.natCast_add]
  | .ml c x => by show (x.lf.mul c).ev ρ = ((c * x.ev ρ : Nat) : Int); rw [Lf.mul_ev, x.lf_ev ρ, Int.natCast_mul]
  | .mr x c => by show (x.lf.mul c).ev ρ = ((x.ev ρ * c : Nat) : Int); rw [Lf.mul_ev, x.lf_ev ρ, Int.natCast_mul, Int.mul_comm]
theorem IE.lf_ev (ρ : Rh) : ∀ e : IE, e.lf.ev ρ = e.ev ρ
  | .a i => by show 0 + dotI (unit i) ρ.i + dotN [] ρ.n = nth 0 ρ.i i; rw [dotI_unit]; simp [dotN]
  | .k c => lfI ρ c
  | .add x y => by show (x.lf.add y.lf).ev ρ = x.ev ρ + y.ev ρ; rw [Lf.add_ev, x.lf_ev ρ, y.lf_ev ρ]
  | .sub x y => by show (x.lf.add (y.lf.mul (-1))).ev ρ = x.ev ρ - y.ev ρ; rw [Lf.add_ev, Lf.mul_ev, x.lf_ev ρ, y.lf_ev ρ]; generalize x.ev ρ = a; generalize y.ev ρ = b; omega
  | .neg x => by show (x.lf.mul (-1)).ev ρ = -x.ev ρ; rw [Lf.mul_ev, x.lf_ev ρ]; generalize x.ev ρ = a; omega
  | .ml c x => by show (x.lf.mul c).ev ρ = c * x.ev ρ; rw [Lf.mul_ev, x.lf_ev ρ]
  | .mr x c => by show (x.lf.mul c).ev ρ = x.ev ρ * c; rw [Lf.mul_ev, x.lf_ev ρ, Int.mul_comm]
  | .nat n => n.lf_ev ρ
/-- facts -/
inductive Fa where
  | le (x y : IE) | lt (x y : IE) | eq (x y : IE) | nle (x y : IE) | nlt (x y : IE)
  | leN (x y : NE) | ltN (x y : NE) | eqN (x y : NE) | nleN (x y : NE) | nltN (x y : NE)
noncomputable abbrev Fa.holds (ρ : Rh) (f : Fa) : Prop := @Fa.rec (fun _ => Prop) (fun x y => x.ev ρ ≤ y.ev ρ) (fun x y => x.ev ρ < y.ev ρ) (fun x y => x.ev ρ = y.ev ρ) (fun x y => ¬ x.ev ρ ≤ y.ev ρ) (fun x y => ¬ x.ev ρ < y.ev ρ)
  (fun x y => x.ev ρ ≤ y.ev ρ) (fun x y => x.ev ρ < y.ev ρ) (fun x y => x.ev ρ = y.ev ρ) (fun x y => ¬ x.ev ρ ≤ y.ev ρ) (fun x y => ¬ x.ev ρ < y.ev ρ) f
def subC (x y : Lf) (c : Int) : Lf := (x.add (y.mul (-1))).add ⟨c, [], []⟩
def Fa.lf : Fa → Lf
  | .le x y => subC y.lf x.lf 0
  | .lt x y => subC y.lf x.lf (-1)
  | .eq x y => subC y.lf x.lf 0
  | .nle x y => subC x.lf y.lf (-1)
  | .nlt x y => subC x.lf y.lf 0
  | .leN x y => subC y.lf x.lf 0
  | .ltN x y => subC y.lf x.lf (-1)
  | .eqN x y => subC y.lf x.lf 0
  | .nleN x y => subC x.lf y.lf (-1)
  | .nltN x y => subC x.lf y.lf 0
def Fa.isEq : Fa → Bool
  | .eq .. | .eqN .. => true
  | _ => false
theorem subC_ev (ρ : Rh) (x y : Lf) (c : Int) : (subC x y c).ev ρ = x.ev ρ - y.ev ρ + c := by
  have : (⟨c, [], []⟩ : Lf).ev ρ = c := by simp [Lf.ev, dotI, dotN]
  simp only [subC, Lf.add_ev, Lf.mul_ev, this]; omega
theorem Fa.lf_ok (ρ : Rh) (f : Fa) : f.holds ρ → 0 ≤ f.lf.ev ρ ∧ (f.isEq = true → f.lf.ev ρ = 0) := by
  cases f with
  | le x y | lt x y | eq x y | nle x y | nlt x y =>
    simp only [Fa.lf, subC_ev, IE.lf_ev, Fa.isEq]
    generalize hx : x.ev ρ = a
    generalize hy : y.ev ρ = b
    intro h
    first | change x.ev ρ ≤ y.ev ρ at h | change x.ev ρ < y.ev ρ at h | change x.ev ρ = y.ev ρ at h | change ¬ x.ev ρ ≤ y.ev ρ at h | change ¬ x.ev ρ < y.ev ρ at h
    rw [hx, hy] at h
    constructor <;> first | omega | (intro z; first | cases z | omega)
  | leN x y | ltN x y | eqN x y | nleN x y | nltN x y =>
    simp only [Fa.lf, subC_ev, NE.lf_ev, Fa.isEq]
    generalize hx : x.ev ρ = a
    generalize hy : y.ev ρ = b
    intro h
    first | change x.ev ρ ≤ y.ev ρ at h | change x.ev ρ < y.ev ρ at h | change x.ev ρ = y.ev ρ at h | change ¬ x.ev ρ ≤ y.ev ρ at h | change ¬ x.ev ρ < y.ev ρ at h
    rw [hx, hy] at h
    constructor <;> first | omega | (intro z; first | cases z | omega)
def allZ : List Int → Bool
  | [] => true
  | x :: l => decide (x = 0) && allZ l
def allM : List Int → Bool
  | [] => true
  | x :: l => decide (x ≤ 0) && allM l
/-- that cannot be at least nought -/
def Lf.bad (f : Lf) : Bool := decide (f.c < 0) && allZ f.i && allM f.n
theorem dotI_z : ∀ l r, allZ l = true → dotI l r = 0
  | [], r, _ => by simp [dotI]
  | x :: l, [], _ => by simp [dotI]
  | x :: l, z :: r, h => by
    simp only [allZ, Bool.and_eq_true, decide_eq_true_eq] at h
    simp only [dotI, h.1, dotI_z l r h.2, Int.zero_mul, Int.add_zero]
theorem dotN_m : ∀ l r, allM l = true → dotN l r ≤ 0
  | [], r, _ => by simp [dotN]
  | x :: l, [], _ => by simp [dotN]
  | x :: l, z :: r, h => by
    simp only [allM, Bool.and_eq_true, decide_eq_true_eq] at h
    have := dotN_m l r h.2
    have h2 : x * (z : Int) ≤ 0 := Int.mul_nonpos_of_nonpos_of_nonneg h.1 (Int.natCast_nonneg z)
    simp only [dotN]; omega
theorem Lf.bad_ok {ρ : Rh} {f : Lf} (h : f.bad = true) : f.ev ρ < 0 := by
  simp only [Lf.bad, Bool.and_eq_true, decide_eq_true_eq] at h
  have h1 := dotI_z f.i ρ.i h.1.2
  have h2 := dotN_m f.n ρ.n h.2
  simp only [Lf.ev]; omega
/-- if all these hold -/
noncomputable abbrev Imp (ρ : Rh) (Q : Prop) (fs : List Fa) : Prop := @List.rec Fa (fun _ => Prop) Q (fun f _ ih => f.holds ρ → ih) fs
def chk : Lf → List Fa → List Int → Bool
  | acc, [], _ => acc.bad
  | _, _ :: _, [] => false
  | acc, f :: fs, c :: cs => (f.isEq || decide (0 ≤ c)) && chk (acc.add (f.lf.mul c)) fs cs
theorem chk_ok {ρ : Rh} : ∀ (fs : List Fa) (cs : List Int) (acc : Lf), 0 ≤ acc.ev ρ → chk acc fs cs = true → Imp ρ False fs
  | [], cs, acc, h, e => by
    have := Lf.bad_ok (ρ := ρ) (f := acc) (by cases cs <;> exact e)
    show False
    omega
  | f :: fs, [], acc, h, e => by simp [chk] at e
  | f :: fs, c :: cs, acc, h, e => fun hf => by
    simp only [chk, Bool.and_eq_true, Bool.or_eq_true, decide_eq_true_eq] at e
    refine chk_ok fs cs _ ?_ e.2
    rw [Lf.add_ev, Lf.mul_ev]
    have ⟨h1, h2⟩ := f.lf_ok ρ hf
    rcases e.1 with q | q
    · rw [h2 q, Int.mul_zero]; omega
    · have := Int.mul_nonneg q h1
      omega
/-- these cannot all hold -/
theorem fk (ρ : Rh) (fs : List Fa) (cs : List Int) (h : chk ⟨0, [], []⟩ fs cs = true) : Imp ρ False fs := chk_ok fs cs _ (by simp [Lf.ev, dotI, dotN]) h
theorem Imp.app {ρ : Rh} {Q : Prop} {f : Fa} : ∀ {fs : List Fa}, Imp ρ Q (f :: fs) → Imp ρ (f.holds ρ → Q) fs
  | [], h => h
  | g :: fs, h => fun hg => Imp.app (fs := fs) fun hf => h hf hg
theorem Imp.both {ρ : Rh} {Q R S : Prop} (k : Q → R → S) : ∀ {fs : List Fa}, Imp ρ Q fs → Imp ρ R fs → Imp ρ S fs
  | [], h, h' => k h h'
  | g :: fs, h, h' => fun hg => Imp.both k (fs := fs) (h hg) (h' hg)
theorem fkNe (ρ : Rh) (x y : IE) (fs : List Fa) (cs ds : List Int) (h : chk ⟨0, [], []⟩ (.lt x y :: fs) cs = true) (h' : chk ⟨0, [], []⟩ (.lt y x :: fs) ds = true) : Imp ρ (¬ x.ev ρ = y.ev ρ → False) fs :=
  Imp.both (fun q r n => (Int.lt_or_gt_of_ne n).elim q r) (Imp.app (fk ρ _ cs h)) (Imp.app (fk ρ _ ds h'))
theorem fkNeN (ρ : Rh) (x y : NE) (fs : List Fa) (cs ds : List Int) (h : chk ⟨0, [], []⟩ (.ltN x y :: fs) cs = true) (h' : chk ⟨0, [], []⟩ (.ltN y x :: fs) ds = true) : Imp ρ (¬ x.ev ρ = y.ev ρ → False) fs :=
  Imp.both (fun q r n => (Nat.lt_or_gt_of_ne n).elim q r) (Imp.app (fk ρ _ cs h)) (Imp.app (fk ρ _ ds h'))
theorem minI (a b : Int) : (min a b = a ∧ a ≤ b) ∨ (min a b = b ∧ b ≤ a) := (Int.le_total a b).elim (fun h => .inl ⟨Int.min_eq_left h, h⟩) (fun h => .inr ⟨Int.min_eq_right h, h⟩)
theorem maxI (a b : Int) : (max a b = a ∧ b ≤ a) ∨ (max a b = b ∧ a ≤ b) := (Int.le_total b a).elim (fun h => .inl ⟨Int.max_eq_left h, h⟩) (fun h => .inr ⟨Int.max_eq_right h, h⟩)
theorem minN (a b : Nat) : (min a b = a ∧ a ≤ b) ∨ (min a b = b ∧ b ≤ a) := (Nat.le_total a b).elim (fun h => .inl ⟨Nat.min_eq_left h, h⟩) (fun h => .inr ⟨Nat.min_eq_right h, h⟩)
theorem maxN (a b : Nat) : (max a b = a ∧ b ≤ a) ∨ (max a b = b ∧ a ≤ b) := (Nat.le_total b a).elim (fun h => .inl ⟨Nat.max_eq_left h, h⟩) (fun h => .inr ⟨Nat.max_eq_right h, h⟩)
theorem subN (a b : Nat) : (b ≤ a ∧ a - b + b = a) ∨ (a ≤ b ∧ a - b = 0) := (Nat.le_total b a).elim (fun h => .inl ⟨h, Nat.sub_add_cancel h⟩) (fun h => .inr ⟨h, Nat.sub_eq_zero_of_le h⟩)
theorem toN (a : Int) : (0 ≤ a ∧ (a.toNat : Int) = a) ∨ (a ≤ 0 ∧ a.toNat = 0) := (Int.le_total 0 a).elim (fun h => .inl ⟨h, Int.toNat_of_nonneg h⟩) (fun h => .inr ⟨h, Int.toNat_of_nonpos h⟩)
theorem le_sub_add (a b : Nat) : a ≤ a - b + b := Nat.sub_le_iff_le_add.mp (Nat.le_refl _)
theorem div2 (a : Int) : a / 2 * 2 ≤ a ∧ a ≤ a / 2 * 2 + 1 := ⟨Int.ediv_mul_le a (by decide), Int.lt_add_one_iff.mp (by have := Int.lt_ediv_add_one_mul_self a (show (0 : Int) < 2 by decide); rw [Int.add_mul, Int.one_mul] at this; exact Int.lt_of_lt_of_le this (by rw [Int.add_assoc]; exact Int.le_refl _))⟩
theorem bc {P : Prop} (h : ¬ P → False) : P := Classical.byContradiction h
end Mine
end
section
set_option linter.unusedVariables false
namespace Mine
open Lean Meta
/-- a row of the elimination: at least nought; whence it comes -/
structure Row where
  v : Array Int
  c : Int
  w : Array Int
def Row.comb (a : Int) (x : Row) (b : Int) (y : Row) : Row :=
  ⟨(x.v.zip y.v).map fun p => a * p.1 + b * p.2, a * x.c + b * y.c, (x.w.zip y.w).map fun p => a * p.1 + b * p.2⟩
def Row.slim (r : Row) : Row :=
  let g := r.w.foldl (fun g x => Nat.gcd g x.natAbs) (r.v.foldl (fun g x => Nat.gcd g x.natAbs) r.c.natAbs)
  if g ≤ 1 then r else ⟨r.v.map (· / (g : Int)), r.c / (g : Int), r.w.map (· / (g : Int))⟩
/-- Fourier and Motzkin -/
def elim : Nat → List Nat → List Row → Option (Array Int)
  | 0, _, _ => none
  | k + 1, vars, rows =>
    match rows.find? fun r => r.c < 0 && r.v.all (· == 0) with
    | some r => some r.w
    | none =>
      let rows := rows.filter fun r => r.v.any (· != 0)
      if rows.length > 80 then none else
      let cost (v : Nat) : Nat := (rows.filter fun r => r.v[v]! > 0).length * (rows.filter fun r => r.v[v]! < 0).length
      match vars with
      | [] => none
      | v0 :: vs =>
        let v := vs.foldl (fun b x => if cost x < cost b then x else b) v0
        let ps := rows.filter fun r => r.v[v]! > 0
        let ns := rows.filter fun r => r.v[v]! < 0
        let zs := rows.filter fun r => r.v[v]! == 0
        let new := ps.flatMap fun p => ns.map fun n => (Row.comb (-(n.v[v]!)) p (p.v[v]!) n).slim
        elim k (vars.erase v) (zs ++ new)
structure Ats where
  i : Array Lean.Expr := #[]
  n : Array Lean.Expr := #[]
  more : Array (Lean.Expr × Lean.Expr) := #[]  -- facts that hold of themselves
  ors : Array (Lean.Expr × Lean.Expr) := #[]
abbrev AtM := StateRefT Ats MetaM
structure Lin where
  c : Int := 0
  i : List (Nat × Int) := []
  n : List (Nat × Int) := []
deriving Inhabited
def Lin.add (x y : Lin) : Lin := ⟨x.c + y.c, x.i ++ y.i, x.n ++ y.n⟩
def Lin.mul (k : Int) (x : Lin) : Lin := ⟨k * x.c, x.i.map fun p => (p.1, k * p.2), x.n.map fun p => (p.1, k * p.2)⟩
def litInt? (e : Lean.Expr) : MetaM (Option Int) := do
  if let some n := e.nat? then return some n
  if let some n := e.rawNatLit? then return some n
  if e.isAppOfArity ``Neg.neg 3 then if let some n := e.appArg!.nat? then return some (-(n : Int))
  if e.isAppOfArity ``HPow.hPow 6 then
    if let (some a, some b) := ((e.getArg! 4).nat?, (e.getArg! 5).nat?) then return some ((a ^ b : Nat) : Int)
  if e.isAppOfArity ``Neg.neg 3 then
    if let some n := ← (do
      let e := e.appArg!
      if e.isAppOfArity ``HPow.hPow 6 then
        if let (some a, some b) := ((e.getArg! 4).nat?, (e.getArg! 5).nat?) then return some ((a ^ b : Nat) : Int)
      return none) then return some (-n)
  return none
def atI (e : Lean.Expr) : AtM Nat := do
  if let some k := (← get).i.findIdx? (· == e) then return k
  modify fun s => { s with i := s.i.push e }
  let n := (← get).i.size - 1
  let two (p q r : Name) : AtM Unit := do
    for c in [p, q, r] do
      let h ← mkAppM c #[e.appFn!.appArg!, e.appArg!]
      let t ← inferType h
      modify fun s => if c == r then { s with ors := s.ors.push (h, t) } else { s with more := s.more.push (h, t) }
  let fact (h : Lean.Expr) : AtM Unit := do
    let t ← inferType h
    if t.isAppOfArity ``And 2 then
      modify fun s => { s with more := (s.more.push (mkApp3 (mkConst ``And.left) (t.getArg! 0) (t.getArg! 1) h, t.getArg! 0)).push (mkApp3 (mkConst ``And.right) (t.getArg! 0) (t.getArg! 1) h, t.getArg! 1) }
    else modify fun s => { s with more := s.more.push (h, t) }
  if e.isAppOfArity ``Min.min 4 then two ``Int.min_le_left ``Int.min_le_right ``Mine.minI
  else if e.isAppOfArity ``Max.max 4 then two ``Int.le_max_left ``Int.le_max_right ``Mine.maxI
  else if e.isAppOfArity ``HDiv.hDiv 6 && (e.getArg! 5).nat? == some 2 then fact (mkApp (mkConst ``Mine.div2) (e.getArg! 4))
  else if e.isAppOfArity ``HMod.hMod 6 then
    if let some (k + 1) := (e.getArg! 5).nat? then
      let z := toExpr (0 : Int)
      let kE := e.getArg! 5
      fact (mkApp3 (mkConst ``Int.emod_nonneg) (e.getArg! 4) kE (← mkDecideProof (← mkAppM ``Ne #[kE, z])))
      fact (mkApp3 (mkConst ``Int.emod_lt_of_pos) (e.getArg! 4) kE (← mkDecideProof (← mkAppM ``LT.lt #[z, kE])))
      discard <| pure k
  return n
def atN (e : Lean.Expr) : AtM Nat := do
  if let some k := (← get).n.findIdx? (· == e) then return k
  modify fun s => { s with n := s.n.push e }
  let n := (← get).n.size - 1
  -- what holds of it
  let two (p q r : Name) : AtM Unit := do
    for c in [p, q, r] do
      let h ← mkAppM c #[e.appFn!.appArg!, e.appArg!]
      let t ← inferType h
      modify fun s => if c == r then { s with ors := s.ors.push (h, t) } else { s with more := s.more.push (h, t) }
  if e.isAppOfArity ``Min.min 4 then two ``Nat.min_le_left ``Nat.min_le_right ``Mine.minN
  else if e.isAppOfArity ``Max.max 4 then two ``Nat.le_max_left ``Nat.le_max_right ``Mine.maxN
  else if e.isAppOfArity ``HSub.hSub 6 then two ``Nat.sub_le ``Mine.le_sub_add ``Mine.subN
  else if e.isAppOfArity ``Int.toNat 1 then
    let h ← mkAppM ``Int.self_le_toNat #[e.appArg!]
    let t ← inferType h
    let h' ← mkAppM ``Mine.toN #[e.appArg!]
    let t' ← inferType h'
    modify fun s => { s with more := s.more.push (h, t), ors := s.ors.push (h', t') }
  return n
def nE (f : Name) (xs : Array Lean.Expr) : Lean.Expr := mkAppN (mkConst f) xs
def rN (e : Lean.Expr) : Nat → AtM (Lean.Expr × Lin)
  | 0 => throwError "rN"
  | k + 1 => do
  let e := e.consumeMData
  if let some c ← litInt? e then return (nE ``NE.k #[e], ⟨c, [], []⟩)
  if e.isAppOfArity ``HAdd.hAdd 6 then
    let (x, p) ← rN (e.getArg! 4) k
    let (y, q) ← rN (e.getArg! 5) k
    return (nE ``NE.add #[x, y], p.add q)
  if e.isAppOfArity ``HMul.hMul 6 then
    if let some c ← litInt? (e.getArg! 4) then
      let (x, p) ← rN (e.getArg! 5) k
      return (nE ``NE.ml #[e.getArg! 4, x], p.mul c)
    if let some c ← litInt? (e.getArg! 5) then
      let (x, p) ← rN (e.getArg! 4) k
      return (nE ``NE.mr #[x, e.getArg! 5], p.mul c)
  let i ← atN e
  return (nE ``NE.a #[mkRawNatLit i], ⟨0, [], [(i, 1)]⟩)
def rI (e : Lean.Expr) : Nat → AtM (Lean.Expr × Lin)
  | 0 => throwError "rI"
  | k + 1 => do
  let e := e.consumeMData
  if let some c ← litInt? e then return (nE ``IE.k #[e], ⟨c, [], []⟩)
  let int (i : Nat) : Bool := (e.getArg! i).isConstOf ``Int
  if e.isAppOfArity ``HAdd.hAdd 6 && int 1 then
    let (x, p) ← rI (e.getArg! 4) k
    let (y, q) ← rI (e.getArg! 5) k
    return (nE ``IE.add #[x, y], p.add q)
  if e.isAppOfArity ``HSub.hSub 6 && int 1 then
    let (x, p) ← rI (e.getArg! 4) k
    let (y, q) ← rI (e.getArg! 5) k
    return (nE ``IE.sub #[x, y], p.add (q.mul (-1)))
  if e.isAppOfArity ``Neg.neg 3 then
    let (x, p) ← rI e.appArg! k
    return (nE ``IE.neg #[x], p.mul (-1))
  if e.isAppOfArity ``HMul.hMul 6 && int 1 then
    if let some c ← litInt? (e.getArg! 4) then
      let (x, p) ← rI (e.getArg! 5) k
      return (nE ``IE.ml #[e.getArg! 4, x], p.mul c)
    if let some c ← litInt? (e.getArg! 5) then
      let (x, p) ← rI (e.getArg! 4) k
      return (nE ``IE.mr #[x, e.getArg! 5], p.mul c)
  if e.isAppOfArity ``Nat.cast 3 then
    let (x, p) ← rN e.appArg! k
    return (nE ``IE.nat #[x], p)
  let i ← atI e
  return (nE ``IE.a #[mkRawNatLit i], ⟨0, [(i, 1)], []⟩)
/-- a fact: its word, its form, whether it is an equation -/
def fact? (e : Lean.Expr) : AtM (Option (Lean.Expr × Lin × Bool)) := do
  let e := e.consumeMData
  let sub (a b : Lin) (c : Int) : Lin := (a.add (b.mul (-1))).add ⟨c, [], []⟩
  let two (neg : Bool) (o : Name) (e : Lean.Expr) : AtM (Option (Lean.Expr × Lin × Bool)) := do
    let a := e.getAppArgs
    let ty := a[0]!
    unless isNum ty do return none
    let (x, y) := (a[a.size - 2]!, a[a.size - 1]!)
    let (x, y) := if o == ``GE.ge || o == ``GT.gt then (y, x) else (x, y)
    let r := if ty.isConstOf ``Int then rI else rN
    let (u, p) ← r x 100
    let (v, q) ← r y 100
    let s := if ty.isConstOf ``Int then "" else "N"
    match o, neg with
    | ``LE.le, false | ``GE.ge, false => return some (nE (`Mine.Fa ++ Name.mkSimple ("le" ++ s)) #[u, v], sub q p 0, false)
    | ``LT.lt, false | ``GT.gt, false => return some (nE (`Mine.Fa ++ Name.mkSimple ("lt" ++ s)) #[u, v], sub q p (-1), false)
    | ``LE.le, true | ``GE.ge, true => return some (nE (`Mine.Fa ++ Name.mkSimple ("nle" ++ s)) #[u, v], sub p q (-1), false)
    | ``LT.lt, true | ``GT.gt, true => return some (nE (`Mine.Fa ++ Name.mkSimple ("nlt" ++ s)) #[u, v], sub p q 0, false)
    | ``Eq, false => return some (nE (`Mine.Fa ++ Name.mkSimple ("eq" ++ s)) #[u, v], sub q p 0, true)
    | _, _ => return none
  let ord (e : Lean.Expr) : Option Name := match e.getAppFn.constName?, e.getAppNumArgs with
    | some ``LE.le, 4 => some ``LE.le | some ``LT.lt, 4 => some ``LT.lt | some ``GE.ge, 4 => some ``GE.ge | some ``GT.gt, 4 => some ``GT.gt | some ``Eq, 3 => some ``Eq | _, _ => none
  if let some o := ord e then return ← two false o e
  if e.isAppOfArity ``Not 1 then
    if let some o := ord e.appArg! then if o != ``Eq then return ← two true o e.appArg!
  return none
def rowOf (s : Ats) (nf : Nat) (l : Lin) (j : Nat) (sgn : Int) : Row := Id.run do
  let mut v := Array.replicate (s.i.size + s.n.size) (0 : Int)
  for (i, c) in l.i do v := v.modify i (· + sgn * c)
  for (i, c) in l.n do v := v.modify (s.i.size + i) (· + sgn * c)
  let mut w := Array.replicate nf (0 : Int)
  w := w.modify j (· + sgn)
  return ⟨v, sgn * l.c, w⟩
def solve (s : Ats) (fs : Array (Lin × Bool)) : Option (Array Int) :=
  let nf := fs.size
  let rows := (List.range nf).flatMap fun j => let (l, e) := fs[j]!; if e then [rowOf s nf l j 1, rowOf s nf l j (-1)] else [rowOf s nf l j 1]
  let nats := (List.range s.n.size).map fun i => (⟨(Array.replicate (s.i.size + s.n.size) (0 : Int)).set! (s.i.size + i) 1, 0, Array.replicate nf 0⟩ : Row)
  elim 100 (List.range (s.i.size + s.n.size)) (rows ++ nats)
def intE (i : Int) : Lean.Expr := toExpr i
/-- facts (their proofs, what they say) that cannot all hold -/
def contra (hs : Array (Lean.Expr × Lean.Expr)) (ne? : Option (Lean.Expr × Lean.Expr)) (ors : IO.Ref (Array (Lean.Expr × Lean.Expr))) : MetaM (Option Lean.Expr) := do
  let run : AtM (Option (Array (Lean.Expr × Lean.Expr × Lin × Bool) × Option (Lean.Expr × Bool × Lean.Expr × Lean.Expr × Lin × Lin))) := do
    let mut out := #[]
    for (h, t) in hs do
      if let some (f, l, e) ← fact? t then out := out.push (h, f, l, e)
    let ne ← match ne? with
      | none => pure none
      | some (h, t) => do
        let a := t.getAppArgs
        if a[0]!.isConstOf ``Int then
          let (u, p) ← rI a[1]! 100
          let (v, q) ← rI a[2]! 100
          pure (some (h, true, u, v, p, q))
        else
          let (u, p) ← rN a[1]! 100
          let (v, q) ← rN a[2]! 100
          pure (some (h, false, u, v, p, q))
    let mut done := 0
    for _ in [0:20] do
      let m := (← get).more
      if done == m.size then break
      for (h, t) in m.extract done m.size do
        if let some (f, l, e) ← fact? t then out := out.push (h, f, l, e)
      done := m.size
    return some (out, ne)
  let (some (fs, ne), s) ← run.run {} | return none
  ors.set s.ors
  let I := mkConst ``Int
  let listI (l : List Lean.Expr) (ty : Lean.Expr) : Lean.Expr := l.foldr (fun x r => mkApp3 (mkConst ``List.cons [0]) ty x r) (mkApp (mkConst ``List.nil [0]) ty)
  let mkRho (fs : Array Lean.Expr) : Lean.Expr := mkApp2 (mkConst ``Rh.mk) (listI s.i.toList I) (listI s.n.toList (mkConst ``Nat))
  let tt := mkApp2 (mkConst ``Eq.refl [1]) (mkConst ``Bool) (mkConst ``Bool.true)
  let ρ := mkRho #[]
  match ne with
  | none =>
    let some w := solve s (fs.map fun f => (f.2.2.1, f.2.2.2)) | return none
    let keep := (List.range fs.size).filter fun j => w[j]! != 0
    let L := listI (keep.map fun j => (fs[j]!).2.1) (mkConst ``Fa)
    let C := listI (keep.map fun j => intE w[j]!) I
    return some (mkAppN (mkApp4 (mkConst ``fk) ρ L C tt) (keep.map fun j => (fs[j]!).1).toArray)
  | some (h, int, u, v, p, q) =>
    let lt (a b : Lin) : Lin := (b.add (a.mul (-1))).add ⟨-1, [], []⟩
    let base := fs.map fun f => (f.2.2.1, f.2.2.2)
    let some w1 := solve s (#[(lt p q, false)] ++ base) | return none
    let some w2 := solve s (#[(lt q p, false)] ++ base) | return none
    let keep := (List.range fs.size).filter fun j => w1[j + 1]! != 0 || w2[j + 1]! != 0
    let L := listI (keep.map fun j => (fs[j]!).2.1) (mkConst ``Fa)
    let C1 := listI (intE w1[0]! :: keep.map fun j => intE w1[j + 1]!) I
    let C2 := listI (intE w2[0]! :: keep.map fun j => intE w2[j + 1]!) I
    return some (mkApp (mkAppN (mkAppN (mkConst (if int then ``fkNe else ``fkNeN)) #[ρ, u, v, L, C1, C2, tt, tt]) (keep.map fun j => (fs[j]!).1).toArray) h)
/-- conjunctions apart -/
def parts : Nat → Lean.Expr → Lean.Expr → List (Lean.Expr × Lean.Expr)
  | 0, _, _ => []
  | k + 1, h, t =>
    let t := t.consumeMData
    if t.isAppOfArity ``And 2 then parts k (mkApp3 (mkConst ``And.left) (t.getArg! 0) (t.getArg! 1) h) (t.getArg! 0) ++ parts k (mkApp3 (mkConst ``And.right) (t.getArg! 0) (t.getArg! 1) h) (t.getArg! 1)
    else if t.isAppOfArity ``Not 1 && t.appArg!.isAppOfArity ``Or 2 then
      let P := t.appArg!.getArg! 0
      let Q := t.appArg!.getArg! 1
      parts k (.lam `p P (mkApp h (mkApp3 (mkConst ``Or.inl) P Q (.bvar 0))) .default) (mkNot P) ++ parts k (.lam `q Q (mkApp h (mkApp3 (mkConst ``Or.inr) P Q (.bvar 0))) .default) (mkNot Q)
    else if t.isAppOfArity ``Ne 3 then [(h, mkNot (mkApp3 (mkConst ``Eq t.getAppFn.constLevels!) (t.getArg! 0) (t.getArg! 1) (t.getArg! 2)))]
    else [(h, t)]
/-- these cannot all hold: by a certificate, by cases -/
def search : Nat → Array (Lean.Expr × Lean.Expr) → List Lean.Expr → MetaM (Option Lean.Expr)
  | 0, _, _ => return none
  | k + 1, hs, done => do
  let ors ← IO.mkRef #[]
  if let some p ← contra hs none ors then return some p
  let nes := hs.filter fun (_, t) => t.isAppOfArity ``Not 1 && t.appArg!.isAppOfArity ``Eq 3 && isNum (t.appArg!.getArg! 0)
  let nes := nes.map fun (h, t) => (h, t.appArg!)
  for ne in nes.reverse do
    if let some p ← contra hs (some ne) ors then return some p
  -- what is to be shown is a conjunction
  for (h, t) in hs do
    if t.isAppOfArity ``Not 1 && t.appArg!.isAppOfArity ``And 2 then
      let a := t.appArg!
      let hs' := hs.filter fun x => x.1 != h
      let side (P : Lean.Expr) : MetaM (Option Lean.Expr) := do
        if let some (h, _) := hs.find? fun x => x.2 == P then return some h
        withLocalDeclD `n (mkNot P) fun n => do
          let some p ← search k (hs'.push (n, mkNot P)) done | return none
          return some (mkApp2 (mkConst ``bc) P (← mkLambdaFVars #[n] p))
      let some p ← side (a.getArg! 0) | continue
      let some q ← side (a.getArg! 1) | continue
      return some (mkApp h (mkApp4 (mkConst ``And.intro) (a.getArg! 0) (a.getArg! 1) p q))
  -- a disjunction
  let neq (h t : Lean.Expr) : Option (Lean.Expr × Lean.Expr) :=
    let a := t.getAppArgs
    let lt (x y : Lean.Expr) : Lean.Expr := if a[0]!.isConstOf ``Int then mkApp4 (mkConst ``LT.lt [0]) a[0]! (mkConst ``Int.instLTInt) x y else mkApp4 (mkConst ``LT.lt [0]) a[0]! (mkConst ``instLTNat) x y
    some (mkApp3 (mkConst (if a[0]!.isConstOf ``Int then ``Int.lt_or_gt_of_ne else ``Nat.lt_or_gt_of_ne)) a[1]! a[2]! h, mkApp2 (mkConst ``Or) (lt a[1]! a[2]!) (lt a[2]! a[1]!))
  let cand := (hs.filter fun x => x.2.isAppOfArity ``Or 2) ++ nes.filterMap (fun (h, t) => neq h t) ++ (← ors.get)
  for (h, t) in cand do
    if done.contains t then continue
    let hs' := hs.filter fun x => x.1 != h
    let side (P : Lean.Expr) : MetaM (Option Lean.Expr) := withLocalDeclD `c P fun c => do
      let some p ← search k (hs' ++ (parts 20 c P).toArray) (t :: done) | return none
      return some (← mkLambdaFVars #[c] p)
    let some p ← side (t.getArg! 0) | continue
    let some q ← side (t.getArg! 1) | continue
    return some (mkAppN (mkConst ``Or.elim) #[t.getArg! 0, t.getArg! 1, mkConst ``False, h, p, q])
  return none
def stripMD : Nat → Lean.Expr → Lean.Expr
  | 0, e => e
  | k + 1, e => e.replace fun x => match x with | .mdata _ b => some (stripMD k b) | _ => none
def noMD (e : Lean.Expr) : Lean.Expr := if (e.find? Lean.Expr.isMData).isSome then stripMD 1000 e else e
/-- a statement of arithmetic, proved by its certificate -/
def cert (ty : Lean.Expr) (k : Nat := 3) : MetaM (Option Lean.Expr) := forallTelescope (noMD ty) fun xs B => do
  unless B.isConstOf ``False do return none
  let mut hs : Array (Lean.Expr × Lean.Expr) := #[]
  for x in xs do
    let t ← instantiateMVars (← inferType x)
    if ← isProp t then hs := hs ++ (parts 20 x t).toArray
  for (h, t) in hs do
    if t.isAppOfArity ``Not 1 && !t.hasFVar then
      if let some p ← (try pure (some (← mkDecideProof t.appArg!)) catch _ => pure none) then return some (← mkLambdaFVars xs (mkApp h p))
  let some p ← search k hs [] | return none
  return some (← mkLambdaFVars xs p)
end Mine
end
section
set_option linter.unusedVariables false
namespace Mine
open Lean Meta
theorem ppE.{u, v} {α : Sort u} {β : Sort v} {a a' : α} {b b' : β} (h : a = a') (k : b = b') : PProd.mk a b = PProd.mk a' b' := by
  cases h; cases k; rfl
/-- a chain of congr, taken apart -/
def peel : Nat → Lean.Expr → List Lean.Expr → Option (Lean.Expr × List Lean.Expr)
  | 0, _, _ => none
  | k + 1, e, hs =>
  if e.isAppOfArity ``congr 8 then peel k (e.getArg! 6) (e.getArg! 7 :: hs)
  else if e.isAppOfArity ``congrArg 6 then some (e.getArg! 4, e.getArg! 5 :: hs)
  else none
/-- the twins' equations of a run: all parts that are not the run's own, once; each constant's text is written once, its parts left open -/
structure Tw where
  t : Lean.Expr
  leaf : Std.HashMap Lean.Expr Lean.Expr := {}
  leaves : Array (Lean.Expr × Lean.Expr) := #[]
  body : Array (Name × Lean.Expr) := #[]
  met : Std.HashSet Name := {}
def isTe (env1 env0 : Environment) (n : Name) : Option (Lean.Expr × List Lean.Expr) := do
  guard ((`PySem.W.Fast).isPrefixOf n && !env0.contains n)
  let some (.thmInfo t) := env1.find? n | none
  peel 5000 t.value []
def gOf (n : Name) : Name := `Mine ++ Name.mkSimple ("g" ++ n.getString!)
/-- what an equation's left side is, its parts left open -/
def bodyOf (env1 env0 : Environment) : Nat → Name → StateRefT Tw MetaM Unit
  | 0, _ => throwError "bodyOf"
  | k + 1, n => do
  if (← get).met.contains n then return
  modify fun s => { s with met := s.met.insert n }
  let some (G, hs) := isTe env1 env0 n | throwError "bodyOf: {n}"
  let mut xs : Array Lean.Expr := #[]
  for h in hs do
    let own := match h with
      | .const m _ => (isTe env1 env0 m).isSome
      | _ => false
    if own then
      bodyOf env1 env0 k h.constName!
      xs := xs.push (mkApp (mkConst (gOf h.constName!)) (← get).t)
    else match (← get).leaf.get? h with
      | some x => xs := xs.push x
      | none =>
        let x := Lean.Expr.fvar (← mkFreshFVarId)
        modify fun s => { s with leaf := s.leaf.insert h x, leaves := s.leaves.push (x, h) }
        xs := xs.push x
  let mut b := G
  for _ in hs do b := b.bindingBody!
  let r := b.instantiateRev xs
  modify fun s => { s with body := s.body.push (n, r) }
/-- a tuple of parts, halved and halved: its type, its level, both sides, their equation; where each part stands -/
def tuple : Nat → Array (Lean.Expr × Lean.Expr) → Lean.Expr → MetaM ((Lean.Expr × Level × Lean.Expr × Lean.Expr × Lean.Expr) × Array Lean.Expr)
  | 0, _, _ => throwError "tuple"
  | k + 1, ls, p => do
    if ls.size == 0 then
      let u := mkConst ``PUnit.unit [Level.one]
      return ((mkConst ``PUnit [Level.one], Level.one, u, u, ← mkEqRefl u), #[])
    if ls.size == 1 then
      let h := (ls[0]!).2
      let some (T, x, y) := (← inferType h).eq? | throwError "tuple: {h}"
      return ((T, ← getLevel T, x, y, h), #[p])
    let m := ls.size / 2
    let ((T, u, x, y, h), a) ← tuple k (ls.extract 0 m) (.proj ``PProd 0 p)
    let ((S, v, z, w, g), b) ← tuple k (ls.extract m ls.size) (.proj ``PProd 1 p)
    let mk := mkApp2 (mkConst ``PProd.mk [u, v]) T S
    return ((mkApp2 (mkConst ``PProd [u, v]) T S, (mkLevelMax Level.one (mkLevelMax u v)).normalize, mkApp2 mk x z, mkApp2 mk y w, mkAppN (mkConst ``ppE [u, v]) #[T, S, x, y, z, w, h, g]), a ++ b)
structure Twd where
  te : Std.HashMap Name Lean.Expr := {}
  defs : Std.HashMap Name Lean.Expr := {}
/-- the equations that are needed, each by one congruence over one tuple -/
def twins (env1 env0 : Environment) (s : Tw) (lay : Name → MetaM Unit) : MetaM Twd := do
  let ((ty, lv, X, Y, pf), at_) ← tuple 60 s.leaves (.bvar 0)
  addDecl (.defnDecl { name := `Mine.twT, levelParams := [], type := .sort lv, value := ty, hints := .abbrev, safety := .safe })
  let TT := mkConst `Mine.twT
  addDecl (.defnDecl { name := `Mine.twX, levelParams := [], type := TT, value := X, hints := .abbrev, safety := .safe })
  addDecl (.defnDecl { name := `Mine.twY, levelParams := [], type := TT, value := Y, hints := .abbrev, safety := .safe })
  let cX := mkConst `Mine.twX
  let cY := mkConst `Mine.twY
  addDecl (.thmDecl { name := `Mine.twE, levelParams := [], type := mkApp3 (mkConst ``Eq [lv]) TT cX cY, value := pf })
  let fs := #[s.t] ++ s.leaves.map (·.1)
  let mut out : Twd := {}
  for (n, b) in s.body do
    let b := b.abstract fs
    let r ← withLocalDeclD `t TT fun t => do
      mkLambdaFVars #[t] (b.instantiateRev (#[t] ++ at_.map fun v => v.instantiate1 t))
    let some c := env1.find? n | throwError "twins"
    let some (T, x, y) := c.type.eq? | throwError "twins"
    for m in T.getUsedConstants do lay m
    for m in r.getUsedConstants do lay m
    let hints := match env1.find? x.constName! with | some (.defnInfo d) => d.hints | _ => .abbrev
    addDecl (.defnDecl { name := gOf n, levelParams := [], type := ← mkArrow TT T, value := r, hints := hints, safety := .safe })
    let u ← getLevel T
    let G := mkConst (gOf n)
    out := { out with te := out.te.insert n (mkAppN (mkConst ``congrArg [lv, u]) #[TT, T, cX, cY, G, mkConst `Mine.twE]) }
    unless env0.contains x.constName! do out := { out with defs := out.defs.insert x.constName! (mkApp G cX) }
    unless env0.contains y.constName! do out := { out with defs := out.defs.insert y.constName! (mkApp G cY) }
  return out
/-- the equations that the other declarations lean on -/
def needed (env1 env0 : Environment) (roots : Array Name) : Array Name := Id.run do
  let mut seen : Std.HashSet Name := {}
  let mut out := #[]
  let mut st := roots
  while !st.isEmpty do
    let n := st.back!
    st := st.pop
    if seen.contains n || env0.contains n then continue
    seen := seen.insert n
    let some c := env1.find? n | continue
    for m in c.type.getUsedConstants do st := st.push m
    if (isTe env1 env0 n).isSome then out := out.push n
    else if let some v := c.value? (allowOpaque := true) then for m in v.getUsedConstants do st := st.push m
  return out
/-- what is laid anew -/
structure Rl where
  env1 : Environment
  te : Std.HashMap Name Lean.Expr := {}
  defs : Std.HashMap Name Lean.Expr := {}
  short : Std.HashMap Name (Nat × Lean.Expr) := {}  -- proofs that go where they are used
  core : IO.Ref Core
  plain : Bool := true
  keep : List Name := []
  stat : Array Nat := #[0, 0, 0, 0, 0, 0]
abbrev RlM := StateRefT Rl MetaM
/-- short proofs put in their places, the binders' names made one -/
def inline (short : Std.HashMap Name (Nat × Lean.Expr)) : Nat → Lean.Expr → StateM (Std.HashMap Lean.Expr Lean.Expr) Lean.Expr
  | 0, e => return e
  | k + 1, e => do
  match e with
  | .app f a =>
    if let some r := (← get).get? e then return r
    let sh : Option (Nat × Lean.Expr) := match e.getAppFn with
      | .const n _ => (short.get? n).filter fun (p : Nat × Lean.Expr) => e.getAppNumArgs == p.1
      | _ => none
    let r ← match sh with
      | some p => do pure (p.2.beta (← e.getAppArgs.mapM (inline short k)))
      | none => do pure (.app (← inline short k f) (← inline short k a))
    modify fun m => m.insert e r
    return r
  | .lam _ t b _ =>
    if let some r := (← get).get? e then return r
    let r := Lean.Expr.lam `x (← inline short k t) (← inline short k b) .default
    modify fun m => m.insert e r
    return r
  | .forallE _ t b _ =>
    if let some r := (← get).get? e then return r
    let r := Lean.Expr.forallE `x (← inline short k t) (← inline short k b) .default
    modify fun m => m.insert e r
    return r
  | .letE _ t v b _ => return .letE `x (← inline short k t) (← inline short k v) (← inline short k b) false
  | .mdata _ b => inline short k b
  | .proj s i b => return .proj s i (← inline short k b)
  | e => return e
/-- hints of a type taken away -/
def noId (e : Lean.Expr) : Lean.Expr := e.replace fun x => if x.isAppOfArity ``id 2 then some (go 50 x.appArg!) else none
where go : Nat → Lean.Expr → Lean.Expr
  | 0, e => e
  | k + 1, e => e.replace fun x => if x.isAppOfArity ``id 2 then some (go k x.appArg!) else none
def byOmega (v : Lean.Expr) : Bool := (v.find? fun e => match e with | .const n _ => (`Lean.Omega).isPrefixOf n | _ => false).isSome
def sizeOf' (e : Lean.Expr) : IO Nat := (ShareCommon.shareCommon' e).numObjs
def bump (i : Nat) (k : Nat := 1) : RlM Unit := modify fun s => { s with stat := s.stat.modify i (· + k) }
def isProofName (n : Name) : Bool := match n with
  | .str _ s => s.startsWith "_proof_"
  | _ => false
/-- a short proof that stands bare somewhere is declared after all -/
def force (v : Lean.Expr) : RlM Unit := do
  for m in v.getUsedConstants do
    if let some (_, w) := (← get).short.get? m then
      unless (← getEnv).contains m do
        let some (.thmInfo t) := (← get).env1.find? m | throwError "force"
        bump 4
        addDecl (.thmDecl { t with value := w })
/-- a declaration, laid anew with what it leans on -/
def lay : Nat → Name → RlM Unit
  | 0, n => throwError "lay: too deep at {n}"
  | k + 1, n => do
  if (← getEnv).contains n || (← get).short.contains n then return
  let env1 := (← get).env1
  let some c := env1.find? n | throwError "lay: {n}"
  for m in c.type.getUsedConstants do lay k m
  match c with
  | .thmInfo t =>
    if let some v := (← get).te.get? n then
      for m in v.getUsedConstants do lay k m
      addDecl (.thmDecl { t with value := v })
      return
    let mut v := t.value
    if !(← get).plain && isProofName n && byOmega v then
      if let some w ← (try cert t.type catch _ => pure none) then
        let ok ← withLCtx {} {} do
          try
            for m in w.getUsedConstants do lay k m
            let env ← getEnv
            addDecl (.thmDecl { t with name := n ++ `try_, value := w })
            setEnv env
            pure true
          catch _ => pure false
        if ok then
          bump 0
          modify fun s => { s with short := s.short.insert n (t.type.getForallBinderNames.length, w) }
          return
      let env ← getEnv
      let c0 ← (← get).core.get
      let w? ← (try arith (← get).core t.type catch _ => pure none)
      match w? with
      | some w =>
        -- the core counts when it is new
        let mut new := 0
        for (T, x) in (← (← get).core.get).made.toArray do
          unless c0.made.contains T do if let some c := (← getEnv).find? x then new := new + (← sizeOf' c.type) + (← sizeOf' (c.value! (allowOpaque := true)))
        if new + 20 < (← sizeOf' v) then
          bump 5
          modify fun s => { s with short := s.short.insert n (t.type.getForallBinderNames.length, w) }
          return
        setEnv env
        (← get).core.set c0
      | none => setEnv env; (← get).core.set c0
      bump 1
    for m in v.getUsedConstants do lay k m
    v := ((inline (← get).short 100000 v).run {}).1
    for m in v.getUsedConstants do lay k m
    force v
    if (`PySem.W.Fast).isPrefixOf n then
      addDecl (.thmDecl { t with value := v })
      return
    let small (v : Lean.Expr) : MetaM Lean.Expr := do
      let w ← squash v
      return if (← sizeOf' w) < (← sizeOf' v) then w else v
    let t := if (← get).keep.contains n then t else { t with type := ((inline {} 100000 t.type).run {}).1 }
    let v0 := noId v
    let w ← small v0
    bump 2 (← sizeOf' v)
    bump 3 (← sizeOf' w)
    let env ← getEnv
    try addDecl (.thmDecl { t with value := w })
    catch _ =>
      setEnv env
      bump 1
      addDecl (.thmDecl { t with value := ← small v })
  | .defnInfo d =>
    if let some v := (← get).defs.get? n then
      addDecl (.defnDecl { d with value := v })
      return
    for m in d.value.getUsedConstants do lay k m
    let mut v := ((inline (← get).short 100000 d.value).run {}).1
    for m in v.getUsedConstants do lay k m
    force v
    if (← sizeOf' v) > 3000 then
      let w ← squash v
      if (← sizeOf' w) < (← sizeOf' v) then v := w
    addDecl (.defnDecl { d with value := v })
  | .inductInfo i =>
    for m in i.all do
      let some (.inductInfo j) := env1.find? m | throwError "lay: {m}"
      for x in j.type.getUsedConstants do unless i.all.contains x do lay k x
      for y in j.ctors do
        let some (.ctorInfo y) := env1.find? y | throwError "lay: {y}"
        for x in y.type.getUsedConstants do unless i.all.contains x do lay k x
    let ts ← i.all.mapM fun m => do
      let some (.inductInfo j) := env1.find? m | throwError "lay: {m}"
      let cs ← j.ctors.mapM fun y => do
        let some (.ctorInfo c) := env1.find? y | throwError "lay: {y}"
        return ({ name := y, type := c.type } : Constructor)
      return ({ name := m, type := j.type, ctors := cs } : InductiveType)
    addDecl (.inductDecl i.levelParams i.numParams ts i.isUnsafe)
  | .ctorInfo c => lay k c.induct
  | .recInfo r => for m in r.all do lay k m
  | _ => throwError "lay: kind of {n}"
/-- all that a theorem leans on is laid anew behind the library, and nothing else: each declaration is checked by the kernel once more -/
def relay (roots : List Name) : MetaM Unit := do
  let env1 ← getEnv
  let some env0 := env1.importEnv? | throwError "relay: no library"
  let t0 ← IO.monoMsNow
  let need := needed env1 env0 roots.toArray
  let (_, s) ← ((need.forM fun n => bodyOf env1 env0 10000 n).run { t := .fvar (← mkFreshFVarId) } : MetaM (Unit × Tw))
  setEnv env0
  withOptions (Elab.async.set · false) do
    let core ← IO.mkRef {}
    let go : RlM Unit := do
      for m in [``ppE, ``fk, ``fkNe, ``fkNeN, ``bc, ``minI, ``maxI, ``minN, ``maxN, ``subN, ``toN, ``le_sub_add] do lay 10000 m
      modify fun r => { r with plain := false }
      for (_, h) in s.leaves do for m in h.getUsedConstants do lay 10000 m
      let r0 ← get
      let te ← twins env1 env0 s fun m => do discard <| (lay 10000 m).run r0
      modify fun r => { r with te := te.te, defs := te.defs }
      for m in roots do lay 10000 m
    let (_, r) ← go.run { env1 := env1, core := core, keep := roots }
    logInfo m!"relay: {need.size} equations over {s.leaves.size} parts; {r.stat}; {(← IO.monoMsNow) - t0} ms"
end Mine
end
section
open PySem PySem.W PySem.Calls PyProof.Rows Mine
set_option Elab.async false
set_option maxRecDepth 1000000
set_option maxHeartbeats 0
theorem PySem.Challenge.cw_rh0241_01_holds : PySem.Challenge.rw_rh0241_01.Holds := by
  run_tac Mine.relay [``Mine.walkO, ``Mine.left, ``Mine.in_app]
  o_law
  refine holds_open (q := qq) (loose := theLoose) (Xt := fun s => xlAt qq [] s && recOk [] s) (XP := XL qq []) (YP := fun w h => (KK w.params).In h) (N := 16692) left (fun w s e => ?hY) (fun w h h' Y k => Y.keeps k) (fun s e => xl_of s (Bool.and_eq_true_iff.mp e).1) XL.keeps (by rfl) (by rfl) (by rfl) (fun s e => recFacts_of (Bool.and_eq_true_iff.mp e).2) (by rfl) (by assumption) (by decide +kernel) ⟨rfl, rfl, rfl, rfl, rfl, by decide +kernel⟩ ?hw (walkO theLoose _ _ rfl)
  case hw => w_witness2
  case hY =>
    obtain ⟨e1, e⟩ := Prod.mk.inj e
    obtain ⟨e2, e⟩ := Prod.mk.inj e
    obtain ⟨e3, e4⟩ := Prod.mk.inj e
    exact in_app (Frag.in_of (by kernel_rfl) e1) (in_app (Frag.in_of (by kernel_rfl) e2) (in_app (Frag.in_of (by kernel_rfl) e3) (Frag.in_of (by kernel_rfl) e4)))
end
