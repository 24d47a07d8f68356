import PyProof.Rows.All
import Wide.All
import OpenK.AllK
import Wide.FinOn
import HandS.ForMost
import HandS.Sort
import HandS.TupSets
import HandS.SortKw
import HandS.SortInts
import HandS.SortRule
import HandS.Deep
import HandS.Zip
import HandS.Walk
import HandS.Conv
import HandS.TupLe
import HandS.TupAny
import HandS.TupMul
import HandS.IsInst
import HandS.ForExc
import KE.SortData
import KE.DataCmp
import KE.KeyNested
import KE.GoesMore
import PyProof.ReprRoads
import PyProof.CallFns
import HandS.Words
import HandS.EndBits
import PySem.Challenge.RW_nearturns_k81_close_places
import PyProof.ReprBulk
set_option Elab.async false
set_option linter.all false
set_option maxRecDepth 100000
set_option autoImplicit false
namespace NT
open PySem PySem.Spec PyProof.Rows L2

/-! ### values, cells, results -/
inductive Val where
  | im (d : PyData)
  | ref (n : Nat)
inductive Cell where
  | lst (vs : List Val)
  | fz (d : PyData)
  | dct (kvs : List (PyData × Val))
abbrev Hs := List Cell
abbrev En := List (Option Val)
inductive Res (α : Type) where
  | ok (a : α) (h : Hs)
  | er (c : Str)
  | no
def Res.bind {α β : Type} (r : Res α) (f : α → Hs → Res β) : Res β := match r with
  | .ok a h => f a h
  | .er c => .er c
  | .no => .no
@[simp] theorem bind_ok {α β : Type} (a : α) (h : Hs) (f : α → Hs → Res β) : (Res.ok a h).bind f = f a h := rfl
@[simp] theorem bind_er {α β : Type} (c : Str) (f : α → Hs → Res β) : (Res.er c : Res α).bind f = .er c := rfl
@[simp] theorem bind_no {α β : Type} (f : α → Hs → Res β) : (Res.no : Res α).bind f = .no := rfl
def Cell.live : Cell → Bool
  | .fz _ => false
  | _ => true
def Val.below (n : Nat) : Val → Bool
  | .im _ => true
  | .ref k => decide (k < n)
def Cell.below (n : Nat) : Cell → Bool
  | .lst vs => vs.all (Val.below n)
  | .fz _ => true
  | .dct kvs => kvs.all fun p => p.2.below n

/-- what does not change through a proof -/
structure Cst where
  P : Program
  w : World
  K : PySem.W.Frag
abbrev cst (X : Cx) : Cst := ⟨X.prog, X.w, X.K⟩

def hashD (w : World) : PyData → Int
  | .int i => hashInt i
  | .str x => hashStr w x
  | .tuple ds => reduceHash (Builtin.Tuple.tupleHashOf (ds.map (hashD w)))
  | _ => 0

/-- a dict's object: keys, values, hashes -/
def dictP (a : Addr) (L : List (V × V × Int)) : Heap → Prop := fun h => (a == sysModules) = false ∧ ∃ o es ep, h.get? a = some o ∧ o.ExactDict ∧ o.data = .dict es ep ∧
  Paired (fun (x : V × V × Int) (e : DictEntry) => e.hash = x.2.2 ∧ RelV x.1 e.key ∧ RelV x.2.1 e.val) L es.toList

inductive RV (C : Cst) (ι : Nat → Addr) (F : Hp) (n : Nat) : V → Val → Prop
  | im {v : V} {d : PyData} : Dp C.K F v d → RV C ι F n v (.im d)
  | ref {k : Nat} : k < n → RV C ι F n (.ref (ι k)) (.ref k)
def CellR (C : Cst) (ι : Nat → Addr) (F : Hp) (n : Nat) (a : Addr) (o : Option HO) : Cell → Prop
  | .lst vs => ∃ xs, o = some (.lst xs) ∧ Paired (RV C ι F n) xs vs
  | .fz d => Dp C.K F (.ref a) d
  | .dct kvs => ∃ L, o = some (.ext (dictP a L)) ∧ L.length ≤ sizeLine ∧ Paired (fun (x : V × V × Int) (p : PyData × Val) => Dp C.K F x.1 p.1 ∧ RV C ι F n x.2.1 p.2 ∧ x.2.2 = hashD C.w p.1) L kvs
structure Rel (C : Cst) (G F : Hp) (ι : Nat → Addr) (h : Hs) (H : Hp) : Prop where
  g : ∀ b o, G b = some o → H b = some o
  f : ∀ b o, F b = some o → H b = some o
  inj : ∀ i j c c', h[i]? = some c → h[j]? = some c' → c.live = true → c'.live = true → ι i = ι j → i = j
  gl : ∀ i c, h[i]? = some c → c.live = true → G (ι i) = none
  fl : ∀ i c, h[i]? = some c → c.live = true → F (ι i) = none
  cell : ∀ i c, h[i]? = some c → CellR C ι F h.length (ι i) (H (ι i)) c
structure SR (C : Cst) (ι : Nat → Addr) (F : Hp) (n : Nat) (σ : L2.St) (ρ : En) : Prop where
  len : ρ.length = σ.length
  at' : ∀ (i : Nat) (v : Val), ρ[i]? = some (some v) → ∃ x, σ[i]? = some (some x) ∧ RV C ι F n x v
structure Ext (G F : Hp) (ι : Nat → Addr) (q : Nat) (F' : Hp) (ι' : Nat → Addr) : Prop where
  le : ∀ b o, F b = some o → F' b = some o
  ag : ∀ i, i < q → ι' i = ι i
  out : ∀ b, G b ≠ none → F' b = F b

mutual
theorem Dp.le {K : PySem.W.Frag} {F F' : Hp} (l : ∀ b o, F b = some o → F' b = some o) : ∀ (d : PyData) (v : V), Dp K F v d → Dp K F' v d
  | .none, _, h => by cases h; exact .non
  | .bool b, _, h => by cases h; exact .bl b
  | .int i, _, h => by cases h; exact .int i
  | .str x, _, h => by cases h; exact .str x
  | .list ds, _, h => by
    cases h with
    | lst hs ha =>
      refine .lst ?_ (Dp.leAll l ds _ ha)
      rcases hs with (z | ⟨o, z⟩) | z
      · exact .inl (.inl (l _ _ z))
      · exact .inl (.inr ⟨o, l _ _ z⟩)
      · exact .inr z
  | .tuple ds, _, h => by
    cases h with
    | tup hs ha =>
      refine .tup ?_ (Dp.leAll l ds _ ha)
      rcases hs with (z | ⟨o, z⟩) | z
      · exact .inl (.inl (l _ _ z))
      · exact .inl (.inr ⟨o, l _ _ z⟩)
      · exact .inr z
  | .dict _, _, h => by cases h
theorem Dp.leAll {K : PySem.W.Frag} {F F' : Hp} (l : ∀ b o, F b = some o → F' b = some o) : ∀ (ds : List PyData) (vs : List V), DpAll K F vs ds → DpAll K F' vs ds
  | [], _, h => by cases h; exact .nil
  | d :: ds, _, h => by
    cases h with
    | cons h1 h2 => exact .cons (Dp.le l d _ h1) (Dp.leAll l ds _ h2)
end
section
variable {C : Cst} {G F F' F2 : Hp} {ι ι' ι2 : Nat → Addr} {n n' q : Nat} {x : V} {v : Val} {h h' : Hs} {H H' : Hp} {σ : L2.St} {ρ : En}
theorem RV.mono (r : RV C ι F n x v) (le : ∀ b o, F b = some o → F' b = some o) (ag : ∀ i, i < n → ι' i = ι i) (hn : n ≤ n') : RV C ι' F' n' x v := by
  cases r with
  | im d => exact .im (Dp.le le _ _ d)
  | ref hk =>
    rename_i k
    rw [← ag k hk]
    exact .ref (Nat.lt_of_lt_of_le hk hn)
theorem RVs.mono {xs : List V} {vs : List Val} (r : Paired (RV C ι F n) xs vs) (le : ∀ b o, F b = some o → F' b = some o) (ag : ∀ i, i < n → ι' i = ι i) (hn : n ≤ n') : Paired (RV C ι' F' n') xs vs :=
  Paired.mapP r fun _ _ z => z.mono le ag hn
theorem CellR.mono {a : Addr} {o : Option HO} {c : Cell} (r : CellR C ι F n a o c) (le : ∀ b o, F b = some o → F' b = some o) (ag : ∀ i, i < n → ι' i = ι i) (hn : n ≤ n') : CellR C ι' F' n' a o c := by
  cases c with
  | lst vs => obtain ⟨xs, e, p⟩ := r; exact ⟨xs, e, RVs.mono p le ag hn⟩
  | fz d => exact Dp.le le _ _ r
  | dct kvs => obtain ⟨L, e, z, p⟩ := r; exact ⟨L, e, z, Paired.mapP p fun _ _ z => ⟨Dp.le le _ _ z.1, z.2.1.mono le ag hn, z.2.2⟩⟩
theorem SR.mono (r : SR C ι F n σ ρ) (le : ∀ b o, F b = some o → F' b = some o) (ag : ∀ i, i < n → ι' i = ι i) (hn : n ≤ n') : SR C ι' F' n' σ ρ :=
  ⟨r.len, fun i v e => let ⟨x, e1, z⟩ := r.at' i v e; ⟨x, e1, z.mono le ag hn⟩⟩
theorem Ext.refl : Ext G F ι q F ι := ⟨fun _ _ z => z, fun _ _ => rfl, fun _ _ => rfl⟩
theorem Ext.trans {q' : Nat} (a : Ext G F ι q F' ι') (b : Ext G F' ι' q' F2 ι2) (hq : q ≤ q') : Ext G F ι q F2 ι2 :=
  ⟨fun c o z => b.le c o (a.le c o z), fun i hi => (b.ag i (Nat.lt_of_lt_of_le hi hq)).trans (a.ag i hi), fun c hc => (b.out c hc).trans (a.out c hc)⟩
theorem Ext.down {q' : Nat} (a : Ext G F ι q F' ι') (hq : q' ≤ q) : Ext G F ι q' F' ι' := ⟨a.le, fun i hi => a.ag i (Nat.lt_of_lt_of_le hi hq), a.out⟩

end

/-! ### what a reading comes to -/
structure Rp (α β : Type) where
  r : (Nat → Addr) → Hp → Nat → β → α → Prop
def repV (C : Cst) : Rp Val V := ⟨fun ι F n x v => RV C ι F n x v⟩
def repB : Rp Bool Bool := ⟨fun _ _ _ x v => x = v⟩
def repL (C : Cst) : Rp (List Val) (List V) := ⟨fun ι F n x v => Paired (RV C ι F n) x v⟩
def repO : Rp (Option Int) (Option Int) := ⟨fun _ _ _ x v => x = v⟩
abbrev WK := Str → Hp → Prop
def Done {α β : Type} (A : Rp α β) (C : Cst) (W : WK) (G F : Hp) (ι : Nat → Addr) (q : Nat) (r : Res α) (Q : β → Hp → Prop) : Prop := match r with
  | .ok v h' => ∀ F' ι' H' x, Rel C G F' ι' h' H' → Ext G F ι q F' ι' → q ≤ h'.length → A.r ι' F' h'.length x v → Q x H'
  | .er c => ∀ H', (∀ b o, G b = some o → H' b = some o) → W c H'
  | .no => False
abbrev M (α : Type) := En → Hs → Res α
abbrev Ev := M Val
def tOf {α β : Type} (A : Rp α β) (C : Cst) (W : WK) (m : M α) : L2.St → Hp → (β → Hp → Prop) → Prop :=
  fun σ H Q => ∃ G F ι ρ h, Rel C G F ι h H ∧ SR C ι F h.length σ ρ ∧ Done A C W G F ι h.length (m ρ h) Q
section
variable {α β γ δ : Type} {A : Rp α β} {B : Rp γ δ} {C : Cst} {W : WK} {G F F' F2 : Hp} {ι ι' ι2 : Nat → Addr} {n n' q : Nat} {h h' : Hs} {H H' : Hp} {σ : L2.St} {ρ : En}
theorem Done.mono {r : Res α} {Q : β → Hp → Prop} (d : Done A C W G F ι q r Q) {q' : Nat} (e : Ext G F ι q F' ι') (hq : q ≤ q') : Done A C W G F' ι' q' r Q := by
  cases r with
  | ok v h' => exact fun F2 ι2 H2 x R E l z => d F2 ι2 H2 x R (e.trans E hq) (Nat.le_trans hq l) z
  | er c => exact d
  | no => exact d
theorem st1 {a : M α} {f : α → Hs → Res γ} {Q : δ → Hp → Prop} {T : β → Hp → Prop} (R : Rel C G F ι h H) (S : SR C ι F h.length σ ρ) (D : Done B C W G F ι h.length ((a ρ h).bind f) Q)
    (k : ∀ F1 ι1 h1 H1 x v, Rel C G F1 ι1 h1 H1 → Ext G F ι h.length F1 ι1 → h.length ≤ h1.length → A.r ι1 F1 h1.length x v → Done B C W G F1 ι1 h1.length (f v h1) Q → T x H1) : tOf A C W a σ H T := by
  refine ⟨G, F, ι, ρ, h, R, S, ?_⟩
  cases e : a ρ h with
  | ok v h1 =>
    rw [e] at D
    exact fun F1 ι1 H1 x R1 E1 l1 V1 => k F1 ι1 h1 H1 x v R1 E1 l1 V1 (Done.mono D E1 l1)
  | er c => rw [e] at D; exact D
  | no => rw [e] at D; exact D
theorem Rel.dead (R : Rel C G F ι h H) : ∀ b o, G b = some o → H b = some o := R.g
end
/-- the context's side -/
structure Ctx (X : Cx) (W : WK) : Prop where
  calm : X.calm = true
  nd : X.N.Nodup
  hu : X.A.units + 65 < cLine
  gd : X.A.guards = some []
  tk : Takes X (fun cls d _ H => ∃ c Ca, X.mg c = some (.ref Ca) ∧ cls = .ref Ca ∧ d = none ∧ W c H)
abbrev JE (X : Cx) (W : WK) (e : Expr) (m : Ev) : Prop := PE X e (tOf (repV (cst X)) (cst X) W m)
abbrev JT (X : Cx) (W : WK) (e : Expr) (m : M Bool) : Prop := PT X e (tOf repB (cst X) W m)
abbrev JW (X : Cx) (W : WK) (e : Expr) (m : M Bool) : Prop := PW X e (tOf repB (cst X) W m)
abbrev JA (X : Cx) (W : WK) (es : List Expr) (m : M (List Val)) : Prop := PA X es (tOf (repL (cst X)) (cst X) W m)
theorem PE.imp {X : Cx} {e : Expr} {t t' : TE} (p : PE X e t) (h : ∀ σ H Q, t' σ H Q → t σ H Q) : PE X e t' := ⟨fun pins s σ H Q I q => p.run pins s σ H Q I (h σ H Q q)⟩
theorem PT.imp {X : Cx} {e : Expr} {t t' : TT} (p : PT X e t) (h : ∀ σ H Q, t' σ H Q → t σ H Q) : PT X e t' := ⟨fun pins s σ H Q I q => p.run pins s σ H Q I (h σ H Q q)⟩
theorem PW.imp {X : Cx} {e : Expr} {t t' : TT} (p : PW X e t) (h : ∀ σ H Q, t' σ H Q → t σ H Q) : PW X e t' := ⟨fun w pins s σ H Q I q => p.run w pins s σ H Q I (h σ H Q q)⟩
theorem PA.imp {X : Cx} {e : List Expr} {t t' : TA} (p : PA X e t) (h : ∀ σ H Q, t' σ H Q → t σ H Q) : PA X e t' := ⟨fun ps pins s σ H Q I q => p.run ps pins s σ H Q I (h σ H Q q)⟩
theorem PS.imp {X : Cx} {e : Stmt} {t t' : TS} (p : PS X e t) (h : ∀ D σ H, t' D σ H → t D σ H) : PS X e t' := ⟨fun pins s σ H D I q => p.run pins s σ H D I (h D σ H q)⟩
theorem PSs.imp {X : Cx} {e : List Stmt} {t t' : TS} (p : PSs X e t) (h : ∀ D σ H, t' D σ H → t D σ H) : PSs X e t' := ⟨fun pins s σ H D I q => p.run pins s σ H D I (h D σ H q)⟩

/-! ### names, constants, operators -/
def eVar (i : Nat) : Ev := fun ρ h => match ρ[i]? with
  | some (some v) => .ok v h
  | _ => .no
def eC (d : PyData) : Ev := fun _ h => .ok (.im d) h
def e2 (a b : Ev) (f : Val → Val → Hs → Res Val) : Ev := fun ρ h => (a ρ h).bind fun x h1 => (b ρ h1).bind fun y h2 => f x y h2
def e1 (a : Ev) (f : Val → Hs → Res Val) : Ev := fun ρ h => (a ρ h).bind f
section
variable {X : Cx} {W : WK} {a b c : Expr} {ma mb mc : Ev} {pos : Pos} {G F : Hp} {ι : Nat → Addr} {h : Hs} {H : Hp} {σ : L2.St} {ρ : En}
theorem je_var {i : Nat} {x : Str} (hN : X.N[i]? = some x := by rfl) (hv : Vis X.env.scope x := by first | exact Or.inl rfl | exact Or.inr (Or.inl rfl) | exact Or.inr (Or.inr rfl)) (hd : (x == ("__debug__" : Str)) = false := by decide) (hcd : (x == ("__classdict__" : Str)) = false := by decide) :
    JE X W (.Name x pos) (eVar i) := by
  refine PE.imp (pe_var hN hv hd hcd) fun σ H Q h => ?_
  obtain ⟨G, F, ι, ρ, h, R, S, D⟩ := h
  unfold eVar at D
  split at D
  · rename_i v e
    obtain ⟨x, e1, z⟩ := S.at' _ _ e
    exact ⟨x, e1, D F ι H x R Ext.refl (Nat.le_refl _) z⟩
  · exact D.elim
theorem fin_im {C : Cst} {W : WK} {x : V} {d : PyData} {Q : VK} (R : Rel C G F ι h H) (D : Done (repV C) C W G F ι h.length (.ok (.im d) h) Q) (z : Dp C.K F x d) : Q x H := D F ι H x R Ext.refl (Nat.le_refl _) (.im z)
theorem je_const {e : Expr} {d : PyData} {x : V} (hp : PE X e (tC x)) (hd : ∀ K H, Dp K H x d) : JE X W e (eC d) := by
  refine PE.imp hp fun σ H Q h => ?_
  obtain ⟨G, F, ι, ρ, h, R, S, D⟩ := h
  exact fin_im R D (hd _ _)
theorem je_int {i j} : JE X W (.Constant (.int i) j pos) (eC (.int i)) := je_const pe_int fun _ _ => .int i
theorem je_bl {b j} : JE X W (.Constant (.bool b) j pos) (eC (.bool b)) := je_const pe_bl fun _ _ => .bl b
theorem je_non {j} : JE X W (.Constant .none j pos) (eC .none) := je_const pe_non fun _ _ => .non
theorem je_str {x j} : JE X W (.Constant (.str x) j pos) (eC (.str x)) := je_const pe_str fun _ _ => .str x
/-- two in a row -/
theorem two {C : Cst} {W : WK} {ma mb : Ev} {f : Val → Val → Hs → Res Val} {Q : VK} {T : V → V → Hp → Prop} (R : Rel C G F ι h H) (S : SR C ι F h.length σ ρ) (D : Done (repV C) C W G F ι h.length (e2 ma mb f ρ h) Q)
    (k : ∀ F2 ι2 h2 H2 x y v u, Rel C G F2 ι2 h2 H2 → RV C ι2 F2 h2.length x v → RV C ι2 F2 h2.length y u → Done (repV C) C W G F2 ι2 h2.length (f v u h2) Q → T x y H2) :
    tOf (repV C) C W ma σ H fun x H1 => tOf (repV C) C W mb σ H1 fun y H2 => T x y H2 := by
  refine st1 R S D fun F1 ι1 h1 H1 x v R1 E1 l1 V1 D1 => ?_
  refine st1 R1 (S.mono E1.le E1.ag l1) D1 fun F2 ι2 h2 H2 y u R2 E2 l2 V2 D2 => ?_
  exact k F2 ι2 h2 H2 x y v u R2 (RV.mono V1 E2.le E2.ag l2) V2 D2
/-- a binary operation by values -/
def rOf2 (C : Cst) (W : WK) (f : Val → Val → Hs → Res Val) : R2 := fun x y H Q => ∃ G F ι h v u, Rel C G F ι h H ∧ RV C ι F h.length x v ∧ RV C ι F h.length y u ∧ Done (repV C) C W G F ι h.length (f v u h) Q
def rOf1 (C : Cst) (W : WK) (f : Val → Hs → Res Val) : V → Hp → VK → Prop := fun x H Q => ∃ G F ι h v, Rel C G F ι h H ∧ RV C ι F h.length x v ∧ Done (repV C) C W G F ι h.length (f v h) Q
def rOfL (C : Cst) (W : WK) (f : List Val → Hs → Res Val) : List V → Hp → VK → Prop := fun x H Q => ∃ G F ι h v, Rel C G F ι h H ∧ Paired (RV C ι F h.length) x v ∧ Done (repV C) C W G F ι h.length (f v h) Q
def rOfM (C : Cst) (W : WK) (f : Val → List Val → Hs → Res Val) : V → List V → Hp → VK → Prop := fun x xs H Q => ∃ G F ι h u v, Rel C G F ι h H ∧ RV C ι F h.length x u ∧ Paired (RV C ι F h.length) xs v ∧ Done (repV C) C W G F ι h.length (f u v h) Q
theorem two_r {C : Cst} {W : WK} {ma mb : Ev} {f : Val → Val → Hs → Res Val} {Q : VK} (t : tOf (repV C) C W (e2 ma mb f) σ H Q) : tOp (rOf2 C W f) (tOf (repV C) C W ma) (tOf (repV C) C W mb) σ H Q := by
  obtain ⟨G, F, ι, ρ, h, R, S, D⟩ := t
  exact two R S D fun F2 ι2 h2 H2 x y v u R2 V1 V2 D2 => ⟨G, F2, ι2, h2, v, u, R2, V1, V2, D2⟩
theorem OpR.imp {X : Cx} {f : Value → Value → Sem Value} {r r' : R2} (p : OpR X f r) (h : ∀ x y H Q, r' x y H Q → r x y H Q) : OpR X f r' := fun pins s σ H x y v u Q I rx ry q => p pins s σ H x y v u Q I rx ry (h _ _ _ _ q)
theorem UnR.imp {X : Cx} {f : Value → Sem Value} {r r' : V → Hp → VK → Prop} (p : UnR X f r) (h : ∀ x H Q, r' x H Q → r x H Q) : UnR X f r' := fun pins s σ H x v Q I rx q => p pins s σ H x v Q I rx (h _ _ _ q)
theorem CallR.imp {X : Cx} {f : Value} {r r' : List V → Hp → VK → Prop} (p : CallR X f r) (h : ∀ x H Q, r' x H Q → r x H Q) : CallR X f r' := fun pins s σ H x v Q I rx q => p pins s σ H x v Q I rx (h _ _ _ q)
theorem je_op {op : Operator} {f : Val → Val → Hs → Res Val} (ho : OpR X (binaryOp op) (rOf2 (cst X) W f)) (ha : JE X W a ma) (hb : JE X W b mb) : JE X W (.BinOp a op b pos) (e2 ma mb f) :=
  PE.imp (pe_op ho ha hb) fun _ _ _ t => two_r t
theorem je_un {op : UnaryOp} {f : Val → Hs → Res Val} (ho : UnR X (unaryOp op) (rOf1 (cst X) W f)) (ha : JE X W a ma) : JE X W (.UnaryOp op a pos) (e1 ma f) := by
  refine PE.imp (pe_un ho ha) fun σ H Q t => ?_
  obtain ⟨G, F, ι, ρ, h, R, S, D⟩ := t
  exact st1 R S D fun F1 ι1 h1 H1 x v R1 E1 l1 V1 D1 => ⟨G, F1, ι1, h1, v, R1, V1, D1⟩
theorem je_cmp {op : CmpOp} {f : Val → Val → Hs → Res Val} (ho : OpR X (compareOp op) (rOf2 (cst X) W f)) (ha : JE X W a ma) (hb : JE X W b mb) (hm : behindInMarks op b = false := by first | exact nomark _ | rfl) : JE X W (.Compare a [op] [b] pos) (e2 ma mb f) :=
  PE.imp (pe_cmpR ho ha hb hm) fun _ _ _ t => two_r t
def vB (v : Val) (h : Hs) : Res Bool := match v with
  | .im (.bool b) => .ok b h
  | _ => .no
def tst (a : Ev) : M Bool := fun ρ h => (a ρ h).bind vB
theorem tst_r {C : Cst} {W : WK} {m : Ev} {σ : L2.St} {H : Hp} {Q : Bool → Hp → Prop} (t : tOf repB C W (tst m) σ H Q) : tOf (repV C) C W m σ H fun x H1 => ∃ c, x = .bl c ∧ Q c H1 := by
  obtain ⟨G, F, ι, ρ, h, R, S, D⟩ := t
  refine st1 R S D fun F1 ι1 h1 H1 x v R1 E1 l1 V1 D1 => ?_
  unfold vB at D1
  split at D1
  · cases V1 with
    | im z => cases z; exact ⟨_, rfl, D1 F1 ι1 H1 _ R1 Ext.refl (Nat.le_refl _) rfl⟩
  · exact D1.elim
theorem tst_op {C : Cst} {W : WK} {ma mb : Ev} {f : Val → Val → Hs → Res Val} {σ : L2.St} {H : Hp} {Q : Bool → Hp → Prop} (t : tOf repB C W (tst (e2 ma mb f)) σ H Q) :
    tOp (rOf2 C W f) (tOf (repV C) C W ma) (tOf (repV C) C W mb) σ H fun x H' => ∃ k, x = .bl k ∧ Q k H' := two_r (tst_r t)
theorem jt_cmp {op : CmpOp} {f : Val → Val → Hs → Res Val} (ho : OpR X (compareOp op) (rOf2 (cst X) W f)) (ha : JE X W a ma) (hb : JE X W b mb) (hm : behindInMarks op b = false := by first | exact nomark _ | rfl) : JT X W (.Compare a [op] [b] pos) (tst (e2 ma mb f)) :=
  PT.imp (pt_cmpR ho ha hb hm) fun _ _ _ t => tst_op t
theorem jt_val (ha : JE X W a ma) (he : ∀ whole, isTrue a X.env whole = (do let v ← whole; standAt a.pos; holding [v] (truthy v)) := by intro _; rfl) : JT X W a (tst ma) :=
  PT.imp (pt_val ha he) fun _ _ _ t => tst_r t
end
end NT

set_option Elab.async false
set_option linter.all false
set_option maxRecDepth 100000
set_option autoImplicit false

namespace NT
open PySem PySem.Spec PyProof.Rows L2

/-! ### cells laid, written, frozen -/
def putI (ι : Nat → Addr) (n : Nat) (p : Addr) : Nat → Addr := fun i => if i = n then p else ι i
theorem putI_same {ι : Nat → Addr} {n : Nat} {p : Addr} : putI ι n p n = p := if_pos rfl
theorem putI_ne {ι : Nat → Addr} {n i : Nat} {p : Addr} (h : i ≠ n) : putI ι n p i = ι i := if_neg h
theorem putI_lt {ι : Nat → Addr} {n i : Nat} {p : Addr} (h : i < n) : putI ι n p i = ι i := if_neg (Nat.ne_of_lt h)
section
variable {C : Cst} {W : WK} {G F F' : Hp} {ι ι' : Nat → Addr} {n n' q : Nat} {h h' : Hs} {H H' : Hp} {σ : L2.St} {ρ : En}
theorem CellR.at' {a : Addr} {o o' : Option HO} {c : Cell} (r : CellR C ι F n a o c) (e : c.live = true → o' = o) : CellR C ι F n a o' c := by
  cases c with
  | lst vs => rw [e rfl]; exact r
  | fz d => exact r
  | dct kvs => rw [e rfl]; exact r
theorem Rel.there (R : Rel C G F ι h H) {i : Nat} {c : Cell} (e : h[i]? = some c) (l : c.live = true) : ∃ o, H (ι i) = some o := by
  have r := R.cell i c e
  cases c with
  | lst vs => obtain ⟨xs, z, _⟩ := r; exact ⟨_, z⟩
  | fz d => cases l
  | dct kvs => obtain ⟨L, z, _⟩ := r; exact ⟨_, z⟩
theorem Rel.ne (R : Rel C G F ι h H) {i : Nat} {c : Cell} (e : h[i]? = some c) (l : c.live = true) {p : Addr} (hp : H p = none) : ι i ≠ p := fun z => by
  obtain ⟨o, q⟩ := R.there e l
  rw [z, hp] at q; cases q
theorem Rel.freeG (R : Rel C G F ι h H) {p : Addr} (hp : H p = none) : G p = none := by
  cases e : G p with
  | none => rfl
  | some o => rw [R.g p o e] at hp; cases hp
theorem Rel.freeF (R : Rel C G F ι h H) {p : Addr} (hp : H p = none) : F p = none := by
  cases e : F p with
  | none => rfl
  | some o => rw [R.f p o e] at hp; cases hp
theorem get_snoc {α : Type} {l : List α} {a b : α} {i : Nat} (e : (l ++ [a])[i]? = some b) : (i < l.length ∧ l[i]? = some b) ∨ (i = l.length ∧ a = b) := by
  by_cases hi : i < l.length
  · rw [List.getElem?_append_left hi] at e; exact .inl ⟨hi, e⟩
  · rw [List.getElem?_append_right (Nat.le_of_not_lt hi)] at e
    have hl : i - l.length = 0 := by
      have := (List.getElem?_eq_some_iff.mp e).1
      simp at this
      omega
    rw [hl] at e
    exact .inr ⟨by omega, by simpa using e⟩
/-- a new cell -/
theorem Rel.newC (R : Rel C G F ι h H) {p : Addr} (hp : H p = none) {o : HO} {c : Cell} (lv : c.live = true) (V : CellR C (putI ι h.length p) F (h.length + 1) p (some o) c) : Rel C G F (putI ι h.length p) (h ++ [c]) (upd H p o) := by
  have np : ∀ b u, H b = some u → b ≠ p := fun b u e z => by rw [z, hp] at e; cases e
  have old : ∀ {i : Nat} {c' : Cell}, h[i]? = some c' → putI ι h.length p i = ι i := fun e => putI_lt (List.getElem?_eq_some_iff.mp e).1
  refine ⟨fun b u e => ?_, fun b u e => ?_, fun i j c1 c2 e1 e2 l1 l2 z => ?_, fun i c1 e1 l1 => ?_, fun i c1 e1 l1 => ?_, fun i c1 e1 => ?_⟩
  · rw [upd_ne (np b u (R.g b u e))]; exact R.g b u e
  · rw [upd_ne (np b u (R.f b u e))]; exact R.f b u e
  · rcases get_snoc e1 with ⟨h1, e1⟩ | ⟨h1, e1⟩
    · rcases get_snoc e2 with ⟨h2, e2⟩ | ⟨h2, e2⟩
      · rw [old e1, old e2] at z
        exact R.inj i j c1 c2 e1 e2 l1 l2 z
      · rw [old e1, h2, putI_same] at z
        exact absurd z (R.ne e1 l1 hp)
    · rcases get_snoc e2 with ⟨h2, e2⟩ | ⟨h2, e2⟩
      · rw [old e2, h1, putI_same] at z
        exact absurd z.symm (R.ne e2 l2 hp)
      · rw [h1, h2]
  · rcases get_snoc e1 with ⟨h1, e1⟩ | ⟨h1, e1⟩
    · rw [old e1]; exact R.gl i c1 e1 l1
    · rw [h1, putI_same]; exact R.freeG hp
  · rcases get_snoc e1 with ⟨h1, e1⟩ | ⟨h1, e1⟩
    · rw [old e1]; exact R.fl i c1 e1 l1
    · rw [h1, putI_same]; exact R.freeF hp
  · rw [List.length_append, List.length_singleton]
    rcases get_snoc e1 with ⟨h1, e1⟩ | ⟨h1, e1⟩
    · rw [old e1]
      refine CellR.at' (CellR.mono (R.cell i c1 e1) (fun _ _ z => z) (fun j hj => putI_lt hj) (Nat.le_succ _)) fun l1 => ?_
      exact upd_ne (R.ne e1 l1 hp)
    · rw [h1, putI_same, upd_same, ← e1]; exact V
theorem Ext.newC (R : Rel C G F ι h H) (p : Addr) (o : HO) : Ext G F ι h.length F (putI ι h.length p) := ⟨fun _ _ z => z, fun i hi => putI_lt hi, fun _ _ => rfl⟩
theorem Rel.newL (R : Rel C G F ι h H) {p : Addr} (hp : H p = none) {xs : List V} {vs : List Val} (V : Paired (RV C ι F h.length) xs vs) : Rel C G F (putI ι h.length p) (h ++ [.lst vs]) (upd H p (.lst xs)) :=
  R.newC hp rfl ⟨xs, rfl, RVs.mono V (fun _ _ z => z) (fun i hi => putI_lt hi) (Nat.le_succ _)⟩
/-- a new thing that never changes -/
theorem Rel.newF (R : Rel C G F ι h H) {p : Addr} (hp : H p = none) (o : HO) : Rel C G (upd F p o) ι h (upd H p o) := by
  have np : ∀ b u, H b = some u → b ≠ p := fun b u e z => by rw [z, hp] at e; cases e
  have le : ∀ b u, F b = some u → upd F p o b = some u := fun b u e => by rw [upd_ne (np b u (R.f b u e))]; exact e
  refine ⟨fun b u e => ?_, fun b u e => ?_, R.inj, R.gl, fun i c1 e1 l1 => ?_, fun i c1 e1 => ?_⟩
  · rw [upd_ne (np b u (R.g b u e))]; exact R.g b u e
  · by_cases hb : b = p
    · subst hb; rw [upd_same] at e ⊢; exact e
    · rw [upd_ne hb] at e ⊢; exact R.f b u e
  · rw [upd_ne (R.ne e1 l1 hp)]; exact R.fl i c1 e1 l1
  · refine CellR.at' (CellR.mono (R.cell i c1 e1) le (fun _ _ => rfl) (Nat.le_refl _)) fun l1 => upd_ne (R.ne e1 l1 hp)
theorem Ext.newF (R : Rel C G F ι h H) {p : Addr} (hp : H p = none) (o : HO) : Ext G F ι h.length (upd F p o) ι := by
  have np : ∀ b u, H b = some u → b ≠ p := fun b u e z => by rw [z, hp] at e; cases e
  refine ⟨fun b u e => by rw [upd_ne (np b u (R.f b u e))]; exact e, fun _ _ => rfl, fun b hb => upd_ne fun z => ?_⟩
  rw [z] at hb
  exact hb (R.freeG hp)
theorem get_set {α : Type} {l : List α} {k i : Nat} {a b : α} (e : (l.set k a)[i]? = some b) : (i ≠ k ∧ l[i]? = some b) ∨ (i = k ∧ a = b ∧ k < l.length) := by
  by_cases hi : i = k
  · subst hi
    have hl : i < l.length := by
      have := (List.getElem?_eq_some_iff.mp e).1
      simpa using this
    rw [List.getElem?_set_self hl] at e
    exact .inr ⟨rfl, by simpa using e, hl⟩
  · rw [List.getElem?_set_ne (Ne.symm hi)] at e
    exact .inl ⟨hi, e⟩
/-- a cell written -/
theorem Rel.setC (R : Rel C G F ι h H) {k : Nat} {c0 c : Cell} {o : HO} (e0 : h[k]? = some c0) (l0 : c0.live = true) (lv : c.live = true) (V : CellR C ι F h.length (ι k) (some o) c) : Rel C G F ι (h.set k c) (upd H (ι k) o) := by
  have lt : ∀ (i : Nat) (c1 : Cell), (h.set k c)[i]? = some c1 → c1.live = true → ∃ c2, h[i]? = some c2 ∧ c2.live = true := fun i c1 e l => by
    rcases get_set e with ⟨_, e⟩ | ⟨hi, e, _⟩
    · exact ⟨c1, e, l⟩
    · exact ⟨c0, by rw [hi]; exact e0, l0⟩
  refine ⟨fun b u e => ?_, fun b u e => ?_, fun i j c1 c2 e1 e2 l1 l2 z => ?_, fun i c1 e1 l1 => ?_, fun i c1 e1 l1 => ?_, fun i c1 e1 => ?_⟩
  · rw [upd_ne fun z => by rw [z, R.gl k c0 e0 l0] at e; cases e]; exact R.g b u e
  · rw [upd_ne fun z => by rw [z, R.fl k c0 e0 l0] at e; cases e]; exact R.f b u e
  · obtain ⟨_, f1, m1⟩ := lt i c1 e1 l1
    obtain ⟨_, f2, m2⟩ := lt j c2 e2 l2
    exact R.inj i j _ _ f1 f2 m1 m2 z
  · obtain ⟨_, f1, m1⟩ := lt i c1 e1 l1
    exact R.gl i _ f1 m1
  · obtain ⟨_, f1, m1⟩ := lt i c1 e1 l1
    exact R.fl i _ f1 m1
  · rw [List.length_set]
    rcases get_set e1 with ⟨hi, e1⟩ | ⟨hi, e1, _⟩
    · refine CellR.at' (R.cell i c1 e1) fun l1 => upd_ne fun z => ?_
      exact hi (R.inj i k c1 c0 e1 e0 l1 l0 z)
    · rw [hi, ← e1, upd_same]; exact V
theorem Rel.setL (R : Rel C G F ι h H) {k : Nat} {us vs : List Val} {xs : List V} (e0 : h[k]? = some (.lst us)) (V : Paired (RV C ι F h.length) xs vs) : Rel C G F ι (h.set k (.lst vs)) (upd H (ι k) (.lst xs)) :=
  R.setC e0 rfl rfl ⟨xs, rfl, V⟩
end

/-! ### data out of values -/
def imsOf : List Val → Option (List PyData)
  | [] => some []
  | .im d :: r => (imsOf r).map (d :: ·)
  | .ref _ :: _ => none
/-- what a value reads as -/
def rdD (h : Hs) : Val → Option PyData
  | .im d => some d
  | .ref k => match h[k]? with
    | some (.lst vs) => (imsOf vs).map .list
    | some (.fz d) => some d
    | _ => none
/-- a list's or a tuple's items -/
def itemsOf (h : Hs) : Val → Option (List Val)
  | .im (.tuple ds) => some (ds.map .im)
  | .im (.list ds) => some (ds.map .im)
  | .ref k => match h[k]? with
    | some (.lst vs) => some vs
    | some (.fz (.list ds)) => some (ds.map .im)
    | _ => none
  | _ => none
section
variable {C : Cst} {W : WK} {G F F' : Hp} {ι ι' : Nat → Addr} {n n' q : Nat} {h h' : Hs} {H H' : Hp} {σ : L2.St} {ρ : En}
theorem ims_of : ∀ {vs : List Val} {ds : List PyData}, imsOf vs = some ds → vs = ds.map .im
  | [], ds, e => by cases e; rfl
  | .im d :: r, ds, e => by
    unfold imsOf at e
    cases e1 : imsOf r with
    | none => rw [e1] at e; cases e
    | some l => rw [e1] at e; cases e; rw [ims_of e1]; rfl
  | .ref _ :: _, _, e => by cases e
@[simp] theorem imsOf_map : ∀ ds : List PyData, imsOf (ds.map .im) = some ds
  | [] => rfl
  | d :: r => by simp [imsOf, imsOf_map r]
theorem dpAll_of {C : Cst} {ι : Nat → Addr} {F : Hp} {n : Nat} : ∀ {xs : List V} {ds : List PyData}, Paired (RV C ι F n) xs (ds.map .im) → DpAll C.K F xs ds
  | _, [], r => by cases r; exact .nil
  | _, d :: ds, r => by
    cases r with
    | cons a b => cases a with | im z => exact .cons z (dpAll_of b)
theorem rvs_of {C : Cst} {ι : Nat → Addr} {F : Hp} {n : Nat} : ∀ {xs : List V} {ds : List PyData}, DpAll C.K F xs ds → Paired (RV C ι F n) xs (ds.map .im)
  | _, [], r => by cases r; exact .nil
  | _, d :: ds, r => by
    cases r with
    | cons a b => exact .cons (.im a) (rvs_of b)
theorem dp_len {K : PySem.W.Frag} {F : Hp} : ∀ {xs : List V} {ds : List PyData}, DpAll K F xs ds → xs.length = ds.length
  | _, [], r => by cases r; rfl
  | _, d :: ds, r => by cases r with | cons a b => simp [dp_len b]
theorem Rel.dp (R : Rel C G F ι h H) {x : V} {d : PyData} (z : Dp C.K F x d) : Dp C.K H x d := Dp.le R.f _ _ z
/-- a read value stands as data in the heap -/
theorem Rel.rd (R : Rel C G F ι h H) {x : V} {v : Val} {d : PyData} (z : RV C ι F h.length x v) (e : rdD h v = some d) : Dp C.K H x d := by
  cases z with
  | im z => cases e; exact R.dp z
  | @ref k hk =>
    simp only [rdD] at e
    split at e
    · rename_i vs hc
      cases e1 : imsOf vs with
      | none => rw [e1] at e; cases e
      | some ds =>
        rw [e1] at e; cases e
        obtain ⟨xs, hH, p⟩ := R.cell k _ hc
        rw [ims_of e1] at p
        exact .lst (SqL.of hH) (Dp.leAll R.f _ _ (dpAll_of p))
    · rename_i d' hc
      cases e
      exact R.dp (R.cell k _ hc)
    · cases e
theorem seqF {K : PySem.W.Frag} {F H : Hp} (f : ∀ b o, F b = some o → H b = some o) {a : Addr} {xs : List V} (s : SqL K F a xs) : SqL K H a xs := by
  rcases s with (z | ⟨o, z⟩) | z
  · exact .inl (.inl (f _ _ z))
  · exact .inl (.inr ⟨o, f _ _ z⟩)
  · exact .inr z
theorem tupF {K : PySem.W.Frag} {F H : Hp} (f : ∀ b o, F b = some o → H b = some o) {a : Addr} {xs : List V} (s : SqT K F a xs) : SqT K H a xs := by
  rcases s with (z | ⟨o, z⟩) | z
  · exact .inl (.inl (f _ _ z))
  · exact .inl (.inr ⟨o, f _ _ z⟩)
  · exact .inr z
theorem Rel.items (R : Rel C G F ι h H) {x : V} {v : Val} {vs : List Val} (z : RV C ι F h.length x v) (e : itemsOf h v = some vs) : ∃ a xs, x = .ref a ∧ (SqL C.K H a xs ∨ SqT C.K H a xs) ∧ Paired (RV C ι F h.length) xs vs := by
  unfold itemsOf at e
  split at e
  · cases e
    cases z with
    | im z => cases z with | tup s p => exact ⟨_, _, rfl, .inr (tupF R.f s), rvs_of p⟩
  · cases e
    cases z with
    | im z => cases z with | lst s p => exact ⟨_, _, rfl, .inl (seqF R.f s), rvs_of p⟩
  · rename_i k
    cases z with
    | ref hk =>
      split at e
      · rename_i vs' hc
        cases e
        obtain ⟨xs, hH, p⟩ := R.cell k _ hc
        exact ⟨_, xs, rfl, .inl (SqL.of hH), p⟩
      · rename_i ds hc
        cases e
        have r := R.cell k _ hc
        cases r with | lst s p => exact ⟨_, _, rfl, .inl (seqF R.f s), rvs_of p⟩
      · cases e
  · cases e
end
end NT

set_option Elab.async false
set_option linter.all false
set_option maxRecDepth 100000
set_option autoImplicit false

namespace NT
open PySem PySem.Spec PyProof.Rows L2

/-! ### finishing -/
section
variable {X : Cx} {C : Cst} {W : WK} {G F F' : Hp} {ι ι' : Nat → Addr} {n n' q : Nat} {h h' : Hs} {H H' : Hp} {σ : L2.St} {ρ : En} {Q : VK}
theorem fin_newL (R : Rel C G F ι h H) {xs : List V} {vs : List Val} (D : Done (repV C) C W G F ι h.length (.ok (.ref h.length) (h ++ [.lst vs])) Q) (V : Paired (RV C ι F h.length) xs vs) (p : Addr) (hp : H p = none) : Q (.ref p) (upd H p (.lst xs)) := by
  refine D F _ _ _ (R.newL hp V) (Ext.newC R p (.lst xs)) (by simp) ?_
  have z : RV C (putI ι h.length p) F (h ++ [Cell.lst vs]).length (.ref (putI ι h.length p h.length)) (.ref h.length) := .ref (by simp)
  rw [putI_same] at z
  exact z
theorem fin_newT (R : Rel C G F ι h H) {xs : List V} {ds : List PyData} (D : Done (repV C) C W G F ι h.length (.ok (.im (.tuple ds)) h) Q) (V : DpAll C.K F xs ds) (p : Addr) (hp : H p = none) : Q (.ref p) (upd H p (.tup xs)) := by
  have E := Ext.newF R hp (.tup xs)
  refine D _ _ _ _ (R.newF hp (.tup xs)) E (Nat.le_refl _) (.im (.tup (SqT.of upd_same) (Dp.leAll E.le _ _ V)))
theorem fin_setL (R : Rel C G F ι h H) {k : Nat} {us vs : List Val} {xs : List V} {d : PyData} {x : V} (e0 : h[k]? = some (.lst us)) (D : Done (repV C) C W G F ι h.length (.ok (.im d) (h.set k (.lst vs))) Q) (V : Paired (RV C ι F h.length) xs vs) (z : Dp C.K F x d) : Q x (upd H (ι k) (.lst xs)) :=
  D F ι _ _ (R.setL e0 V) Ext.refl (by simp) (.im z)
theorem Rel.at_lst (R : Rel C G F ι h H) {k : Nat} {vs : List Val} (e : h[k]? = some (.lst vs)) : ∃ xs, H (ι k) = some (.lst xs) ∧ Paired (RV C ι F h.length) xs vs := R.cell k _ e
end
theorem SZ_eq : sizeLine = 16777216 := by rw [sizeLine_eq]

/-! ### numbers -/
def vInt2 (f : Int → Int → Int) (v u : Val) (h : Hs) : Res Val := match v, u with
  | .im (.int i), .im (.int j) => .ok (.im (.int (f i j))) h
  | _, _ => .no
def vInt2c (c : Int → Int → Bool) (f : Int → Int → Int) (v u : Val) (h : Hs) : Res Val := match v, u with
  | .im (.int i), .im (.int j) => if c i j then .ok (.im (.int (f i j))) h else .no
  | _, _ => .no
def vInt1 (f : Int → Int) (v : Val) (h : Hs) : Res Val := match v with
  | .im (.int i) => .ok (.im (.int (f i))) h
  | _ => .no
section
variable {X : Cx} {W : WK} {f : Value → Value → Sem Value}
theorem op_int2 {g : Int → Int → Int} (p : OpR X f (rI0 fun i j => .int (g i j))) : OpR X f (rOf2 (cst X) W (vInt2 g)) := OpR.imp p fun x y H Q t => by
  obtain ⟨G, F, ι, h, v, u, R, V1, V2, D⟩ := t
  unfold vInt2 at D
  split at D
  · cases V1 with | im z1 => cases z1; cases V2 with | im z2 => cases z2; exact ⟨_, _, rfl, rfl, fin_im R D (.int _)⟩
  · exact D.elim
theorem op_int2c {g : Int → Int → Int} {c : Int → Int → Bool} {cc : Int → Int → Prop} (p : OpR X f (rI cc fun i j => .int (g i j))) (hc : ∀ i j, c i j = true → cc i j) : OpR X f (rOf2 (cst X) W (vInt2c c g)) := OpR.imp p fun x y H Q t => by
  obtain ⟨G, F, ι, h, v, u, R, V1, V2, D⟩ := t
  unfold vInt2c at D
  split at D
  · split at D
    · rename_i hh
      cases V1 with | im z1 => cases z1; cases V2 with | im z2 => cases z2; exact ⟨_, _, rfl, rfl, hc _ _ hh, fin_im R D (.int _)⟩
    · exact D.elim
  · exact D.elim
theorem un_int1 {f : Value → Sem Value} {g : Int → Int} (p : UnR X f (rU fun i => .int (g i))) : UnR X f (rOf1 (cst X) W (vInt1 g)) := UnR.imp p fun x H Q t => by
  obtain ⟨G, F, ι, h, v, R, V1, D⟩ := t
  unfold vInt1 at D
  split at D
  · cases V1 with | im z1 => cases z1; exact ⟨_, rfl, fin_im R D (.int _)⟩
  · exact D.elim
end
def cMul (i j : Int) : Bool := decide (-18446744073709551616 < i ∧ i < 18446744073709551616) || decide (-18446744073709551616 < j ∧ j < 18446744073709551616)
def cDiv (_ j : Int) : Bool := decide (0 < j ∧ j < 1073741824)
def cMod (_ j : Int) : Bool := decide (0 < j)
def cPow (i j : Int) : Bool := decide (0 ≤ j ∧ j ≤ 1000 ∧ -18446744073709551616 < i ∧ i < 18446744073709551616)
def cShr (_ j : Int) : Bool := decide (0 ≤ j)
theorem cPow_ok {i j : Int} (h : cPow i j = true) : CPow i j := by
  simp only [cPow, decide_eq_true_eq] at h
  exact ⟨h.1, by omega, by omega⟩
theorem cMul_ok {i j : Int} (h : cMul i j = true) : CMul i j := by
  simp only [cMul, Bool.or_eq_true, decide_eq_true_eq] at h
  exact h
def vSub := vInt2 (· - ·)
def vFdiv := vInt2c cDiv (· / ·)
def vMod := vInt2c cMod (· % ·)
def vPow := vInt2c cPow fun i j => i ^ j.toNat
def vShl := vInt2c cPow fun i j => i * 2 ^ j.toNat
def vShr := vInt2c cShr fun i j => i / 2 ^ j.toNat
def vXor := vInt2 Builtin.bitXor
def vNeg := vInt1 (- ·)
section
variable {X : Cx} {W : WK}
theorem o_sub : OpR X (binaryOp .Sub) (rOf2 (cst X) W vSub) := op_int2 op_sub
theorem o_fdiv : OpR X (binaryOp .FloorDiv) (rOf2 (cst X) W vFdiv) := op_int2c op_fdiv fun i j h => by simp only [cDiv, decide_eq_true_eq] at h; exact h
theorem o_mod : OpR X (binaryOp .Mod) (rOf2 (cst X) W vMod) := op_int2c op_mod fun i j h => by simp only [cMod, decide_eq_true_eq] at h; exact h
theorem o_pow : OpR X (binaryOp .Pow) (rOf2 (cst X) W vPow) := op_int2c op_pow fun i j h => cPow_ok h
theorem o_shl : OpR X (binaryOp .LShift) (rOf2 (cst X) W vShl) := op_int2c op_shl fun i j h => cPow_ok h
theorem o_shr : OpR X (binaryOp .RShift) (rOf2 (cst X) W vShr) := op_int2c op_shr fun i j h => by simp only [cShr, decide_eq_true_eq] at h; exact h
theorem o_xor : OpR X (binaryOp .BitXor) (rOf2 (cst X) W vXor) := op_int2 op_xor
theorem u_neg : UnR X (unaryOp .USub) (rOf1 (cst X) W vNeg) := un_int1 un_neg
end

/-! ### + and * of more than numbers -/
def vAdd (v u : Val) (h : Hs) : Res Val := match v, u with
  | .im (.int i), .im (.int j) => .ok (.im (.int (i + j))) h
  | .im (.str a), .im (.str b) => if a.length + b.length ≤ 16777216 then .ok (.im (.str (a ++ b))) h else .no
  | .im (.tuple a), .im (.tuple b) => if a.length + b.length ≤ 16777216 then .ok (.im (.tuple (a ++ b))) h else .no
  | .ref j, .ref k => match h[j]?, h[k]? with
    | some (.lst a), some (.lst b) => if a.length + b.length ≤ 16777216 then .ok (.ref h.length) (h ++ [.lst (a ++ b)]) else .no
    | _, _ => .no
  | _, _ => .no
theorem dpAll_app {K : PySem.W.Frag} {F : Hp} : ∀ {xs ys : List V} {as bs : List PyData}, DpAll K F xs as → DpAll K F ys bs → DpAll K F (xs ++ ys) (as ++ bs)
  | _, _, [], _, a, b => by cases a; exact b
  | _, _, _ :: _, _, a, b => by cases a with | cons p r => exact .cons p (dpAll_app r b)
theorem Paired.app {α β : Type} {R : α → β → Prop} : ∀ {xs ys : List α} {as bs : List β}, Paired R xs as → Paired R ys bs → Paired R (xs ++ ys) (as ++ bs)
  | _, _, _, _, .nil, b => b
  | _, _, _, _, .cons p r, b => .cons p (Paired.app r b)
theorem dpAll_nil {K : PySem.W.Frag} {F : Hp} {as : List PyData} (a : DpAll K F [] as) : as = [] := by cases a; rfl
section
variable {X : Cx} {W : WK}
theorem o_add : OpR X (binaryOp .Add) (rOf2 (cst X) W vAdd) := OpR.imp ((op_add.or op_add_str).or (op_catA.or op_cat)) fun x y H Q t => by
  obtain ⟨G, F, ι, h, v, u, R, V1, V2, D⟩ := t
  unfold vAdd at D
  split at D
  · cases V1 with | im z1 => cases z1; cases V2 with | im z2 => cases z2; exact .inl (.inl ⟨_, _, rfl, rfl, fin_im R D (.int _)⟩)
  · split at D
    · rename_i hz
      cases V1 with | im z1 => cases z1; cases V2 with | im z2 => cases z2; exact .inl (.inr ⟨_, _, rfl, rfl, by rw [SZ_eq]; exact hz, fin_im R D (.str _)⟩)
    · exact D.elim
  · split at D
    · rename_i hz
      cases V1 with
      | im z1 =>
        cases z1 with
        | tup s1 p1 =>
          cases V2 with
          | im z2 =>
            cases z2 with
            | tup s2 p2 =>
              refine .inr (.inl ⟨_, _, _, _, rfl, rfl, tupF R.f s1, tupF R.f s2, by rw [dp_len p1, dp_len p2, SZ_eq]; exact hz, fun e => ?_, fun _ e => ?_, fun _ _ p hp => ?_⟩)
              · subst e
                rw [dpAll_nil p1] at D
                exact fin_im R D (.tup s2 p2)
              · subst e
                rw [dpAll_nil p2, List.append_nil] at D
                exact fin_im R D (.tup s1 p1)
              · exact fin_newT R D (dpAll_app p1 p2) p hp
    · exact D.elim
  · split at D
    · split at D
      · rename_i e1 e2 hz
        obtain ⟨xs, H1, p1⟩ := R.at_lst e1
        obtain ⟨ys, H2, p2⟩ := R.at_lst e2
        cases V1
        cases V2
        exact .inr (.inr ⟨_, _, xs, ys, rfl, rfl, H1, H2, by rw [Paired.length p1, Paired.length p2, SZ_eq]; exact hz, fun p hp => fin_newL R D (Paired.app p1 p2) p hp⟩)
      · exact D.elim
    · exact D.elim
  · exact D.elim
end
end NT

set_option Elab.async false
set_option linter.all false
set_option maxRecDepth 100000
set_option autoImplicit false

namespace NT
open PySem PySem.Spec PyProof.Rows L2 PySem.W

/-- data whose == and order are known, to a depth -/
def okD : Nat → PyData → Bool
  | _, .none => true
  | _, .bool _ => true
  | _, .int _ => true
  | _, .str x => PyData.canLay0 (.str x)
  | n + 1, .list xs => xs.all (okD n)
  | n + 1, .tuple xs => xs.all (okD n)
  | _, _ => false
theorem lay_all {P : PyData → Bool} : ∀ {xs : List PyData}, xs.all P = true → (∀ d, P d = true → d.canLay0 = true) → PyData.canLayAll0 xs = true
  | [], _, _ => rfl
  | x :: xs, e, k => by
    rw [List.all_cons, Bool.and_eq_true] at e
    rw [PyData.canLayAll0, k x e.1, lay_all e.2 k]
    rfl
theorem dep_all {P : PyData → Bool} {n : Nat} : ∀ {xs : List PyData}, xs.all P = true → (∀ d, P d = true → d.depth ≤ n) → PyData.depthAll xs ≤ n
  | [], _, _ => by rw [PyData.depthAll]; exact Nat.zero_le _
  | x :: xs, e, k => by
    rw [List.all_cons, Bool.and_eq_true] at e
    rw [PyData.depthAll]
    exact Nat.max_le.mpr ⟨k x e.1, dep_all e.2 k⟩
theorem okD_lay : ∀ (n : Nat) (d : PyData), okD n d = true → d.canLay0 = true ∧ d.depth ≤ n
  | n, .none, _ => ⟨by rw [PyData.canLay0], by rw [PyData.depth]; exact Nat.zero_le _⟩
  | n, .bool _, _ => ⟨by rw [PyData.canLay0], by rw [PyData.depth]; exact Nat.zero_le _⟩
  | n, .int _, _ => ⟨by rw [PyData.canLay0], by rw [PyData.depth]; exact Nat.zero_le _⟩
  | n, .str x, h => ⟨by simpa [okD] using h, by rw [PyData.depth]; exact Nat.zero_le _⟩
  | 0, .list xs, h => by simp [okD] at h
  | n + 1, .list xs, h => by
    have h' : xs.all (okD n) = true := by simpa [okD] using h
    refine ⟨by rw [PyData.canLay0]; exact lay_all h' fun d hd => (okD_lay n d hd).1, ?_⟩
    rw [PyData.depth]
    exact Nat.succ_le_succ (dep_all h' fun d hd => (okD_lay n d hd).2)
  | 0, .tuple xs, h => by simp [okD] at h
  | n + 1, .tuple xs, h => by
    have h' : xs.all (okD n) = true := by simpa [okD] using h
    refine ⟨by rw [PyData.canLay0]; exact lay_all h' fun d hd => (okD_lay n d hd).1, ?_⟩
    rw [PyData.depth]
    exact Nat.succ_le_succ (dep_all h' fun d hd => (okD_lay n d hd).2)
  | n, .dict _, h => by cases n <;> simp [okD] at h
theorem okD_shaped {d : PyData} {n : Nat} (hn : n ≤ 64) (h : okD n d = true) : SeqAt.shaped d = true := by
  obtain ⟨a, b⟩ := okD_lay n d h
  unfold SeqAt.shaped
  rw [a, Bool.true_and, decide_eq_true_eq]
  omega
theorem okD_dep {d : PyData} {n : Nat} (h : okD n d = true) : d.depth ≤ n := (okD_lay n d h).2

/-! ### comparisons -/
def isNoneD : PyData → Bool
  | .none => true
  | _ => false
def cmpD (f : PyData → PyData → Bool) (v u : Val) (h : Hs) : Res Val := match rdD h v, rdD h u with
  | some d, some e => if (alike d e && !isNoneD d && okD 8 d && okD 8 e) = true then .ok (.im (.bool (f d e))) h else .no
  | _, _ => .no
def cmpV (g : Int → Int → Bool) (f : PyData → PyData → Bool) (v u : Val) (h : Hs) : Res Val := match v, u with
  | .im (.int i), .im (.int j) => .ok (.im (.bool (g i j))) h
  | v, u => cmpD f v u h
def vLt := cmpV (fun i j => decide (i < j)) dataLt
def vLe := cmpV (fun i j => decide (i ≤ j)) fun d e => !dataLt e d
def vGt := cmpV (fun i j => decide (j < i)) fun d e => dataLt e d
def vGe := cmpV (fun i j => decide (j ≤ i)) fun d e => !dataLt d e
def eqD (neg : Bool) (v u : Val) (h : Hs) : Res Val := match rdD h v, rdD h u with
  | some d, some e => if (okD 8 d && okD 8 e) = true then .ok (.im (.bool (neg ^^ PyData.eqv d e))) h else .no
  | _, _ => .no
def eqVal (neg : Bool) (v u : Val) (h : Hs) : Res Val := match v, u with
  | .im (.int i), .im (.int j) => .ok (.im (.bool (neg ^^ decide (i = j)))) h
  | .im (.str x), .im (.str y) => .ok (.im (.bool (neg ^^ (x == y)))) h
  | v, u => eqD neg v u h
def vEq := eqVal false
def vNe := eqVal true
/-- x in a list or a tuple -/
def vInS (neg : Bool) (v u : Val) (h : Hs) : Res Val := match rdD h v, rdD h u with
  | some d, some (.list ds) => if (okD 8 d && okD 9 (.list ds)) = true then .ok (.im (.bool (neg ^^ ds.any fun z => PyData.eqv z d))) h else .no
  | some d, some (.tuple ds) => if (okD 8 d && okD 9 (.tuple ds)) = true then .ok (.im (.bool (neg ^^ ds.any fun z => PyData.eqv z d))) h else .no
  | _, _ => .no
/-- x is None, True, False -/
def vIs (neg : Bool) (v u : Val) (h : Hs) : Res Val := match v, u with
  | .im (.bool a), .im (.bool b) => .ok (.im (.bool (neg ^^ decide (a = b)))) h
  | .im d, .im .none => .ok (.im (.bool (neg ^^ isNoneD d))) h
  | .ref _, .im .none => .ok (.im (.bool neg)) h
  | _, _ => .no
section
variable {X : Cx} {W : WK}
theorem fin_bl {G F : Hp} {ι : Nat → Addr} {h : Hs} {H : Hp} {Q : VK} {pins : List (Addr × Obj)} {σ : L2.St} {s : Shared} {b : Bool} (I : Inv X pins σ H s) (R : Rel (cst X) G F ι h H) (D : Done (repV (cst X)) (cst X) W G F ι h.length (.ok (.im (.bool b)) h) Q) : EP X pins σ Q (.bool b) s :=
  ⟨.bl b, H, I, rfl, fin_im R D (.bl b)⟩
theorem rd_reads {G F : Hp} {ι : Nat → Addr} {h : Hs} {H : Hp} {pins : List (Addr × Obj)} {σ : L2.St} {s : Shared} {x : V} {v : Val} {u : Value} {d : PyData} (I : Inv X pins σ H s) (R : Rel (cst X) G F ι h H) (V : RV (cst X) ι F h.length x v) (e : rdD h v = some d) (rx : RelV x u) : ∃ as, Reads s.heap u d as :=
  Dp.reads I d x u (R.rd V e) rx
theorem min8 {a b n : Nat} (h : a ≤ 8) (hu : n + 65 < cLine) : n + min a b < cLine := by
  have := Nat.min_le_left a b
  omega
theorem cmp_ok {op : CmpOp} {g : Int → Int → Bool} {f : PyData → PyData → Bool} (hu : X.A.units + 65 < cLine)
    (hi : ∀ (i j : Int) (t u : Tok) (Q : Value → Shared → Prop) (s : Shared), Q (.bool (g i j)) s → wpAny (model X.prog X.w) X.A (compareOp op (.int i t) (.int j u)) Q X.xe s)
    (hd : ∀ (s : Shared) (a b : Value) (da db : PyData) (as bs : List Addr) (Q : Value → Shared → Prop), Reads s.heap a da as → Reads s.heap b db bs → alike da db = true → da ≠ .none → X.A.units + min da.depth db.depth < cLine → Q (.bool (f da db)) s → wpAny (model X.prog X.w) X.A (compareOp op a b) Q X.xe s) :
    OpR X (compareOp op) (rOf2 (cst X) W (cmpV g f)) := by
  intro pins s σ H x y v u Q I rx ry t
  obtain ⟨G, F, ι, h, v1, u1, R, V1, V2, D⟩ := t
  unfold cmpV at D
  split at D
  · cases V1 with
    | im z1 =>
      cases z1
      cases V2 with
      | im z2 =>
        cases z2
        obtain ⟨t1, rfl⟩ := rx
        obtain ⟨t2, rfl⟩ := ry
        exact hi _ _ _ _ _ _ (fin_bl I R D)
  · unfold cmpD at D
    split at D
    · rename_i d e e1 e2
      split at D
      · rename_i hh
        simp only [Bool.and_eq_true, Bool.not_eq_true'] at hh
        obtain ⟨⟨⟨h1, h2⟩, h3⟩, h4⟩ := hh
        obtain ⟨as, r1⟩ := rd_reads I R V1 e1 rx
        obtain ⟨bs, r2⟩ := rd_reads I R V2 e2 ry
        exact hd s v u d e as bs _ r1 r2 h1 (fun z => by subst z; exact absurd h2 (by decide)) (min8 (okD_dep h3) hu) (fin_bl I R D)
      · exact D.elim
    · exact D.elim
theorem c_lt (K : Ctx X W) : OpR X (compareOp .Lt) (rOf2 (cst X) W vLt) := cmp_ok K.hu (fun _ _ _ _ _ _ q => lt_int q) fun _ _ _ _ _ _ _ _ r1 r2 h n hu q => lt_data r1 r2 h n hu q
theorem c_le (K : Ctx X W) : OpR X (compareOp .LtE) (rOf2 (cst X) W vLe) := cmp_ok K.hu (fun _ _ _ _ _ _ q => le_int q) fun _ _ _ _ _ _ _ _ r1 r2 h n hu q => le_data r1 r2 h n hu q
theorem c_gt (K : Ctx X W) : OpR X (compareOp .Gt) (rOf2 (cst X) W vGt) := cmp_ok K.hu (fun _ _ _ _ _ _ q => gt_int q) fun _ _ _ _ _ _ _ _ r1 r2 h n hu q => gt_data r1 r2 h n hu q
theorem c_ge (K : Ctx X W) : OpR X (compareOp .GtE) (rOf2 (cst X) W vGe) := cmp_ok K.hu (fun _ _ _ _ _ _ q => ge_int q) fun _ _ _ _ _ _ _ _ r1 r2 h n hu q => ge_data r1 r2 h n hu q
theorem eq_ok {op : CmpOp} {neg : Bool} (K : Ctx X W) (ht : ∀ (x y : Str) (t u : Tok) (Q : Value → Shared → Prop) (s : Shared), Q (.bool (neg ^^ (x == y))) s → wpAny (model X.prog X.w) X.A (compareOp op (.str x t) (.str y u)) Q X.xe s)
    (hd : ∀ (s : Shared) (a b : Value) (da db : PyData) (as bs : List Addr) (Q : Value → Shared → Prop), Reads s.heap a da as → Reads s.heap b db bs → SeqAt.shaped da = true → SeqAt.shaped db = true → Q (.bool (neg ^^ PyData.eqv da db)) s → wpAny (model X.prog X.w) X.A (compareOp op a b) Q X.xe s) :
    OpR X (compareOp op) (rOf2 (cst X) W (eqVal neg)) := by
  intro pins s σ H x y v u Q I rx ry t
  obtain ⟨G, F, ι, h, v1, u1, R, V1, V2, D⟩ := t
  have main : Done (repV (cst X)) (cst X) W G F ι h.length (eqD neg v1 u1 h) Q → wpAny (model X.prog X.w) X.A (compareOp op v u) (EP X pins σ Q) X.xe s := fun D => by
    unfold eqD at D
    split at D
    · rename_i d e e1 e2
      split at D
      · rename_i hh
        rw [Bool.and_eq_true] at hh
        obtain ⟨as, r1⟩ := rd_reads I R V1 e1 rx
        obtain ⟨bs, r2⟩ := rd_reads I R V2 e2 ry
        exact hd s v u d e as bs _ r1 r2 (okD_shaped (by decide) hh.1) (okD_shaped (by decide) hh.2) (fin_bl I R D)
      · exact D.elim
    · exact D.elim
  unfold eqVal at D
  split at D
  · rename_i i j
    refine main ?_
    have e : PyData.eqv (.int i) (.int j) = decide (i = j) := by
      rw [PyData.eqv]
      (rw [Bool.eq_iff_iff, beq_iff_eq, decide_eq_true_eq])
    unfold eqD
    simp only [rdD]
    rw [if_pos (show (okD 8 (.int i) && okD 8 (.int j)) = true from rfl), e]
    exact D
  · cases V1 with
    | im z1 =>
      cases z1
      cases V2 with
      | im z2 =>
        cases z2
        obtain ⟨t1, rfl⟩ := rx
        obtain ⟨t2, rfl⟩ := ry
        exact ht _ _ _ _ _ _ (fin_bl I R D)
  · exact main D
theorem c_eq (K : Ctx X W) : OpR X (compareOp .Eq) (rOf2 (cst X) W vEq) := eq_ok K (fun _ _ _ _ _ _ q => PyProof.Rows.eq_str (by simpa using q)) fun _ _ _ _ _ _ _ _ r1 r2 h1 h2 q => SeqAt.compareEq_shaped r1 r2 h1 h2 (Nat.lt_trans (Nat.add_lt_add_left (by decide) _) K.hu) (by simpa using q)
theorem c_ne (K : Ctx X W) : OpR X (compareOp .NotEq) (rOf2 (cst X) W vNe) := eq_ok K (fun _ _ _ _ _ _ q => PyProof.Rows.ne_str (by simpa [bne] using q)) fun _ _ _ _ _ _ _ _ r1 r2 h1 h2 q => SeqAt.compareNe_shaped r1 r2 h1 h2 (Nat.lt_trans (Nat.add_lt_add_left (by decide) _) K.hu) (by simpa using q)
theorem inS_ok {op : CmpOp} {neg : Bool} (K : Ctx X W)
    (hl : ∀ (s : Shared) (x c : Value) (d : PyData) (xs : List PyData) (as bs : List Addr) (Q : Value → Shared → Prop), Reads s.heap c (.list xs) as → Reads s.heap x d bs → PyData.canLayAll0 xs = true → d.canLay0 = true → X.A.units + 1 + min (PyData.depthAll xs) d.depth < cLine → Q (.bool (neg ^^ xs.any fun y => PyData.eqv y d)) s → wpAny (model X.prog X.w) X.A (compareOp op x c) Q X.xe s)
    (ht : ∀ (s : Shared) (x c : Value) (d : PyData) (xs : List PyData) (as bs : List Addr) (Q : Value → Shared → Prop), Reads s.heap c (.tuple xs) as → Reads s.heap x d bs → PyData.canLayAll0 xs = true → d.canLay0 = true → X.A.units + 1 + min (PyData.depthAll xs) d.depth < cLine → Q (.bool (neg ^^ xs.any fun y => PyData.eqv y d)) s → wpAny (model X.prog X.w) X.A (compareOp op x c) Q X.xe s) :
    OpR X (compareOp op) (rOf2 (cst X) W (vInS neg)) := by
  intro pins s σ H x y v u Q I rx ry t
  obtain ⟨G, F, ι, h, v1, u1, R, V1, V2, D⟩ := t
  have room : ∀ {ds : List PyData} {d : PyData}, okD 8 d = true → X.A.units + 1 + min (PyData.depthAll ds) d.depth < cLine := fun {ds d} h => by
    have h1 := Nat.min_le_right (PyData.depthAll ds) d.depth
    have h2 := okD_dep h
    have := K.hu
    omega
  unfold vInS at D
  split at D
  · rename_i d ds e1 e2
    split at D
    · rename_i hh
      rw [Bool.and_eq_true] at hh
      obtain ⟨bs, r1⟩ := rd_reads I R V1 e1 rx
      obtain ⟨as, r2⟩ := rd_reads I R V2 e2 ry
      have l2 : PyData.canLayAll0 ds = true := by
        have := (okD_lay _ _ hh.2).1
        rwa [PyData.canLay0] at this
      exact hl s v u d ds as bs _ r2 r1 l2 (okD_lay _ _ hh.1).1 (room hh.1) (fin_bl I R D)
    · exact D.elim
  · rename_i d ds e1 e2
    split at D
    · rename_i hh
      rw [Bool.and_eq_true] at hh
      obtain ⟨bs, r1⟩ := rd_reads I R V1 e1 rx
      obtain ⟨as, r2⟩ := rd_reads I R V2 e2 ry
      have l2 : PyData.canLayAll0 ds = true := by
        have := (okD_lay _ _ hh.2).1
        rwa [PyData.canLay0] at this
      exact ht s v u d ds as bs _ r2 r1 l2 (okD_lay _ _ hh.1).1 (room hh.1) (fin_bl I R D)
    · exact D.elim
  · exact D.elim
theorem c_inS (K : Ctx X W) : OpR X (compareOp .In) (rOf2 (cst X) W (vInS false)) :=
  inS_ok K (fun _ _ _ _ _ _ _ _ a b c d e q => SeqAt.in_list_reads a b c d e (by simpa using q)) fun _ _ _ _ _ _ _ _ a b c d e q => SeqAt.in_tuple_reads a b c d e (by simpa using q)
theorem c_notInS (K : Ctx X W) : OpR X (compareOp .NotIn) (rOf2 (cst X) W (vInS true)) :=
  inS_ok K (fun _ _ _ _ _ _ _ _ a b c d e q => SeqAt.notIn_list_reads a b c d e (by simpa using q)) fun _ _ _ _ _ _ _ _ a b c d e q => SeqAt.notIn_tuple_reads a b c d e (by simpa using q)
theorem dpNone {K : PySem.W.Frag} {F : Hp} {x : V} {d : PyData} (z : Dp K F x d) : decide (x = .non) = isNoneD d := by
  cases z <;> first | rfl | (rw [decide_eq_false]; rfl; intro q; cases q)
theorem is_ok {op : CmpOp} {neg : Bool} (h1 : OpR X (compareOp op) (fun x y H Q => ∃ a b, x = .bl a ∧ y = .bl b ∧ Q (.bl (neg ^^ decide (a = b))) H))
    (h2 : OpR X (compareOp op) (fun x y H Q => y = .non ∧ Q (.bl (neg ^^ decide (x = .non))) H)) : OpR X (compareOp op) (rOf2 (cst X) W (vIs neg)) := OpR.imp (h1.or h2) fun x y H Q t => by
  obtain ⟨G, F, ι, h, v1, u1, R, V1, V2, D⟩ := t
  unfold vIs at D
  split at D
  · cases V1 with | im z1 => cases z1; cases V2 with | im z2 => cases z2; exact .inl ⟨_, _, rfl, rfl, fin_im R D (.bl _)⟩
  · cases V1 with
    | im z1 =>
      cases V2 with
      | im z2 =>
        cases z2
        refine .inr ⟨rfl, ?_⟩
        rw [dpNone z1]
        exact fin_im R D (.bl _)
  · cases V1 with
    | ref z1 =>
      cases V2 with
      | im z2 =>
        cases z2
        refine .inr ⟨rfl, ?_⟩
        rw [decide_eq_false (fun q => nomatch q), Bool.xor_false]
        exact fin_im R D (.bl _)
  · exact D.elim
theorem c_is : OpR X (compareOp .Is) (rOf2 (cst X) W (vIs false)) :=
  is_ok (OpR.imp op_is_bl fun _ _ _ _ ⟨a, b, e1, e2, q⟩ => ⟨a, b, e1, e2, by simpa using q⟩) (OpR.imp op_isN fun _ _ _ _ ⟨e1, q⟩ => ⟨e1, by simpa using q⟩)
theorem c_isnot : OpR X (compareOp .IsNot) (rOf2 (cst X) W (vIs true)) :=
  is_ok (OpR.imp op_isnot_bl fun _ _ _ _ ⟨a, b, e1, e2, q⟩ => ⟨a, b, e1, e2, by simpa using q⟩) (OpR.imp op_notN fun _ _ _ _ ⟨e1, q⟩ => ⟨e1, by simpa using q⟩)
end
end NT

set_option Elab.async false
set_option linter.all false
set_option maxRecDepth 100000
set_option autoImplicit false

namespace NT
open PySem PySem.Spec PyProof.Rows L2

/-! ### and, or, not, if, chains -/
def mAnd (a b : M Bool) : M Bool := fun ρ h => (a ρ h).bind fun c h1 => if c = true then b ρ h1 else .ok false h1
def mOr (a b : M Bool) : M Bool := fun ρ h => (a ρ h).bind fun c h1 => if c = true then .ok true h1 else b ρ h1
def mNot (a : M Bool) : M Bool := fun ρ h => (a ρ h).bind fun c h1 => .ok (!c) h1
def eAnd (a b : Ev) : Ev := fun ρ h => (a ρ h).bind fun v h1 => match v with
  | .im (.bool true) => b ρ h1
  | .im (.bool false) => .ok (.im (.bool false)) h1
  | _ => .no
def eOr (a b : Ev) : Ev := fun ρ h => (a ρ h).bind fun v h1 => match v with
  | .im (.bool false) => b ρ h1
  | .im (.bool true) => .ok (.im (.bool true)) h1
  | _ => .no
def eNot (a : Ev) : Ev := fun ρ h => (a ρ h).bind fun v h1 => match v with
  | .im (.bool b) => .ok (.im (.bool (!b))) h1
  | _ => .no
def eIf (c : M Bool) (a b : Ev) : Ev := fun ρ h => (c ρ h).bind fun k h1 => if k = true then a ρ h1 else b ρ h1
def eChain (f f' : Val → Val → Hs → Res Val) (a b c : Ev) : Ev := fun ρ h => (a ρ h).bind fun x h1 => (b ρ h1).bind fun y h2 => (f x y h2).bind fun z h3 => match z with
  | .im (.bool true) => (c ρ h3).bind fun w h4 => f' y w h4
  | .im (.bool false) => .ok (.im (.bool false)) h3
  | _ => .no
section
variable {X : Cx} {W : WK} {a b c : Expr} {rest : List Expr} {ma mb mc : Ev} {ta tb tc : M Bool} {pos : Pos}
theorem fin_b {C : Cst} {G F : Hp} {ι : Nat → Addr} {h : Hs} {H : Hp} {b : Bool} {Q : Bool → Hp → Prop} (R : Rel C G F ι h H) (D : Done repB C W G F ι h.length (.ok b h) Q) : Q b H := D F ι H b R Ext.refl (Nat.le_refl _) rfl
theorem tOf.at {α β : Type} {A : Rp α β} {C : Cst} {m : M α} {G F : Hp} {ι : Nat → Addr} {h : Hs} {H : Hp} {σ : L2.St} {ρ : En} {Q : β → Hp → Prop} (R : Rel C G F ι h H) (S : SR C ι F h.length σ ρ) (D : Done A C W G F ι h.length (m ρ h) Q) : tOf A C W m σ H Q := ⟨G, F, ι, ρ, h, R, S, D⟩
theorem jw_and1 (ha : JT X W a ta) : JW X W (.BoolOp .And [a] pos) ta := pw_and1 ha
theorem jw_or1 (ha : JT X W a ta) : JW X W (.BoolOp .Or [a] pos) ta := pw_or1 ha
theorem jw_and (ha : JT X W a ta) (hb : JW X W (.BoolOp .And (b :: rest) pos) tb) : JW X W (.BoolOp .And (a :: b :: rest) pos) (mAnd ta tb) := by
  refine PW.imp (pw_and ha hb) fun σ H Q t => ?_
  obtain ⟨G, F, ι, ρ, h, R, S, D⟩ := t
  refine st1 R S D fun F1 ι1 h1 H1 x v R1 E1 l1 V1 D1 => ?_
  obtain rfl : x = v := V1
  cases x with
  | true => exact .at R1 (S.mono E1.le E1.ag l1) D1
  | false => exact fin_b R1 D1
theorem jw_or (ha : JT X W a ta) (hb : JW X W (.BoolOp .Or (b :: rest) pos) tb) : JW X W (.BoolOp .Or (a :: b :: rest) pos) (mOr ta tb) := by
  refine PW.imp (pw_or ha hb) fun σ H Q t => ?_
  obtain ⟨G, F, ι, ρ, h, R, S, D⟩ := t
  refine st1 R S D fun F1 ι1 h1 H1 x v R1 E1 l1 V1 D1 => ?_
  obtain rfl : x = v := V1
  cases x with
  | false => exact .at R1 (S.mono E1.le E1.ag l1) D1
  | true => exact fin_b R1 D1
theorem jt_w {e : Expr} (h : JW X W e ta) : JT X W e ta := PW.pt h
theorem jt_not (ha : JT X W a ta) : JT X W (.UnaryOp .Not a pos) (mNot ta) := by
  refine PT.imp (pt_not ha) fun σ H Q t => ?_
  obtain ⟨G, F, ι, ρ, h, R, S, D⟩ := t
  refine st1 R S D fun F1 ι1 h1 H1 x v R1 E1 l1 V1 D1 => ?_
  obtain rfl : x = v := V1
  exact fin_b R1 D1
theorem je_one {op : BoolOp} (h : JE X W a ma) : JE X W (.BoolOp op [a] pos) ma := pe_one h
theorem je_and (ha : JE X W a ma) (hb : JE X W (.BoolOp .And (b :: rest) pos) mb) : JE X W (.BoolOp .And (a :: b :: rest) pos) (eAnd ma mb) := by
  refine PE.imp (pe_and ha hb) fun σ H Q t => ?_
  obtain ⟨G, F, ι, ρ, h, R, S, D⟩ := t
  refine st1 R S D fun F1 ι1 h1 H1 x v R1 E1 l1 V1 D1 => ?_
  split at D1
  · cases V1 with | im z => cases z; exact ⟨true, rfl, .at R1 (S.mono E1.le E1.ag l1) D1⟩
  · cases V1 with | im z => cases z; exact ⟨false, rfl, fin_im R1 D1 (.bl _)⟩
  · exact D1.elim
theorem je_or (ha : JE X W a ma) (hb : JE X W (.BoolOp .Or (b :: rest) pos) mb) : JE X W (.BoolOp .Or (a :: b :: rest) pos) (eOr ma mb) := by
  refine PE.imp (pe_or ha hb) fun σ H Q t => ?_
  obtain ⟨G, F, ι, ρ, h, R, S, D⟩ := t
  refine st1 R S D fun F1 ι1 h1 H1 x v R1 E1 l1 V1 D1 => ?_
  split at D1
  · cases V1 with | im z => cases z; exact ⟨false, rfl, .at R1 (S.mono E1.le E1.ag l1) D1⟩
  · cases V1 with | im z => cases z; exact ⟨true, rfl, fin_im R1 D1 (.bl _)⟩
  · exact D1.elim
theorem je_not (ha : JE X W a ma) : JE X W (.UnaryOp .Not a pos) (eNot ma) := by
  refine PE.imp (pe_not ha) fun σ H Q t => ?_
  obtain ⟨G, F, ι, ρ, h, R, S, D⟩ := t
  refine st1 R S D fun F1 ι1 h1 H1 x v R1 E1 l1 V1 D1 => ?_
  split at D1
  · cases V1 with | im z => cases z; exact ⟨_, rfl, fin_im R1 D1 (.bl _)⟩
  · exact D1.elim
theorem je_if (hc : JT X W c tc) (ha : JE X W a ma) (hb : JE X W b mb) : JE X W (.IfExp c a b pos) (eIf tc ma mb) := by
  refine PE.imp (pe_ifExp hc ha hb) fun σ H Q t => ?_
  obtain ⟨G, F, ι, ρ, h, R, S, D⟩ := t
  refine st1 R S D fun F1 ι1 h1 H1 x v R1 E1 l1 V1 D1 => ?_
  obtain rfl : x = v := V1
  cases x with
  | true => exact .at R1 (S.mono E1.le E1.ag l1) D1
  | false => exact .at R1 (S.mono E1.le E1.ag l1) D1
theorem chain_r {C : Cst} {f f' : Val → Val → Hs → Res Val} {σ : L2.St} {H : Hp} {Q : VK} (t : tOf (repV C) C W (eChain f f' ma mb mc) σ H Q) :
    tChain (rOf2 C W f) (rOf2 C W f') (tOf (repV C) C W ma) (tOf (repV C) C W mb) (tOf (repV C) C W mc) σ H Q := by
  obtain ⟨G, F, ι, ρ, h, R, S, D⟩ := t
  refine st1 R S D fun F1 ι1 h1 H1 x v R1 E1 l1 V1 D1 => ?_
  refine st1 R1 (S.mono E1.le E1.ag l1) D1 fun F2 ι2 h2 H2 y u R2 E2 l2 V2 D2 => ?_
  have S2 := (S.mono E1.le E1.ag l1).mono E2.le E2.ag l2
  refine ⟨G, F2, ι2, h2, v, u, R2, RV.mono V1 E2.le E2.ag l2, V2, ?_⟩
  cases ef : f v u h2 with
  | no => rw [ef] at D2; exact D2
  | er c => rw [ef] at D2; exact D2
  | ok z h3 =>
    rw [ef] at D2
    intro F3 ι3 H3 x3 R3 E3 l3 V3
    have D3 := Done.mono D2 E3 l3
    have V2' : RV C ι3 F3 h3.length y u := RV.mono V2 E3.le E3.ag l3
    have S3 := S2.mono E3.le E3.ag l3
    simp only [bind_ok] at D3
    split at D3
    · cases V3 with
      | im z =>
        cases z
        refine ⟨true, rfl, ?_⟩
        rw [if_pos rfl]
        refine st1 R3 S3 D3 fun F4 ι4 h4 H4 w' w R4 E4 l4 V4 D4 => ?_
        exact ⟨G, F4, ι4, h4, u, w, R4, RV.mono V2' E4.le E4.ag l4, V4, D4⟩
    · cases V3 with
      | im z =>
        cases z
        refine ⟨false, rfl, ?_⟩
        rw [if_neg (by decide)]
        exact fin_im R3 D3 (.bl _)
    · exact D3.elim
theorem je_chain {op op' : CmpOp} {f f' : Val → Val → Hs → Res Val} (ho : OpR X (compareOp op) (rOf2 (cst X) W f)) (ho' : OpR X (compareOp op') (rOf2 (cst X) W f')) (ha : JE X W a ma) (hb : JE X W b mb) (hc : JE X W c mc)
    (hm : lastMarks [op, op'] [b, c] = false := by with_unfolding_all rfl) : JE X W (.Compare a [op, op'] [b, c] pos) (eChain f f' ma mb mc) := PE.imp (pe_chain ho ho' ha hb hc hm) fun _ _ _ t => chain_r t
theorem jt_chain {op op' : CmpOp} {f f' : Val → Val → Hs → Res Val} (ho : OpR X (compareOp op) (rOf2 (cst X) W f)) (ho' : OpR X (compareOp op') (rOf2 (cst X) W f')) (ha : JE X W a ma) (hb : JE X W b mb) (hc : JE X W c mc)
    (hm : lastMarks [op, op'] [b, c] = false := by with_unfolding_all rfl) : JT X W (.Compare a [op, op'] [b, c] pos) (tst (eChain f f' ma mb mc)) := PT.imp (pt_chain ho ho' ha hb hc hm) fun _ _ _ t => chain_r (tst_r t)
end

/-! ### argument lists, displays -/
def mNil : M (List Val) := fun _ h => .ok [] h
def mCons (a : Ev) (r : M (List Val)) : M (List Val) := fun ρ h => (a ρ h).bind fun v h1 => (r ρ h1).bind fun vs h2 => .ok (v :: vs) h2
/-- a list that changes no more -/
def frz (v : Val) (h : Hs) : Option (PyData × Hs) := match v with
  | .im d => some (d, h)
  | .ref k => match h[k]? with
    | some (.fz d) => some (d, h)
    | some (.lst vs) => (imsOf vs).map fun ds => (.list ds, h.set k (.fz (.list ds)))
    | _ => none
def frzL : List Val → Hs → Option (List PyData × Hs)
  | [], h => some ([], h)
  | v :: r, h => (frz v h).bind fun p => (frzL r p.2).map fun q => (p.1 :: q.1, q.2)
def eTup (m : M (List Val)) : Ev := fun ρ h => (m ρ h).bind fun vs h1 => match frzL vs h1 with
  | some (ds, h2) => if ds.length ≤ 16777216 then .ok (.im (.tuple ds)) h2 else .no
  | none => .no
def eLst (m : M (List Val)) : Ev := fun ρ h => (m ρ h).bind fun vs h1 => if vs.length ≤ 16777216 then .ok (.ref h1.length) (h1 ++ [.lst vs]) else .no
section
variable {C : Cst} {W : WK} {G F F' : Hp} {ι ι' : Nat → Addr} {n n' q : Nat} {h h' : Hs} {H H' : Hp} {σ : L2.St} {ρ : En} {Q : VK}
/-- freezing -/
theorem Rel.frz (R : Rel C G F ι h H) {k : Nat} {ds : List PyData} {vs : List Val} (e : h[k]? = some (.lst vs)) (ei : imsOf vs = some ds) : ∃ F', Rel C G F' ι (h.set k (.fz (.list ds))) H ∧ Ext G F ι h.length F' ι ∧ Dp C.K F' (.ref (ι k)) (.list ds) := by
  obtain ⟨xs, hH, p⟩ := R.at_lst e
  rw [ims_of ei] at p
  have hF := R.fl k _ e rfl
  have hG := R.gl k _ e rfl
  have le : ∀ b o, F b = some o → upd F (ι k) (.lst xs) b = some o := fun b o z => by
    rw [upd_ne fun q => by rw [q, hF] at z; cases z]; exact z
  have z0 : Dp C.K (upd F (ι k) (.lst xs)) (.ref (ι k)) (.list ds) := .lst (SqL.of upd_same) (Dp.leAll le _ _ (dpAll_of p))
  refine ⟨upd F (ι k) (.lst xs), ?_, ⟨le, fun _ _ => rfl, fun b hb => upd_ne fun z => ?_⟩, z0⟩
  · have lt : ∀ (i : Nat) (c1 : Cell), (h.set k (Cell.fz (.list ds)))[i]? = some c1 → c1.live = true → i ≠ k ∧ h[i]? = some c1 := fun i c1 e1 l1 => by
      rcases get_set e1 with ⟨h1, h2⟩ | ⟨_, h2, _⟩
      · exact ⟨h1, h2⟩
      · rw [← h2] at l1; cases l1
    refine ⟨R.g, fun b o z => ?_, fun i j c1 c2 e1 e2 l1 l2 z => R.inj i j c1 c2 (lt i c1 e1 l1).2 (lt j c2 e2 l2).2 l1 l2 z, fun i c1 e1 l1 => R.gl i c1 (lt i c1 e1 l1).2 l1, fun i c1 e1 l1 => ?_, fun i c1 e1 => ?_⟩
    · by_cases hb : b = ι k
      · subst hb; rw [upd_same] at z; rw [hH]; exact z
      · rw [upd_ne hb] at z; exact R.f b o z
    · obtain ⟨h1, h2⟩ := lt i c1 e1 l1
      rw [upd_ne fun z => h1 (R.inj i k c1 _ h2 e l1 rfl z)]
      exact R.fl i c1 h2 l1
    · rw [List.length_set]
      rcases get_set e1 with ⟨h1, h2⟩ | ⟨h1, h2, _⟩
      · exact CellR.mono (R.cell i c1 h2) le (fun _ _ => rfl) (Nat.le_refl _)
      · subst h1; rw [← h2]; exact z0
  · rw [z] at hb; exact hb hG
theorem Rel.frzV (R : Rel C G F ι h H) {x : V} {v : Val} {d : PyData} (V : RV C ι F h.length x v) (e : NT.frz v h = some (d, h')) : ∃ F', Rel C G F' ι h' H ∧ Ext G F ι h.length F' ι ∧ h'.length = h.length ∧ Dp C.K F' x d := by
  cases V with
  | im z => cases e; exact ⟨F, R, Ext.refl, rfl, z⟩
  | @ref k hk =>
    simp only [NT.frz] at e
    split at e
    · rename_i d' hc
      cases e
      exact ⟨F, R, Ext.refl, rfl, R.cell k _ hc⟩
    · rename_i vs hc
      cases ei : imsOf vs with
      | none => rw [ei] at e; cases e
      | some ds =>
        rw [ei] at e; cases e
        obtain ⟨F', R', E', z⟩ := R.frz hc ei
        exact ⟨F', R', E', by simp, z⟩
    · cases e
theorem Rel.frzVs : ∀ {vs : List Val} {xs : List V} {ds : List PyData} {h h' : Hs} {F : Hp}, Rel C G F ι h H → Paired (RV C ι F h.length) xs vs → frzL vs h = some (ds, h') → ∃ F', Rel C G F' ι h' H ∧ Ext G F ι h.length F' ι ∧ h'.length = h.length ∧ DpAll C.K F' xs ds
  | [], _, _, _, _, F, R, V, e => by cases V; cases e; exact ⟨F, R, Ext.refl, rfl, .nil⟩
  | v :: vs, _, ds, h, h', F, R, V, e => by
    cases V with
    | cons V1 V2 =>
      unfold frzL at e
      cases e1 : NT.frz v h with
      | none => rw [e1] at e; cases e
      | some p =>
        obtain ⟨d, h1⟩ := p
        rw [e1] at e
        simp only [Option.bind_some] at e
        cases e2 : frzL vs h1 with
        | none => rw [e2] at e; cases e
        | some p2 =>
          obtain ⟨ds2, h2⟩ := p2
          rw [e2] at e
          cases e
          obtain ⟨F1, R1, E1, l1, z1⟩ := R.frzV V1 e1
          obtain ⟨F2, R2, E2, l2, z2⟩ := Rel.frzVs R1 (by rw [l1]; exact RVs.mono V2 E1.le (fun _ _ => rfl) (Nat.le_refl _)) e2
          exact ⟨F2, R2, E1.trans E2 (by rw [l1]; exact Nat.le_refl _), l2.trans l1, .cons (Dp.le E2.le _ _ z1) z2⟩
end
section
variable {X : Cx} {W : WK} {e : Expr} {es : List Expr} {me : Ev} {ms : M (List Val)} {pos : Pos}
theorem fin_l {C : Cst} {G F : Hp} {ι : Nat → Addr} {h : Hs} {H : Hp} {xs : List V} {vs : List Val} {Q : List V → Hp → Prop} (R : Rel C G F ι h H) (D : Done (repL C) C W G F ι h.length (.ok vs h) Q) (V : Paired (RV C ι F h.length) xs vs) : Q xs H := D F ι H xs R Ext.refl (Nat.le_refl _) V
theorem ja_nil : JA X W [] mNil := by
  refine PA.imp pa_nil fun σ H Q t => ?_
  obtain ⟨G, F, ι, ρ, h, R, S, D⟩ := t
  exact fin_l R D .nil
theorem ja_cons (ha : JE X W e me) (hr : JA X W es ms) (hs : starEach (e :: es) X.env = (false, eval e X.env) :: starEach es X.env := by rfl) : JA X W (e :: es) (mCons me ms) := by
  refine PA.imp (pa_cons ha hr hs) fun σ H Q t => ?_
  obtain ⟨G, F, ι, ρ, h, R, S, D⟩ := t
  refine st1 R S D fun F1 ι1 h1 H1 x v R1 E1 l1 V1 D1 => ?_
  refine st1 R1 (S.mono E1.le E1.ag l1) D1 fun F2 ι2 h2 H2 y u R2 E2 l2 V2 D2 => ?_
  exact fin_l R2 D2 (.cons (RV.mono V1 E2.le E2.ag l2) V2)
theorem je_tup {k : Nat} (ha : JA X W es ms) : JE X W (.Tuple es k pos) (eTup ms) := by
  refine PE.imp (pe_tup ha) fun σ H Q t => ?_
  obtain ⟨G, F, ι, ρ, h, R, S, D⟩ := t
  refine st1 R S D fun F1 ι1 h1 H1 x v R1 E1 l1 V1 D1 => ?_
  split at D1
  · rename_i ds h2 ef
    split at D1
    · rename_i hz
      obtain ⟨F2, R2, E2, l2, z2⟩ := Rel.frzVs R1 V1 ef
      have l2' : h1.length ≤ h2.length := by rw [l2]; exact Nat.le_refl _
      exact ⟨by rw [dp_len z2, SZ_eq]; exact hz, fun p hp => fin_newT R2 (Done.mono D1 E2 l2') z2 p hp⟩
    · exact D1.elim
  · exact D1.elim
theorem je_lst (ha : JA X W es ms) : JE X W (.List es pos) (eLst ms) := by
  refine PE.imp (pe_lst ha) fun σ H Q t => ?_
  obtain ⟨G, F, ι, ρ, h, R, S, D⟩ := t
  refine st1 R S D fun F1 ι1 h1 H1 x v R1 E1 l1 V1 D1 => ?_
  split at D1
  · rename_i hz
    exact ⟨by rw [Paired.length V1, SZ_eq]; exact hz, fun p hp => fin_newL R1 D1 V1 p hp⟩
  · exact D1.elim
end

/-! ### subscripts, slices -/
def vIdx (v i : Val) (h : Hs) : Res Val := match v, i with
  | .im (.str z), .im (.int k) => if z.length ≤ 16777216 then (match atI z.cps.toList k with
    | some c => .ok (.im (.str ⟨#[c]⟩)) h
    | none => .no) else .no
  | v, .im (.int k) => match itemsOf h v with
    | some vs => (match atI vs k with
      | some r => .ok r h
      | none => .no)
    | none => .no
  | _, _ => .no
theorem paired_get' {α β : Type} {R : α → β → Prop} : ∀ {xs : List α} {ys : List β} {i : Nat} {y : β}, Paired R xs ys → ys[i]? = some y → ∃ x, xs[i]? = some x ∧ R x y
  | _, _, _, _, .nil, e => by cases e
  | _, _, 0, _, .cons a _, e => by simp at e; subst e; exact ⟨_, rfl, a⟩
  | _, _, i + 1, y, .cons _ b, e => by
    obtain ⟨x, h1, h2⟩ := paired_get' (i := i) (y := y) b (by simpa using e)
    exact ⟨x, (by simpa using h1), h2⟩
theorem paired_atI {α β : Type} {R : α → β → Prop} {xs : List α} {ys : List β} {i : Int} {y : β} (p : Paired R xs ys) (e : atI ys i = some y) : ∃ x, atI xs i = some x ∧ R x y := by
  unfold atI at e ⊢
  rw [Paired.length p]
  cases h : ixN ys.length i with
  | none => rw [h] at e; cases e
  | some j => rw [h] at e; exact paired_get' p e
def cutG {α : Type} (xs : List α) (lo hi : Option Int) : List α := (xs.drop (HT.sIx xs.length 0 lo)).take (HT.sIx xs.length xs.length hi - HT.sIx xs.length 0 lo)
theorem paired_drop {α β : Type} {R : α → β → Prop} : ∀ {xs : List α} {ys : List β} (n : Nat), Paired R xs ys → Paired R (xs.drop n) (ys.drop n)
  | _, _, 0, p => p
  | _, _, _ + 1, .nil => .nil
  | _, _, n + 1, .cons _ b => paired_drop n b
theorem paired_take {α β : Type} {R : α → β → Prop} : ∀ {xs : List α} {ys : List β} (n : Nat), Paired R xs ys → Paired R (xs.take n) (ys.take n)
  | _, _, 0, _ => .nil
  | _, _, _ + 1, .nil => .nil
  | _, _, n + 1, .cons a b => .cons a (paired_take n b)
theorem paired_cut {α β : Type} {R : α → β → Prop} {xs : List α} {ys : List β} (p : Paired R xs ys) (lo hi : Option Int) : Paired R (cutG xs lo hi) (cutG ys lo hi) := by
  unfold cutG
  rw [Paired.length p]
  exact paired_take _ (paired_drop _ p)
def mNoPart : M (Option Int) := fun _ h => .ok none h
def mPart (a : Ev) : M (Option Int) := fun ρ h => (a ρ h).bind fun v h1 => match v with
  | .im (.int i) => .ok (some i) h1
  | _ => .no
def vSlice (v : Val) (lo hi : Option Int) (h : Hs) : Res Val := match v with
  | .im (.str z) => if z.length ≤ 16777216 then .ok (.im (.str (cutS z lo hi))) h else .no
  | .im (.tuple ds) => .ok (.im (.tuple (cutG ds lo hi))) h
  | v => match itemsOf h v with
    | some vs => .ok (.ref h.length) (h ++ [.lst (cutG vs lo hi)])
    | none => .no
def eSlice (a : Ev) (l u : M (Option Int)) : Ev := fun ρ h => (a ρ h).bind fun v h1 => (l ρ h1).bind fun lo h2 => (u ρ h2).bind fun hi h3 => vSlice v lo hi h3
section
variable {X : Cx} {W : WK} {a b : Expr} {ma mb : Ev} {pos p2 : Pos}
theorem IxR.imp {X : Cx} {r r' : R2} (p : IxR X r) (h : ∀ x y H Q, r' x y H Q → r x y H Q) : IxR X r' := fun va sl pins s σ H x y v u Q I rx ry q hs => p va sl pins s σ H x y v u Q I rx ry (h _ _ _ _ q) hs
theorem i_seq : IxR X (rOf2 (cst X) W vIdx) := IxR.imp ix_seq fun x y H Q t => by
  obtain ⟨G, F, ι, h, v1, u1, R, V1, V2, D⟩ := t
  unfold vIdx at D
  split at D
  · split at D
    · rename_i hz
      split at D
      · rename_i c hc
        cases V1 with | im z1 => cases z1; cases V2 with | im z2 => cases z2; exact .inr (.inr ⟨_, _, c, rfl, rfl, by rw [SZ_eq]; exact hz, hc, fin_im R D (.str _)⟩)
      · exact D.elim
    · exact D.elim
  · rename_i k _
    split at D
    · rename_i vs ev
      split at D
      · rename_i r er
        cases V2 with
        | im z2 =>
          cases z2
          obtain ⟨p, xs, rfl, hs, P⟩ := R.items V1 ev
          obtain ⟨z, hz, Z⟩ := paired_atI P er
          have q : Q z H := D F ι H z R Ext.refl (Nat.le_refl _) Z
          rcases hs with hs | hs
          · exact .inl ⟨p, xs, k, z, rfl, rfl, hs, hz, q⟩
          · exact .inr (.inl ⟨p, xs, k, z, rfl, rfl, hs, hz, q⟩)
      · exact D.elim
    · exact D.elim
  · exact D.elim
theorem je_idx (ha : JE X W a ma) (hb : JE X W b mb) (hs : PlainIx b := by exact fun _ _ => rfl) : JE X W (.Subscript a b pos) (e2 ma mb vIdx) := PE.imp (pe_ix i_seq ha hb hs) fun _ _ _ t => two_r t
abbrev JO (X : Cx) (W : WK) (e : Option Expr) (m : M (Option Int)) : Prop := PO X e (tOf repO (cst X) W m)
theorem jo_none : JO X W none mNoPart := ⟨fun pins s σ H Q I h => (po_none (X := X)).run pins s σ H Q I (by
  obtain ⟨G, F, ι, ρ, h, R, S, D⟩ := h
  exact D F ι H _ R Ext.refl (Nat.le_refl _) rfl)⟩
theorem jo_some (h : JE X W a ma) : JO X W (some a) (mPart ma) := ⟨fun pins s σ H Q I t => (po_some h).run pins s σ H Q I (by
  obtain ⟨G, F, ι, ρ, h, R, S, D⟩ := t
  refine st1 R S D fun F1 ι1 h1 H1 x v R1 E1 l1 V1 D1 => ?_
  split at D1
  · cases V1 with | im z1 => cases z1; exact ⟨_, rfl, D1 F1 ι1 H1 _ R1 Ext.refl (Nat.le_refl _) rfl⟩
  · exact D1.elim)⟩
theorem cutV_eq (xs : List V) (lo hi : Option Int) : cutV xs lo hi = cutG xs lo hi := rfl
theorem dp_take {K : PySem.W.Frag} {F : Hp} {xs : List V} {ds : List PyData} (p : DpAll K F xs ds) (lo hi : Option Int) : DpAll K F (cutG xs lo hi) (cutG ds lo hi) := by
  have q : Paired (fun x d => Dp K F x d) xs ds := by
    induction ds generalizing xs with
    | nil => cases p; exact .nil
    | cons d ds ih => cases p with | cons a b => exact .cons a (ih b)
  have q' := paired_cut q lo hi
  revert q'
  generalize cutG xs lo hi = as
  generalize cutG ds lo hi = bs
  intro q'
  induction q' with
  | nil => exact .nil
  | cons a _ ih => exact .cons a ih
theorem cut_whole {α : Type} {xs : List α} {lo hi : Option Int} (h1 : HT.sIx xs.length 0 lo = 0) (h2 : HT.sIx xs.length xs.length hi = xs.length) : cutG xs lo hi = xs := by
  unfold cutG
  rw [h1, h2]
  simp
theorem sl_all : SlR X (fun x lo hi H Q => ∃ G F ι h v, Rel (cst X) G F ι h H ∧ RV (cst X) ι F h.length x v ∧ Done (repV (cst X)) (cst X) W G F ι h.length (vSlice v lo hi h) Q) := by
  have base := (sl_list (X := X)).or (SlR.or sl_tupA sl_str)
  intro pins s σ H x v vl vu lo hi sl Q I rx hs pl pu t
  refine base pins s σ H x v vl vu lo hi sl Q I rx hs pl pu ?_
  obtain ⟨G, F, ι, h, v1, R, V1, D⟩ := t
  unfold vSlice at D
  split at D
  · split at D
    · rename_i hz
      cases V1 with | im z1 => cases z1; exact .inr (.inr ⟨_, rfl, by rw [SZ_eq]; exact hz, fin_im R D (.str _)⟩)
    · exact D.elim
  · cases V1 with
    | im z1 =>
      cases z1 with
      | tup s1 p1 =>
        rename_i ds a xs
        refine .inr (.inl ⟨_, _, rfl, tupF R.f s1, fun ⟨w1, w2⟩ => ?_, fun _ p hp => fin_newT R D (dp_take p1 lo hi) p hp⟩)
        rw [dp_len p1] at w1 w2
        rw [cut_whole w1 w2] at D
        exact fin_im R D (.tup s1 p1)
  · rename_i hn1 hn2
    split at D
    · rename_i vs ev
      obtain ⟨p, xs, e0, hs, P⟩ := R.items V1 ev
      rcases hs with hs | hs
      · exact .inl ⟨p, xs, e0, hs, fun p hp => fin_newL R D (paired_cut P lo hi) p hp⟩
      · exfalso
        unfold itemsOf at ev
        split at ev
        · exact hn2 _ rfl
        · subst e0
          cases V1 with
          | im z1 =>
            cases z1 with
            | lst s1 p1 =>
              have t1 := I.tuple hs
              have t2 := I.list (seqF R.f s1)
              obtain ⟨its, _, ⟨o, ho, hc, _⟩, _⟩ := t1
              obtain ⟨its', _, ⟨o', n', ho', hc', _⟩, _⟩ := t2
              rw [ho] at ho'; cases ho'
              exact absurd (Value.type.inj (hc.symm.trans hc')) (by decide)
        · subst e0
          rename_i k
          cases V1 with
          | ref hk =>
            have tt := I.tuple hs
            obtain ⟨its, _, ⟨o, ho, hc, _⟩, _⟩ := tt
            split at ev
            · rename_i vs' hcell
              obtain ⟨ys, hH, _⟩ := R.at_lst hcell
              obtain ⟨its', _, ⟨o', n', ho', hc', _⟩, _⟩ := I.list (SqL.of hH)
              rw [ho] at ho'; cases ho'
              exact absurd (Value.type.inj (hc.symm.trans hc')) (by decide)
            · rename_i ds hcell
              have r := R.cell _ _ hcell
              cases r with
              | lst s1 p1 =>
                obtain ⟨its', _, ⟨o', n', ho', hc', _⟩, _⟩ := I.list (seqF R.f s1)
                rw [ho] at ho'; cases ho'
                exact absurd (Value.type.inj (hc.symm.trans hc')) (by decide)
            · cases ev
        · cases ev
    · exact D.elim
theorem je_slice {lo hi : Option Expr} {ml mu : M (Option Int)} (ha : JE X W a ma) (hl : JO X W lo ml) (hu : JO X W hi mu) : JE X W (.Subscript a (.Slice lo hi none p2) pos) (eSlice ma ml mu) := by
  refine PE.imp (pe_slice (sl_all (W := W)) ha hl hu) fun σ H Q t => ?_
  obtain ⟨G, F, ι, ρ, h, R, S, D⟩ := t
  refine st1 R S D fun F1 ι1 h1 H1 x v R1 E1 l1 V1 D1 => ?_
  have S1 := S.mono E1.le E1.ag l1
  refine st1 R1 S1 D1 fun F2 ι2 h2 H2 y u R2 E2 l2 V2 D2 => ?_
  obtain rfl : y = u := V2
  refine st1 R2 (S1.mono E2.le E2.ag l2) D2 fun F3 ι3 h3 H3 z w R3 E3 l3 V3 D3 => ?_
  obtain rfl : z = w := V3
  exact ⟨G, F3, ι3, h3, v, R3, (V1.mono E2.le E2.ag l2).mono E3.le E3.ag l3, D3⟩
end
end NT

set_option Elab.async false
set_option linter.all false
set_option maxRecDepth 100000
set_option autoImplicit false

namespace NT
open PySem PySem.Spec PyProof.Rows L2

/-! ### renaming -/
def Val.ren (f : Nat → Nat) : Val → Val
  | .im d => .im d
  | .ref k => .ref (f k)
def Cell.ren (f : Nat → Nat) : Cell → Cell
  | .lst vs => .lst (vs.map (Val.ren f))
  | .fz d => .fz d
  | .dct kvs => .dct (kvs.map fun p => (p.1, p.2.ren f))
def Val.isIm : Val → Bool
  | .im _ => true
  | .ref _ => false
def Cell.flat : Cell → Bool
  | .lst vs => vs.all Val.isIm
  | .fz _ => true
  | .dct kvs => kvs.all fun p => p.2.isIm
theorem Cell.ren_live {f : Nat → Nat} {c : Cell} : (c.ren f).live = c.live := by cases c <;> rfl
abbrev Fn := List Val → Hs → Res Val
/-- the arguments' own cells, numbered from n -/
def isol (h : Hs) : List Val → Nat → Option (List Val × List Nat)
  | [], _ => some ([], [])
  | .im d :: r, n => (isol h r n).map fun p => (.im d :: p.1, p.2)
  | .ref k :: r, n => match h[k]? with
    | some (.fz d) => (isol h r n).map fun p => (.im d :: p.1, p.2)
    | some c => if c.flat = true then (isol h r (n + 1)).map fun p => (.ref n :: p.1, k :: p.2) else none
    | none => none
def wrs : List Nat → List Cell → Hs → Hs
  | k :: ks, c :: cs, h => wrs ks cs (h.set k c)
  | _, _, h => h
def backI (rs : List Nat) (n : Nat) (k : Nat) : Nat := if k < rs.length then rs.getD k 0 else n + (k - rs.length)
def cellsAt (h : Hs) (rs : List Nat) : Hs := rs.map fun k => h.getD k (.fz .none)
open Classical in
noncomputable def callFn (s : Fn) (vs : List Val) (h : Hs) : Res Val := match isol h vs 0 with
  | some (vs', rs) => if rs.Nodup then (s vs' (cellsAt h rs)).bind fun v h' =>
      .ok (v.ren (backI rs h.length)) (wrs rs ((h'.take rs.length).map (Cell.ren (backI rs h.length))) h ++ (h'.drop rs.length).map (Cell.ren (backI rs h.length))) else .no
  | none => .no

section
variable {C : Cst} {W : WK} {G F F' : Hp} {ι ι' ι2 : Nat → Addr} {n n' m q : Nat} {h h' : Hs} {H H' : Hp} {σ : L2.St} {ρ : En} {Q : VK}
theorem RV.ren {f : Nat → Nat} {x : V} {v : Val} (r : RV C ι F n x v) (hf : ∀ k, k < n → f k < n' ∧ ι' (f k) = ι k) : RV C ι' F n' x (v.ren f) := by
  cases r with
  | im z => exact .im z
  | @ref k hk =>
    obtain ⟨h1, h2⟩ := hf k hk
    rw [← h2]
    exact .ref h1
theorem Paired.mapR {α β γ : Type} {R : α → β → Prop} {S : α → γ → Prop} {g : β → γ} (hg : ∀ a b, R a b → S a (g b)) : ∀ {xs : List α} {ys : List β}, Paired R xs ys → Paired S xs (ys.map g)
  | _, _, .nil => .nil
  | _, _, .cons a b => .cons (hg _ _ a) (Paired.mapR hg b)
theorem CellR.ren {f : Nat → Nat} {a : Addr} {o : Option HO} {c : Cell} (r : CellR C ι F n a o c) (hf : ∀ k, k < n → f k < n' ∧ ι' (f k) = ι k) : CellR C ι' F n' a o (c.ren f) := by
  cases c with
  | lst vs => obtain ⟨xs, e, p⟩ := r; exact ⟨xs, e, Paired.mapR (fun _ _ z => z.ren hf) p⟩
  | fz d => exact r
  | dct kvs =>
    obtain ⟨L, e, z, p⟩ := r
    exact ⟨L, e, z, Paired.mapR (fun _ _ z => ⟨z.1, z.2.1.ren hf, z.2.2⟩) p⟩
theorem RV.flat {x : V} {v : Val} (r : RV C ι F n x v) (hv : v.isIm = true) : RV C ι' F n' x v := by
  cases r with
  | im z => exact .im z
  | ref _ => cases hv
theorem Paired.mem {α β : Type} {R S : α → β → Prop} : ∀ {xs : List α} {ys : List β}, Paired R xs ys → (∀ a b, b ∈ ys → R a b → S a b) → Paired S xs ys
  | _, _, .nil, _ => .nil
  | _, _, .cons a b, k => .cons (k _ _ List.mem_cons_self a) (Paired.mem b fun c d hd => k c d (List.mem_cons_of_mem _ hd))
theorem CellR.flat {a : Addr} {o : Option HO} {c : Cell} (r : CellR C ι F n a o c) (hc : c.flat = true) : CellR C ι' F n' a o c := by
  cases c with
  | lst vs =>
    obtain ⟨xs, e, p⟩ := r
    have hc' : vs.all Val.isIm = true := hc
    exact ⟨xs, e, Paired.mem p fun _ b hb z => z.flat (List.all_eq_true.mp hc' b hb)⟩
  | fz d => exact r
  | dct kvs =>
    obtain ⟨L, e, z, p⟩ := r
    have hc' : (kvs.all fun p => p.2.isIm) = true := hc
    exact ⟨L, e, z, Paired.mem p fun _ b hb z => ⟨z.1, z.2.1.flat (List.all_eq_true.mp hc' b hb), z.2.2⟩⟩
theorem isol_ok : ∀ {vs : List Val} {n : Nat} {vs' : List Val} {rs : List Nat}, isol h vs n = some (vs', rs) → ∀ k ∈ rs, ∃ c, h[k]? = some c ∧ c.flat = true ∧ c.live = true
  | [], n, vs', rs, e => by cases e; intro k hk; cases hk
  | .im d :: r, n, vs', rs, e => by
    simp only [isol] at e
    cases e1 : isol h r n with
    | none => rw [e1] at e; cases e
    | some p => rw [e1] at e; cases e; exact isol_ok (vs' := p.1) e1
  | .ref j :: r, n, vs', rs, e => by
    simp only [isol] at e
    split at e
    · cases e1 : isol h r n with
      | none => rw [e1] at e; cases e
      | some p => rw [e1] at e; cases e; exact isol_ok (vs' := p.1) e1
    · rename_i c hc hj
      split at e
      · rename_i hf
        cases e1 : isol h r (n + 1) with
        | none => rw [e1] at e; cases e
        | some p =>
          rw [e1] at e; cases e
          intro k hk
          rcases List.mem_cons.mp hk with rfl | hk
          · refine ⟨c, hj, hf, ?_⟩
            cases c with
            | fz d => exact (hc d rfl).elim
            | lst _ => rfl
            | dct _ => rfl
          · exact isol_ok (vs' := p.1) e1 k hk
      · cases e
    · cases e
theorem isol_vals {ι0 : Nat → Addr} {m : Nat} (R : Rel C G F ι h H) : ∀ {vs : List Val} {xs : List V} {n : Nat} {vs' : List Val} {rs : List Nat}, isol h vs n = some (vs', rs) → Paired (RV C ι F h.length) xs vs →
    (∀ i, i < rs.length → ι0 (n + i) = ι (rs.getD i 0)) → n + rs.length ≤ m → Paired (RV C ι0 F m) xs vs'
  | [], _, n, vs', rs, e, p, _, _ => by cases e; cases p; exact .nil
  | .im d :: r, _, n, vs', rs, e, p, hi, hm => by
    simp only [isol] at e
    cases e1 : isol h r n with
    | none => rw [e1] at e; cases e
    | some q =>
      rw [e1] at e; cases e
      cases p with
      | cons a b => exact .cons (a.flat rfl) (isol_vals R (vs' := q.1) (rs := q.2) e1 b hi hm)
  | .ref j :: r, _, n, vs', rs, e, p, hi, hm => by
    simp only [isol] at e
    cases p with
    | cons a b =>
      cases a with
      | ref hj =>
        split at e
        · rename_i d hc
          cases e1 : isol h r n with
          | none => rw [e1] at e; cases e
          | some q => rw [e1] at e; cases e; exact .cons (.im (R.cell j _ hc)) (isol_vals R (vs' := q.1) (rs := q.2) e1 b hi hm)
        · split at e
          · cases e1 : isol h r (n + 1) with
            | none => rw [e1] at e; cases e
            | some q =>
              rw [e1] at e; cases e
              have h0 := hi 0 (by simp)
              simp only [Nat.add_zero, List.getD_cons_zero] at h0
              refine .cons ?_ (isol_vals R (vs' := q.1) (rs := q.2) e1 b (fun i hl => ?_) ?_)
              · rw [← h0]; exact .ref (by simp only [List.length_cons] at hm; omega)
              · have := hi (i + 1) (by simp only [List.length_cons]; omega)
                simp only [List.getD_cons_succ] at this
                rw [show n + 1 + i = n + (i + 1) by omega]
                exact this
              · simp only [List.length_cons] at hm; omega
          · cases e
        · cases e
theorem wrs_length : ∀ (rs : List Nat) (cs : List Cell) (h : Hs), (wrs rs cs h).length = h.length
  | [], _, _ => rfl
  | _ :: _, [], _ => rfl
  | k :: ks, c :: cs, h => by rw [wrs, wrs_length ks cs, List.length_set]
theorem wrs_out : ∀ {rs : List Nat} {cs : List Cell} {h : Hs} {i : Nat}, i ∉ rs → (wrs rs cs h)[i]? = h[i]?
  | [], _, _, _, _ => rfl
  | _ :: _, [], _, _, _ => rfl
  | k :: ks, c :: cs, h, i, hi => by
    rw [wrs, wrs_out (fun z => hi (List.mem_cons_of_mem _ z)), List.getElem?_set_ne (fun z => hi (by rw [z]; exact List.mem_cons_self))]
theorem wrs_at : ∀ {rs : List Nat} {cs : List Cell} {h : Hs} {j : Nat} {k : Nat}, rs.Nodup → rs[j]? = some k → k < h.length → cs.length = rs.length → (wrs rs cs h)[k]? = cs[j]?
  | [], _, _, _, _, _, e, _, _ => by simp at e
  | _ :: _, [], _, _, _, _, _, _, e => by simp at e
  | a :: ks, c :: cs, h, 0, k, nd, e, hk, hl => by
    simp at e; subst e
    rw [wrs, wrs_out (List.nodup_cons.mp nd).1, List.getElem?_set_self hk]
    rfl
  | a :: ks, c :: cs, h, j + 1, k, nd, e, hk, hl => by
    rw [wrs, wrs_at (j := j) (List.nodup_cons.mp nd).2 (by simpa using e) (by simpa using hk) (by simpa using hl)]
    simp
theorem mem_get {rs : List Nat} {k : Nat} (h : k ∈ rs) : ∃ j, rs[j]? = some k ∧ j < rs.length := by
  obtain ⟨j, hj⟩ := List.mem_iff_getElem?.mp h
  exact ⟨j, hj, (List.getElem?_eq_some_iff.mp hj).1⟩
theorem getD_of {rs : List Nat} {j k : Nat} (h : rs[j]? = some k) : rs.getD j 0 = k := by simp [List.getD, h]
theorem get_getD {rs : List Nat} {j : Nat} (h : j < rs.length) : rs[j]? = some (rs.getD j 0) := by simp [List.getD, h]

/-- THE CALL -/
theorem call_rel {s : Fn} {xs : List V} {vs : List Val} (R : Rel C G F ι h H) (V : Paired (RV C ι F h.length) xs vs) (D : Done (repV C) C W G F ι h.length (callFn s vs h) Q) :
    ∃ G0 F0 ι0 h0 vs', Rel C G0 F0 ι0 h0 H ∧ Paired (RV C ι0 F0 h0.length) xs vs' ∧ Done (repV C) C W G0 F0 ι0 h0.length (s vs' h0) Q := by
  unfold callFn at D
  cases ei : isol h vs 0 with
  | none => rw [ei] at D; exact D.elim
  | some pr =>
  obtain ⟨vs', rs⟩ := pr
  rw [ei] at D
  by_cases nd : rs.Nodup
  case neg => simp only [if_neg nd] at D; exact D.elim
  simp only [if_pos nd] at D
  have hrs := isol_ok ei
  have hlt : ∀ k ∈ rs, k < h.length := fun k hk => let ⟨c, e, _⟩ := hrs k hk; (List.getElem?_eq_some_iff.mp e).1
  have hmem : ∀ {j : Nat}, j < rs.length → rs.getD j 0 ∈ rs := fun {j} hj => List.mem_of_getElem? (get_getD hj)
  -- the callee's side
  let G0 : Hp := fun b => open Classical in if ∃ k ∈ rs, b = ι k then none else H b
  let ι0 : Nat → Addr := fun i => ι (rs.getD i 0)
  have G0in : ∀ {k}, k ∈ rs → G0 (ι k) = none := fun {k} hk => if_pos ⟨k, hk, rfl⟩
  have G0out : ∀ {b}, (¬ ∃ k ∈ rs, b = ι k) → G0 b = H b := fun {b} hb => if_neg hb
  have G0le : ∀ b o, G0 b = some o → H b = some o := fun b o e => by
    by_cases hb : ∃ k ∈ rs, b = ι k
    · have z : G0 b = none := if_pos hb
      rw [z] at e; cases e
    · rw [G0out hb] at e; exact e
  have GG0 : ∀ b o, G b = some o → G0 b = some o := fun b o e => by
    rw [G0out fun ⟨k, hk, z⟩ => by
      obtain ⟨c, e1, _, l1⟩ := hrs k hk
      rw [z, R.gl k c e1 l1] at e; cases e]
    exact R.g b o e
  have cl : (cellsAt h rs).length = rs.length := by simp [cellsAt]
  have cget : ∀ {i : Nat} {c : Cell}, (cellsAt h rs)[i]? = some c → i < rs.length ∧ h[rs.getD i 0]? = some c ∧ c.flat = true := fun {i c} e => by
    have hi : i < rs.length := by rw [← cl]; exact (List.getElem?_eq_some_iff.mp e).1
    obtain ⟨c', e1, f1, _⟩ := hrs _ (hmem hi)
    have : (cellsAt h rs)[i]? = some (h.getD (rs.getD i 0) (.fz .none)) := by
      unfold cellsAt
      rw [List.getElem?_map, get_getD hi]
      rfl
    rw [this] at e
    have e2 : h.getD (rs.getD i 0) (.fz .none) = c' := by rw [List.getD_eq_getElem?_getD, e1]; rfl
    rw [e2] at e; cases e
    exact ⟨hi, e1, f1⟩
  have injR : ∀ {i j : Nat}, i < rs.length → j < rs.length → rs.getD i 0 = rs.getD j 0 → i = j := fun {i j} hi hj e => by
    have e1 := get_getD hi
    have e2 := get_getD hj
    rw [e, ← e2] at e1
    exact (List.getElem?_inj hi nd).mp e1
  have R0 : Rel C G0 F ι0 (cellsAt h rs) H := by
    refine ⟨G0le, R.f, fun i j c c' e1 e2 l1 l2 z => ?_, fun i c e l => ?_, fun i c e l => ?_, fun i c e => ?_⟩
    · obtain ⟨h1, g1, _⟩ := cget e1
      obtain ⟨h2, g2, _⟩ := cget e2
      exact injR h1 h2 (R.inj _ _ c c' g1 g2 l1 l2 z)
    · exact G0in (hmem (cget e).1)
    · exact R.fl _ c (cget e).2.1 l
    · exact CellR.flat (R.cell _ c (cget e).2.1) (cget e).2.2
  refine ⟨G0, F, ι0, cellsAt h rs, vs', R0, isol_vals R ei V (fun i hi => by rw [Nat.zero_add]) (by rw [cl]; omega), ?_⟩
  cases es : s vs' (cellsAt h rs) with
  | no => rw [es] at D; exact D
  | er c => rw [es] at D; exact fun H' k => D H' fun b o e => k b o (GG0 b o e)
  | ok v h' =>
    rw [es] at D
    intro F' ι' H' x R' E' l' V'
    rw [cl] at l' E'
    let ι2 : Nat → Addr := fun i => if i < h.length then ι i else ι' (i - h.length + rs.length)
    have ι2o : ∀ {i}, i < h.length → ι2 i = ι i := fun hi => if_pos hi
    have ι2n : ∀ {i}, ¬ i < h.length → ι2 i = ι' (i - h.length + rs.length) := fun hi => if_neg hi
    have l2 : (wrs rs ((h'.take rs.length).map (Cell.ren (backI rs h.length))) h ++ (h'.drop rs.length).map (Cell.ren (backI rs h.length))).length = h.length + (h'.length - rs.length) := by
      rw [List.length_append, wrs_length, List.length_map, List.length_drop]
    have bk : ∀ k, k < h'.length → backI rs h.length k < h.length + (h'.length - rs.length) ∧ ι2 (backI rs h.length k) = ι' k := fun k hk => by
      unfold backI
      by_cases hr : k < rs.length
      · rw [if_pos hr]
        have := hlt _ (hmem hr)
        refine ⟨by omega, ?_⟩
        rw [ι2o this, E'.ag k hr]
      · rw [if_neg hr]
        refine ⟨by omega, ?_⟩
        rw [ι2n (by omega)]
        congr 1
        omega
    have bki : ∀ {j k : Nat}, j < h'.length → k < h'.length → backI rs h.length j = backI rs h.length k → j = k := fun {j k} hj hk e => by
      unfold backI at e
      by_cases h1 : j < rs.length
      · rw [if_pos h1] at e
        by_cases h2 : k < rs.length
        · rw [if_pos h2] at e; exact injR h1 h2 e
        · rw [if_neg h2] at e
          have := hlt _ (hmem h1)
          omega
      · rw [if_neg h1] at e
        by_cases h2 : k < rs.length
        · rw [if_pos h2] at e
          have := hlt _ (hmem h2)
          omega
        · rw [if_neg h2] at e; omega
    -- every cell behind the call: the callee's, or an old one
    have cases' : ∀ {i : Nat} {c : Cell}, (wrs rs ((h'.take rs.length).map (Cell.ren (backI rs h.length))) h ++ (h'.drop rs.length).map (Cell.ren (backI rs h.length)))[i]? = some c →
        (∃ j c0, h'[j]? = some c0 ∧ c = c0.ren (backI rs h.length) ∧ i = backI rs h.length j) ∨ (i < h.length ∧ i ∉ rs ∧ h[i]? = some c) := fun {i c} e => by
      by_cases hi : i < h.length
      · rw [List.getElem?_append_left (by rw [wrs_length]; exact hi)] at e
        by_cases hm : i ∈ rs
        · obtain ⟨j, hj, hjl⟩ := mem_get hm
          rw [wrs_at nd hj hi (by rw [List.length_map, List.length_take]; omega), List.getElem?_map, List.getElem?_take_of_lt hjl] at e
          cases e1 : h'[j]? with
          | none => rw [e1] at e; cases e
          | some c0 =>
            rw [e1] at e
            cases e
            refine .inl ⟨j, c0, e1, rfl, ?_⟩
            unfold backI
            rw [if_pos hjl, getD_of hj]
        · rw [wrs_out hm] at e
          exact .inr ⟨hi, hm, e⟩
      · rw [List.getElem?_append_right (by rw [wrs_length]; omega), wrs_length, List.getElem?_map, List.getElem?_drop] at e
        cases e1 : h'[rs.length + (i - h.length)]? with
        | none => rw [e1] at e; cases e
        | some c0 =>
          rw [e1] at e
          cases e
          refine .inl ⟨_, c0, e1, rfl, ?_⟩
          unfold backI
          rw [if_neg (by omega)]
          omega
    have notIn : ∀ {i : Nat} {c : Cell}, i ∉ rs → h[i]? = some c → c.live = true → ¬ ∃ k ∈ rs, ι i = ι k := fun {i c} hi e l ⟨k, hk, z⟩ => by
      obtain ⟨c', e1, _, l1⟩ := hrs k hk
      exact hi (by rw [R.inj i k c c' e e1 l l1 z]; exact hk)
    have oldG : ∀ {i : Nat} {c : Cell}, i ∉ rs → h[i]? = some c → c.live = true → ∃ o, H (ι i) = some o ∧ G0 (ι i) = some o := fun {i c} hi e l => by
      obtain ⟨o, ho⟩ := R.there e l
      exact ⟨o, ho, by rw [G0out (notIn hi e l)]; exact ho⟩
    refine D F' ι2 H' x ?_ ⟨E'.le, fun i hi => ι2o hi, fun b hb => E'.out b ?_⟩ (by rw [l2]; omega) (by rw [l2]; exact V'.ren bk)
    · refine ⟨fun b o e => R'.g b o (GG0 b o e), R'.f, fun i j c c' e1 e2 k1 k2 z => ?_, fun i c e k => ?_, fun i c e k => ?_, fun i c e => ?_⟩
      · rcases cases' e1 with ⟨a, c0, f1, g1, b1⟩ | ⟨a1, a2, a3⟩
        · have ha := (List.getElem?_eq_some_iff.mp f1).1
          rw [g1, Cell.ren_live] at k1
          rcases cases' e2 with ⟨a', c0', f2, g2, b2⟩ | ⟨b1', b2', b3'⟩
          · have ha' := (List.getElem?_eq_some_iff.mp f2).1
            rw [g2, Cell.ren_live] at k2
            rw [b1, b2, (bk a ha).2, (bk a' ha').2] at z
            rw [b1, b2, R'.inj a a' c0 c0' f1 f2 k1 k2 z]
          · obtain ⟨o, _, ho⟩ := oldG b2' b3' k2
            rw [b1, (bk a ha).2, ι2o b1'] at z
            have := R'.gl a c0 f1 k1
            rw [z, ho] at this; cases this
        · rcases cases' e2 with ⟨a', c0', f2, g2, b2⟩ | ⟨b1', b2', b3'⟩
          · have ha' := (List.getElem?_eq_some_iff.mp f2).1
            rw [g2, Cell.ren_live] at k2
            obtain ⟨o, _, ho⟩ := oldG a2 a3 k1
            rw [b2, (bk a' ha').2, ι2o a1] at z
            have := R'.gl a' c0' f2 k2
            rw [← z, ho] at this; cases this
          · rw [ι2o a1, ι2o b1'] at z
            exact R.inj i j c c' a3 b3' k1 k2 z
      · rcases cases' e with ⟨a, c0, f1, g1, b1⟩ | ⟨a1, a2, a3⟩
        · have ha := (List.getElem?_eq_some_iff.mp f1).1
          rw [g1, Cell.ren_live] at k
          rw [b1, (bk a ha).2]
          cases eg : G (ι' a) with
          | none => rfl
          | some o =>
            have := R'.gl a c0 f1 k
            rw [GG0 _ o eg] at this; cases this
        · rw [ι2o a1]; exact R.gl i c a3 k
      · rcases cases' e with ⟨a, c0, f1, g1, b1⟩ | ⟨a1, a2, a3⟩
        · have ha := (List.getElem?_eq_some_iff.mp f1).1
          rw [g1, Cell.ren_live] at k
          rw [b1, (bk a ha).2]
          exact R'.fl a c0 f1 k
        · obtain ⟨o, _, ho⟩ := oldG a2 a3 k
          rw [ι2o a1, E'.out _ (by rw [ho]; exact fun z => nomatch z)]
          exact R.fl i c a3 k
      · rw [l2]
        rcases cases' e with ⟨a, c0, f1, g1, b1⟩ | ⟨a1, a2, a3⟩
        · have ha := (List.getElem?_eq_some_iff.mp f1).1
          rw [b1, g1, (bk a ha).2]
          exact CellR.ren (R'.cell a c0 f1) bk
        · rw [ι2o a1]
          refine CellR.at' (CellR.mono (R.cell i c a3) E'.le (fun j hj => ι2o hj) (Nat.le_add_right _ _)) fun k => ?_
          obtain ⟨o, h1, h2⟩ := oldG a2 a3 k
          rw [h1]
          exact R'.g _ o h2
    · cases eg : G b with
      | none => exact (hb eg).elim
      | some o => rw [GG0 b o eg]; exact fun z => nomatch z
end

/-! ### a def's promise -/
def wOf (mg : Str → Option Value) (E : XK) : WK := fun c H => ∀ Ca, mg c = some (.ref Ca) → E (.ref Ca) none H
def spOf (n : Nat) (C : Cst) (mg : Str → Option Value) (s : Fn) : Sp := fun vs H Q E => vs.length = n ∧ ∃ G F ι h args, Rel C G F ι h H ∧ Paired (RV C ι F h.length) vs args ∧ Done (repV C) C (wOf mg E) G F ι h.length (s args h) Q
noncomputable def eCall (n : Nat) (s : Fn) (m : M (List Val)) : Ev := fun ρ h => (m ρ h).bind fun vs h1 => if vs.length = n then callFn s vs h1 else .no
/-- a def keeps its promise wherever no repr is under way (the layer's FnOk with that one premise more) -/
structure Good (P : Program) (w : World) (K : PySem.W.Frag) (mg : Str → Option Value) (base : Heap) (k : Nat) (f : Addr) (fd : FuncData) (ps : List Str) (s : Fn) : Prop where
  run : ∀ (A : Around) (outer : List Env) (sh : Shared) (H : Hp) (args : Args) (us : List Value) (vs : List V) (Q : VK) (E : XK), Room k A → A.guards = some [] → Env0 P w K mg base A outer sh H → BindsTo sh fd args (ps.zip us) → Vals vs us →
    spOf ps.length ⟨P, w, K⟩ mg s vs H Q E → codeAny (model P w) A (.call (.ref f) args) (CR (L2.CX P w) outer P w H sh Q E) sh
theorem Good.mono {P : Program} {w : World} {K : PySem.W.Frag} {mg : Str → Option Value} {base : Heap} {j k : Nat} {f : Addr} {fd : FuncData} {ps : List Str} {s : Fn} (F : Good P w K mg base j f fd ps s) (h : j ≤ k) : Good P w K mg base k f fd ps s :=
  ⟨fun A outer sh H args us vs Q E hr => F.run A outer sh H args us vs Q E (hr.mono h)⟩
section
variable {X : Cx} {W : WK} {k : Nat} {f : Addr} {fd : FuncData} {ps : List Str} {s : Fn} {x : Str} {p pos : Pos} {e : Expr} {es : List Expr} {ms : M (List Val)}
def exW (X : Cx) (W : WK) : XK := fun cls d H => ∃ c Ca, X.mg c = some (.ref Ca) ∧ cls = .ref Ca ∧ d = none ∧ W c H
theorem Ctx.passes (K : Ctx X W) : Passes (L2.CX X.prog X.w) X (exW X W) := passes_call K.tk fun _ _ _ _ h => h
theorem call_sp {mg : Str → Option Value} {n : Nat} {σ : L2.St} {H : Hp} {Q : VK} (hmg : X.mg = mg) (t : tOf (repV (cst X)) (cst X) W (eCall n s ms) σ H Q) :
    tOf (repL (cst X)) (cst X) W ms σ H fun vs H1 => spOf n (cst X) mg s (vs ++ []) H1 Q (exW X W) := by
  obtain ⟨G, F, ι, ρ, h, R, S, D⟩ := t
  refine st1 R S D fun F1 ι1 h1 H1 xs vs R1 E1 l1 V1 D1 => ?_
  have V1' : Paired (RV (cst X) ι1 F1 h1.length) xs vs := V1
  split at D1
  · rename_i hn
    obtain ⟨G0, F0, ι0, h00, vs', R0, P0, D0⟩ := call_rel R1 V1' D1
    refine ⟨by rw [List.append_nil, Paired.length V1', hn], G0, F0, ι0, h00, vs', R0, by rw [List.append_nil]; exact P0, ?_⟩
    cases es' : s vs' h00 with
    | no => rw [es'] at D0; exact D0
    | ok v h' => rw [es'] at D0; exact D0
    | er c => rw [es'] at D0; exact fun H' k Ca hc => ⟨c, Ca, by rw [hmg]; exact hc, rfl, rfl, D0 H' k⟩
  · exact D1.elim
theorem good_runs {pins : List (Addr × Obj)} {σ : L2.St} {H : Hp} {sh : Shared} {Q : VK} {us : List Value} {vs : List V} (K : Ctx X W) (F : Good X.prog X.w X.K X.mg X.base k f fd ps s) (hr : Room k X.A) (hb : Binds X.K fd ps [])
    (I : Inv X pins σ H sh) (rv : Vals vs us) (q : spOf ps.length (cst X) X.mg s vs H Q (exW X W)) : wpAny (model X.prog X.w) X.A (call (.ref f) us) (EP X pins σ Q) X.xe sh := by
  have many : (us ++ []).length = ps.length := by rw [List.append_nil, ← rv.length]; exact q.1
  have bind0 := hb sh us I.kIn many
  rw [List.append_nil] at bind0
  refine wpAny_call (codeAny_mono (F.run X.A X.stack sh H ⟨us, []⟩ us vs Q (exW X W) hr K.gd I.env0 bind0 rv q) ?_)
  rintro (er | fl) s2 z
  · exact K.passes pins σ H sh er s2 I z
  · cases fl with
    | ret u => exact I.after z
    | next | brk | cont => exact z.elim
theorem je_call (K : Ctx X W) (F : Good X.prog X.w X.K X.mg X.base k f fd ps s) (hr : Room k X.A) (hg : Gl X x) (hm : X.mg x = some (.ref f)) (hk : PySem.W.keepIn X.K (.ref f) = true) (hb : Binds X.K fd ps [])
    (ha : JA X W (e :: es) ms) (hdb : (x == ("__debug__" : Str)) = false := by decide) (he : starEach (e :: es) X.env = (false, eval e X.env) :: starEach es X.env := by rfl) (hpl : (backTo pos (starEach es X.env)).any (·.1) = false := by rfl) :
    JE X W (.Call (.Name x p) (e :: es) [] pos) (eCall ps.length s ms) := ⟨fun pins sh σ H Q I t => by
  have t' := call_sp (W := W) rfl t
  refine wpAny_Call_Name_kw (ld_glob I hg hm (PySem.W.callWith_K (h₀ := X.base) I.ok.mod.kin hk (thn (ha.run pos pins sh σ H _ I t') ?_) he hpl) hdb)
  rintro us s1 ⟨vs, H1, J, rv, q⟩
  rw [List.append_nil] at q
  exact ⟨J.kIn, good_runs K F hr hb J rv q⟩⟩
theorem je_call0 (K : Ctx X W) (F : Good X.prog X.w X.K X.mg X.base k f fd ps s) (hr : Room k X.A) (hg : Gl X x) (hm : X.mg x = some (.ref f)) (hk : PySem.W.keepIn X.K (.ref f) = true) (hb : Binds X.K fd ps [])
    (hdb : (x == ("__debug__" : Str)) = false := by decide) : JE X W (.Call (.Name x p) [] [] pos) (eCall ps.length s mNil) := ⟨fun pins sh σ H Q I t => by
  obtain ⟨G, F1, ι, ρ, h, R, S, D⟩ := call_sp (W := W) rfl t
  have q : spOf ps.length (cst X) X.mg s [] H Q (exW X W) := D F1 ι H [] R Ext.refl (Nat.le_refl _) .nil
  exact wpAny_Call_Name_kw (ld_glob I hg hm (PySem.W.callWith_K0 I.kIn hk (good_runs (us := []) K F hr hb I .nil q)) hdb)⟩
end
end NT

set_option Elab.async false
set_option linter.all false
set_option maxRecDepth 100000
set_option autoImplicit false

namespace NT
open PySem PySem.Spec PyProof.Rows L2

/-! ### statements -/
inductive RS where
  | nx (ρ : En) (h : Hs)
  | rt (v : Val) (h : Hs)
  | bk (ρ : En) (h : Hs)
  | ct (ρ : En) (h : Hs)
  | er (c : Str)
  | no
abbrev SM := Nat → En → Hs → RS
def After (C : Cst) (G F : Hp) (ι : Nat → Addr) (p : Nat) (ρ' : En) (h' : Hs) (Q : L2.St → Hp → Prop) : Prop :=
  ∀ F' ι' H' σ', Rel C G F' ι' h' H' → Ext G F ι p F' ι' → p ≤ h'.length → SR C ι' F' h'.length σ' ρ' → Q σ' H'
def DoneS (C : Cst) (W : WK) (G F : Hp) (ι : Nat → Addr) (p : Nat) (r : RS) (D : Ends) : Prop := match r with
  | .nx ρ' h' => After C G F ι p ρ' h' D.nx
  | .rt v h' => ∀ F' ι' H' x, Rel C G F' ι' h' H' → Ext G F ι p F' ι' → p ≤ h'.length → RV C ι' F' h'.length x v → D.rt x H'
  | .bk ρ' h' => After C G F ι p ρ' h' D.bk
  | .ct ρ' h' => After C G F ι p ρ' h' D.ct
  | .er c => ∀ H', (∀ b o, G b = some o → H' b = some o) → W c H'
  | .no => False
def tOfS (C : Cst) (W : WK) (m : SM) : TS := fun D σ H => ∃ G F ι p ρ h, Rel C G F ι h H ∧ SR C ι F h.length σ ρ ∧ p ≤ h.length ∧ DoneS C W G F ι p (m p ρ h) D
abbrev JS (X : Cx) (W : WK) (s : Stmt) (m : SM) : Prop := PS X s (tOfS (cst X) W m)
abbrev JSs (X : Cx) (W : WK) (s : List Stmt) (m : SM) : Prop := PSs X s (tOfS (cst X) W m)
def sNil : SM := fun _ ρ h => .nx ρ h
def sSeq (a b : SM) : SM := fun p ρ h => match a p ρ h with
  | .nx ρ' h' => b p ρ' h'
  | r => r
/-- cells from k on dropped, where nothing below asks for them -/
def trunc (k : Nat) (h : Hs) : Hs := if (h.take k).all (Cell.below k) = true then h.take k else h
def sExpr (a : Ev) : SM := fun _ ρ h => match a ρ h with
  | .ok _ h1 => .nx ρ (trunc h.length h1)
  | .er c => .er c
  | .no => .no
def sRet (a : Ev) : SM := fun _ ρ h => match a ρ h with
  | .ok v h1 => .rt v h1
  | .er c => .er c
  | .no => .no
def sRetN : SM := fun _ _ h => .rt (.im .none) h
def sIf (c : M Bool) (a b : SM) : SM := fun p ρ h => match c ρ h with
  | .ok k h1 => if k = true then a p ρ (trunc h.length h1) else b p ρ (trunc h.length h1)
  | .er c => .er c
  | .no => .no
def sPass : SM := sNil
def sBreak : SM := fun _ ρ h => .bk ρ h
def sCont : SM := fun _ ρ h => .ct ρ h
section
variable {α β : Type} {A : Rp α β} {C : Cst} {W : WK} {G F F' : Hp} {ι ι' : Nat → Addr} {n p q : Nat} {h h' : Hs} {H H' : Hp} {σ σ' : L2.St} {ρ ρ' : En}
theorem After.mono {Q : L2.St → Hp → Prop} (a : After C G F ι p ρ' h' Q) (e : Ext G F ι p F' ι') : After C G F' ι' p ρ' h' Q := fun F2 ι2 H2 σ2 R E l S => a F2 ι2 H2 σ2 R (e.trans E (Nat.le_refl _)) l S
theorem DoneS.mono {r : RS} {D : Ends} (d : DoneS C W G F ι p r D) (e : Ext G F ι p F' ι') : DoneS C W G F' ι' p r D := by
  cases r with
  | nx ρ' h' => exact After.mono d e
  | rt v h' => exact fun F2 ι2 H2 x R E l z => d F2 ι2 H2 x R (e.trans E (Nat.le_refl _)) l z
  | bk ρ' h' => exact After.mono d e
  | ct ρ' h' => exact After.mono d e
  | er c => exact d
  | no => exact d
theorem tOfS.at {m : SM} {D : Ends} (R : Rel C G F ι h H) (S : SR C ι F h.length σ ρ) (hp : p ≤ h.length) (d : DoneS C W G F ι p (m p ρ h) D) : tOfS C W m D σ H := ⟨G, F, ι, p, ρ, h, R, S, hp, d⟩
theorem RV.below {x : V} {v : Val} {k : Nat} (r : RV C ι F n x v) (b : v.below k = true) : RV C ι F k x v := by
  cases r with
  | im z => exact .im z
  | ref _ => exact .ref (of_decide_eq_true b)
theorem CellR.below {a : Addr} {o : Option HO} {c : Cell} {k : Nat} (r : CellR C ι F n a o c) (b : c.below k = true) : CellR C ι F k a o c := by
  cases c with
  | lst vs =>
    obtain ⟨xs, e, p⟩ := r
    have hb : vs.all (Val.below k) = true := b
    exact ⟨xs, e, Paired.mem p fun _ w hw z => z.below (List.all_eq_true.mp hb w hw)⟩
  | fz d => exact r
  | dct kvs =>
    obtain ⟨L, e, z, p⟩ := r
    have hb : (kvs.all fun p => p.2.below k) = true := b
    exact ⟨L, e, z, Paired.mem p fun _ w hw z => ⟨z.1, z.2.1.below (List.all_eq_true.mp hb w hw), z.2.2⟩⟩
theorem take_get {α : Type} {l : List α} {k i : Nat} {a : α} (e : (l.take k)[i]? = some a) : i < k ∧ l[i]? = some a := by
  by_cases hi : i < k
  · rw [List.getElem?_take_of_lt hi] at e; exact ⟨hi, e⟩
  · rw [List.getElem?_eq_none (by rw [List.length_take]; omega)] at e; cases e
theorem Rel.take {k : Nat} (R : Rel C G F ι h H) (hk : k ≤ h.length) (b : (h.take k).all (Cell.below k) = true) : Rel C G F ι (h.take k) H := by
  refine ⟨R.g, R.f, fun i j c c' e1 e2 l1 l2 z => R.inj i j c c' (take_get e1).2 (take_get e2).2 l1 l2 z, fun i c e l => R.gl i c (take_get e).2 l, fun i c e l => R.fl i c (take_get e).2 l, fun i c e => ?_⟩
  rw [List.length_take, Nat.min_eq_left hk]
  exact CellR.below (R.cell i c (take_get e).2) (List.all_eq_true.mp b c (List.mem_of_getElem? e))
theorem trunc_len {k : Nat} (hk : k ≤ h.length) : k ≤ (trunc k h).length := by
  unfold trunc
  split
  · rw [List.length_take, Nat.min_eq_left hk]; exact Nat.le_refl _
  · exact hk
theorem Rel.trunc {k : Nat} (R : Rel C G F ι h H) (hk : k ≤ h.length) : Rel C G F ι (NT.trunc k h) H := by
  unfold NT.trunc
  split
  · rename_i b; exact R.take hk b
  · exact R
/-- a value's own reading ahead of a statement's end -/
theorem stS {a : M α} {T : β → Hp → Prop} (R : Rel C G F ι h H) (S : SR C ι F h.length σ ρ) (hp : p ≤ h.length)
    (k : ∀ v h1, a ρ h = .ok v h1 → ∀ F1 ι1 H1 x, Rel C G F1 ι1 h1 H1 → Ext G F ι p F1 ι1 → h.length ≤ h1.length → A.r ι1 F1 h1.length x v → SR C ι1 F1 h.length σ ρ → T x H1)
    (ke : ∀ c, a ρ h = .er c → ∀ H', (∀ b o, G b = some o → H' b = some o) → W c H') (kn : a ρ h = .no → False) : tOf A C W a σ H T := by
  refine ⟨G, F, ι, ρ, h, R, S, ?_⟩
  cases e : a ρ h with
  | ok v h1 => exact fun F1 ι1 H1 x R1 E1 l1 V1 => k v h1 e F1 ι1 H1 x R1 (E1.down hp) l1 V1 (S.mono E1.le E1.ag (Nat.le_refl _))
  | er c => exact ke c e
  | no => exact kn e
end
section
variable {X : Cx} {W : WK} {st : Stmt} {rest : List Stmt} {a b : SM} {e : Expr} {me : Ev} {mc : M Bool} {pos : Pos}
theorem jss_nil : JSs X W [] sNil := PSs.imp pss_nil fun D σ H t => by
  obtain ⟨G, F, ι, p, ρ, h, R, S, hp, d⟩ := t
  exact d F ι H σ R Ext.refl hp S
theorem jss_cons (h1 : JS X W st a) (h2 : JSs X W rest b) : JSs X W (st :: rest) (sSeq a b) := PSs.imp (pss_cons h1 h2) fun D σ H t => by
  obtain ⟨G, F, ι, p, ρ, h, R, S, hp, d⟩ := t
  refine ⟨G, F, ι, p, ρ, h, R, S, hp, ?_⟩
  unfold sSeq at d
  cases ea : a p ρ h with
  | nx ρ' h' =>
    rw [ea] at d
    exact fun F' ι' H' σ' R' E' l' S' => ⟨G, F', ι', p, ρ', h', R', S', l', DoneS.mono d E'⟩
  | rt v h' => rw [ea] at d; exact d
  | bk ρ' h' => rw [ea] at d; exact d
  | ct ρ' h' => rw [ea] at d; exact d
  | er c => rw [ea] at d; exact d
  | no => rw [ea] at d; exact d
theorem jss_one (h1 : JS X W st a) : JSs X W [st] a := pss_one h1
theorem js_pass : JS X W (.Pass pos) sPass := PS.imp ps_pass fun D σ H t => by
  obtain ⟨G, F, ι, p, ρ, h, R, S, hp, d⟩ := t
  exact d F ι H σ R Ext.refl hp S
theorem js_break : JS X W (.Break pos) sBreak := PS.imp ps_break fun D σ H t => by
  obtain ⟨G, F, ι, p, ρ, h, R, S, hp, d⟩ := t
  exact d F ι H σ R Ext.refl hp S
theorem js_cont : JS X W (.Continue pos) sCont := PS.imp ps_continue fun D σ H t => by
  obtain ⟨G, F, ι, p, ρ, h, R, S, hp, d⟩ := t
  exact d F ι H σ R Ext.refl hp S
theorem js_expr (he : JE X W e me) (hs : swapsWith e none pos.line X.env = pure false := by rfl) : JS X W (.Expr e pos) (sExpr me) := PS.imp (ps_expr he hs) fun D σ H t => by
  obtain ⟨G, F, ι, p, ρ, h, R, S, hp, d⟩ := t
  unfold sExpr at d
  refine stS R S hp (fun v h1 ee F1 ι1 H1 x R1 E1 l1 _ S1 => ?_) (fun c ee => by rw [ee] at d; exact d) fun ee => by rw [ee] at d; exact d
  rw [ee] at d
  have lt := trunc_len (h := h1) l1
  exact d F1 ι1 H1 σ (R1.trunc l1) E1 (Nat.le_trans hp lt) (S1.mono (fun _ _ z => z) (fun _ _ => rfl) lt)
theorem js_ret (he : JE X W e me) : JS X W (.Return (some e) pos) (sRet me) := PS.imp (ps_ret he) fun D σ H t => by
  obtain ⟨G, F, ι, p, ρ, h, R, S, hp, d⟩ := t
  unfold sRet at d
  refine stS R S hp (fun v h1 ee F1 ι1 H1 x R1 E1 l1 V1 S1 => ?_) (fun c ee => by rw [ee] at d; exact d) fun ee => by rw [ee] at d; exact d
  rw [ee] at d
  exact d F1 ι1 H1 x R1 E1 (Nat.le_trans hp l1) V1
theorem js_retN : JS X W (.Return none pos) sRetN := PS.imp ps_retN fun D σ H t => by
  obtain ⟨G, F, ι, p, ρ, h, R, S, hp, d⟩ := t
  exact d F ι H .non R Ext.refl hp (.im .non)
theorem js_if {c : Expr} {sa sb : List Stmt} (hc : JT X W c mc) (ha : JSs X W sa a) (hb : JSs X W sb b) : JS X W (.If c sa sb pos) (sIf mc a b) := PS.imp (ps_if hc ha hb) fun D σ H t => by
  obtain ⟨G, F, ι, p, ρ, h, R, S, hp, d⟩ := t
  unfold sIf at d
  refine stS R S hp (fun v h1 ee F1 ι1 H1 x R1 E1 l1 V1 S1 => ?_) (fun c ee => by rw [ee] at d; exact d) fun ee => by rw [ee] at d; exact d
  rw [ee] at d
  obtain rfl : x = v := V1
  have lt := trunc_len (h := h1) l1
  have R2 := R1.trunc l1
  have S2 := S1.mono (ι' := ι1) (n' := (trunc h.length h1).length) (fun _ _ z => z) (fun _ _ => rfl) lt
  cases x with
  | true => exact .at R2 S2 (Nat.le_trans hp lt) (DoneS.mono d E1)
  | false => exact .at R2 S2 (Nat.le_trans hp lt) (DoneS.mono d E1)
end

/-! ### name = value -/
def Cell.noRef (j : Nat) : Cell → Bool
  | .lst vs => vs.all fun v => match v with | .ref k => k != j | _ => true
  | .fz _ => true
  | .dct kvs => kvs.all fun p => match p.2 with | .ref k => k != j | _ => true
def noRefAt (j : Nat) (o : Option Val) : Bool := match o with
  | some (.ref k) => k != j
  | _ => true
/-- the old cell of a name, where nothing else asks for it -/
def reuse (p i : Nat) (ρ : En) (h : Hs) (c : Cell) : Option Nat := match ρ[i]? with
  | some (some (.ref j)) => if (decide (p ≤ j) && (ρ.set i none).all (noRefAt j) && h.all (Cell.noRef j) && c.noRef j) = true then some j else none
  | _ => none
def asgn (p i : Nat) (v : Val) (k : Nat) (ρ : En) (h1 : Hs) : RS := match v with
  | .im d => .nx (ρ.set i (some (.im d))) (trunc k h1)
  | .ref m => if m < k then .nx (ρ.set i (some (.ref m))) (trunc k h1) else match h1[m]? with
    | some c => if (c.live && c.below k && (h1.take k).all (Cell.below k)) = true then (match reuse p i ρ (h1.take k) c with
        | some j => .nx (ρ.set i (some (.ref j))) ((h1.take k).set j c)
        | none => .nx (ρ.set i (some (.ref k))) (h1.take k ++ [c]))
      else .nx (ρ.set i (some (.ref m))) h1
    | none => .no
def sSet (i : Nat) (a : Ev) : SM := fun p ρ h => match a ρ h with
  | .ok v h1 => asgn p i v h.length ρ h1
  | .er c => .er c
  | .no => .no
section
variable {C : Cst} {W : WK} {G F F' : Hp} {ι ι' : Nat → Addr} {n p q : Nat} {h h' : Hs} {H H' : Hp} {σ σ' : L2.St} {ρ ρ' : En}
theorem SR.set {i : Nat} {x : V} {v : Val} (S : SR C ι F n σ ρ) (V : RV C ι F n x v) : SR C ι F n (σ.set i (some x)) (ρ.set i (some v)) := by
  refine ⟨by simp [S.len], fun j u e => ?_⟩
  rcases get_set e with ⟨h1, h2⟩ | ⟨h1, h2, h3⟩
  · rw [List.getElem?_set_ne (Ne.symm h1)]
    exact S.at' j u h2
  · subst h1
    cases h2
    exact ⟨x, by rw [List.getElem?_set_self (by rw [← S.len]; exact h3)], V⟩
theorem noRef_ne {j : Nat} {vs : List Val} (b : (vs.all fun v => match v with | .ref k => k != j | _ => true) = true) {k : Nat} (hm : Val.ref k ∈ vs) : k ≠ j := by
  have := List.all_eq_true.mp b _ hm
  simpa using this
theorem RV.move {x : V} {v : Val} {j : Nat} {a : Addr} (r : RV C ι F n x v) (hv : ∀ k, v = .ref k → k ≠ j) : RV C (putI ι j a) F n x v := by
  cases r with
  | im z => exact .im z
  | @ref k hk =>
    rw [← putI_ne (ι := ι) (p := a) (hv k rfl)]
    exact .ref hk
theorem CellR.move {c : Cell} {j : Nat} {a b : Addr} {o : Option HO} (r : CellR C ι F n b o c) (hc : c.noRef j = true) : CellR C (putI ι j a) F n b o c := by
  cases c with
  | lst vs =>
    obtain ⟨xs, e, p⟩ := r
    exact ⟨xs, e, Paired.mem p fun _ w hw z => z.move fun k e => by subst e; exact noRef_ne hc hw⟩
  | fz d => exact r
  | dct kvs =>
    obtain ⟨L, e, z, p⟩ := r
    have hb : (kvs.all fun p => match p.2 with | .ref k => k != j | _ => true) = true := hc
    exact ⟨L, e, z, Paired.mem p fun _ w hw z => ⟨z.1, z.2.1.move fun k e => by
      have := List.all_eq_true.mp hb w hw
      rw [e] at this
      simpa using this, z.2.2⟩⟩
/-- the fresh cell at m becomes the cell at j (j = k: a new one behind the first k) -/
theorem Rel.relay {k m : Nat} {c : Cell} (R : Rel C G F ι h H) (hk : k ≤ h.length) (em : h[m]? = some c) (hm : k ≤ m) (lv : c.live = true) (cb : c.below k = true) (b : (h.take k).all (Cell.below k) = true) :
    Rel C G F (putI ι k (ι m)) (h.take k ++ [c]) H := by
  have R1 := R.take hk b
  have lk : (h.take k).length = k := by rw [List.length_take]; exact Nat.min_eq_left hk
  have old : ∀ {i : Nat} {c' : Cell}, (h.take k)[i]? = some c' → putI ι k (ι m) i = ι i ∧ i < k := fun e => ⟨putI_lt (take_get e).1, (take_get e).1⟩
  refine ⟨R.g, R.f, fun i j c1 c2 e1 e2 l1 l2 z => ?_, fun i c1 e1 l1 => ?_, fun i c1 e1 l1 => ?_, fun i c1 e1 => ?_⟩
  · rcases get_snoc e1 with ⟨h1, e1⟩ | ⟨h1, e1⟩
    · rcases get_snoc e2 with ⟨h2, e2⟩ | ⟨h2, e2⟩
      · rw [(old e1).1, (old e2).1] at z
        exact R1.inj i j c1 c2 e1 e2 l1 l2 z
      · rw [(old e1).1, h2, lk, putI_same] at z
        have := R.inj i m c1 c (take_get e1).2 em l1 lv z
        rw [lk] at h1; omega
    · rcases get_snoc e2 with ⟨h2, e2⟩ | ⟨h2, e2⟩
      · rw [(old e2).1, h1, lk, putI_same] at z
        have := R.inj m j c c2 em (take_get e2).2 lv l2 z
        rw [lk] at h2; omega
      · rw [h1, h2]
  · rcases get_snoc e1 with ⟨h1, e1⟩ | ⟨h1, e1⟩
    · rw [(old e1).1]; exact R1.gl i c1 e1 l1
    · rw [h1, lk, putI_same]; exact R.gl m c em lv
  · rcases get_snoc e1 with ⟨h1, e1⟩ | ⟨h1, e1⟩
    · rw [(old e1).1]; exact R1.fl i c1 e1 l1
    · rw [h1, lk, putI_same]; exact R.fl m c em lv
  · rw [List.length_append, lk, List.length_singleton]
    rcases get_snoc e1 with ⟨h1, e1⟩ | ⟨h1, e1⟩
    · rw [(old e1).1]
      have := R1.cell i c1 e1
      rw [lk] at this
      exact CellR.mono this (fun _ _ z => z) (fun j hj => putI_lt hj) (Nat.le_succ _)
    · rw [h1, lk, putI_same, ← e1]
      exact CellR.mono (CellR.below (R.cell m c em) cb) (fun _ _ z => z) (fun j hj => putI_lt hj) (Nat.le_succ _)
theorem Rel.relayAt {k m j : Nat} {c : Cell} (R : Rel C G F ι h H) (hk : k ≤ h.length) (em : h[m]? = some c) (hm : k ≤ m) (lv : c.live = true) (cb : c.below k = true) (b : (h.take k).all (Cell.below k) = true)
    (hj : j < k) (nr : (h.take k).all (Cell.noRef j) = true) (nc : c.noRef j = true) : Rel C G F (putI ι j (ι m)) ((h.take k).set j c) H := by
  have R1 := R.take hk b
  have lk : (h.take k).length = k := by rw [List.length_take]; exact Nat.min_eq_left hk
  have mj : ∀ {i : Nat} {c1 : Cell}, (h.take k)[i]? = some c1 → i ≠ m := fun {i c1} e z => by have := (take_get e).1; omega
  refine ⟨R.g, R.f, fun i i' c1 c2 e1 e2 l1 l2 z => ?_, fun i c1 e1 l1 => ?_, fun i c1 e1 l1 => ?_, fun i c1 e1 => ?_⟩
  · rcases get_set e1 with ⟨h1, e1⟩ | ⟨h1, e1, _⟩
    · rcases get_set e2 with ⟨h2, e2⟩ | ⟨h2, e2, _⟩
      · rw [putI_ne h1, putI_ne h2] at z
        exact R1.inj i i' c1 c2 e1 e2 l1 l2 z
      · rw [putI_ne h1, h2, putI_same] at z
        exact (mj e1 (R.inj i m c1 c (take_get e1).2 em l1 lv z)).elim
    · rcases get_set e2 with ⟨h2, e2⟩ | ⟨h2, e2, _⟩
      · rw [putI_ne h2, h1, putI_same] at z
        exact (mj e2 (R.inj i' m c2 c (take_get e2).2 em l2 lv z.symm)).elim
      · rw [h1, h2]
  · rcases get_set e1 with ⟨h1, e1⟩ | ⟨h1, e1, _⟩
    · rw [putI_ne h1]; exact R1.gl i c1 e1 l1
    · rw [h1, putI_same]; exact R.gl m c em lv
  · rcases get_set e1 with ⟨h1, e1⟩ | ⟨h1, e1, _⟩
    · rw [putI_ne h1]; exact R1.fl i c1 e1 l1
    · rw [h1, putI_same]; exact R.fl m c em lv
  · rw [List.length_set, lk]
    rcases get_set e1 with ⟨h1, e1⟩ | ⟨h1, e1, _⟩
    · rw [putI_ne h1]
      have := R1.cell i c1 e1
      rw [lk] at this
      exact this.move (List.all_eq_true.mp nr c1 (List.mem_of_getElem? e1))
    · rw [h1, putI_same, ← e1]
      exact (CellR.below (R.cell m c em) cb).move nc
theorem asgn_ok {D : L2.St → Hp → Prop} {DE : Ends} (hD : DE.nx = D) {i : Nat} {v : Val} {x : V} {h1 : Hs} (R : Rel C G F ι h1 H) (hk : h.length ≤ h1.length) (hp : p ≤ h.length) (V : RV C ι F h1.length x v) (S : SR C ι F h.length σ ρ)
    (d : DoneS C W G F ι p (asgn p i v h.length ρ h1) DE) : D (σ.set i (some x)) H := by
  subst hD
  have lt := trunc_len (h := h1) hk
  unfold asgn at d
  split at d
  · exact d F ι H _ (R.trunc hk) Ext.refl (Nat.le_trans hp lt) ((S.mono (fun _ _ z => z) (fun _ _ => rfl) lt).set (V.flat rfl))
  · rename_i m
    split at d
    · rename_i hm
      exact d F ι H _ (R.trunc hk) Ext.refl (Nat.le_trans hp lt) ((S.mono (fun _ _ z => z) (fun _ _ => rfl) lt).set (V.below (by simpa [Val.below] using Nat.lt_of_lt_of_le hm lt)))
    · rename_i hm
      have hm' : h.length ≤ m := Nat.le_of_not_lt hm
      split at d
      · rename_i c ec
        split at d
        · rename_i hh
          simp only [Bool.and_eq_true] at hh
          obtain ⟨⟨lv, cb⟩, b⟩ := hh
          have lk : (h1.take h.length).length = h.length := by rw [List.length_take]; exact Nat.min_eq_left hk
          cases V with
          | ref hv =>
            split at d
            · rename_i j ej
              unfold reuse at ej
              split at ej
              · rename_i j' er
                split at ej
                · rename_i hh
                  cases ej
                  simp only [Bool.and_eq_true, decide_eq_true_eq] at hh
                  obtain ⟨⟨⟨g1, g2⟩, g3⟩, g4⟩ := hh
                  have hj : j < h.length := by
                    obtain ⟨x', _, z⟩ := S.at' i _ er
                    cases z with | ref z => exact z
                  refine d F (putI ι j (ι m)) H _ (R.relayAt hk ec hm' lv cb b hj g3 g4) ⟨fun _ _ z => z, fun a ha => putI_ne (by omega), fun _ _ => rfl⟩ (by rw [List.length_set, lk]; exact hp) ?_
                  rw [List.length_set, lk]
                  refine ⟨by simp [S.len], fun a u e => ?_⟩
                  rcases get_set e with ⟨a1, a2⟩ | ⟨a1, a2, a3⟩
                  · obtain ⟨y, y1, y2⟩ := S.at' a u a2
                    refine ⟨y, by rw [List.getElem?_set_ne (Ne.symm a1)]; exact y1, y2.move fun k ek => ?_⟩
                    have : noRefAt j (some u) = true := by
                      refine List.all_eq_true.mp g2 _ (List.mem_of_getElem? (i := a) ?_)
                      rw [List.getElem?_set_ne (Ne.symm a1)]; exact a2
                    rw [ek] at this
                    simpa [noRefAt] using this
                  · subst a1
                    cases a2
                    refine ⟨_, List.getElem?_set_self (by rw [← S.len]; exact a3), ?_⟩
                    have : RV C (putI ι j (ι m)) F h.length (.ref (putI ι j (ι m) j)) (.ref j) := .ref hj
                    rw [putI_same] at this
                    exact this
                · cases ej
              · cases ej
            · refine d F (putI ι h.length (ι m)) H _ (R.relay hk ec hm' lv cb b) ⟨fun _ _ z => z, fun a ha => putI_lt (by omega), fun _ _ => rfl⟩ (by rw [List.length_append, lk]; omega) ?_
              rw [List.length_append, lk, List.length_singleton]
              refine (S.mono (fun _ _ z => z) (fun a ha => putI_lt ha) (Nat.le_succ _)).set ?_
              have : RV C (putI ι h.length (ι m)) F (h.length + 1) (.ref (putI ι h.length (ι m) h.length)) (.ref h.length) := .ref (Nat.lt_succ_self _)
              rw [putI_same] at this
              exact this
        · exact d F ι H _ R Ext.refl (Nat.le_trans hp hk) ((S.mono (fun _ _ z => z) (fun _ _ => rfl) hk).set V)
      · exact d.elim
end
section
variable {X : Cx} {W : WK} {i : Nat} {x : Str} {e : Expr} {me : Ev} {pos pos' : Pos}
theorem set_r {C : Cst} {D : Ends} {σ : L2.St} {H : Hp} (t : tOfS C W (sSet i me) D σ H) : tAsg (tOf (repV C) C W me) (gName i) D σ H := by
  obtain ⟨G, F, ι, p, ρ, h, R, S, hp, d⟩ := t
  unfold sSet at d
  refine stS R S hp (fun v h1 ee F1 ι1 H1 x R1 E1 l1 V1 S1 => ?_) (fun c ee => by rw [ee] at d; exact d) fun ee => by rw [ee] at d; exact d
  rw [ee] at d
  exact asgn_ok (h := h) rfl R1 l1 hp V1 S1 (DoneS.mono d E1)
theorem js_set (K : Ctx X W) (hi : X.N[i]? = some x) (hx : Loc X.env.scope x) (he : JE X W e me) (hs : swapsWith e (some (.Name x pos')) pos.line X.env = pure false := by rfl) (hf : X.fn x = true ∨ X.env.scope.names.lookup x = some .local := by first | exact .inl rfl | exact .inr rfl | assumption) :
    JS X W (.Assign [.Name x pos'] e pos) (sSet i me) := PS.imp (ps_set K.nd hi hx he hs hf) fun _ _ _ t => set_r t
end
end NT

set_option Elab.async false
set_option linter.all false
set_option maxRecDepth 100000
set_option autoImplicit false

namespace NT
open PySem PySem.Spec PyProof.Rows L2

/-! ### targets -/
inductive Tg where
  | nm (i : Nat)
  | tup (is : List Nat)
def setIs : List Nat → List PyData → En → En
  | i :: is, d :: ds, ρ => setIs is ds (ρ.set i (some (.im d)))
  | _, _, ρ => ρ
def Tg.asg : Tg → Val → En → Option En
  | .nm i, v, ρ => some (ρ.set i (some v))
  | .tup is, .im (.tuple ds), ρ => if ds.length = is.length then some (setIs is ds ρ) else none
  | _, _, _ => none
def Tg.slots : Tg → List Nat
  | .nm i => [i]
  | .tup is => is
def gNames : List Nat → TGs
  | [] => gNil
  | i :: is => gCons (gName i) (gNames is)
def Tg.g (K : PySem.W.Frag) : Tg → TG
  | .nm i => gName i
  | .tup is => gTup K is.length (gNames is)
abbrev JG (X : Cx) (tg : Expr) (T : Tg) : Prop := PG X tg (T.g X.K)
theorem wipe_set_out {σ : L2.St} {i : Nat} {y : Option V} : ∀ {vs : List Nat}, i ∉ vs → wipe (σ.set i y) vs = (wipe σ vs).set i y
  | [], _ => rfl
  | v :: vs, h => by
    rw [wipe, wipe, wipe_set_out fun z => h (List.mem_cons_of_mem _ z)]
    exact List.set_comm _ _ fun z => h (by rw [z]; exact List.mem_cons_self)
theorem wipe_set_in {σ : L2.St} {i : Nat} {y : Option V} : ∀ {vs : List Nat}, i ∈ vs → wipe (σ.set i y) vs = wipe σ vs
  | v :: vs, h => by
    rw [wipe, wipe]
    by_cases hi : i ∈ vs
    · rw [wipe_set_in hi]
    · rcases (List.mem_cons.mp h) with rfl | h
      · rw [wipe_set_out hi, List.set_set]
      · exact (hi h).elim
section
variable {C : Cst} {W : WK} {G F F' : Hp} {ι ι' : Nat → Addr} {n p q : Nat} {h h' : Hs} {H H' : Hp} {σ σ' : L2.St} {ρ ρ' : En}
theorem setIs_ok : ∀ {is : List Nat} {ds : List PyData} {xs : List V} {σ : L2.St} {ρ : En}, ds.length = is.length → SR C ι F n σ ρ → DpAll C.K F xs ds →
    ∃ σ', SR C ι F n σ' (setIs is ds ρ) ∧ (∀ Q : L2.St → Hp → Prop, Q σ' H → gNames is xs σ H Q) ∧ ∀ vs, (∀ i ∈ is, i ∈ vs) → wipe σ' vs = wipe σ vs
  | [], [], _, σ, ρ, _, S, z => by
    cases z
    exact ⟨σ, S, fun Q q => ⟨rfl, q⟩, fun _ _ => rfl⟩
  | i :: is, d :: ds, _, σ, ρ, hl, S, z => by
    cases z with
    | cons z1 z2 =>
      obtain ⟨σ', h1, h2, h3⟩ := setIs_ok (is := is) (ds := ds) (by simpa using hl) (S.set (i := i) (RV.im z1)) z2
      exact ⟨σ', h1, fun Q q => ⟨_, _, rfl, h2 Q q⟩, fun vs hv => (h3 vs fun j hj => hv j (List.mem_cons_of_mem _ hj)).trans (wipe_set_in (hv i List.mem_cons_self))⟩
  | [], _ :: _, _, _, _, hl, _, _ => by simp at hl
  | _ :: _, [], _, _, _, hl, _, _ => by simp at hl
theorem Tg.ok {T : Tg} {x : V} {v : Val} (R : Rel C G F ι h H) (V : RV C ι F h.length x v) (S : SR C ι F h.length σ ρ) (e : T.asg v ρ = some ρ') :
    ∃ σ', SR C ι F h.length σ' ρ' ∧ (∀ Q : L2.St → Hp → Prop, Q σ' H → T.g C.K x σ H Q) ∧ ∀ vs, (∀ i ∈ T.slots, i ∈ vs) → wipe σ' vs = wipe σ vs := by
  cases T with
  | nm i =>
    cases e
    exact ⟨_, S.set V, fun Q q => q, fun vs hv => wipe_set_in (hv i (by simp [Tg.slots]))⟩
  | tup is =>
    cases v with
    | ref k => simp [Tg.asg] at e
    | im d =>
      cases d with
      | tuple ds =>
        simp only [Tg.asg] at e
        split at e
        · rename_i hl
          cases e
          cases V with
          | im z =>
            cases z with
            | tup s p =>
              obtain ⟨σ', h1, h2, h3⟩ := setIs_ok (H := H) hl S p
              exact ⟨σ', h1, fun Q q => ⟨_, _, rfl, tupF R.f s, by rw [dp_len p, hl], h2 Q q⟩, fun vs hv => h3 vs hv⟩
        · cases e
      | _ => simp [Tg.asg] at e
end
section
variable {X : Cx} {W : WK} {pos : Pos}
theorem jg_name (K : Ctx X W) {i : Nat} {x : Str} (hi : X.N[i]? = some x) (hx : Loc X.env.scope x) (hf : X.fn x = true ∨ X.env.scope.names.lookup x = some .local := by first | exact .inl rfl | exact .inr rfl | assumption) : JG X (.Name x pos) (.nm i) := pg_name K.nd hi hx hf
end

/-! ### what is walked -/
structure Src where
  items : List Val
  watch : List (Nat × List Val)
def Src.okAt (s : Src) (h : Hs) : Prop := ∀ p ∈ s.watch, h[p.1]? = some (.lst p.2)
def Src.pin (s : Src) (n : Nat) : Nat := if (s.items.all Val.isIm && s.watch.isEmpty) = true then 0 else n
structure SrcOk (C : Cst) (G F : Hp) (ι : Nat → Addr) (k : Nat) (s : Src) (J : It) : Prop where
  below : ∀ v ∈ s.items, v.below k = true
  ex : ∃ Gd Y, Walk J s.items.length Gd Y ∧
    (∀ F2 ι2 h2 H2, Rel C G F2 ι2 h2 H2 → Ext G F ι (s.pin k) F2 ι2 → s.pin k ≤ h2.length → s.okAt h2 → Gd H2) ∧
    (∀ F2 ι2 h2 H2 i v x H3, Rel C G F2 ι2 h2 H2 → Ext G F ι (s.pin k) F2 ι2 → s.pin k ≤ h2.length → s.okAt h2 → s.items[i]? = some v → Y i H2 x H3 →
      ∃ F3, Rel C G F3 ι2 h2 H3 ∧ Ext G F2 ι2 h2.length F3 ι2 ∧ RV C ι2 F3 h2.length x v ∧ (∀ b o, H2 b = some o → H3 b = some o) ∧ ∀ b, H2 b ≠ none → F3 b = F2 b)
def DoneI (C : Cst) (W : WK) (G F : Hp) (ι : Nat → Addr) (q : Nat) (r : Res Src) (R : It → Hp → Prop) : Prop := match r with
  | .ok src h' => ∀ F' ι' H' J, Rel C G F' ι' h' H' → Ext G F ι q F' ι' → q ≤ h'.length → SrcOk C G F' ι' h'.length src J → R J H'
  | .er c => ∀ H', (∀ b o, G b = some o → H' b = some o) → W c H'
  | .no => False
def tOfI (C : Cst) (W : WK) (ms : M Src) : TI := fun σ H R => ∃ G F ι ρ h, Rel C G F ι h H ∧ SR C ι F h.length σ ρ ∧ DoneI C W G F ι h.length (ms ρ h) R
abbrev JI (X : Cx) (W : WK) (tg iter : Expr) (ms : M Src) : Prop := PI X tg iter (tOfI (cst X) W ms)
theorem PI.imp {X : Cx} {tg iter : Expr} {t t' : TI} (p : PI X tg iter t) (h : ∀ σ H R, t' σ H R → t σ H R) : PI X tg iter t' := ⟨fun pins s σ H R I q => p.run pins s σ H R I (h σ H R q)⟩
open Classical in
noncomputable def forGo (b : SM) (T : Tg) (s : Src) (p : Nat) : List Val → En → Hs → RS
  | [], ρ, h => if s.okAt h then .nx ρ h else .no
  | v :: r, ρ, h => if s.okAt h then (match T.asg v ρ with
    | some ρ1 => (match b p ρ1 h with
      | .nx ρ2 h2 => forGo b T s p r ρ2 h2
      | .ct ρ2 h2 => forGo b T s p r ρ2 h2
      | .bk ρ2 h2 => .nx ρ2 h2
      | x => x)
    | none => .no) else .no
noncomputable def sFor (ms : M Src) (T : Tg) (b : SM) : SM := fun p ρ h => match ms ρ h with
  | .ok src h1 => forGo b T src (max p (src.pin h1.length)) src.items ρ h1
  | .er c => .er c
  | .no => .no
theorem drop_get {α : Type} {l : List α} {i : Nat} {v : α} (e : l[i]? = some v) : l.drop i = v :: l.drop (i + 1) := by
  obtain ⟨hi, rfl⟩ := List.getElem?_eq_some_iff.mp e
  exact List.drop_eq_getElem_cons hi
theorem Src.pin_le (s : Src) (n : Nat) : s.pin n ≤ n := by
  unfold Src.pin
  split <;> omega
section
variable {X : Cx} {W : WK} {tg iter : Expr} {body : List Stmt} {ms : M Src} {T : Tg} {mb : SM} {pos : Pos}
theorem js_for (K : Ctx X W) (hp : PassesOwn (model X.prog X.w) X.A X.env X.xe) (hi : JI X W tg iter ms) (hg : JG X tg T) (hb : JSs X W body mb) (hs : ∀ x, foldedSetIterable iter X.env x = pure x := by intro _; rfl) :
    JS X W (.For tg iter body [] pos) (sFor ms T mb) := PS.imp (ps_for hp K.calm hi hg hb hs) fun D σ H t => by
  obtain ⟨G, F, ι, p, ρ, h, R, S, hpl, d⟩ := t
  unfold sFor at d
  refine ⟨G, F, ι, ρ, h, R, S, ?_⟩
  cases em : ms ρ h with
  | no => rw [em] at d; exact d
  | er c => rw [em] at d; exact d
  | ok src h1 =>
    rw [em] at d
    intro F1 ι1 H1 J R1 E1 l1 ok
    obtain ⟨Gd, Y, wk, hG, hY⟩ := ok.ex
    have pl : max p (src.pin h1.length) ≤ h1.length := Nat.max_le.mpr ⟨Nat.le_trans hpl l1, Src.pin_le _ _⟩
    replace d : DoneS (cst X) W G F ι p (forGo mb T src (max p (src.pin h1.length)) (src.items.drop 0) ρ h1) D := d
    generalize hp' : max p (src.pin h1.length) = p' at d pl
    have pp : p ≤ p' := by omega
    have sp : src.pin h1.length ≤ p' := by omega
    refine for_it wk (fun i σ H => ∃ F2 ι2 ρ2 h2, Rel (cst X) G F2 ι2 h2 H ∧ SR (cst X) ι2 F2 h2.length σ ρ2 ∧ p' ≤ h2.length ∧ Ext G F1 ι1 p' F2 ι2 ∧ DoneS (cst X) W G F2 ι2 p (forGo mb T src p' (src.items.drop i) ρ2 h2) D) ?_ ?_ ?_ ?_
    · exact ⟨F1, ι1, ρ, h1, R1, S.mono E1.le E1.ag l1, pl, Ext.refl, DoneS.mono d (E1.down hpl)⟩
    · rintro i σ2 H2 hi ⟨F2, ι2, ρ2, h2, R2, S2, l2, E2, d2⟩
      refine hG F2 ι2 h2 H2 R2 (E2.down sp) (Nat.le_trans sp l2) ?_
      cases e : src.items.drop i with
      | nil =>
        rw [e] at d2
        unfold forGo at d2
        split at d2
        · assumption
        · exact d2.elim
      | cons v r =>
        rw [e] at d2
        unfold forGo at d2
        split at d2
        · assumption
        · exact d2.elim
    · rintro i x σ2 H2 H3 hi ⟨F2, ι2, ρ2, h2, R2, S2, l2, E2, d2⟩ y
      have ev : src.items[i]? = some src.items[i] := by simp [hi]
      rw [drop_get ev] at d2
      unfold forGo at d2
      split at d2
      · rename_i hok
        obtain ⟨F3, R3, E3, V3, _⟩ := hY F2 ι2 h2 H2 i _ x H3 R2 (E2.down sp) (Nat.le_trans sp l2) hok ev y
        split at d2
        · rename_i ρ1 et
          obtain ⟨σ1, S1, hgq, _⟩ := Tg.ok R3 V3 (S2.mono E3.le E3.ag (Nat.le_refl _)) et
          refine hgq _ ?_
          have E13 : Ext G F1 ι1 p' F3 ι2 := E2.trans E3 l2
          refine .at R3 S1 l2 ?_
          have d3 := DoneS.mono d2 (E3.down (Nat.le_trans pp l2))
          cases eb : mb p' ρ1 h2 with
          | nx ρ4 h4 =>
            rw [eb] at d3
            exact fun F4 ι4 H4 σ4 R4 E4 l4 S4 => ⟨F4, ι4, ρ4, h4, R4, S4, l4, E13.trans E4 (Nat.le_refl _), DoneS.mono d3 (E4.down pp)⟩
          | ct ρ4 h4 =>
            rw [eb] at d3
            exact fun F4 ι4 H4 σ4 R4 E4 l4 S4 => ⟨F4, ι4, ρ4, h4, R4, S4, l4, E13.trans E4 (Nat.le_refl _), DoneS.mono d3 (E4.down pp)⟩
          | bk ρ4 h4 =>
            rw [eb] at d3
            exact fun F4 ι4 H4 σ4 R4 E4 l4 S4 => d3 F4 ι4 H4 σ4 R4 (E4.down pp) (Nat.le_trans pp l4) S4
          | rt v h4 =>
            rw [eb] at d3
            exact fun F4 ι4 H4 x4 R4 E4 l4 V4 => d3 F4 ι4 H4 x4 R4 (E4.down pp) (Nat.le_trans pp l4) V4
          | er c => rw [eb] at d3; exact d3
          | no => rw [eb] at d3; exact d3
        · exact d2.elim
      · exact d2.elim
    · rintro σ2 H2 ⟨F2, ι2, ρ2, h2, R2, S2, l2, E2, d2⟩
      rw [List.drop_length] at d2
      unfold forGo at d2
      split at d2
      · exact d2 F2 ι2 H2 σ2 R2 Ext.refl (Nat.le_trans pp l2) S2
      · exact d2.elim
end

/-! ### while -/
def whileGo (c : M Bool) (b : SM) (p : Nat) : Nat → En → Hs → RS
  | 0, _, _ => .no
  | n + 1, ρ, h => match c ρ h with
    | .ok k h1 => if k = true then (match b p ρ (trunc h.length h1) with
        | .nx ρ2 h2 => whileGo c b p n ρ2 h2
        | .ct ρ2 h2 => whileGo c b p n ρ2 h2
        | .bk ρ2 h2 => .nx ρ2 h2
        | x => x) else .nx ρ (trunc h.length h1)
    | .er c => .er c
    | .no => .no
open Classical in
noncomputable def sWhile (c : M Bool) (b : SM) : SM := fun p ρ h => if hx : ∃ n, whileGo c b p n ρ h ≠ .no then whileGo c b p hx.choose ρ h else .no
theorem whileGo_more {c : M Bool} {b : SM} {p : Nat} : ∀ {n m : Nat} {ρ : En} {h : Hs}, n ≤ m → whileGo c b p n ρ h ≠ .no → whileGo c b p m ρ h = whileGo c b p n ρ h
  | 0, _, _, _, _, hn => (hn rfl).elim
  | n + 1, 0, _, _, hm, _ => by omega
  | n + 1, m + 1, ρ, h, hm, hn => by
    unfold whileGo at hn ⊢
    cases ec : c ρ h with
    | no => rfl
    | er c => rfl
    | ok k h1 =>
      simp only [ec] at hn ⊢
      cases k with
      | false => rfl
      | true =>
        simp only [if_true] at hn ⊢
        cases eb : b p ρ (trunc h.length h1) with
        | nx ρ2 h2 => simp only [eb] at hn ⊢; exact whileGo_more (by omega) hn
        | ct ρ2 h2 => simp only [eb] at hn ⊢; exact whileGo_more (by omega) hn
        | bk ρ2 h2 => rfl
        | rt v h2 => rfl
        | er c => rfl
        | no => rfl
theorem sWhile_eq {c : M Bool} {b : SM} {p n : Nat} {ρ : En} {h : Hs} (hn : whileGo c b p n ρ h ≠ .no) : sWhile c b p ρ h = whileGo c b p n ρ h := by
  unfold sWhile
  rw [dif_pos ⟨n, hn⟩]
  have h1 := Exists.choose_spec (p := fun n => whileGo c b p n ρ h ≠ .no) ⟨n, hn⟩
  generalize Exists.choose (p := fun n => whileGo c b p n ρ h ≠ .no) ⟨n, hn⟩ = m at h1
  by_cases hm : n ≤ m
  · exact whileGo_more hm hn
  · exact (whileGo_more (by omega) h1).symm
section
variable {X : Cx} {W : WK} {c : Expr} {body : List Stmt} {mc : M Bool} {mb : SM} {pos : Pos}
theorem js_while (hp : PassesOwn (model X.prog X.w) X.A X.env X.xe) (hc : JT X W c mc) (hb : JSs X W body mb) : JS X W (.While c body [] pos) (sWhile mc mb) := PS.imp (ps_while hp hc hb) fun D σ H t => by
  obtain ⟨G, F, ι, p, ρ, h, R, S, hpl, d⟩ := t
  obtain ⟨n, d⟩ : ∃ n, DoneS (cst X) W G F ι p (whileGo mc mb p n ρ h) D := by
    unfold sWhile at d
    split at d
    · exact ⟨_, d⟩
    · exact d.elim
  refine ⟨fun m σ H => ∃ F2 ι2 ρ2 h2, Rel (cst X) G F2 ι2 h2 H ∧ SR (cst X) ι2 F2 h2.length σ ρ2 ∧ p ≤ h2.length ∧ DoneS (cst X) W G F2 ι2 p (whileGo mc mb p m ρ2 h2) D, ⟨n, F, ι, ρ, h, R, S, hpl, d⟩, ?_⟩
  rintro m σ2 H2 ⟨F2, ι2, ρ2, h2, R2, S2, l2, d2⟩
  cases m with
  | zero => exact d2.elim
  | succ m =>
    unfold whileGo at d2
    refine stS R2 S2 l2 (fun v h3 ee F3 ι3 H3 x R3 E3 l3 V3 S3 => ?_) (fun c ee => by rw [ee] at d2; exact d2) fun ee => by rw [ee] at d2; exact d2
    rw [ee] at d2
    obtain rfl : x = v := V3
    have lt := trunc_len (h := h3) l3
    have R4 := R3.trunc l3
    have S4 := S3.mono (ι' := ι3) (n' := (trunc h2.length h3).length) (fun _ _ z => z) (fun _ _ => rfl) lt
    have l4 := Nat.le_trans l2 lt
    have d3 := DoneS.mono d2 E3
    cases x with
    | false => exact d3 F3 ι3 H3 σ2 R4 Ext.refl l4 S4
    | true =>
      simp only [if_true] at d3 ⊢
      refine ⟨fun σ' H' => ∃ F2 ι2 ρ2 h2, Rel (cst X) G F2 ι2 h2 H' ∧ SR (cst X) ι2 F2 h2.length σ' ρ2 ∧ p ≤ h2.length ∧ DoneS (cst X) W G F2 ι2 p (whileGo mc mb p m ρ2 h2) D, fun σ' H' q => ⟨m, Nat.lt_succ_self _, q⟩, .at R4 S4 l4 ?_⟩
      cases eb : mb p ρ2 (trunc h2.length h3) with
      | nx ρ5 h5 => rw [eb] at d3; exact fun F5 ι5 H5 σ5 R5 E5 l5 S5 => ⟨F5, ι5, ρ5, h5, R5, S5, l5, DoneS.mono d3 E5⟩
      | ct ρ5 h5 => rw [eb] at d3; exact fun F5 ι5 H5 σ5 R5 E5 l5 S5 => ⟨F5, ι5, ρ5, h5, R5, S5, l5, DoneS.mono d3 E5⟩
      | bk ρ5 h5 => rw [eb] at d3; exact d3
      | rt v h5 => rw [eb] at d3; exact d3
      | er c => rw [eb] at d3; exact d3
      | no => rw [eb] at d3; exact d3
end

/-! ### a def -/
def fnFin (p : Nat) (v : Val) (h' : Hs) : Res Val := match v with
  | .im d => .ok (.im d) (trunc p h')
  | .ref m => if m < p then .ok (.ref m) (trunc p h') else match h'[m]? with
    | some c => if (c.live && c.below p && (h'.take p).all (Cell.below p)) = true then .ok (.ref p) (h'.take p ++ [c]) else .ok (.ref m) h'
    | none => .no
def fnEnd (p : Nat) (r : RS) : Res Val := match r with
  | .nx _ h' => fnFin p (.im .none) h'
  | .rt v h' => fnFin p v h'
  | .er c => .er c
  | _ => .no
def fnOf (n m : Nat) (body : SM) : Fn := fun args h => if args.length = n then fnEnd h.length (body h.length (args.map some ++ List.replicate (m - n) none) h) else .no
section
variable {C : Cst} {W : WK} {G F F' : Hp} {ι ι' : Nat → Addr} {n p q : Nat} {h h' : Hs} {H H' : Hp} {σ σ' : L2.St} {ρ ρ' : En}
theorem fnFin_ok {v : Val} {x : V} {Q : VK} (R : Rel C G F' ι' h' H) (E : Ext G F ι p F' ι') (hp : p ≤ h'.length) (V : RV C ι' F' h'.length x v) (d : Done (repV C) C W G F ι p (fnFin p v h') Q) : Q x H := by
  have lt := trunc_len (h := h') hp
  unfold fnFin at d
  split at d
  · exact d F' ι' H x (R.trunc hp) E lt (V.flat rfl)
  · rename_i m
    split at d
    · rename_i hm
      exact d F' ι' H x (R.trunc hp) E lt (V.below (by simpa [Val.below] using Nat.lt_of_lt_of_le hm lt))
    · rename_i hm
      split at d
      · rename_i c ec
        split at d
        · rename_i hh
          simp only [Bool.and_eq_true] at hh
          obtain ⟨⟨lv, cb⟩, b⟩ := hh
          have lk : (h'.take p).length = p := by rw [List.length_take]; exact Nat.min_eq_left hp
          cases V with
          | ref hv =>
            refine d F' (putI ι' p (ι' m)) H _ (R.relay hp ec (Nat.le_of_not_lt hm) lv cb b) ⟨E.le, fun i hi => by rw [putI_lt hi]; exact E.ag i hi, E.out⟩ (by rw [List.length_append, lk]; omega) ?_
            have z : RV C (putI ι' p (ι' m)) F' (h'.take p ++ [c]).length (.ref (putI ι' p (ι' m) p)) (.ref p) := .ref (by rw [List.length_append, lk]; exact Nat.lt_succ_self _)
            rw [putI_same] at z
            exact z
        · exact d F' ι' H x R E hp V
      · exact d.elim
theorem start_sr {N : List Str} {vs : List V} {args : List Val} {n : Nat} (P : Paired (RV C ι F n) vs args) : SR C ι F n (L2.start N vs) (args.map some ++ List.replicate (N.length - args.length) none) := by
  have hl := Paired.length P
  refine ⟨by unfold L2.start; simp [hl], fun i v e => ?_⟩
  have hi : i < args.length := by
    by_cases hi : i < args.length
    · exact hi
    · rw [List.getElem?_append_right (by simpa using hi), List.getElem?_replicate] at e
      split at e <;> cases e
  rw [List.getElem?_append_left (by simpa using hi), List.getElem?_map] at e
  cases ea : args[i]? with
  | none => rw [ea] at e; cases e
  | some a =>
    rw [ea] at e
    cases e
    obtain ⟨x, h1, h2⟩ := paired_get' P ea
    refine ⟨x, ?_, h2⟩
    unfold L2.start
    rw [List.getElem?_append_left (by rw [List.length_map, hl]; exact hi), List.getElem?_map, h1]
    rfl
end
/-- what stands at hand in a def's body -/
structure Bd (X : Cx) (W : WK) (k : Nat) : Prop where
  ctx : Ctx X W
  room : Room k X.A
  pass : PassesOwn (model X.prog X.w) X.A X.env X.xe
/-- what a frame's names come to, at the entry -/
theorem par_kind {N ps : List Str} {sc : Scope} (S : FnScope N ps sc) (us : List Value) (n : Nat) : ∀ y ∈ ps.zip us, sc.names.lookup y.1 = some .local ∨ (sc.names.lookup y.1 = some .cell ∧ ((cellsFrom n sc.names []).lookup y.1).isSome = true) := fun y hy =>
  (S.par y.1 (List.of_mem_zip hy).1).imp id fun z => ⟨z, PySem.W.cellsFrom_some _ _ _ (.inl z)⟩
theorem mk_good {P : Program} {w : World} {K : PySem.W.Frag} {mg : Str → Option Value} {base : Heap} {x qual : Str} {st : Stmt} {f : Addr} {fd : FuncData} {N ps : List Str} {k : Nat} {m : SM} (F : Fun K x qual st f fd) (S : FnScope N ps (defScope st))
    (hb : ∀ (cdv : Value) (A : Around) (outer : List Env) (s : Shared) (H : Hp) (E : XK), Bd (cxOf (L2.CX P w) P w K mg base N qual (defScope st) f cdv A outer s H E) (wOf mg E) k →
      JSs (cxOf (L2.CX P w) P w K mg base N qual (defScope st) f cdv A outer s H E) (wOf mg E) (defBody st) m) : Good P w K mg base (k + 1) f fd ps (fnOf ps.length N.length m) := by
  obtain ⟨_, _, kV, doc, pm, an, cdv, ct, _, rfl, lk, hcd⟩ := F.ex
  refine ⟨fun A outer s H args us vs Q E hr hgd e0 bnd rv h => ?_⟩
  obtain ⟨hl, G, F0, ι, h0, argv, R, Pd, D⟩ := h
  have kin : K.In s.heap := e0.mod.kin.keeps fun b o e => (e0.bs b o e).1
  have free : s.heap.NoLimit := e0.mod.nolimit.keeps fun b o e => (e0.bs b o e).1
  refine codeAny_call_function hr.depth (kin _ _ lk) rfl S.co S.gen rfl (PySem.W.codeRec_of kin hcd) (bnd _ _ _ _ (wpAny_newFunctionEnv_cells S.kind (par_kind S us _) ?_))
  rintro env rfl s1 fresh
  refine ⟨free.keeps fresh.toInCall.keep, codeAny_func ?_⟩
  have hr' : Room k (A.deeper (envOfC qual (defScope st) s.heap.objs.size f cdv)) := hr.deeper _
  have tk : Takes (cxOf (L2.CX P w) P w K mg base N qual (defScope st) f cdv A outer s H E) (fun cls d _ H => ∃ c Ca, mg c = some (.ref Ca) ∧ cls = .ref Ca ∧ d = none ∧ wOf mg E c H) :=
    Takes.imp (takes_of (E₁ := fun e s' => L2.CX P w outer H s E e s') (E := E) rfl rfl rfl rfl) fun cls d σ H z => by
      obtain ⟨c, Ca, h1, rfl, rfl, h4⟩ := z
      exact h4 Ca h1
  have bd : Bd (cxOf (L2.CX P w) P w K mg base N qual (defScope st) f cdv A outer s H E) (wOf mg E) k :=
    ⟨⟨rfl, S.nd, (show (A.deeper (envOfC qual (defScope st) s.heap.objs.size f cdv)).units + 65 < cLine by have := hr'.un; omega), hgd, tk⟩, hr', passes_of rfl⟩
  have I := inv_start (CX := L2.CX P w) (cd := cdv) (E := E) S hr.hd e0 hl rv fresh
  have ends : ∀ {σ2 : L2.St} {H2 : Hp} {v : V} {u : Value} {s2 : Shared}, Inv (cxOf (L2.CX P w) P w K mg base N qual (defScope st) f cdv A outer s H E) [] σ2 H2 s2 → RelV v u → Q v H2 → CR (L2.CX P w) outer P w H s Q E (.ok (.ret u)) s2 :=
    fun {σ2 H2 v u s2} J ru q => ⟨v, H2, J.os, J.bare, J.base, J.hok, ru, q⟩
  have hargs : argv.length = ps.length := by rw [← Paired.length Pd]; exact hl
  unfold fnOf at D
  rw [if_pos hargs, ← hargs] at D
  refine wpAny_mono ((hb cdv A outer s H E bd).run [] s1 (L2.start N vs) H { nx := fun _ H' => Q .non H', rt := Q } I ⟨G, F0, ι, h0.length, argv.map some ++ List.replicate (N.length - argv.length) none, h0, R, start_sr Pd, Nat.le_refl _, ?_⟩) ?_ fun e s2 z => z
  · cases er : m h0.length (argv.map some ++ List.replicate (N.length - argv.length) none) h0 with
    | nx ρ' h' => rw [er] at D; exact fun F' ι' H' σ' R' E' l' S' => fnFin_ok R' E' l' (.im .non) D
    | rt v h' => rw [er] at D; exact fun F' ι' H' x R' E' l' V' => fnFin_ok R' E' l' V' D
    | bk ρ' h' => rw [er] at D; exact D.elim
    | ct ρ' h' => rw [er] at D; exact D.elim
    | er c => rw [er] at D; exact D
    | no => rw [er] at D; exact D
  · rintro (_ | _ | _ | u) s2 z
    · obtain ⟨σ2, H2, J, q⟩ := z; exact ends (v := .non) (u := .none) J rfl q
    · obtain ⟨_, _, _, q⟩ := z; exact q.elim
    · obtain ⟨_, _, _, q⟩ := z; exact q.elim
    · obtain ⟨v, σ2, H2, J, ru, q⟩ := z; exact ends J ru q
end NT

set_option Elab.async false
set_option linter.all false
set_option maxRecDepth 100000
set_option autoImplicit false

namespace NT
open PySem PySem.Spec PyProof.Rows L2

/-! ### comprehensions -/
abbrev W0 : WK := fun _ _ => False
theorem Ctx.blk {X : Cx} {W : WK} (K : Ctx X W) {s : Shared} {H : Hp} {scope : Scope} {cenv : Env} {fp : List Addr} : Ctx (X.blk s H scope cenv fp) W0 :=
  ⟨K.calm, K.nd, K.hu, K.gd, fun u s' x => by
    obtain ⟨_, _, _, _, _, _, _, _, _, _, _, _, _, _, _, _, _, _, _, _, _, z⟩ := x
    exact z.elim⟩
def wE (ρ : En) : List Nat → En
  | [] => ρ
  | v :: vs => (wE ρ vs).set v none
theorem wE_some {ρ : En} {i : Nat} {x : Val} : ∀ {vs : List Nat}, (wE ρ vs)[i]? = some (some x) → ρ[i]? = some (some x) ∧ i ∉ vs
  | [], q => ⟨q, List.not_mem_nil⟩
  | v :: vs, q => by
    have q' : ((wE ρ vs).set v none)[i]? = some (some x) := q
    rcases get_set q' with ⟨n1, q1⟩ | ⟨_, bad, _⟩
    · have ⟨r1, r2⟩ := wE_some q1
      exact ⟨r1, fun m => (List.mem_cons.mp m).elim n1 r2⟩
    · cases bad
theorem wE_len (ρ : En) : ∀ vs : List Nat, (wE ρ vs).length = ρ.length
  | [] => rfl
  | v :: vs => by rw [wE, List.length_set, wE_len ρ vs]
theorem SR.wipe {C : Cst} {ι : Nat → Addr} {F : Hp} {n : Nat} {σ : L2.St} {ρ : En} (S : SR C ι F n σ ρ) (vs : List Nat) : SR C ι F n (L2.wipe σ vs) (wE ρ vs) :=
  ⟨by rw [wE_len, wipe_length]; exact S.len, fun i v e => by
    obtain ⟨h1, h2⟩ := wE_some e
    obtain ⟨x, h3, h4⟩ := S.at' i v h1
    exact ⟨x, by rw [wipe_out h2]; exact h3, h4⟩⟩
def truncV (k : Nat) (u : Val) (h : Hs) : Hs := match u with
  | .im _ => trunc k h
  | .ref _ => h
def mTrue : M Bool := fun _ h => .ok true h
open Classical in
noncomputable def compGo (s : Src) (T : Tg) (c : M Bool) (e : Ev) (ρ : En) : List Val → List Val → Hs → Res (List Val)
  | [], acc, h => if s.okAt h then .ok acc h else .no
  | v :: r, acc, h => if s.okAt h then (match T.asg v ρ with
    | some ρ1 => (match c ρ1 h with
      | .ok k h1 => if k = true then (match e ρ1 (trunc h.length h1) with
          | .ok u h2 => if acc.length < 16777216 then compGo s T c e ρ r (acc ++ [u]) (truncV (trunc h.length h1).length u h2) else .no
          | _ => .no) else compGo s T c e ρ r acc (trunc h.length h1)
      | _ => .no)
    | none => .no) else .no
noncomputable def eComp (ms : M Src) (T : Tg) (c : M Bool) (e : Ev) (vs : List Nat) : Ev := fun ρ h => (ms ρ h).bind fun src h1 => (compGo src T c e (wE ρ vs) src.items [] h1).bind fun acc h2 => .ok (.ref h2.length) (h2 ++ [.lst acc])
section
variable {C : Cst} {W : WK} {G F F' : Hp} {ι ι' : Nat → Addr} {n p q : Nat} {h h' : Hs} {H H' : Hp} {σ σ' : L2.St} {ρ ρ' : En} {D : Addr} {o o' : HO}
/-- a thing apart -/
structure Apart (G F : Hp) (ι : Nat → Addr) (h : Hs) (D : Addr) : Prop where
  g : G D = none
  f : F D = none
  l : ∀ i c, h[i]? = some c → c.live = true → ι i ≠ D
theorem Rel.withD (R : Rel C G F ι h H) (a : Apart G F ι h D) (e : H D = some o) : Rel C (upd G D o) F ι h H := by
  refine ⟨fun b u z => ?_, R.f, R.inj, fun i c e l => ?_, R.fl, R.cell⟩
  · by_cases hb : b = D
    · subst hb; rw [upd_same] at z; cases z; exact e
    · rw [upd_ne hb] at z; exact R.g b u z
  · rw [upd_ne (a.l i c e l)]; exact R.gl i c e l
theorem Rel.lessD (R : Rel C (upd G D o) F ι h H) (hg : G D = none) : Rel C G F ι h H := by
  refine ⟨fun b u z => R.g b u ?_, R.f, R.inj, fun i c e l => ?_, R.fl, R.cell⟩
  · rw [upd_ne fun q => by rw [q, hg] at z; cases z]; exact z
  · have h1 := R.gl i c e l
    by_cases hb : ι i = D
    · rw [hb]; exact hg
    · rw [upd_ne hb] at h1; exact h1
theorem Rel.apartD (R : Rel C (upd G D o) F ι h H) : ∀ i c, h[i]? = some c → c.live = true → ι i ≠ D := fun i c e l z => by
  have h1 := R.gl i c e l
  rw [z, upd_same] at h1; cases h1
theorem Ext.lessD (E : Ext (upd G D o) F ι q F' ι') : Ext G F ι q F' ι' := ⟨E.le, E.ag, fun b hb => E.out b (by
  by_cases hz : b = D
  · subst hz; rw [upd_same]; exact fun z => nomatch z
  · rw [upd_ne hz]; exact hb)⟩
theorem Rel.updD (R : Rel C G F ι h H) (a : Apart G F ι h D) : Rel C G F ι h (upd H D o) := by
  refine ⟨fun b u z => ?_, fun b u z => ?_, R.inj, R.gl, R.fl, fun i c e => ?_⟩
  · rw [upd_ne fun q => by rw [q, a.g] at z; cases z]; exact R.g b u z
  · rw [upd_ne fun q => by rw [q, a.f] at z; cases z]; exact R.f b u z
  · exact CellR.at' (R.cell i c e) fun l => upd_ne (a.l i c e l)
theorem Rel.adopt (R : Rel C G F ι h H) (a : Apart G F ι h D) {xs : List V} {vs : List Val} (e : H D = some (.lst xs)) (V : Paired (RV C ι F h.length) xs vs) : Rel C G F (putI ι h.length D) (h ++ [.lst vs]) H := by
  have old : ∀ {i : Nat} {c' : Cell}, h[i]? = some c' → putI ι h.length D i = ι i := fun e => putI_lt (List.getElem?_eq_some_iff.mp e).1
  refine ⟨R.g, R.f, fun i j c1 c2 e1 e2 l1 l2 z => ?_, fun i c1 e1 l1 => ?_, fun i c1 e1 l1 => ?_, fun i c1 e1 => ?_⟩
  · rcases get_snoc e1 with ⟨h1, e1⟩ | ⟨h1, e1⟩
    · rcases get_snoc e2 with ⟨h2, e2⟩ | ⟨h2, e2⟩
      · rw [old e1, old e2] at z
        exact R.inj i j c1 c2 e1 e2 l1 l2 z
      · rw [old e1, h2, putI_same] at z
        exact (a.l i c1 e1 l1 z).elim
    · rcases get_snoc e2 with ⟨h2, e2⟩ | ⟨h2, e2⟩
      · rw [old e2, h1, putI_same] at z
        exact (a.l j c2 e2 l2 z.symm).elim
      · rw [h1, h2]
  · rcases get_snoc e1 with ⟨h1, e1⟩ | ⟨h1, e1⟩
    · rw [old e1]; exact R.gl i c1 e1 l1
    · rw [h1, putI_same]; exact a.g
  · rcases get_snoc e1 with ⟨h1, e1⟩ | ⟨h1, e1⟩
    · rw [old e1]; exact R.fl i c1 e1 l1
    · rw [h1, putI_same]; exact a.f
  · rw [List.length_append, List.length_singleton]
    rcases get_snoc e1 with ⟨h1, e1⟩ | ⟨h1, e1⟩
    · rw [old e1]
      exact CellR.mono (R.cell i c1 e1) (fun _ _ z => z) (fun j hj => putI_lt hj) (Nat.le_succ _)
    · rw [h1, putI_same, ← e1]
      exact ⟨xs, e, RVs.mono V (fun _ _ z => z) (fun i hi => putI_lt hi) (Nat.le_succ _)⟩
theorem truncV_len {k : Nat} {u : Val} (hk : k ≤ h.length) : k ≤ (truncV k u h).length := by
  cases u with
  | im d => exact trunc_len hk
  | ref j => exact hk
theorem Rel.truncV {k : Nat} {u : Val} (R : Rel C G F ι h H) (hk : k ≤ h.length) : Rel C G F ι (NT.truncV k u h) H := by
  cases u with
  | im d => exact R.trunc hk
  | ref j => exact R
theorem RV.truncV {k : Nat} {u : Val} {x : V} (V : RV C ι F h.length x u) : RV C ι F (NT.truncV k u h).length x u := by
  cases u with
  | im d => exact V.flat rfl
  | ref j => exact V
end
def jtsTrue {X : Cx} : PTs X [] (tOf repB (cst X) W0 mTrue) := ⟨fun pins s σ H Q I h => (pts_nil (X := X)).run pins s σ H Q I (by
  obtain ⟨G, F, ι, ρ, h, R, S, D⟩ := h
  exact D F ι H _ R Ext.refl (Nat.le_refl _) rfl)⟩
theorem jtsOne {X : Cx} {c : Expr} {mc : M Bool} (h : JT X W0 c mc) : PTs X [c] (tOf repB (cst X) W0 mc) := pts_one h
section
variable {X : Cx} {W : WK} {elt tg iter : Expr} {ifs : List Expr} {scope : Scope} {own : List (Str × Nat)} {ms : M Src} {T : Tg} {mc : M Bool} {me : Ev} {pos : Pos}
theorem comp_r (hv : ∀ i ∈ T.slots, i ∈ own.map (·.2)) {σ : L2.St} {H : Hp} {Q : VK} (t : tOf (repV (cst X)) (cst X) W (eComp ms T mc me (own.map (·.2))) σ H Q) :
    tLc (tOfI (cst X) W ms) (T.g X.K) (tOf repB (cst X) W0 mc) (tOf (repV (cst X)) (cst X) W0 me) (own.map (·.2)) σ H Q := by
  obtain ⟨G, F, ι, ρ, h, R, S, d⟩ := t
  unfold eComp at d
  refine ⟨G, F, ι, ρ, h, R, S, ?_⟩
  cases em : ms ρ h with
  | no => rw [em] at d; exact d
  | er c => rw [em] at d; exact d
  | ok src h1 =>
  rw [em] at d
  intro F1 ι1 H1 J R1 E1 l1 ok D hD
  have d := Done.mono d E1 l1
  obtain ⟨Gd, Y, wk, hG, hY⟩ := ok.ex
  have pl := Src.pin_le src h1.length
  have S1 : SR (cst X) ι1 F1 h1.length (L2.wipe σ (own.map (·.2))) (wE ρ (own.map (·.2))) := (S.mono E1.le E1.ag l1).wipe _
  have a1 : Apart G F1 ι1 h1 D := ⟨R1.freeG hD, R1.freeF hD, fun i c e l => R1.ne e l hD⟩
  generalize hρw : wE ρ (own.map (·.2)) = ρw at d S1
  refine lc_it wk (fun i H => ∃ F2 ι2 h2 acc av, Rel (cst X) G F2 ι2 h2 H ∧ Ext G F1 ι1 h1.length F2 ι2 ∧ h1.length ≤ h2.length ∧ Apart G F2 ι2 h2 D ∧ H D = some (.lst av) ∧ Paired (RV (cst X) ι2 F2 h2.length) av acc ∧
    Done (repV (cst X)) (cst X) W G F2 ι2 h2.length ((compGo src T mc me ρw (src.items.drop i) acc h2).bind fun acc h2 => .ok (.ref h2.length) (h2 ++ [.lst acc])) Q) ?_ ?_ ?_ ?_
  · exact ⟨F1, ι1, h1, [], [], R1.updD a1, Ext.refl, Nat.le_refl _, a1, upd_same, .nil, d⟩
  · rintro i H2 hi ⟨F2, ι2, h2, acc, av, R2, E2, l2, a2, eD, P2, d2⟩
    refine hG F2 ι2 h2 H2 R2 (E2.down pl) (Nat.le_trans pl l2) ?_
    cases e : src.items.drop i with
    | nil =>
      rw [e] at d2
      unfold compGo at d2
      split at d2
      · assumption
      · exact d2.elim
    | cons v r =>
      rw [e] at d2
      unfold compGo at d2
      split at d2
      · assumption
      · exact d2.elim
  · rintro i x H2 H3 hi ⟨F2, ι2, h2, acc, av, R2, E2, l2, a2, eD, P2, d2⟩ y
    have ev : src.items[i]? = some src.items[i] := by simp [hi]
    rw [drop_get ev] at d2
    unfold compGo at d2
    split at d2
    case isFalse => exact d2.elim
    rename_i hok
    obtain ⟨F3, R3, E3, V3, keep, keepF⟩ := hY F2 ι2 h2 H2 i _ x H3 R2 (E2.down pl) (Nat.le_trans pl l2) hok ev y
    have eD3 := keep D _ eD
    have S2 := (S1.mono E2.le E2.ag l2).mono (ι' := ι2) (n' := h2.length) E3.le E3.ag (Nat.le_refl _)
    cases et : T.asg src.items[i] ρw with
    | none => rw [et] at d2; exact d2.elim
    | some ρ1 =>
    rw [et] at d2
    simp only at d2
    obtain ⟨σ1, S3, hgq, hwipe⟩ := Tg.ok R3 V3 S2 et
    refine hgq _ ⟨?_, ?_⟩
    · rw [hwipe _ hv]
      -- wiping twice is wiping once
      have : ∀ (vs us : List Nat), (∀ v ∈ vs, v ∈ us) → L2.wipe (L2.wipe σ us) vs = L2.wipe σ us := by
        intro vs
        induction vs with
        | nil => intro us _; rfl
        | cons v vs ih =>
          intro us hu
          rw [wipe, ih us fun w hw => hu w (List.mem_cons_of_mem _ hw)]
          apply List.ext_getElem?
          intro j
          by_cases hj : v = j
          · subst hj
            by_cases hl : v < (L2.wipe σ us).length
            · rw [List.getElem?_set_self hl]
              cases e : (L2.wipe σ us)[v]? with
              | none => rw [List.getElem?_eq_none_iff] at e; omega
              | some z =>
                cases z with
                | none => rfl
                | some w => exact absurd (hu v List.mem_cons_self) (wipe_some e).2
            · rw [List.getElem?_eq_none (by simpa using hl), List.getElem?_eq_none (by omega)]
          · rw [List.getElem?_set_ne hj]
      exact this _ _ fun _ z => z
    · have E23 : Ext G F1 ι1 h1.length F3 ι2 := E2.trans E3 l2
      have a3 : Apart G F3 ι2 h2 D := ⟨a2.g, by rw [keepF D (by rw [eD]; exact fun z => nomatch z)]; exact a2.f, a2.l⟩
      have P3 : Paired (RV (cst X) ι2 F3 h2.length) av acc := RVs.mono P2 E3.le E3.ag (Nat.le_refl _)
      have d3 := Done.mono d2 E3 (Nat.le_refl _)
      have nD : ∀ {F4 : Hp} {ι4 : Nat → Addr} {q : Nat}, Ext (upd G D (.lst av)) F3 ι2 q F4 ι4 → F4 D = none := fun E => by
        rw [E.out D (by rw [upd_same]; exact fun z => nomatch z)]; exact a3.f
      refine ⟨upd G D (.lst av), F3, ι2, ρ1, h2, R3.withD a3 eD3, S3, ?_⟩
      cases ec : mc ρ1 h2 with
      | no => rw [ec] at d3; exact d3.elim
      | er c => rw [ec] at d3; exact d3.elim
      | ok k h4 =>
      rw [ec] at d3
      intro F4 ι4 H4 b R4 E4 l4 V4
      obtain rfl : b = k := V4
      have R4t := R4.trunc l4
      have lt4 := trunc_len (h := h4) l4
      have d4 := Done.mono d3 E4.lessD lt4
      have P4 : Paired (RV (cst X) ι4 F4 (trunc h2.length h4).length) av acc := RVs.mono P3 E4.le E4.ag lt4
      cases b with
      | false => exact ⟨F4, ι4, _, acc, av, R4t.lessD a3.g, E23.trans E4.lessD l2, Nat.le_trans l2 lt4, ⟨a3.g, nD E4, R4t.apartD⟩, R4.g D _ upd_same, P4, d4⟩
      | true =>
      simp only [if_true] at d4 ⊢
      refine ⟨upd G D (.lst av), F4, ι4, ρ1, _, R4t, S3.mono E4.le E4.ag lt4, ?_⟩
      cases ee : me ρ1 (trunc h2.length h4) with
      | no => rw [ee] at d4; exact d4.elim
      | er c => rw [ee] at d4; exact d4.elim
      | ok u h5 =>
      rw [ee] at d4
      intro F5 ι5 H5 y R5 E5 l5 V5
      have R5t := R5.truncV (u := u) l5
      have lt5 := truncV_len (h := h5) (u := u) l5
      simp only at d4
      split at d4
      case isFalse => exact d4.elim
      rename_i hz
      have d5 := Done.mono d4 E5.lessD lt5
      have f5 : F5 D = none := by rw [E5.out D (by rw [upd_same]; exact fun z => nomatch z)]; exact nD E4
      have a5 : Apart G F5 ι5 (truncV (trunc h2.length h4).length u h5) D := ⟨a3.g, f5, R5t.apartD⟩
      refine ⟨av, R5.g D _ upd_same, by rw [Paired.length P4, SZ_eq]; exact hz, F5, ι5, _, acc ++ [u], av ++ [y], (R5t.lessD a3.g).updD a5, (E23.trans E4.lessD l2).trans E5.lessD (Nat.le_trans l2 lt4), Nat.le_trans (Nat.le_trans l2 lt4) lt5, a5, upd_same, ?_, d5⟩
      exact Paired.snoc (RVs.mono P4 E5.le E5.ag lt5) (RV.truncV V5)
  · rintro H2 ⟨F2, ι2, h2, acc, av, R2, E2, l2, a2, eD, P2, d2⟩
    rw [List.drop_length] at d2
    unfold compGo at d2
    split at d2
    · refine d2 F2 (putI ι2 h2.length D) H2 _ (R2.adopt a2 eD P2) ⟨fun _ _ z => z, fun i hi => putI_lt hi, fun _ _ => rfl⟩ (by simp) ?_
      have z : RV (cst X) (putI ι2 h2.length D) F2 (h2 ++ [Cell.lst acc]).length (.ref (putI ι2 h2.length D h2.length)) (.ref h2.length) := .ref (by simp)
      rw [putI_same] at z
      exact z
    · exact d2.elim
theorem je_comp (K : Ctx X W) (hi : JI X W tg iter ms) (ok : BlkOk X.N X.env.scope scope own) (hv : ∀ i ∈ T.slots, i ∈ own.map (·.2)) (hg : ∀ (s : Shared) (H : Hp) (C : Addr) (cl : List (Str × Addr)) (fp : List Addr), JG (X.blk s H scope (compEnvC scope cl C X.env) fp) tg T)
    (ht : ∀ (s : Shared) (H : Hp) (C : Addr) (cl : List (Str × Addr)) (fp : List Addr), PTs (X.blk s H scope (compEnvC scope cl C X.env) fp) ifs (tOf repB (cst X) W0 mc)) (he : ∀ (s : Shared) (H : Hp) (C : Addr) (cl : List (Str × Addr)) (fp : List Addr), JE (X.blk s H scope (compEnvC scope cl C X.env) fp) W0 elt me)
    (hs : ∀ x, foldedSetIterable iter X.env x = pure x := by intro _; rfl) : JE X W (.ListComp elt [⟨tg, iter, ifs, 0⟩] scope pos) (eComp ms T mc me (own.map (·.2))) :=
  PE.imp (pe_lc K.calm K.nd hi ok hg ht he hs) fun _ _ _ t => comp_r hv t
theorem js_setLc (K : Ctx X W) {i : Nat} {y : Str} {py spos : Pos} (hy : X.N[i]? = some y) (hyl : X.env.scope.names.lookup y = some .local) (hsw : swapsWith (.ListComp elt [⟨tg, iter, ifs, 0⟩] scope pos) (some (.Name y py)) spos.line X.env = pure true)
    (hi : JI X W tg iter ms) (ok : BlkOk X.N X.env.scope scope own) (hv : ∀ i ∈ T.slots, i ∈ own.map (·.2)) (hg : ∀ (s : Shared) (H : Hp) (C : Addr) (cl : List (Str × Addr)) (fp : List Addr), JG (X.blk s H scope (compEnvC scope cl C X.env) fp) tg T)
    (ht : ∀ (s : Shared) (H : Hp) (C : Addr) (cl : List (Str × Addr)) (fp : List Addr), PTs (X.blk s H scope (compEnvC scope cl C X.env) fp) ifs (tOf repB (cst X) W0 mc)) (he : ∀ (s : Shared) (H : Hp) (C : Addr) (cl : List (Str × Addr)) (fp : List Addr), JE (X.blk s H scope (compEnvC scope cl C X.env) fp) W0 elt me)
    (hs : ∀ x, foldedSetIterable iter X.env x = pure x := by intro _; rfl) : JS X W (.Assign [.Name y py] (.ListComp elt [⟨tg, iter, ifs, 0⟩] scope pos) spos) (sSet i (eComp ms T mc me (own.map (·.2)))) :=
  PS.imp (ps_setLc K.calm K.nd hy hyl hsw hi ok hg ht he hs) fun D σ H t => by
    obtain ⟨G, F, ι, p, ρ, h, R, S, hp, d⟩ := t
    refine comp_r (me := me) (mc := mc) hv ?_
    unfold sSet at d
    refine stS R S hp (fun v h1 ee F1 ι1 H1 x R1 E1 l1 V1 S1 => ?_) (fun c ee => by rw [ee] at d; exact d) fun ee => by rw [ee] at d; exact d
    rw [ee] at d
    exact asgn_ok (h := h) rfl R1 l1 hp V1 S1 (DoneS.mono d E1)
end
end NT

set_option Elab.async false
set_option linter.all false
set_option maxRecDepth 100000
set_option autoImplicit false

namespace NT
open PySem PySem.Spec PyProof.Rows L2

/-! ### enumerate(tuple): over the library's account of an enumerate's own turns (WalksT), read in the layer -/
section
variable {K : PySem.W.Frag} {a : Addr} {n : Nat}
/-- pairs of the place and the item of the tuple at a, n of them -/
def IteT (K : PySem.W.Frag) (a : Addr) (n : Nat) : It where
  go i H := i < n ∧ ∃ zs, SqT K H a zs ∧ zs.length = n
  yld i H v H' := ∃ T z, v = .ref T ∧ H T = none ∧ H' = upd H T (.tup [.int (i : Nat), z]) ∧ ∀ zs, SqT K H a zs → zs[i]? = some z
  stop i H := i = n ∧ ∃ zs, SqT K H a zs ∧ zs.length = n
end
/-- the enumerate at en over the tuple's iterator at ti -/
def EnT (en ti a : Addr) (i : Nat) (h : Heap) : Prop := (∃ old, IsEnum h en ti ((i : Nat) : Int) old) ∧ h.IsTupleIter ti a i
theorem EnT.away {en ti a : Addr} {i : Nat} {h h' : Heap} (z : EnT en ti a i h) (k : ∀ b, b = en ∨ b = ti → ∀ o, h.get? b = some o → h'.get? b = some o) : EnT en ti a i h' := by
  obtain ⟨⟨old, z1⟩, z2⟩ := z
  exact ⟨⟨old, k _ (.inl rfl) _ z1⟩, z2.at fun o q => k _ (.inr rfl) o q⟩
theorem two_mem {x y b : Addr} : b ∈ [x, y] ↔ b = x ∨ b = y := by simp
theorem turn_enumT {P : Program} {w : World} {K : PySem.W.Frag} {elts : List Expr} {kk : Nat} {tpos : Pos} {a en ti : Addr} {n : Nat} (h1 : a ≠ ti) (h2 : en ≠ a) (h3 : en ≠ ti) :
    Turn P w K (.Tuple elts kk tpos) (IteT K a n) [en, ti] en (EnT en ti a) := by
  have walk : ∀ (A : Around) (its : Array Value), A.handled = none → WalksT P w A en [en, ti, a] [en, ti] its.size (fun i vals => ∃ t x, its[i]? = some x ∧ vals = #[.int i t, x])
      (fun i h => (∃ old, IsEnum h en ti i old) ∧ h.IsTupleIter ti a i ∧ h.IsTuple a its) (fun i T h => (∃ x, IsEnumOut h en ti ((i : Int) + 1) x T) ∧ (h.IsTupleIter ti a (i + 1) ∧ h.IsTuple a its) ∧ T ≠ en ∧ T ≠ ti) := fun A its hA =>
    WalksT.enumerateD (Draws.tuple (A := A.in1) hA ti a h1 its) en h3 (by rw [two_mem]; exact fun q => q.elim h3 h2) (by simp)
  constructor
  case mem => exact List.mem_cons_self
  case obj =>
    intro i h z b hb
    obtain ⟨⟨old, z1⟩, o, z2, _, z4⟩ := z
    rcases two_mem.mp hb with q | q
    · exact ⟨_, q ▸ z1, fun v => by intro bad; cases bad⟩
    · exact ⟨o, q ▸ z2, fun v bad => by rw [z4] at bad; cases bad⟩
  case keep => exact fun i h h' z k => z.away fun b hb o q => k b (two_mem.mpr hb) o q
  case self => exact fun A i s Q E z q => by obtain ⟨⟨_, z1⟩, _⟩ := z; exact wpAny_pyIter_enum z1 q
  case item =>
    rintro X rfl rfl rfl hc i pins s σ H E I hf ⟨⟨old, z1⟩, z2⟩ ⟨hi, zs, hz, hn⟩
    obtain ⟨us, vz, tp, _⟩ := I.tuple hz
    have hin : i < us.toArray.size := by
      have := vz.length
      rw [List.size_toArray]; omega
    have W := walk X.A us.toArray (I.ok.hd hc)
    refine W.item i s _ _ hin ⟨⟨old, z1⟩, z2, tp⟩ fun T vals g tk hv hT hTup mid kp => ⟨_, rfl, ?_⟩
    refine W.go elts kk tpos i T { s with heap := g, toks := tk } _ _ mid fun g2 st2 kp2 => ?_
    obtain ⟨t, u, hu, rfl⟩ := hv
    obtain ⟨z, hzi, ru⟩ : ∃ z, zs[i]? = some z ∧ RelV z u := by
      have hl : i < zs.length := by omega
      obtain ⟨u', e1, e2⟩ := vz.get (show zs[i]? = some zs[i] from by simp [hl])
      rw [show us.toArray[i]? = us[i]? from by simp, e1] at hu
      cases hu
      exact ⟨_, by simp [hl], e2⟩
    have both : ∀ b o, b ∉ [en, ti] → s.heap.get? b = some o → g2.get? b = some o := fun b o hb q => kp2 b o hb (kp b o hb q)
    obtain ⟨oT, g1, g2c, nn, g3⟩ := hTup
    have apart : T ∉ [en, ti] := W.apart i T g mid
    have obj : ObjOk X.prog X.w (upd H T (.tup [.int (i : Nat), z])) g2 T (.tup [.int (i : Nat), z]) :=
      ⟨(show 2 ≤ sizeLine by rw [SZ_eq]; decide), [.int i t, u], .cons (show RelV (.int (i : Nat)) (.int i t) from ⟨t, rfl⟩) (.cons ru .nil), oT, kp2 T oT apart g1, g2c, nn, g3⟩
    have J := I.turnedNew (t' := tk) (ch := [en, ti]) both hf hT obj
    refine ⟨.ref T, upd H T (.tup [.int (i : Nat), z]), J, rfl, ⟨T, z, rfl, I.hok.fresh hT, rfl, fun ws hw => by rw [I.tuple_inj hw hz]; exact hzi⟩, ⟨st2.1, st2.2.1⟩, fun b hb => ?_⟩
    rw [upd_ne fun q => apart (by rw [← q]; exact hb)]
    exact (hf b hb).1
  case done =>
    rintro X rfl rfl rfl hc i pins s σ H E I hf ⟨⟨old, z1⟩, z2⟩ ⟨hi, zs, hz, hn⟩
    obtain ⟨us, vz, tp, _⟩ := I.tuple hz
    have hs : us.toArray.size = i := by rw [List.size_toArray, ← vz.length, hn, hi]
    have W := walk X.A us.toArray (I.ok.hd hc)
    rw [hs] at W
    exact W.done s _ _ ⟨⟨old, z1⟩, z2, tp⟩ fun g tk kp => ⟨rfl, I.turnedL (t' := tk) (ch := [en, ti]) kp hf⟩
/-- enumerate's own making, over what iter() of its argument begins -/
theorem new_enum {v : Value} {o : Obj} {Hh : Heap → Prop} (B : Begins v o Hh) :
    Meets (Builtin.«enumerate.__new__» ⟨[.type "enumerate", v], []⟩) (fun _ R s => Hh s.heap ∧ R (.ok (.ret (.ref (s.heap.push o).objs.size)))
      { s with heap := (s.heap.push o).push { cls := .type "enumerate", data := .fields #[.none, .bool false, .ref s.heap.objs.size, rawInt 0, .none, .none] } }) := by
  refine .of_wp fun prog w A R sh hh => ?_
  obtain ⟨hp, gs, dr, tk, os⟩ := sh
  obtain ⟨hB, hR⟩ := hh
  have isub := sub_enumerate
  have it0 : ∀ {A' : Around} {E : Value → Shared → Prop} {Q : Value → Shared → Prop}, Q (.ref hp.objs.size) ⟨hp.push o, gs, dr, tk, os⟩ → wpAny (model prog w) A' (pyIter v) Q E ⟨hp, gs, dr, tk, os⟩ := fun q => B.iter prog w _ _ ⟨hp, gs, dr, tk, os⟩ _ hB q
  wp_walk using it0
  refine wpAny_stack_any fun stk => wpAny_pure ?_
  split
  · rename_i ty _ _ _ _ _
    cases (ty == Value.type "enumerate") <;> (wp_walk using it0; exact ⟨_, rfl, hR⟩)
  · wp_walk using it0
    exact ⟨_, rfl, hR⟩
theorem enum_of {prog : Program} {w : World} {A : Around} {E : Value → Shared → Prop} {s : Shared} {v : Value} {o : Obj} {Hh : Heap → Prop} {Q : Value → Shared → Prop} (B : Begins v o Hh) (hv : Hh s.heap)
    (k : Q (.ref (s.heap.push o).objs.size) { s with heap := (s.heap.push o).push { cls := .type "enumerate", data := .fields #[.none, .bool false, .ref s.heap.objs.size, rawInt 0, .none, .none] } }) :
    wpAny (model prog w) A (call (.type "enumerate") [v]) Q E s :=
  callType_new F.called_enumerate (by decide) (F.typeCall_enumerate_1 _) (F.newCall_enumerate_1 _) (fun ob => F.args_object_init_2 ob _) F.entry_enumerate_new (new_enum B)
    ⟨hv, ⟨_, Heap.get?_push_size _ rfl, rfl⟩, k⟩
def iEnumA (K : PySem.W.Frag) (ta : TA) : TI := fun σ H R => ta σ H fun vs H1 => ∃ a xs, vs = [.ref a] ∧ ((SqL K H1 a xs ∧ R (Ite K a) H1) ∨ (SqT K H1 a xs ∧ R (IteT K a xs.length) H1))
theorem pi_enumA {X : Cx} {e : Expr} {ta : TA} {p pos tpos : Pos} {elts : List Expr} {kk : Nat} (hg : Gl X "enumerate") (hm : X.mg "enumerate" = none) (ha : PA X [e] ta) (hs : starEach [e] X.env = [(false, eval e X.env)] := by rfl) :
    PI X (.Tuple elts kk tpos) (.Call (.Name "enumerate" p) [e] [] pos) (iEnumA X.K ta) := ⟨fun pins s σ H R I q0 =>
  Call_ (ld_blt I hg hm boot_enumerate (PyProof.Rows.callWith_type1 (thn (ha.run pos pins s σ H _ I q0) fun us s1 ⟨vs, H1, J, rv, q1⟩ => by
    obtain ⟨a, xs, rfl, q1⟩ := q1
    rw [Vals.ref1 rv]
    have fine : ∀ b ∈ [s1.heap.objs.size + 1, s1.heap.objs.size], FpOk X pins H1 b := fun b hb => by
      have big : s1.heap.objs.size ≤ b := by
        rcases two_mem.mp hb with rfl | rfl
        · exact Nat.le_succ _
        · exact Nat.le_refl _
      exact J.fpOk big (J.hok.fresh big)
    rcases q1 with ⟨hq, q⟩ | ⟨hq, q⟩
    · obtain ⟨_, _, pl, _⟩ := J.list hq
      exact call_enumerate_list pl.isList fun g he hit _ hk => wpAny_pyIter_enum he ⟨_, _, _, _, H1, rfl, J.kept (t' := s1.toks) hk, turn_enum a (s1.heap.objs.size + 1) s1.heap.objs.size, ⟨⟨.none, he⟩, hit, Nat.succ_ne_self _⟩, fine, q⟩
    · obtain ⟨us', vz, tp, _⟩ := J.tuple hq
      obtain ⟨oa, hoa, _⟩ := id tp
      have low := Heap.lt_size hoa
      refine enum_of (begins_tuple a us'.toArray) tp ?_
      have len1 : (s1.heap.push { cls := .type "tuple_iterator", data := .fields #[.ref a, .int 0 0] }).objs.size = s1.heap.objs.size + 1 := Heap.size_push _ _
      have he : IsEnum ((s1.heap.push { cls := .type "tuple_iterator", data := .fields #[.ref a, .int 0 0] }).push { cls := .type "enumerate", data := .fields #[.none, .bool false, .ref s1.heap.objs.size, rawInt 0, .none, .none] })
          (s1.heap.push { cls := .type "tuple_iterator", data := .fields #[.ref a, .int 0 0] }).objs.size s1.heap.objs.size 0 .none := Heap.get?_push_size _ rfl
      refine wpAny_pyIter_enum (i := 0) he ?_
      rw [len1] at he ⊢
      refine ⟨_, _, _, _, H1, rfl, J.kept (t' := s1.toks) fun b ob e => Heap.get?_push_of_some _ (Heap.get?_push_of_some _ e), turn_enumT (n := xs.length) (Nat.ne_of_lt low) (fun z => absurd low (by rw [← z]; exact Nat.not_lt.mpr (Nat.le_succ _))) (Nat.succ_ne_self _), ⟨⟨.none, he⟩, ?_⟩, fine, q⟩
      exact ⟨_, Heap.get?_push_of_some _ (Heap.get?_push_size _ rfl), rfl, rfl⟩) hs rfl))⟩

/-! ### a list, a tuple, a text walked -/
def iSeq (K : PySem.W.Frag) (tl : TE) : TI := fun σ H R => tl σ H fun x H1 => (∃ a, x = .ref a ∧ (∃ xs, SqL K H1 a xs) ∧ R (Itl K a) H1) ∨ (∃ a, x = .ref a ∧ (∃ xs, SqT K H1 a xs) ∧ R (Itt K a) H1) ∨ (∃ z, x = .str z ∧ R (Its z) H1)
theorem pi_seq {X : Cx} {tg l : Expr} {tl : TE} (hl : PE X l tl) : PI X tg l (iSeq X.K tl) := ⟨fun pins s σ H R I q0 =>
  thn (hl.run pins s σ H _ I q0) fun v s1 ⟨x, H1, J, rx, q1⟩ => by
    rcases q1 with ⟨a, rfl, ⟨xs, hq⟩, q⟩ | ⟨a, rfl, ⟨xs, hq⟩, q⟩ | ⟨z, rfl, q⟩
    · cases rx
      obtain ⟨_, _, pl, _⟩ := J.list hq
      exact wpAny_pyIter_list pl.isList (pi_one (tk := s1.toks) J _ (turn_list a _) ⟨_, Heap.get?_push_size _ rfl, rfl, rfl⟩ q)
    · cases rx
      obtain ⟨us, _, tp, _⟩ := J.tuple hq
      exact wpAny_pyIter_tuple (items := us.toArray) tp (pi_one (tk := s1.toks) J _ (turn_tuple a _) ⟨_, Heap.get?_push_size _ rfl, rfl, rfl⟩ q)
    · obtain ⟨t, rfl⟩ := rx
      cases small : z.cps.all (· < 128)
      · exact wpAny_pyIter_wide small (pi_one (tk := s1.toks) J _ (turn_str _ z t _ (.inr rfl)) ⟨_, Heap.get?_push_size _ rfl, rfl, rfl⟩ q)
      · exact wpAny_pyIter_ascii small (pi_one (tk := s1.toks) J _ (turn_str _ z t _ (.inl rfl)) ⟨_, Heap.get?_push_size _ rfl, rfl, rfl⟩ q)⟩

/-! ### sources -/
def seqSrc (k : Nat) (v : Val) (h1 : Hs) : Res Src := match v with
  | .im (.tuple ds) => .ok ⟨ds.map .im, []⟩ (trunc k h1)
  | .im (.list ds) => .ok ⟨ds.map .im, []⟩ (trunc k h1)
  | .im (.str z) => .ok ⟨z.cps.toList.map fun c => .im (.str ⟨#[c]⟩), []⟩ (trunc k h1)
  | .ref m => match h1[m]? with
    | some (.fz (.list ds)) => .ok ⟨ds.map .im, []⟩ (trunc k h1)
    | some (.lst vs) => (match imsOf vs with
      | some ds => if k ≤ m then .ok ⟨ds.map .im, []⟩ (trunc k (h1.set m (.fz (.list ds)))) else .ok ⟨vs, [(m, vs)]⟩ (trunc k h1)
      | none => .ok ⟨vs, [(m, vs)]⟩ h1)
    | _ => .no
  | _ => .no
def mSeq (a : Ev) : M Src := fun ρ h => (a ρ h).bind fun v h1 => seqSrc h.length v h1
def rangeI (lo : Int) (n : Nat) : List Val := (List.range n).map fun (i : Nat) => .im (.int (lo + (i : Int)))
def smallI (i : Int) : Bool := decide (-4611686018427387904 ≤ i ∧ i < 4611686018427387904)
def mRng1 (m : M (List Val)) : M Src := fun ρ h => (m ρ h).bind fun vs h1 => match vs with
  | [.im (.int j)] => if smallI j = true then .ok ⟨rangeI 0 j.toNat, []⟩ (trunc h.length h1) else .no
  | _ => .no
def mRng2 (m : M (List Val)) : M Src := fun ρ h => (m ρ h).bind fun vs h1 => match vs with
  | [.im (.int i), .im (.int j)] => if (smallI i && smallI j) = true then .ok ⟨rangeI i (j - i).toNat, []⟩ (trunc h.length h1) else .no
  | _ => .no
/-- items that are data, and what must stay -/
structure Dat where
  tup : Bool
  ds : List PyData
  watch : List (Nat × List Val)
def datOf (k : Nat) (v : Val) (h1 : Hs) : Option (Dat × Hs) := match v with
  | .im (.tuple ds) => some (⟨true, ds, []⟩, h1)
  | .im (.list ds) => some (⟨false, ds, []⟩, h1)
  | .ref m => match h1[m]? with
    | some (.fz (.list ds)) => some (⟨false, ds, []⟩, h1)
    | some (.lst vs) => (match imsOf vs with
      | some ds => if k ≤ m then some (⟨false, ds, []⟩, h1.set m (.fz (.list ds))) else some (⟨false, ds, [(m, vs)]⟩, h1)
      | none => none)
    | _ => none
  | _ => none
def enumD (i : Nat) : List PyData → List Val
  | [] => []
  | d :: r => .im (.tuple [.int (i : Int), d]) :: enumD (i + 1) r
def mEnum (m : M (List Val)) : M Src := fun ρ h => (m ρ h).bind fun vs h1 => match vs with
  | [v] => match datOf h.length v h1 with
    | some (d, h2) => .ok ⟨enumD 0 d.ds, d.watch⟩ (trunc h.length h2)
    | none => .no
  | _ => .no
def zipD : List PyData → List PyData → List Val
  | a :: as, b :: bs => .im (.tuple [a, b]) :: zipD as bs
  | _, _ => []
def mZip (m : M (List Val)) : M Src := fun ρ h => (m ρ h).bind fun vs h1 => match vs with
  | [v, u] => match datOf h.length v h1 with
    | some (d, h2) => (match datOf h.length u h2 with
      | some (e, h3) => if d.tup = e.tup then .ok ⟨zipD d.ds e.ds, d.watch ++ e.watch⟩ (trunc h.length h3) else .no
      | none => .no)
    | none => .no
  | _ => .no
section
variable {C : Cst} {W : WK} {G F F' : Hp} {ι ι' : Nat → Addr} {n p q k : Nat} {h h' : Hs} {H H' : Hp} {σ σ' : L2.St} {ρ ρ' : En}
theorem dpAll_get {K : PySem.W.Frag} {F : Hp} : ∀ {xs : List V} {ds : List PyData} {i : Nat} {d : PyData}, DpAll K F xs ds → ds[i]? = some d → ∃ x, xs[i]? = some x ∧ Dp K F x d
  | _, [], _, _, _, e => by cases e
  | _, d :: ds, 0, _, z, e => by cases z with | cons a b => simp at e; subst e; exact ⟨_, rfl, a⟩
  | _, d :: ds, i + 1, d', z, e => by
    cases z with
    | cons a b =>
      obtain ⟨x, h1, h2⟩ := dpAll_get (i := i) b (by simpa using e)
      exact ⟨x, (by simpa using h1), h2⟩
/-- the items stand as data: a list or a tuple that is read at each turn -/
def DatR (C : Cst) (G F : Hp) (ι : Nat → Addr) (a : Addr) (d : Dat) : Prop :=
  ∀ F2 ι2 h2 H2, Rel C G F2 ι2 h2 H2 → (∀ b o, F b = some o → F2 b = some o) → (∀ p ∈ d.watch, ι2 p.1 = ι p.1) → (∀ p ∈ d.watch, h2[p.1]? = some (.lst p.2)) →
    ∃ xs, (if d.tup = true then SqT C.K H2 a xs else SqL C.K H2 a xs) ∧ DpAll C.K F2 xs d.ds
theorem datOf_ok {x : V} {v : Val} {d : Dat} (R : Rel C G F ι h H) (V : RV C ι F h.length x v) (e : datOf k v h = some (d, h')) :
    ∃ a F', x = .ref a ∧ Rel C G F' ι h' H ∧ Ext G F ι h.length F' ι ∧ h'.length = h.length ∧ DatR C G F' ι a d ∧ (∀ p ∈ d.watch, p.1 < k) ∧ (∀ p ∈ d.watch, h'[p.1]? = some (.lst p.2)) ∧ ∀ j, j < k → h'[j]? = h[j]? := by
  unfold datOf at e
  split at e
  · cases e
    cases V with
    | im z =>
      cases z with
      | tup s p => exact ⟨_, F, rfl, R, Ext.refl, rfl, fun F2 ι2 h2 H2 R2 le _ _ => ⟨_, (if_pos rfl).mpr (tupF R2.f (tupF le s)), Dp.leAll le _ _ p⟩, (fun p hp => nomatch hp), (fun p hp => nomatch hp), fun _ _ => rfl⟩
  · cases e
    cases V with
    | im z =>
      cases z with
      | lst s p => exact ⟨_, F, rfl, R, Ext.refl, rfl, fun F2 ι2 h2 H2 R2 le _ _ => ⟨_, (if_neg Bool.false_ne_true).mpr (seqF R2.f (seqF le s)), Dp.leAll le _ _ p⟩, (fun p hp => nomatch hp), (fun p hp => nomatch hp), fun _ _ => rfl⟩
  · rename_i m
    cases V with
    | ref hm =>
      split at e
      · rename_i ds hc
        cases e
        have r := R.cell _ _ hc
        cases r with
        | lst s p => exact ⟨_, F, rfl, R, Ext.refl, rfl, fun F2 ι2 h2 H2 R2 le _ _ => ⟨_, (if_neg Bool.false_ne_true).mpr (seqF R2.f (seqF le s)), Dp.leAll le _ _ p⟩, (fun p hp => nomatch hp), (fun p hp => nomatch hp), fun _ _ => rfl⟩
      · rename_i vs hc
        cases ei : imsOf vs with
        | none => rw [ei] at e; cases e
        | some ds =>
          rw [ei] at e
          simp only at e
          split at e
          · cases e
            obtain ⟨F', R', E', z⟩ := R.frz hc ei
            refine ⟨_, F', rfl, R', E', by simp, ?_, (fun p hp => nomatch hp), (fun p hp => nomatch hp), fun j hj => List.getElem?_set_ne (by omega)⟩
            cases z with
            | lst s p => exact fun F2 ι2 h2 H2 R2 le _ _ => ⟨_, (if_neg Bool.false_ne_true).mpr (seqF R2.f (seqF le s)), Dp.leAll le _ _ p⟩
          · cases e
            refine ⟨_, F, rfl, R, Ext.refl, rfl, fun F2 ι2 h2 H2 R2 le ag ok => ?_, fun p hp => ?_, fun p hp => ?_, fun _ _ => rfl⟩
            · have hc2 := ok (m, vs) (by simp)
              obtain ⟨xs, hH, P⟩ := R2.at_lst hc2
              rw [ag (m, vs) (by simp)] at hH
              rw [ims_of ei] at P
              exact ⟨xs, (if_neg Bool.false_ne_true).mpr (SqL.of hH), dpAll_of P⟩
            · have : p = (m, vs) := by simpa using hp
              subst this
              rename_i hkm
              exact Nat.lt_of_not_le hkm
            · have : p = (m, vs) := by simpa using hp
              subst this
              exact hc
      · cases e
  · cases e
theorem pin_of {s : Src} (hi : s.items.all Val.isIm = true) {n : Nat} (hw : s.watch ≠ []) : s.pin n = n := by
  unfold Src.pin
  rw [if_neg]
  intro z
  rw [Bool.and_eq_true] at z
  exact hw (List.isEmpty_iff.mp z.2)
theorem all_im (ds : List PyData) : (ds.map Val.im).all Val.isIm = true := by
  rw [List.all_eq_true]
  intro v hv
  obtain ⟨d, _, rfl⟩ := List.mem_map.mp hv
  rfl
theorem below_im {ds : List PyData} {k : Nat} : ∀ v ∈ ds.map Val.im, v.below k = true := fun v hv => by
  obtain ⟨d, _, rfl⟩ := List.mem_map.mp hv
  rfl
def walkL {K : PySem.W.Frag} {a : Addr} {n : Nat} : Walk (Itl K a) n (fun H => ∃ xs, SqL K H a xs ∧ xs.length = n) (fun i H x H' => H' = H ∧ ∀ xs, SqL K H a xs → xs[i]? = some x) :=
  ⟨fun i _ hi ⟨xs, q, e⟩ => ⟨xs, xs[i]'(by omega), q, by simp [show i < xs.length by omega]⟩, fun _ ⟨xs, q, e⟩ => ⟨xs, q, by omega⟩, fun _ _ _ _ _ _ y => y⟩
def walkT {K : PySem.W.Frag} {a : Addr} {n : Nat} : Walk (Itt K a) n (fun H => ∃ xs, SqT K H a xs ∧ xs.length = n) (fun i H x H' => H' = H ∧ ∀ xs, SqT K H a xs → xs[i]? = some x) :=
  ⟨fun i _ hi ⟨xs, q, e⟩ => ⟨xs, xs[i]'(by omega), q, by simp [show i < xs.length by omega]⟩, fun _ ⟨xs, q, e⟩ => ⟨xs, q, by omega⟩, fun _ _ _ _ _ _ y => y⟩
theorem srcDat {a : Addr} {d : Dat} (dr : DatR C G F ι a d) (hw : ∀ p ∈ d.watch, p.1 < k) : SrcOk C G F ι k ⟨d.ds.map .im, d.watch⟩ (if d.tup = true then Itt C.K a else Itl C.K a) := by
  have hpin : d.watch ≠ [] → (Src.mk (d.ds.map Val.im) d.watch).pin k = k := fun hw => pin_of (s := ⟨d.ds.map .im, d.watch⟩) (all_im _) hw
  refine ⟨below_im, ?_⟩
  by_cases ht : d.tup = true
  · rw [if_pos ht]
    refine ⟨_, _, walkT (n := (d.ds.map Val.im).length), fun F2 ι2 h2 H2 R2 E2 l2 ok => ?_, fun F2 ι2 h2 H2 i v x H3 R2 E2 l2 ok ev y => ?_⟩
    · obtain ⟨xs, hs, z⟩ := dr F2 ι2 h2 H2 R2 E2.le (fun p hp => by have := E2.ag p.1; rw [hpin (List.ne_nil_of_mem hp)] at this; exact this (hw p hp)) ok
      rw [if_pos ht] at hs
      exact ⟨xs, hs, by rw [dp_len z, List.length_map]⟩
    · obtain ⟨xs, hs, z⟩ := dr F2 ι2 h2 H2 R2 E2.le (fun p hp => by have := E2.ag p.1; rw [hpin (List.ne_nil_of_mem hp)] at this; exact this (hw p hp)) ok
      rw [if_pos ht] at hs
      obtain ⟨rfl, y⟩ := y
      have hx := y xs hs
      simp only [List.getElem?_map] at ev
      cases ed : d.ds[i]? with
      | none => rw [ed] at ev; cases ev
      | some dd =>
        rw [ed] at ev; cases ev
        obtain ⟨x', hx', zd⟩ := dpAll_get z ed
        rw [hx] at hx'; cases hx'
        exact ⟨F2, R2, Ext.refl, .im zd, fun _ _ q => q, fun _ _ => rfl⟩
  · rw [if_neg ht]
    refine ⟨_, _, walkL (n := (d.ds.map Val.im).length), fun F2 ι2 h2 H2 R2 E2 l2 ok => ?_, fun F2 ι2 h2 H2 i v x H3 R2 E2 l2 ok ev y => ?_⟩
    · obtain ⟨xs, hs, z⟩ := dr F2 ι2 h2 H2 R2 E2.le (fun p hp => by have := E2.ag p.1; rw [hpin (List.ne_nil_of_mem hp)] at this; exact this (hw p hp)) ok
      rw [if_neg ht] at hs
      exact ⟨xs, hs, by rw [dp_len z, List.length_map]⟩
    · obtain ⟨xs, hs, z⟩ := dr F2 ι2 h2 H2 R2 E2.le (fun p hp => by have := E2.ag p.1; rw [hpin (List.ne_nil_of_mem hp)] at this; exact this (hw p hp)) ok
      rw [if_neg ht] at hs
      obtain ⟨rfl, y⟩ := y
      have hx := y xs hs
      simp only [List.getElem?_map] at ev
      cases ed : d.ds[i]? with
      | none => rw [ed] at ev; cases ev
      | some dd =>
        rw [ed] at ev; cases ev
        obtain ⟨x', hx', zd⟩ := dpAll_get z ed
        rw [hx] at hx'; cases hx'
        exact ⟨F2, R2, Ext.refl, .im zd, fun _ _ q => q, fun _ _ => rfl⟩
/-- a list of refs, as it stands at each turn -/
theorem srcCell {m : Nat} {vs : List Val} (R : Rel C G F ι h H) (hc : h[m]? = some (.lst vs)) : SrcOk C G F ι h.length ⟨vs, [(m, vs)]⟩ (Itl C.K (ι m)) := by
  have hpin : (Src.mk vs [(m, vs)]).pin h.length = h.length := by
    unfold Src.pin
    rw [if_neg]
    intro z
    rw [Bool.and_eq_true] at z
    exact absurd z.2 Bool.false_ne_true
  have hm : m < h.length := (List.getElem?_eq_some_iff.mp hc).1
  refine ⟨fun v hv => ?_, _, _, walkL (n := vs.length), fun F2 ι2 h2 H2 R2 E2 l2 ok => ?_, fun F2 ι2 h2 H2 i v x H3 R2 E2 l2 ok ev y => ?_⟩
  · obtain ⟨xs, hH, P⟩ := R.at_lst hc
    obtain ⟨i, hi⟩ := List.mem_iff_getElem?.mp hv
    obtain ⟨x, _, z⟩ := paired_get' P hi
    cases z with
    | im _ => rfl
    | ref hk => exact decide_eq_true hk
  · rw [hpin] at E2
    obtain ⟨xs, hH, P⟩ := R2.at_lst (ok (m, vs) (by simp))
    rw [E2.ag m hm] at hH
    exact ⟨xs, SqL.of hH, Paired.length P⟩
  · rw [hpin] at E2 l2
    obtain ⟨xs, hH, P⟩ := R2.at_lst (ok (m, vs) (by simp))
    rw [E2.ag m hm] at hH
    obtain ⟨rfl, y⟩ := y
    have hx := y xs (SqL.of hH)
    obtain ⟨x', h1, h2'⟩ := paired_get' P ev
    rw [hx] at h1; cases h1
    exact ⟨F2, R2, Ext.refl, h2', fun _ _ q => q, fun _ _ => rfl⟩
theorem srcStr {z : Str} : SrcOk C G F ι k ⟨z.cps.toList.map fun c => .im (.str ⟨#[c]⟩), []⟩ (Its z) := by
  refine ⟨fun v hv => by obtain ⟨c, _, rfl⟩ := List.mem_map.mp hv; rfl, _, _, (by
    have w := walk_str (z := z)
    rw [show z.cps.size = (Src.mk (z.cps.toList.map fun c => Val.im (.str ⟨#[c]⟩)) []).items.length by simp] at w
    exact w), fun F2 ι2 h2 H2 _ _ _ _ => trivial, fun F2 ι2 h2 H2 i v x H3 R2 E2 l2 ok ev y => ?_⟩
  obtain ⟨rfl, c, hc, rfl⟩ := y
  simp only [List.getElem?_map, Array.getElem?_toList] at ev
  rw [hc] at ev
  cases ev
  exact ⟨F2, R2, Ext.refl, .im (.str _), fun _ _ q => q, fun _ _ => rfl⟩
theorem srcRng {lo : Int} {m : Nat} : SrcOk C G F ι k ⟨rangeI lo m, []⟩ (Itr lo m) := by
  refine ⟨fun v hv => by obtain ⟨c, _, rfl⟩ := List.mem_map.mp hv; rfl, _, _, (by
    have w := walk_range (lo := lo) (n := m)
    rw [show m = (Src.mk (rangeI lo m) []).items.length by simp [rangeI]] at w
    simpa [rangeI] using w), fun F2 ι2 h2 H2 _ _ _ _ => trivial, fun F2 ι2 h2 H2 i v x H3 R2 E2 l2 ok ev y => ?_⟩
  obtain ⟨rfl, rfl⟩ := y
  have ev' : ((List.range m).map fun (i : Nat) => Val.im (.int (lo + (i : Int))))[i]? = some v := ev
  rw [List.getElem?_map] at ev'
  by_cases hi : i < m
  · rw [List.getElem?_range hi] at ev'
    cases ev'
    exact ⟨F2, R2, Ext.refl, .im (.int _), fun _ _ q => q, fun _ _ => rfl⟩
  · rw [List.getElem?_eq_none (by simpa using hi)] at ev'; cases ev'
theorem enumD_len : ∀ {ds : List PyData} {i : Nat}, (enumD i ds).length = ds.length
  | [], _ => rfl
  | _ :: r, i => by rw [enumD, List.length_cons, enumD_len (ds := r), List.length_cons]
theorem enumD_get : ∀ {ds : List PyData} {i j : Nat} {v : Val}, (enumD i ds)[j]? = some v → ∃ d, ds[j]? = some d ∧ v = .im (.tuple [.int ((i + j : Nat) : Int), d])
  | [], _, _, _, e => by simp [enumD] at e
  | d :: r, i, 0, v, e => by simp [enumD] at e; exact ⟨d, rfl, e.symm⟩
  | d :: r, i, j + 1, v, e => by
    obtain ⟨d', h1, h2⟩ := enumD_get (ds := r) (i := i + 1) (j := j) (v := v) (by simpa [enumD] using e)
    exact ⟨d', by simpa using h1, by rw [h2, show i + 1 + j = i + (j + 1) by omega]⟩
theorem enumD_im : ∀ {ds : List PyData} {i : Nat}, (enumD i ds).all Val.isIm = true
  | [], _ => rfl
  | _ :: r, i => by rw [enumD, List.all_cons, enumD_im (ds := r)]; rfl
theorem im_below {vs : List Val} (h : vs.all Val.isIm = true) {k : Nat} : ∀ v ∈ vs, v.below k = true := fun v hv => by
  have := List.all_eq_true.mp h v hv
  cases v with
  | im _ => rfl
  | ref _ => cases this
theorem newPair (R : Rel C G F ι h H) {T : Addr} (hT : H T = none) {x y : V} {a b : PyData} (zx : Dp C.K F x a) (zy : Dp C.K F y b) :
    ∃ F3, Rel C G F3 ι h (upd H T (.tup [x, y])) ∧ Ext G F ι h.length F3 ι ∧ RV C ι F3 h.length (.ref T) (.im (.tuple [a, b])) ∧ (∀ c o, H c = some o → upd H T (.tup [x, y]) c = some o) ∧ ∀ c, H c ≠ none → F3 c = F c := by
  have E := Ext.newF R hT (.tup [x, y])
  refine ⟨upd F T (.tup [x, y]), R.newF hT _, E, .im (.tup (SqT.of upd_same) (.cons (Dp.le E.le _ _ zx) (.cons (Dp.le E.le _ _ zy) .nil))), fun c o e => ?_, fun c hc => upd_ne fun z => ?_⟩
  · rw [upd_ne fun z => by rw [z, hT] at e; cases e]; exact e
  · rw [z] at hc; exact hc hT
theorem srcEnum {a : Addr} {d : Dat} (dr : DatR C G F ι a d) (hw : ∀ p ∈ d.watch, p.1 < k) : SrcOk C G F ι k ⟨enumD 0 d.ds, d.watch⟩ (if d.tup = true then IteT C.K a d.ds.length else Ite C.K a) := by
  have hpin : d.watch ≠ [] → (Src.mk (enumD 0 d.ds) d.watch).pin k = k := fun hw => pin_of (s := ⟨enumD 0 d.ds, d.watch⟩) enumD_im hw
  refine ⟨im_below enumD_im, ?_⟩
  by_cases ht : d.tup = true
  · rw [if_pos ht]
    refine ⟨fun H => ∃ xs, SqT C.K H a xs ∧ xs.length = d.ds.length, fun i H v H' => ∃ T x, v = .ref T ∧ H T = none ∧ H' = upd H T (.tup [.int (i : Nat), x]) ∧ ∀ xs, SqT C.K H a xs → xs[i]? = some x, ?_, fun F2 ι2 h2 H2 R2 E2 l2 ok => ?_, fun F2 ι2 h2 H2 i v x H3 R2 E2 l2 ok ev y => ?_⟩
    · show Walk _ (enumD 0 d.ds).length _ _
      rw [enumD_len]
      exact ⟨fun i _ hi q => ⟨hi, q⟩, fun _ q => ⟨rfl, q⟩, fun _ _ _ _ _ _ y => y⟩
    · obtain ⟨xs, hs, z⟩ := dr F2 ι2 h2 H2 R2 E2.le (fun p hp => by have := E2.ag p.1; rw [hpin (List.ne_nil_of_mem hp)] at this; exact this (hw p hp)) ok
      rw [if_pos ht] at hs
      exact ⟨xs, hs, dp_len z⟩
    · obtain ⟨xs, hs, z⟩ := dr F2 ι2 h2 H2 R2 E2.le (fun p hp => by have := E2.ag p.1; rw [hpin (List.ne_nil_of_mem hp)] at this; exact this (hw p hp)) ok
      rw [if_pos ht] at hs
      obtain ⟨T, x', rfl, hT, rfl, y⟩ := y
      obtain ⟨dd, h1, rfl⟩ := enumD_get ev
      obtain ⟨x2, hx2, zd⟩ := dpAll_get z h1
      rw [y xs hs] at hx2; cases hx2
      rw [Nat.zero_add]
      exact newPair R2 hT (.int _) zd
  · rw [if_neg ht]
    refine ⟨fun H => ∃ xs, SqL C.K H a xs ∧ xs.length = d.ds.length, fun i H v H' => ∃ T x, v = .ref T ∧ H T = none ∧ H' = upd H T (.tup [.int (i : Nat), x]) ∧ ∀ xs, SqL C.K H a xs → xs[i]? = some x, ?_, fun F2 ι2 h2 H2 R2 E2 l2 ok => ?_, fun F2 ι2 h2 H2 i v x H3 R2 E2 l2 ok ev y => ?_⟩
    · show Walk _ (enumD 0 d.ds).length _ _
      rw [enumD_len]
      exact ⟨fun i _ hi ⟨xs, q, e⟩ => ⟨xs, xs[i]'(by omega), q, by simp [show i < xs.length by omega]⟩, fun _ ⟨xs, q, e⟩ => ⟨xs, q, by omega⟩, fun _ _ _ _ _ _ y => y⟩
    · obtain ⟨xs, hs, z⟩ := dr F2 ι2 h2 H2 R2 E2.le (fun p hp => by have := E2.ag p.1; rw [hpin (List.ne_nil_of_mem hp)] at this; exact this (hw p hp)) ok
      rw [if_neg ht] at hs
      exact ⟨xs, hs, dp_len z⟩
    · obtain ⟨xs, hs, z⟩ := dr F2 ι2 h2 H2 R2 E2.le (fun p hp => by have := E2.ag p.1; rw [hpin (List.ne_nil_of_mem hp)] at this; exact this (hw p hp)) ok
      rw [if_neg ht] at hs
      obtain ⟨T, x', rfl, hT, rfl, y⟩ := y
      obtain ⟨dd, h1, rfl⟩ := enumD_get ev
      obtain ⟨x2, hx2, zd⟩ := dpAll_get z h1
      rw [y xs hs] at hx2; cases hx2
      rw [Nat.zero_add]
      exact newPair R2 hT (.int _) zd
theorem zipD_im : ∀ {as bs : List PyData}, (zipD as bs).all Val.isIm = true
  | [], _ => by simp [zipD]
  | _ :: _, [] => by simp [zipD]
  | a :: as, b :: bs => by rw [zipD, List.all_cons, zipD_im (as := as)]; rfl
theorem zipD_len : ∀ {as bs : List PyData}, (zipD as bs).length = min as.length bs.length
  | [], _ => by simp [zipD]
  | _ :: _, [] => by simp [zipD]
  | a :: as, b :: bs => by rw [zipD, List.length_cons, zipD_len (as := as), List.length_cons, List.length_cons]; omega
theorem zipD_get : ∀ {as bs : List PyData} {j : Nat} {v : Val}, (zipD as bs)[j]? = some v → ∃ a b, as[j]? = some a ∧ bs[j]? = some b ∧ v = .im (.tuple [a, b])
  | [], _, _, _, e => by simp [zipD] at e
  | _ :: _, [], _, _, e => by simp [zipD] at e
  | a :: as, b :: bs, 0, v, e => by simp [zipD] at e; exact ⟨a, b, rfl, rfl, e.symm⟩
  | a :: as, b :: bs, j + 1, v, e => by
    obtain ⟨a', b', h1, h2, h3⟩ := zipD_get (as := as) (bs := bs) (j := j) (v := v) (by simpa [zipD] using e)
    exact ⟨a', b', by simpa using h1, by simpa using h2, h3⟩
theorem srcZip {a b : Addr} {d e : Dat} (dr : DatR C G F ι a d) (er : DatR C G F ι b e) (hwd : ∀ p ∈ d.watch, p.1 < k) (hwe : ∀ p ∈ e.watch, p.1 < k) (hte : d.tup = e.tup) : SrcOk C G F ι k ⟨zipD d.ds e.ds, d.watch ++ e.watch⟩ (if d.tup = true then RZ.ItzT C.K a b else Itz C.K a b) := by
  have hpin : d.watch ++ e.watch ≠ [] → (Src.mk (zipD d.ds e.ds) (d.watch ++ e.watch)).pin k = k := fun hw => pin_of (s := ⟨zipD d.ds e.ds, d.watch ++ e.watch⟩) zipD_im hw
  have both : ∀ F2 ι2 h2 H2, Rel C G F2 ι2 h2 H2 → Ext G F ι ((Src.mk (zipD d.ds e.ds) (d.watch ++ e.watch)).pin k) F2 ι2 → (Src.mk (zipD d.ds e.ds) (d.watch ++ e.watch)).okAt h2 →
      (∃ xs, (if d.tup = true then SqT C.K H2 a xs else SqL C.K H2 a xs) ∧ DpAll C.K F2 xs d.ds) ∧ ∃ ys, (if e.tup = true then SqT C.K H2 b ys else SqL C.K H2 b ys) ∧ DpAll C.K F2 ys e.ds := fun F2 ι2 h2 H2 R2 E2 ok =>
    ⟨dr F2 ι2 h2 H2 R2 E2.le (fun p hp => by have := E2.ag p.1; rw [hpin (List.ne_nil_of_mem (List.mem_append_left _ hp))] at this; exact this (hwd p hp)) fun p hp => ok p (List.mem_append_left _ hp),
      er F2 ι2 h2 H2 R2 E2.le (fun p hp => by have := E2.ag p.1; rw [hpin (List.ne_nil_of_mem (List.mem_append_right _ hp))] at this; exact this (hwe p hp)) fun p hp => ok p (List.mem_append_right _ hp)⟩
  refine ⟨im_below zipD_im, ?_⟩
  by_cases ht : d.tup = true
  · rw [if_pos ht]
    refine ⟨fun H => ∃ xs ys, SqT C.K H a xs ∧ SqT C.K H b ys ∧ xs.length = d.ds.length ∧ ys.length = e.ds.length,
      fun i H v H' => ∃ T x y, v = .ref T ∧ H T = none ∧ H' = upd H T (.tup [x, y]) ∧ (∀ xs, SqT C.K H a xs → xs[i]? = some x) ∧ ∀ ys, SqT C.K H b ys → ys[i]? = some y, ?_, fun F2 ι2 h2 H2 R2 E2 l2 ok => ?_, fun F2 ι2 h2 H2 i v x H3 R2 E2 l2 ok ev y => ?_⟩
    · show Walk _ (zipD d.ds e.ds).length _ _
      rw [zipD_len]
      exact ⟨fun i _ hi ⟨xs, ys, q, r, l1, l2⟩ => ⟨xs, ys, xs[i]'(by omega), ys[i]'(by omega), q, r, by simp [show i < xs.length by omega], by simp [show i < ys.length by omega]⟩, fun _ ⟨xs, ys, q, r, l1, l2⟩ => ⟨xs, ys, q, r, by omega⟩, fun _ _ _ _ _ _ y => y⟩
    · obtain ⟨⟨xs, hs, z⟩, ys, hs', z'⟩ := both F2 ι2 h2 H2 R2 E2 ok
      rw [if_pos ht] at hs
      rw [if_pos (hte ▸ ht)] at hs'
      exact ⟨xs, ys, hs, hs', dp_len z, dp_len z'⟩
    · obtain ⟨⟨xs, hs, z⟩, ys, hs', z'⟩ := both F2 ι2 h2 H2 R2 E2 ok
      rw [if_pos ht] at hs
      rw [if_pos (hte ▸ ht)] at hs'
      obtain ⟨T, x', y', rfl, hT, rfl, y1, y2⟩ := y
      obtain ⟨da, db, e1, e2, rfl⟩ := zipD_get ev
      obtain ⟨x2, hx2, zd⟩ := dpAll_get z e1
      obtain ⟨x3, hx3, zd3⟩ := dpAll_get z' e2
      rw [y1 xs hs] at hx2; cases hx2
      rw [y2 ys hs'] at hx3; cases hx3
      exact newPair R2 hT zd zd3
  · rw [if_neg ht]
    have ht' : ¬ e.tup = true := fun z => ht (hte ▸ z)
    refine ⟨fun H => ∃ xs ys, SqL C.K H a xs ∧ SqL C.K H b ys ∧ xs.length = d.ds.length ∧ ys.length = e.ds.length,
      fun i H v H' => ∃ T x y, v = .ref T ∧ H T = none ∧ H' = upd H T (.tup [x, y]) ∧ (∀ xs, SqL C.K H a xs → xs[i]? = some x) ∧ ∀ ys, SqL C.K H b ys → ys[i]? = some y, ?_, fun F2 ι2 h2 H2 R2 E2 l2 ok => ?_, fun F2 ι2 h2 H2 i v x H3 R2 E2 l2 ok ev y => ?_⟩
    · show Walk _ (zipD d.ds e.ds).length _ _
      rw [zipD_len]
      refine ⟨fun i _ hi ⟨xs, ys, q, r, l1, l2⟩ => ?_, fun _ ⟨xs, ys, q, r, l1, l2⟩ => ?_, fun i H v H' _ _ y => ?_⟩
      · exact ⟨xs, ys, xs[i]'(by omega), ys[i]'(by omega), q, r, by simp [show i < xs.length by omega], by simp [show i < ys.length by omega]⟩
      · exact ⟨xs, ys, q, r, by omega⟩
      · exact y
    · obtain ⟨⟨xs, hs, z⟩, ys, hs', z'⟩ := both F2 ι2 h2 H2 R2 E2 ok
      rw [if_neg ht] at hs
      rw [if_neg ht'] at hs'
      exact ⟨xs, ys, hs, hs', dp_len z, dp_len z'⟩
    · obtain ⟨⟨xs, hs, z⟩, ys, hs', z'⟩ := both F2 ι2 h2 H2 R2 E2 ok
      rw [if_neg ht] at hs
      rw [if_neg ht'] at hs'
      obtain ⟨T, x', y', rfl, hT, rfl, y1, y2⟩ := y
      obtain ⟨da, db, e1, e2, rfl⟩ := zipD_get ev
      obtain ⟨x2, hx2, zd⟩ := dpAll_get z e1
      obtain ⟨x3, hx3, zd3⟩ := dpAll_get z' e2
      rw [y1 xs hs] at hx2; cases hx2
      rw [y2 ys hs'] at hx3; cases hx3
      exact newPair R2 hT zd zd3
end

/-! ### the rules of walking -/
section
variable {X : Cx} {W : WK} {tg e e' : Expr} {me : Ev} {ms : M (List Val)} {p pos tpos : Pos} {elts : List Expr} {kk : Nat}
/-- an iterator's source at the end of its own reading -/
theorem fin_src {C : Cst} {G F F' : Hp} {ι ι' : Nat → Addr} {h h1 : Hs} {H : Hp} {src : Src} {J : It} {R : It → Hp → Prop}
    {W : WK} (D : DoneI C W G F ι h.length (.ok src (trunc h.length h1)) R) (R1 : Rel C G F' ι' h1 H) (E1 : Ext G F ι h.length F' ι') (l1 : h.length ≤ h1.length) (ok : SrcOk C G F' ι' (trunc h.length h1).length src J) : R J H :=
  D F' ι' H J (R1.trunc l1) E1 (trunc_len l1) ok
theorem ji_seq (he : JE X W e me) : JI X W tg e (mSeq me) := by
  refine PI.imp (pi_seq he) fun σ H Q t => ?_
  obtain ⟨G, F, ι, ρ, h, R, S, D⟩ := t
  refine ⟨G, F, ι, ρ, h, R, S, ?_⟩
  unfold mSeq at D
  cases ea : me ρ h with
  | no => rw [ea] at D; exact D
  | er c => rw [ea] at D; exact D
  | ok v h1 =>
    rw [ea] at D
    intro F1 ι1 H1 x R1 E1 l1 V1
    have V1' : RV (cst X) ι1 F1 h1.length x v := V1
    simp only [bind_ok] at D
    unfold seqSrc at D
    split at D
    · rename_i ds
      cases V1' with
      | im z =>
        cases z with
        | tup s p =>
          refine .inr (.inl ⟨_, rfl, ⟨_, tupF R1.f s⟩, fin_src D R1 E1 l1 ?_⟩)
          have := srcDat (C := cst X) (G := G) (F := F1) (ι := ι1) (k := (trunc h.length h1).length) (d := ⟨true, ds, []⟩) (fun F2 ι2 h2 H2 R2 le _ _ => ⟨_, (if_pos rfl).mpr (tupF R2.f (tupF le s)), Dp.leAll le _ _ p⟩) (fun p hp => nomatch hp)
          exact this
    · rename_i ds
      cases V1' with
      | im z =>
        cases z with
        | lst s p =>
          refine .inl ⟨_, rfl, ⟨_, seqF R1.f s⟩, fin_src D R1 E1 l1 ?_⟩
          have := srcDat (C := cst X) (G := G) (F := F1) (ι := ι1) (k := (trunc h.length h1).length) (d := ⟨false, ds, []⟩) (fun F2 ι2 h2 H2 R2 le _ _ => ⟨_, (if_neg Bool.false_ne_true).mpr (seqF R2.f (seqF le s)), Dp.leAll le _ _ p⟩) (fun p hp => nomatch hp)
          exact this
    · cases V1' with
      | im z => cases z; exact .inr (.inr ⟨_, rfl, fin_src D R1 E1 l1 srcStr⟩)
    · rename_i m
      cases V1' with
      | ref hm =>
        split at D
        · rename_i ds hc
          have r := R1.cell _ _ hc
          cases r with
          | lst s p =>
            refine .inl ⟨_, rfl, ⟨_, seqF R1.f s⟩, fin_src D R1 E1 l1 ?_⟩
            have := srcDat (C := cst X) (G := G) (F := F1) (ι := ι1) (k := (trunc h.length h1).length) (d := ⟨false, ds, []⟩) (fun F2 ι2 h2 H2 R2 le _ _ => ⟨_, (if_neg Bool.false_ne_true).mpr (seqF R2.f (seqF le s)), Dp.leAll le _ _ p⟩) (fun p hp => nomatch hp)
            exact this
        · rename_i vs hc
          obtain ⟨xs, hH, P⟩ := R1.at_lst hc
          cases ei : imsOf vs with
          | none =>
            rw [ei] at D
            exact .inl ⟨_, rfl, ⟨_, SqL.of hH⟩, D F1 ι1 H1 _ R1 E1 l1 (srcCell R1 hc)⟩
          | some ds =>
            rw [ei] at D
            simp only at D
            split at D
            · obtain ⟨F', R', E', z⟩ := R1.frz hc ei
              cases z with
              | lst s p =>
                have l2 : h.length ≤ (h1.set m (.fz (.list ds))).length := by rw [List.length_set]; exact l1
                refine .inl ⟨_, rfl, ⟨_, SqL.of hH⟩, fin_src D R' (E1.trans E' l1) l2 ?_⟩
                have := srcDat (C := cst X) (G := G) (F := F') (ι := ι1) (k := (trunc h.length (h1.set m (.fz (.list ds)))).length) (d := ⟨false, ds, []⟩) (fun F2 ι2 h2 H2 R2 le _ _ => ⟨_, (if_neg Bool.false_ne_true).mpr (seqF R2.f (seqF le s)), Dp.leAll le _ _ p⟩) (fun p hp => nomatch hp)
                exact this
            · rename_i hkm
              refine .inl ⟨_, rfl, ⟨_, SqL.of hH⟩, fin_src D R1 E1 l1 ?_⟩
              have := srcDat (C := cst X) (G := G) (F := F1) (ι := ι1) (k := (trunc h.length h1).length) (a := ι1 m) (d := ⟨false, ds, [(m, vs)]⟩) (fun F2 ι2 h2 H2 R2 le ag ok => by
                obtain ⟨ys, hY, Py⟩ := R2.at_lst (ok (m, vs) (by simp))
                rw [ag (m, vs) (by simp)] at hY
                rw [ims_of ei] at Py
                exact ⟨ys, (if_neg Bool.false_ne_true).mpr (SqL.of hY), dpAll_of Py⟩) (fun p hp => by
                have : p = (m, vs) := by simpa using hp
                subst this
                exact Nat.lt_of_lt_of_le (Nat.lt_of_not_le hkm) (trunc_len l1))
              rw [← ims_of ei] at this
              exact this
        · exact D.elim
    · exact D.elim
theorem smallI_ok {i : Int} (h : smallI i = true) : -(2 ^ 62) ≤ i ∧ i < 2 ^ 62 := by
  simp only [smallI, decide_eq_true_eq] at h
  exact ⟨by omega, by omega⟩
theorem ji_rng1 {a : Expr} (hg : Gl X "range") (hm : X.mg "range" = none) (ha : JA X W [a] ms) (hs : starEach [a] X.env = [(false, eval a X.env)] := by rfl) : JI X W tg (.Call (.Name "range" p) [a] [] pos) (mRng1 ms) := by
  refine PI.imp (pi_range1 hg hm ha hs) fun σ H Q t => ?_
  obtain ⟨G, F, ι, ρ, h, R, S, D⟩ := t
  refine ⟨G, F, ι, ρ, h, R, S, ?_⟩
  unfold mRng1 at D
  cases ea : ms ρ h with
  | no => rw [ea] at D; exact D
  | er c => rw [ea] at D; exact D
  | ok v h1 =>
    rw [ea] at D
    intro F1 ι1 H1 x R1 E1 l1 V1
    have V1' : Paired (RV (cst X) ι1 F1 h1.length) x v := V1
    simp only [bind_ok] at D
    split at D
    · split at D
      · rename_i hh
        obtain ⟨b1, b2⟩ := smallI_ok hh
        cases V1' with
        | cons z r =>
          cases r
          cases z with
          | im z => cases z; exact ⟨_, rfl, b1, b2, fin_src D R1 E1 l1 srcRng⟩
      · exact D.elim
    · exact D.elim
theorem ji_rng2 {a b : Expr} (hg : Gl X "range") (hm : X.mg "range" = none) (ha : JA X W [a, b] ms) (hs : starEach [a, b] X.env = [(false, eval a X.env), (false, eval b X.env)] := by rfl) (hs2 : starEach [b] X.env = [(false, eval b X.env)] := by rfl) :
    JI X W tg (.Call (.Name "range" p) [a, b] [] pos) (mRng2 ms) := by
  refine PI.imp (pi_range2 hg hm ha hs hs2) fun σ H Q t => ?_
  obtain ⟨G, F, ι, ρ, h, R, S, D⟩ := t
  refine ⟨G, F, ι, ρ, h, R, S, ?_⟩
  unfold mRng2 at D
  cases ea : ms ρ h with
  | no => rw [ea] at D; exact D
  | er c => rw [ea] at D; exact D
  | ok v h1 =>
    rw [ea] at D
    intro F1 ι1 H1 x R1 E1 l1 V1
    have V1' : Paired (RV (cst X) ι1 F1 h1.length) x v := V1
    simp only [bind_ok] at D
    split at D
    · split at D
      · rename_i hh
        rw [Bool.and_eq_true] at hh
        obtain ⟨b1, b2⟩ := smallI_ok hh.1
        obtain ⟨b3, b4⟩ := smallI_ok hh.2
        cases V1' with
        | cons z r =>
          cases r with
          | cons z2 r =>
            cases r
            cases z with
            | im z =>
              cases z
              cases z2 with
              | im z2 => cases z2; exact ⟨_, _, rfl, ⟨b1, b2, b3, b4⟩, fin_src D R1 E1 l1 srcRng⟩
      · exact D.elim
    · exact D.elim
theorem ji_enum (hg : Gl X "enumerate") (hm : X.mg "enumerate" = none) (ha : JA X W [e] ms) (hs : starEach [e] X.env = [(false, eval e X.env)] := by rfl) : JI X W (.Tuple elts kk tpos) (.Call (.Name "enumerate" p) [e] [] pos) (mEnum ms) := by
  refine PI.imp (pi_enumA hg hm ha hs) fun σ H Q t => ?_
  obtain ⟨G, F, ι, ρ, h, R, S, D⟩ := t
  refine ⟨G, F, ι, ρ, h, R, S, ?_⟩
  unfold mEnum at D
  cases ea : ms ρ h with
  | no => rw [ea] at D; exact D
  | er c => rw [ea] at D; exact D
  | ok v h1 =>
    rw [ea] at D
    intro F1 ι1 H1 x R1 E1 l1 V1
    have V1' : Paired (RV (cst X) ι1 F1 h1.length) x v := V1
    simp only [bind_ok] at D
    split at D
    · rename_i v
      cases ed : datOf h.length v h1 with
      | none => rw [ed] at D; exact D.elim
      | some q =>
        obtain ⟨d, h2⟩ := q
        rw [ed] at D
        cases V1' with
        | cons z r =>
          cases r
          obtain ⟨a, F', rfl, R', E', l', dr, hw, hst, _⟩ := datOf_ok R1 z ed
          have l2 : h.length ≤ h2.length := by rw [l']; exact l1
          have hk := trunc_len (h := h2) l2
          obtain ⟨xs, hs', hds⟩ := dr F' ι1 h2 H1 R' (fun _ _ q => q) (fun _ _ => rfl) hst
          have ok := srcEnum (k := (trunc h.length h2).length) dr fun p hp => Nat.lt_of_lt_of_le (hw p hp) hk
          have fin := fin_src D R' (E1.trans E' l1) l2 ok
          refine ⟨a, xs, rfl, ?_⟩
          by_cases ht : d.tup = true
          · rw [if_pos ht] at hs' fin; rw [← dp_len hds] at fin; exact .inr ⟨hs', fin⟩
          · rw [if_neg ht] at hs' fin; exact .inl ⟨hs', fin⟩
    · exact D.elim
theorem ji_zip (hg : Gl X "zip") (hm : X.mg "zip" = none) (ha : JA X W [e, e'] ms) (hs : starEach [e, e'] X.env = (false, eval e X.env) :: starEach [e'] X.env := by rfl) (hpl : (backTo pos (starEach [e'] X.env)).any (·.1) = false := by rfl) :
    JI X W (.Tuple elts kk tpos) (.Call (.Name "zip" p) [e, e'] [] pos) (mZip ms) := by
  refine PI.imp (RZ.pi_zipA hg hm ha hs hpl) fun σ H Q t => ?_
  obtain ⟨G, F, ι, ρ, h, R, S, D⟩ := t
  refine ⟨G, F, ι, ρ, h, R, S, ?_⟩
  unfold mZip at D
  cases ea : ms ρ h with
  | no => rw [ea] at D; exact D
  | er c => rw [ea] at D; exact D
  | ok v h1 =>
    rw [ea] at D
    intro F1 ι1 H1 x R1 E1 l1 V1
    have V1' : Paired (RV (cst X) ι1 F1 h1.length) x v := V1
    simp only [bind_ok] at D
    split at D
    · rename_i v u
      cases ed : datOf h.length v h1 with
      | none => rw [ed] at D; exact D.elim
      | some q =>
        obtain ⟨d, h2⟩ := q
        rw [ed] at D
        simp only at D
        cases ee : datOf h.length u h2 with
        | none => rw [ee] at D; exact D.elim
        | some q2 =>
          obtain ⟨e2, h3⟩ := q2
          rw [ee] at D
          simp only at D
          split at D
          · rename_i hte
            cases V1' with
            | cons z r =>
              cases r with
              | cons z2 r =>
                cases r
                obtain ⟨a, F', rfl, R', E', l', dr, hw, hst, _⟩ := datOf_ok R1 z ed
                obtain ⟨b, F3, rfl, R3, E3, l3, dr3, hw3, hst3, hk3⟩ := datOf_ok R' (by rw [l']; exact z2.mono E'.le (fun _ _ => rfl) (Nat.le_refl _)) ee
                have l4 : h.length ≤ h3.length := by rw [l3, l']; exact l1
                have hk := trunc_len (h := h3) l4
                have dr' : DatR (cst X) G F3 ι1 a d := fun F5 ι5 h5 H5 R5 le ag ok => dr F5 ι5 h5 H5 R5 (fun b o q => le b o (E3.le b o q)) ag ok
                obtain ⟨xs, hs', _⟩ := dr' F3 ι1 h3 H1 R3 (fun _ _ q => q) (fun _ _ => rfl) (fun p hp => by rw [hk3 _ (hw p hp)]; exact hst p hp)
                obtain ⟨ys, hs'', _⟩ := dr3 F3 ι1 h3 H1 R3 (fun _ _ q => q) (fun _ _ => rfl) hst3
                have ok := srcZip (k := (trunc h.length h3).length) dr' dr3 (fun p hp => Nat.lt_of_lt_of_le (hw p hp) hk) (fun p hp => Nat.lt_of_lt_of_le (hw3 p hp) hk) hte
                have fin := fin_src D R3 ((E1.trans E' l1).trans E3 (by rw [l']; exact l1)) l4 ok
                refine ⟨a, b, xs, ys, rfl, ?_⟩
                by_cases ht : d.tup = true
                · rw [if_pos ht] at hs' fin; rw [if_pos (hte ▸ ht)] at hs''; exact .inr ⟨hs', hs'', fin⟩
                · rw [if_neg ht] at hs' fin; rw [if_neg (hte ▸ ht)] at hs''; exact .inl ⟨hs', hs'', fin⟩
          · exact D.elim
    · exact D.elim
end
end NT

set_option Elab.async false
set_option linter.all false
set_option maxRecDepth 100000
set_option autoImplicit false

namespace NT
open PySem PySem.Spec PyProof.Rows L2 PySem.W

/-! ### calls of what is built in, by values -/
def eB (ms : M (List Val)) (f : List Val → Hs → Res Val) : Ev := fun ρ h => (ms ρ h).bind f
def eM (ty : Val → Hs → Bool) (mo : Ev) (ms : M (List Val)) (f : Val → List Val → Hs → Res Val) : Ev := fun ρ h => (mo ρ h).bind fun v h1 => if ty v h1 = true then (ms ρ h1).bind fun vs h2 => f v vs h2 else .no
def lstOf (h : Hs) : Val → Option (List Val)
  | .im (.list ds) => some (ds.map .im)
  | .ref k => match h[k]? with
    | some (.lst vs) => some vs
    | some (.fz (.list ds)) => some (ds.map .im)
    | _ => none
  | _ => none
def isL (v : Val) (h : Hs) : Bool := (lstOf h v).isSome
def isS (v : Val) (_ : Hs) : Bool := match v with
  | .im (.str _) => true
  | _ => false
section
variable {X : Cx} {W : WK} {G F : Hp} {ι : Nat → Addr} {h : Hs} {H : Hp} {x : Str} {p pos : Pos} {e o : Expr} {es : List Expr} {ms : M (List Val)} {mo : Ev} {id T : String} {f : List Val → Hs → Res Val} {g : Val → List Val → Hs → Res Val}
theorem Rel.lsts {C : Cst} {F : Hp} (R : Rel C G F ι h H) {x : V} {v : Val} {vs : List Val} (z : RV C ι F h.length x v) (e : lstOf h v = some vs) : ∃ a xs, x = .ref a ∧ SqL C.K H a xs ∧ Paired (RV C ι F h.length) xs vs := by
  unfold lstOf at e
  split at e
  · cases e
    cases z with
    | im z => cases z with | lst s p => exact ⟨_, _, rfl, seqF R.f s, rvs_of p⟩
  · rename_i k
    cases z with
    | ref hk =>
      split at e
      · rename_i vs' hc
        cases e
        obtain ⟨xs, hH, p⟩ := R.cell k _ hc
        exact ⟨_, xs, rfl, SqL.of hH, p⟩
      · rename_i ds hc
        cases e
        have r := R.cell k _ hc
        cases r with | lst s p => exact ⟨_, _, rfl, seqF R.f s, rvs_of p⟩
      · cases e
  · cases e
theorem call_r {C : Cst} {σ : L2.St} {Q : VK} (t : tOf (repV C) C W (eB ms f) σ H Q) : tCB (rOfL C W f) (tOf (repL C) C W ms) σ H Q := by
  obtain ⟨G, F, ι, ρ, h, R, S, D⟩ := t
  exact st1 R S D fun F1 ι1 h1 H1 x v R1 E1 l1 V1 D1 => ⟨G, F1, ι1, h1, v, R1, V1, D1⟩
theorem je_callB (hc : CallR X (.builtin id) (rOfL (cst X) W f)) (hg : Gl X x) (hm : X.mg x = none) (ha : JA X W (e :: es) ms) (hv : bootBuiltins x = some (.builtin id) := by decide +kernel) (hn : x ≠ "__name__" := by decide) (hdb : (x == ("__debug__" : Str)) = false := by decide)
    (he : starEach (e :: es) X.env = (false, eval e X.env) :: starEach es X.env := by rfl) (hpl : (backTo pos (starEach es X.env)).any (·.1) = false := by rfl) : JE X W (.Call (.Name x p) (e :: es) [] pos) (eB ms f) :=
  PE.imp (pe_callB hc hg hm hv ha hn hdb he hpl) fun _ _ _ t => call_r t
theorem je_callTy (hc : CallR X (.type T) (rOfL (cst X) W f)) (hg : Gl X x) (hm : X.mg x = none) (ha : JA X W (e :: es) ms) (hv : bootBuiltins x = some (.type T) := by decide +kernel) (hn : x ≠ "__name__" := by decide) (hdb : (x == ("__debug__" : Str)) = false := by decide)
    (he : starEach (e :: es) X.env = (false, eval e X.env) :: starEach es X.env := by rfl) (hpl : (backTo pos (starEach es X.env)).any (·.1) = false := by rfl) : JE X W (.Call (.Name x p) (e :: es) [] pos) (eB ms f) :=
  PE.imp (pe_callTy hc hg hm hv ha hn hdb he hpl) fun _ _ _ t => call_r t
theorem isL_ty {C : Cst} {F : Hp} (R : Rel C G F ι h H) {y : V} {v : Val} (V : RV C ι F h.length y v) (e : isL v h = true) : tyV C.K "list" y H := by
  obtain ⟨vs, e⟩ := Option.isSome_iff_exists.mp e
  obtain ⟨a, xs, rfl, s, _⟩ := R.lsts V e
  exact .inl ⟨rfl, xs, s⟩
theorem isS_ty {C : Cst} {F : Hp} (R : Rel C G F ι h H) {y : V} {v : Val} (V : RV C ι F h.length y v) (e : isS v h = true) : tyV C.K "str" y H := by
  unfold isS at e
  split at e
  · cases V with | im z => cases z; exact rfl
  · cases e
theorem meth_r {C : Cst} {σ : L2.St} {Q : VK} {ty : Val → Hs → Bool} (hty : ∀ {F : Hp} {ι : Nat → Addr} {h : Hs} {H : Hp} {y : V} {v : Val}, Rel C G F ι h H → RV C ι F h.length y v → ty v h = true → tyV C.K T y H) {F : Hp} {ρ : En} {h : Hs} (R : Rel C G F ι h H) (S : SR C ι F h.length σ ρ)
    (D : Done (repV C) C W G F ι h.length (eM ty mo ms g ρ h) Q) : tBM C.K T (rOfM C W g) (tOf (repV C) C W mo) (tOf (repL C) C W ms) σ H Q := by
  refine st1 R S D fun F1 ι1 h1 H1 y v R1 E1 l1 V1 D1 => ?_
  split at D1
  · rename_i hh
    refine ⟨hty R1 V1 hh, ?_⟩
    refine st1 R1 (S.mono E1.le E1.ag l1) D1 fun F2 ι2 h2 H2 xs vs R2 E2 l2 V2 D2 => ⟨G, F2, ι2, h2, v, vs, R2, V1.mono E2.le E2.ag l2, V2, D2⟩
  · exact D1.elim
theorem meth_r0 {C : Cst} {σ : L2.St} {Q : VK} {ty : Val → Hs → Bool} (hty : ∀ {F : Hp} {ι : Nat → Addr} {h : Hs} {H : Hp} {y : V} {v : Val}, Rel C G F ι h H → RV C ι F h.length y v → ty v h = true → tyV C.K T y H) {F : Hp} {ρ : En} {h : Hs} (R : Rel C G F ι h H) (S : SR C ι F h.length σ ρ)
    (D : Done (repV C) C W G F ι h.length (eM ty mo mNil g ρ h) Q) : tBM0 C.K T (rOfM C W g) (tOf (repV C) C W mo) σ H Q := by
  refine st1 R S D fun F1 ι1 h1 H1 y v R1 E1 l1 V1 D1 => ?_
  split at D1
  · rename_i hh
    exact ⟨hty R1 V1 hh, G, F1, ι1, h1, v, [], R1, V1, .nil, D1⟩
  · exact D1.elim
section
variable {name : Str} {apos cpos : Pos}
theorem je_meth {ty : Val → Hs → Bool} (hty : ∀ {G F : Hp} {ι : Nat → Addr} {h : Hs} {H : Hp} {y : V} {v : Val}, Rel (cst X) G F ι h H → RV (cst X) ι F h.length y v → ty v h = true → tyV X.K T y H)
    (hp : PE X (.Call (.Attribute o name apos) (e :: es) [] cpos) (tBM X.K T (rOfM (cst X) W g) (tOf (repV (cst X)) (cst X) W mo) (tOf (repL (cst X)) (cst X) W ms))) :
    JE X W (.Call (.Attribute o name apos) (e :: es) [] cpos) (eM ty mo ms g) :=
  PE.imp hp fun σ H Q ⟨G, F, ι, ρ, h, R, S, D⟩ => meth_r hty R S D
theorem je_meth0 {ty : Val → Hs → Bool} (hty : ∀ {G F : Hp} {ι : Nat → Addr} {h : Hs} {H : Hp} {y : V} {v : Val}, Rel (cst X) G F ι h H → RV (cst X) ι F h.length y v → ty v h = true → tyV X.K T y H)
    (hp : PE X (.Call (.Attribute o name apos) [] [] cpos) (tBM0 X.K T (rOfM (cst X) W g) (tOf (repV (cst X)) (cst X) W mo))) :
    JE X W (.Call (.Attribute o name apos) [] [] cpos) (eM ty mo mNil g) :=
  PE.imp hp fun σ H Q ⟨G, F, ι, ρ, h, R, S, D⟩ => meth_r0 hty R S D
end
theorem MtR.imp {r r' : V → List V → Hp → VK → Prop} (p : MtR X id r) (k : ∀ x xs H Q, r' x xs H Q → r x xs H Q) : MtR X id r' := fun pins s σ H x xs v us Q I rx rs q => p pins s σ H x xs v us Q I rx rs (k _ _ _ _ q)
end

/-! ### list's methods -/
def mAppend (v : Val) (us : List Val) (h : Hs) : Res Val := match v, us with
  | .ref k, [u] => match h[k]? with
    | some (.lst vs) => if vs.length < 16777216 then .ok (.im .none) (h.set k (.lst (vs ++ [u]))) else .no
    | _ => .no
  | _, _ => .no
def mExtend (v : Val) (us : List Val) (h : Hs) : Res Val := match v, us with
  | .ref k, [.ref j] => match h[k]?, h[j]? with
    | some (.lst vs), some (.lst ws) => if vs.length + ws.length ≤ 16777216 then .ok (.im .none) (h.set k (.lst (vs ++ ws))) else .no
    | _, _ => .no
  | _, _ => .no
def mPop (v : Val) (us : List Val) (h : Hs) : Res Val := match v, us with
  | .ref k, [] => match h[k]? with
    | some (.lst vs) => match vs[vs.length - 1]? with
      | some u => .ok u (h.set k (.lst vs.dropLast))
      | none => .no
    | _ => .no
  | _, _ => .no
def mPopAt (v : Val) (us : List Val) (h : Hs) : Res Val := match v, us with
  | .ref k, [.im (.int i)] => match h[k]? with
    | some (.lst vs) => if 0 ≤ i ∧ i < 16777216 then (match vs[i.toNat]? with
      | some u => .ok u (h.set k (.lst (vs.eraseIdx i.toNat)))
      | none => .no) else .no
    | _ => .no
  | _, _ => .no
def mClear (v : Val) (us : List Val) (h : Hs) : Res Val := match v, us with
  | .ref k, [] => match h[k]? with
    | some (.lst _) => .ok (.im .none) (h.set k (.lst []))
    | _ => .no
  | _, _ => .no
def mInsert (v : Val) (us : List Val) (h : Hs) : Res Val := match v, us with
  | .ref k, [.im (.int i), u] => match h[k]? with
    | some (.lst vs) => if vs.length < 16777216 ∧ 0 ≤ i ∧ i < 16777216 then .ok (.im .none) (h.set k (.lst (vs.take i.toNat ++ [u] ++ vs.drop i.toNat))) else .no
    | _ => .no
  | _, _ => .no
def intsOf : List Val → Option (List Int)
  | [] => some []
  | .im (.int i) :: r => (intsOf r).map (i :: ·)
  | _ :: _ => none
def mRemove (v : Val) (us : List Val) (h : Hs) : Res Val := match v, us with
  | .ref k, [.im (.int i)] => match h[k]? with
    | some (.lst vs) => match intsOf vs with
      | some ns => if i ∈ ns then .ok (.im .none) (h.set k (.lst ((ns.erase i).map fun i => .im (.int i)))) else .no
      | none => .no
    | _ => .no
  | _, _ => .no
section
variable {X : Cx} {W : WK}
theorem ints_of : ∀ {vs : List Val} {ns : List Int}, intsOf vs = some ns → vs = ns.map fun i => .im (.int i)
  | [], _, e => by cases e; rfl
  | .im (.int i) :: r, ns, e => by
    unfold intsOf at e
    cases e1 : intsOf r with
    | none => rw [e1] at e; cases e
    | some l => rw [e1] at e; cases e; rw [ints_of e1]; rfl
  | .im .none :: _, _, e => by cases e
  | .im (.bool _) :: _, _, e => by cases e
  | .im (.str _) :: _, _, e => by cases e
  | .im (.list _) :: _, _, e => by cases e
  | .im (.tuple _) :: _, _, e => by cases e
  | .im (.dict _) :: _, _, e => by cases e
  | .ref _ :: _, _, e => by cases e
@[simp] theorem intsOf_map : ∀ ns : List Int, intsOf (ns.map fun i => .im (.int i)) = some ns
  | [] => rfl
  | n :: ns => by simp [intsOf, intsOf_map ns]
theorem int_vs {C : Cst} {ι : Nat → Addr} {F : Hp} {n : Nat} : ∀ {xs : List V} {ns : List Int}, Paired (RV C ι F n) xs (ns.map fun i => .im (.int i)) → xs = ns.map V.int
  | _, [], r => by cases r; rfl
  | _, i :: ns, r => by
    cases r with
    | cons a b => cases a with | im z => cases z; rw [int_vs b]; rfl
theorem vs_int {C : Cst} {ι : Nat → Addr} {F : Hp} {n : Nat} : ∀ (ns : List Int), Paired (RV C ι F n) (ns.map V.int) (ns.map fun i => .im (.int i))
  | [] => .nil
  | i :: ns => .cons (.im (.int i)) (vs_int ns)
theorem Paired.dropLast' {α β : Type} {R : α → β → Prop} : ∀ {xs : List α} {ys : List β}, Paired R xs ys → Paired R xs.dropLast ys.dropLast
  | _, _, .nil => .nil
  | _, _, .cons _ .nil => .nil
  | _, _, .cons a (.cons b c) => .cons a (Paired.dropLast' (.cons b c))
theorem Paired.erase' {α β : Type} {R : α → β → Prop} : ∀ {xs : List α} {ys : List β} (i : Nat), Paired R xs ys → Paired R (xs.eraseIdx i) (ys.eraseIdx i)
  | _, _, _, .nil => .nil
  | _, _, 0, .cons _ t => t
  | _, _, i + 1, .cons a t => .cons a (Paired.erase' i t)
theorem o_append : MtR X "list.append" (rOfM (cst X) W mAppend) := MtR.imp mt_append fun x xs H Q t => by
  obtain ⟨G, F, ι, h, u, v, R, V1, V2, D⟩ := t
  unfold mAppend at D
  split at D
  · split at D
    · rename_i k w vs hc
      split at D
      · rename_i hz
        obtain ⟨ys, hH, P⟩ := R.at_lst hc
        cases V1 with
        | ref hk =>
          cases V2 with
          | cons a b =>
            cases b
            exact ⟨_, ys, _, rfl, rfl, hH, by rw [SZ_eq, Paired.length P]; exact hz, fin_setL R hc D (Paired.app P (.cons a .nil)) .non⟩
      · exact D.elim
    · exact D.elim
  · exact D.elim
theorem o_extend : MtR X "list.extend" (rOfM (cst X) W mExtend) := MtR.imp mt_extend fun x xs H Q t => by
  obtain ⟨G, F, ι, h, u, v, R, V1, V2, D⟩ := t
  unfold mExtend at D
  split at D
  · split at D
    · rename_i k j vs ws hc hd
      split at D
      · rename_i hz
        obtain ⟨ys, hH, P⟩ := R.at_lst hc
        obtain ⟨zs, hH2, P2⟩ := R.at_lst hd
        cases V1 with
        | ref hk =>
          cases V2 with
          | cons a b =>
            cases b
            cases a with
            | ref hj => exact ⟨_, _, ys, zs, rfl, rfl, hH, hH2, by rw [SZ_eq, Paired.length P, Paired.length P2]; exact hz, fin_setL R hc D (Paired.app P P2) .non⟩
      · exact D.elim
    · exact D.elim
  · exact D.elim
theorem fin_setV {C : Cst} {G F : Hp} {ι : Nat → Addr} {h : Hs} {H : Hp} {Q : VK} (R : Rel C G F ι h H) {k : Nat} {us vs : List Val} {xs : List V} {w : Val} {x : V} (e0 : h[k]? = some (.lst us)) (D : Done (repV C) C W G F ι h.length (.ok w (h.set k (.lst vs))) Q) (V : Paired (RV C ι F h.length) xs vs) (z : RV C ι F h.length x w) : Q x (upd H (ι k) (.lst xs)) :=
  D F ι _ _ (R.setL e0 V) Ext.refl (by simp) (by rw [List.length_set]; exact z)
theorem o_pop : MtR X "list.pop" (rOfM (cst X) W mPop) := MtR.imp mt_pop fun x xs H Q t => by
  obtain ⟨G, F, ι, h, u, v, R, V1, V2, D⟩ := t
  unfold mPop at D
  split at D
  · split at D
    · rename_i k vs hc
      split at D
      · rename_i u hu
        obtain ⟨ys, hH, P⟩ := R.at_lst hc
        obtain ⟨y, hy, ry⟩ := paired_get' P hu
        cases V1 with
        | ref hk =>
          cases V2
          exact ⟨_, ys, y, rfl, rfl, hH, by rw [Paired.length P]; exact hy, fin_setV R hc D (Paired.dropLast' P) ry⟩
      · exact D.elim
    · exact D.elim
  · exact D.elim
theorem o_popAt : MtR X "list.pop" (rOfM (cst X) W mPopAt) := MtR.imp mt_popAt fun x xs H Q t => by
  obtain ⟨G, F, ι, h, u, v, R, V1, V2, D⟩ := t
  unfold mPopAt at D
  split at D
  · rename_i k i
    split at D
    · rename_i w vs hc
      split at D
      · rename_i hi
        split at D
        · rename_i u hu
          obtain ⟨ys, hH, P⟩ := R.at_lst hc
          obtain ⟨y, hy, ry⟩ := paired_get' P hu
          cases V1 with
          | ref hk =>
            cases V2 with
            | cons a b =>
              cases b
              cases a with
              | im z =>
                cases z
                have hl := (List.getElem?_eq_some_iff.mp hy).1
                exact ⟨_, ys, i, i.toNat, y, rfl, rfl, hH, by omega, by omega, seqIndex_of hi.1 (by omega), hy, fin_setV R hc D (Paired.erase' _ P) ry⟩
        · exact D.elim
      · exact D.elim
    · exact D.elim
  · exact D.elim
theorem o_clear : MtR X "list.clear" (rOfM (cst X) W mClear) := MtR.imp mt_clear fun x xs H Q t => by
  obtain ⟨G, F, ι, h, u, v, R, V1, V2, D⟩ := t
  unfold mClear at D
  split at D
  · split at D
    · rename_i k vs hc
      obtain ⟨ys, hH, P⟩ := R.at_lst hc
      cases V1 with
      | ref hk =>
        cases V2
        exact ⟨_, ys, rfl, rfl, hH, fin_setL R hc D .nil .non⟩
    · exact D.elim
  · exact D.elim
theorem o_insert : MtR X "list.insert" (rOfM (cst X) W mInsert) := MtR.imp mt_insert fun x xs H Q t => by
  obtain ⟨G, F, ι, h, u, v, R, V1, V2, D⟩ := t
  unfold mInsert at D
  split at D
  · rename_i k i u'
    split at D
    · rename_i w vs hc
      split at D
      · rename_i hi
        obtain ⟨ys, hH, P⟩ := R.at_lst hc
        cases V1 with
        | ref hk =>
          cases V2 with
          | cons a b =>
            cases a with
            | im z =>
              cases z
              cases b with
              | cons a b =>
                cases b
                exact ⟨_, ys, i, _, rfl, rfl, hH, by rw [SZ_eq, Paired.length P]; exact hi.1, hi.2.1, by omega, fin_setL R hc D (Paired.app (Paired.app (paired_take _ P) (.cons a .nil)) (paired_drop _ P)) .non⟩
      · exact D.elim
    · exact D.elim
  · exact D.elim
theorem erase_at : ∀ (ns : List Int) (i : Int), i ∈ ns → ∃ j, ns[j]? = some i ∧ (∀ m, m < j → ns[m]? ≠ some i) ∧ ns.erase i = ns.eraseIdx j
  | [], _, h => by cases h
  | n :: ns, i, h => by
    by_cases e : n = i
    · exact ⟨0, by simp [e], fun m hm => by omega, by simp [e]⟩
    · obtain ⟨j, h1, h2, h3⟩ := erase_at ns i ((List.mem_cons.mp h).resolve_left fun z => e z.symm)
      refine ⟨j + 1, by simpa using h1, fun m hm => ?_, ?_⟩
      · cases m with
        | zero => simpa using e
        | succ m => simpa using h2 m (by omega)
      · rw [List.erase_cons_tail (by simpa using e), h3]; rfl
theorem o_remove : MtR X "list.remove" (rOfM (cst X) W mRemove) := MtR.imp mt_remove fun x xs H Q t => by
  obtain ⟨G, F, ι, h, u, v, R, V1, V2, D⟩ := t
  unfold mRemove at D
  split at D
  · rename_i k i
    split at D
    · rename_i w vs hc
      split at D
      · rename_i ns hn
        split at D
        · rename_i hi
          obtain ⟨ys, hH, P⟩ := R.at_lst hc
          rw [ints_of hn] at P
          rw [int_vs P] at hH
          obtain ⟨j, j1, j2, j3⟩ := erase_at ns i hi
          cases V1 with
          | ref hk =>
            cases V2 with
            | cons a b =>
              cases b
              cases a with
              | im z =>
                cases z
                rw [j3] at D
                exact ⟨_, ns, i, j, rfl, rfl, hH, j1, j2, fin_setL R hc D (vs_int _) .non⟩
        · exact D.elim
      · exact D.elim
    · exact D.elim
  · exact D.elim
variable {o a : Expr} {mo ma : Ev} {es : List Expr} {ms : M (List Val)}
end
end NT

set_option Elab.async false
set_option linter.all false
set_option maxRecDepth 100000
set_option autoImplicit false

namespace NT
open PySem PySem.Spec PyProof.Rows L2 PySem.W

/-! ### functions that are built in -/
def fLen (us : List Val) (h : Hs) : Res Val := match us with
  | [.im (.str x)] => if x.length ≤ 16777216 then .ok (.im (.int x.length)) h else .no
  | [v] => match itemsOf h v with
    | some vs => .ok (.im (.int vs.length)) h
    | none => .no
  | _ => .no
def fMax2 (us : List Val) (h : Hs) : Res Val := match us with
  | [.im (.int i), .im (.int j)] => .ok (.im (.int (if j > i then j else i))) h
  | _ => .no
def fMin2 (us : List Val) (h : Hs) : Res Val := match us with
  | [.im (.int i), .im (.int j)] => .ok (.im (.int (if j < i then j else i))) h
  | _ => .no
def fAbs (us : List Val) (h : Hs) : Res Val := match us with
  | [.im (.int i)] => .ok (.im (.int (if i < 0 then -i else i))) h
  | _ => .no
def fInt (us : List Val) (h : Hs) : Res Val := match us with
  | [.im (.int i)] => .ok (.im (.int i)) h
  | [.im (.bool k)] => .ok (.im (.int (if k then 1 else 0))) h
  | _ => .no
def fTuple (us : List Val) (h : Hs) : Res Val := match us with
  | [.im (.tuple ds)] => .ok (.im (.tuple ds)) h
  | [v] => match lstOf h v with
    | some vs => match frzL vs h with
      | some (ds, h1) => .ok (.im (.tuple ds)) h1
      | none => .no
    | none => .no
  | _ => .no
def alikeB (ds : List PyData) : Bool := ds.all fun d => ds.all fun e => alike d e
def sortB (ds : List PyData) : Bool := (ds.all fun d => match d with | .tuple (_ :: _) => true | _ => false) || ds.all fun d => match d with | .none => false | .tuple _ => false | _ => true
def srt (ds : List PyData) : List PyData := ds.mergeSort (dataLe false id)
def fSorted (us : List Val) (h : Hs) : Res Val := match us with
  | [v] => match lstOf h v with
    | some vs => match imsOf vs with
      | some ds => if (alikeB ds && sortB ds && ds.all (okD 8)) = true then .ok (.ref h.length) (h ++ [.lst ((srt ds).map .im)]) else .no
      | none => .no
    | none => .no
  | _ => .no
def fRepr (us : List Val) (h : Hs) : Res Val := match us with
  | [v] => match rdD h v with
    | some d => if (okD 8 d && d.showable && decide (d.shown.length ≤ 16777216)) = true then .ok (.im (.str d.shown)) h else .no
    | none => .no
  | _ => .no
def fSum (us : List Val) (h : Hs) : Res Val := match us with
  | [v] => match lstOf h v with
    | some vs => match intsOf vs with
      | some ns => .ok (.im (.int ns.sum)) h
      | none => .no
    | none => .no
  | _ => .no
def boolsOf : List Val → Option (List Bool)
  | [] => some []
  | .im (.bool i) :: r => (boolsOf r).map (i :: ·)
  | _ :: _ => none
def fAll (us : List Val) (h : Hs) : Res Val := match us with
  | [v] => match lstOf h v with
    | some vs => match boolsOf vs with
      | some ns => .ok (.im (.bool (ns.all id))) h
      | none => .no
    | none => .no
  | _ => .no
def vRg1 (v : Val) (h : Hs) : Res Val := match v with
  | .im (.int n) => if n ≤ 16777216 then (if -16777216 ≤ n then .ok (.ref h.length) (h ++ [.lst ((List.range n.toNat).map fun i => .im (.int (i : Nat)))]) else .no) else .no
  | _ => .no
def vMul (v u : Val) (h : Hs) : Res Val := match v, u with
  | .im (.int i), .im (.int j) => if cMul i j = true then .ok (.im (.int (i * j))) h else .no
  | .ref k, .im (.int n) => match h[k]? with
    | some (.lst vs) => if 0 ≤ n ∧ n ≤ 16777216 ∧ vs.length * n.toNat ≤ 16777216 then .ok (.ref h.length) (h ++ [.lst (List.replicate n.toNat vs).flatten]) else .no
    | _ => .no
  | _, _ => .no
section
variable {X : Cx} {W : WK}
theorem o_len : CallR X (.builtin "len") (rOfL (cst X) W fLen) := CallR.imp call_len fun xs H Q t => by
  obtain ⟨G, F, ι, h, v, R, V, D⟩ := t
  unfold fLen at D
  split at D
  · split at D
    · rename_i hz
      cases V with
      | cons a b =>
        cases b
        cases a with
        | im z => cases z; exact ⟨_, _, rfl, ⟨by rw [SZ_eq]; exact hz, rfl⟩, fin_im R D (.int _)⟩
    · exact D.elim
  · split at D
    · rename_i v _ vs e
      cases V with
      | cons a b =>
        cases b
        obtain ⟨p, ys, rfl, s, P⟩ := R.items a e
        refine ⟨_, ys.length, rfl, ?_, by rw [Paired.length P]; exact fin_im R D (.int _)⟩
        rcases s with s | s
        · exact .inl ⟨ys, s, rfl⟩
        · exact .inr ⟨ys, s, rfl⟩
    · exact D.elim
  · exact D.elim
theorem o_max2 (K : Ctx X W) : CallR X (.builtin "max") (rOfL (cst X) W fMax2) := CallR.imp (call_max2 K.calm) fun xs H Q t => by
  obtain ⟨G, F, ι, h, v, R, V, D⟩ := t
  unfold fMax2 at D
  split at D
  · cases V with
    | cons a b =>
      cases b with
      | cons b c =>
        cases c
        cases a with
        | im z =>
          cases b with
          | im y => cases z; cases y; exact ⟨_, _, rfl, fin_im R D (.int _)⟩
  · exact D.elim
theorem o_min2 (K : Ctx X W) : CallR X (.builtin "min") (rOfL (cst X) W fMin2) := CallR.imp (call_min2 K.calm) fun xs H Q t => by
  obtain ⟨G, F, ι, h, v, R, V, D⟩ := t
  unfold fMin2 at D
  split at D
  · cases V with
    | cons a b =>
      cases b with
      | cons b c =>
        cases c
        cases a with
        | im z =>
          cases b with
          | im y => cases z; cases y; exact ⟨_, _, rfl, fin_im R D (.int _)⟩
  · exact D.elim
theorem o_abs : CallR X (.builtin "abs") (rOfL (cst X) W fAbs) := CallR.imp call_abs fun xs H Q t => by
  obtain ⟨G, F, ι, h, v, R, V, D⟩ := t
  unfold fAbs at D
  split at D
  · cases V with
    | cons a b =>
      cases b
      cases a with
      | im z => cases z; exact ⟨_, rfl, fin_im R D (.int _)⟩
  · exact D.elim
theorem o_int : CallR X (.type "int") (rOfL (cst X) W fInt) := CallR.imp call_int1 fun xs H Q t => by
  obtain ⟨G, F, ι, h, v, R, V, D⟩ := t
  unfold fInt at D
  split at D
  · cases V with
    | cons a b =>
      cases b
      cases a with
      | im z => cases z; exact .inl ⟨_, rfl, fin_im R D (.int _)⟩
  · cases V with
    | cons a b =>
      cases b
      cases a with
      | im z => cases z; exact .inr ⟨_, rfl, fin_im R D (.int _)⟩
  · exact D.elim
theorem c_tuple : CallR X (.type "tuple") (fun xs H Q => ∃ x, xs = [x] ∧ kTup X.K x H Q) := fun pins s σ H xs us Q I r ⟨x, e, h⟩ => by
  subst e
  obtain ⟨u, rfl, rx⟩ := vals1 r
  exact rl_tuple pins s σ H x u Q I rx h
theorem o_tuple : CallR X (.type "tuple") (rOfL (cst X) W fTuple) := CallR.imp c_tuple fun xs H Q t => by
  obtain ⟨G, F, ι, h, v, R, V, D⟩ := t
  unfold fTuple at D
  split at D
  · cases V with
    | cons a b =>
      cases b
      cases a with
      | im z =>
        have z' := z
        cases z with
        | tup s p => exact ⟨_, rfl, .inr ⟨_, _, rfl, tupF R.f s, fin_im R D z'⟩⟩
  · split at D
    · rename_i v _ vs e
      split at D
      · rename_i ds h1 ef
        cases V with
        | cons a b =>
          cases b
          obtain ⟨p, ys, rfl, s, P⟩ := R.lsts a e
          obtain ⟨F', R', E', l', Z⟩ := R.frzVs P ef
          refine ⟨_, rfl, .inl ⟨_, ys, rfl, s, fun q hq => ?_⟩⟩
          exact fin_newT R' (l' ▸ Done.mono D E' (Nat.le_refl _)) Z q hq
      · exact D.elim
    · exact D.elim
  · exact D.elim
theorem dp_zip {K : PySem.W.Frag} {F : Hp} : ∀ {xs : List V} {ds : List PyData}, DpAll K F xs ds → ∃ bs : List (V × PyData), xs = bs.map (·.1) ∧ ds = bs.map (·.2) ∧ ∀ b ∈ bs, Dp K F b.1 b.2
  | _, [], r => by cases r; exact ⟨[], rfl, rfl, fun _ h => by cases h⟩
  | _, d :: ds, r => by
    cases r with
    | cons a b =>
      obtain ⟨bs, h1, h2, h3⟩ := dp_zip b
      refine ⟨(_, d) :: bs, by rw [h1]; rfl, by rw [h2]; rfl, fun b hb => ?_⟩
      rcases List.mem_cons.mp hb with rfl | hb
      · exact a
      · exact h3 b hb
theorem dp_unzip {K : PySem.W.Frag} {F : Hp} : ∀ {bs : List (V × PyData)}, (∀ b ∈ bs, Dp K F b.1 b.2) → DpAll K F (bs.map (·.1)) (bs.map (·.2))
  | [], _ => .nil
  | b :: bs, h => .cons (h b List.mem_cons_self) (dp_unzip fun c hc => h c (List.mem_cons_of_mem _ hc))
theorem each_v : ∀ {bs : List (V × PyData)} {us : List Value}, Vals (bs.map (·.1)) us → EachIs (fun u (b : V × PyData) => RelV b.1 u) us bs
  | [], _, r => by cases r; exact .nil
  | b :: bs, _, r => by cases r with | cons a c => exact .cons a (each_v c)
theorem v_each : ∀ {bs : List (V × PyData)} {us : List Value}, EachIs (fun u (b : V × PyData) => RelV b.1 u) us bs → Vals (bs.map (·.1)) us
  | _, _, .nil => .nil
  | _, _, .cons a c => .cons a (v_each c)
theorem each_r {h : Heap} {H : Hp} {K : PySem.W.Frag} (k : ∀ (d : PyData) (v : V) (u : Value), Dp K H v d → RelV v u → ∃ as, Reads h u d as) : ∀ {bs : List (V × PyData)} {us : List Value}, (∀ b ∈ bs, Dp K H b.1 b.2) → EachIs (fun u (b : V × PyData) => RelV b.1 u) us bs → EachIs (fun u b => ∃ as, Reads h u b.2 as) us bs
  | _, _, _, .nil => .nil
  | _, _, z, .cons a c => .cons (k _ _ _ (z _ List.mem_cons_self) a) (each_r k (fun b hb => z b (List.mem_cons_of_mem _ hb)) c)
theorem alike_ok {ds : List PyData} (h : alikeB ds = true) : AllAlike ds := fun d hd e he => List.all_eq_true.mp (List.all_eq_true.mp h d hd) e he
theorem sort_ok {ds : List PyData} (h : sortB ds = true) : PySem.W.Sortable ds := by
  unfold sortB at h
  rw [Bool.or_eq_true] at h
  rcases h with h | h
  · refine .inl fun d hd => ?_
    have := List.all_eq_true.mp h d hd
    split at this
    · exact ⟨_, _, rfl⟩
    · cases this
  · refine .inr fun d hd => ?_
    have := List.all_eq_true.mp h d hd
    constructor
    · rintro rfl; cases this
    · rintro xs rfl; cases this
theorem o_sorted (K : Ctx X W) : CallR X (.builtin "sorted") (rOfL (cst X) W fSorted) := by
  intro pins s σ H xs us Q I r t
  obtain ⟨G, F, ι, h, v, R, V, D⟩ := t
  unfold fSorted at D
  split at D
  · split at D
    · rename_i v vs e
      split at D
      · rename_i ds ei
        split at D
        · rename_i hh
          simp only [Bool.and_eq_true] at hh
          obtain ⟨⟨h1, h2⟩, h3⟩ := hh
          cases V with
          | cons a b =>
            cases b
            obtain ⟨p, ys, rfl, s', P⟩ := R.lsts a e
            obtain ⟨its, rv, hl, hz⟩ := I.list s'
            rw [ims_of ei] at P
            obtain ⟨bs, rfl, rfl, hb⟩ := dp_zip (dpAll_of P)
            rw [Vals.ref1 r]
            have ev := each_v rv
            refine sorted_data (enc := fun b : V × PyData => b.2) hl.isList ev (each_r (fun d v u => Dp.reads I d v u) (fun b hb' => R.dp (hb b hb')) ev) (alike_ok h1) (sort_ok h2) (by rw [List.length_map] at hz; exact hz) (fun b hb' => ?_) fun out _ eo => ?_
            · have := okD_dep (List.all_eq_true.mp h3 _ (List.mem_map_of_mem hb'))
              have hu := K.hu
              omega
            · have hmap : (bs.mergeSort (dataLe false fun b : V × PyData => b.2)).map (·.2) = srt (bs.map (·.2)) := List.map_mergeSort fun a _ b _ => rfl
              obtain ⟨ep, he'⟩ := PyProof.Rows.sortedAll_at s.heap its out.toArray
              have hlen : ((bs.mergeSort (dataLe false fun b : V × PyData => b.2)).map (·.1)).length ≤ sizeLine := by
                rw [List.length_map, List.length_mergeSort]; rw [List.length_map] at hz; exact hz
              refine ⟨.ref _, upd H (s.heap.objs.size + 1) (.lst ((bs.mergeSort (dataLe false fun b : V × PyData => b.2)).map (·.1))), I.laid (t' := s.toks) (fun _ _ => PyProof.Rows.sortedAll_old) (Nat.le_succ _) ⟨hlen, out, ep, v_each eo, he'⟩, rfl, fin_newL R D ?_ _ (I.hok.fresh (Nat.le_succ _))⟩
              rw [← hmap]
              exact rvs_of (dp_unzip fun b hb' => hb b (List.mem_mergeSort.mp hb'))
        · exact D.elim
      · exact D.elim
    · exact D.elim
  · exact D.elim
theorem o_repr (K : Ctx X W) : CallR X (.builtin "repr") (rOfL (cst X) W fRepr) := by
  intro pins s σ H xs us Q I r t
  obtain ⟨G, F, ι, h, v, R, V, D⟩ := t
  unfold fRepr at D
  split at D
  · split at D
    · rename_i v d e
      split at D
      · rename_i hh
        simp only [Bool.and_eq_true, decide_eq_true_eq] at hh
        obtain ⟨⟨h1, h2⟩, h3⟩ := hh
        cases V with
        | cons a b =>
          cases b
          obtain ⟨u, rfl, rx⟩ := vals1 r
          have hz : d.shown.length ≤ sizeLine := by rw [SZ_eq]; exact h3
          have fin : ∀ h' t tk, (∀ b o, s.heap.get? b = some o → h'.get? b = some o) → EP X pins σ Q (.str d.shown t) { s with heap := h', toks := tk } := fun h' t tk k => ⟨.str d.shown, H, I.kept k, ⟨t, rfl⟩, fin_im R D (.str _)⟩
          have z := R.rd a e
          obtain ⟨as, rd⟩ := Dp.reads I d _ u z rx
          have hu := K.hu
          have hd := okD_dep h1
          cases u with
          | ref p => exact repr_of_reads' rd h2 (PyData.noDict_hsm (PyData.hasDict_of_canLay d (okD_lay _ _ h1).1)) K.gd (by omega) (fun _ _ z => z) fin hz
          | int i t =>
            cases rd
            refine PySem.P.repr_of_int (by simpa [PyData.showable] using h2) ?_
            have := fin s.heap s.toks (s.toks + 1) fun _ _ z => z
            simpa only [PyData.shown] using this
          | str x t =>
            cases rd
            simp only [PyData.shown] at hz
            refine PySem.P.repr_of_str ?_ hz
            have := fin s.heap s.toks (s.toks + 1) fun _ _ z => z
            simpa only [PyData.shown] using this
          | bool b =>
            cases rd
            refine PySem.P.repr_of_bool ?_
            have := fin s.heap s.toks (s.toks + 1) fun _ _ z => z
            simpa only [PyData.shown] using this
          | none =>
            cases rd
            refine PySem.P.repr_of_none ?_
            have := fin s.heap s.toks (s.toks + 1) fun _ _ z => z
            simpa only [PyData.shown] using this
          | _ => cases rd
      · exact D.elim
    · exact D.elim
  · exact D.elim
theorem o_sum (K : Ctx X W) : CallR X (.builtin "sum") (rOfL (cst X) W fSum) := CallR.imp (cr_sum K.calm) fun xs H Q t => by
  obtain ⟨G, F, ι, h, v, R, V, D⟩ := t
  unfold fSum at D
  split at D
  · split at D
    · rename_i v vs e
      split at D
      · rename_i ns ei
        cases V with
        | cons a b =>
          cases b
          obtain ⟨p, ys, rfl, s', P⟩ := R.lsts a e
          rw [ints_of ei] at P
          rw [int_vs P] at s'
          exact ⟨p, ns, rfl, s', fin_im R D (.int _)⟩
      · exact D.elim
    · exact D.elim
  · exact D.elim
theorem bools_of : ∀ {vs : List Val} {ns : List Bool}, boolsOf vs = some ns → vs = ns.map fun i => .im (.bool i)
  | [], _, e => by cases e; rfl
  | .im (.bool i) :: r, ns, e => by
    unfold boolsOf at e
    cases e1 : boolsOf r with
    | none => rw [e1] at e; cases e
    | some l => rw [e1] at e; cases e; rw [bools_of e1]; rfl
  | .im .none :: _, _, e => by cases e
  | .im (.int _) :: _, _, e => by cases e
  | .im (.str _) :: _, _, e => by cases e
  | .im (.list _) :: _, _, e => by cases e
  | .im (.tuple _) :: _, _, e => by cases e
  | .im (.dict _) :: _, _, e => by cases e
  | .ref _ :: _, _, e => by cases e
theorem bool_vs {C : Cst} {ι : Nat → Addr} {F : Hp} {n : Nat} : ∀ {xs : List V} {ns : List Bool}, Paired (RV C ι F n) xs (ns.map fun i => .im (.bool i)) → xs = ns.map V.bl
  | _, [], r => by cases r; rfl
  | _, i :: ns, r => by
    cases r with
    | cons a b => cases a with | im z => cases z; rw [bool_vs b]; rfl
theorem o_all (K : Ctx X W) : CallR X (.builtin "all") (rOfL (cst X) W fAll) := CallR.imp (cr_all K.calm) fun xs H Q t => by
  obtain ⟨G, F, ι, h, v, R, V, D⟩ := t
  unfold fAll at D
  split at D
  · split at D
    · rename_i v vs e
      split at D
      · rename_i ns ei
        cases V with
        | cons a b =>
          cases b
          obtain ⟨p, ys, rfl, s', P⟩ := R.lsts a e
          rw [bools_of ei] at P
          rw [bool_vs P] at s'
          exact ⟨p, ns, rfl, s', fin_im R D (.bl _)⟩
      · exact D.elim
    · exact D.elim
  · exact D.elim
theorem rg_vs {C : Cst} {ι : Nat → Addr} {F : Hp} {n : Int} {m : Nat} : Paired (RV C ι F m) (rgV 0 n) ((List.range n.toNat).map fun i => .im (.int (i : Nat))) := by
  unfold rgV
  rw [Int.sub_zero]
  generalize List.range n.toNat = l
  induction l with
  | nil => exact .nil
  | cons a l ih =>
    refine .cons ?_ ih
    show RV C ι F m (V.int (0 + (a : Int))) (.im (.int (a : Int)))
    rw [Int.zero_add]
    exact .im (.int _)
theorem je_listRg1 {a : Expr} {ma : Ev} {p p2 pos pos2 : Pos} (K : Ctx X W) (hg : Gl X "list") (hm : X.mg "list" = none) (hg2 : Gl X "range") (hm2 : X.mg "range" = none) (ha : JE X W a ma)
    (na : starEach [a] X.env = (false, eval a X.env) :: starEach [] X.env := by rfl) (na2 : starEach [Expr.Call (.Name "range" p2) [a] [] pos2] X.env = (false, eval (.Call (.Name "range" p2) [a] [] pos2) X.env) :: starEach [] X.env := by rfl) :
    JE X W (.Call (.Name "list" p) [.Call (.Name "range" p2) [a] [] pos2] [] pos) (e1 ma vRg1) := PE.imp (pe_listRg K.calm hg hm (prg_1 hg2 hm2 ha na) na2) fun σ H Q t => by
  obtain ⟨G, F, ι, ρ, h, R, S, D⟩ := t
  refine st1 R S D fun F1 ι1 h1 H1 x v R1 E1 l1 V1 D1 => ?_
  unfold vRg1 at D1
  split at D1
  · split at D1
    · split at D1
      · rename_i n h1 h2
        cases V1 with
        | im z =>
          cases z
          refine ⟨n, rfl, ⟨by omega, by omega, by omega, by omega, by omega⟩, fun q hq => fin_newL R1 D1 rg_vs q hq⟩
      · exact D1.elim
    · exact D1.elim
  · exact D1.elim
theorem paired_rep {α β : Type} {P : α → β → Prop} {xs : List α} {ys : List β} (r : Paired P xs ys) : ∀ n : Nat, Paired P (List.replicate n xs).flatten (List.replicate n ys).flatten
  | 0 => .nil
  | n + 1 => by
    rw [List.replicate_succ, List.replicate_succ, List.flatten_cons, List.flatten_cons]
    exact Paired.app r (paired_rep r n)
theorem OpR.or' {f : Value → Value → Sem Value} {r r' : R2} (h1 : OpR X f r) (h2 : OpR X f r') : OpR X f (fun x y H Q => r x y H Q ∨ r' x y H Q) := fun pins s σ H x y v u Q I rx ry q => q.elim (h1 pins s σ H x y v u Q I rx ry) (h2 pins s σ H x y v u Q I rx ry)
theorem o_mul : OpR X (binaryOp .Mult) (rOf2 (cst X) W vMul) := OpR.imp (OpR.or' op_mul op_rep) fun x y H Q t => by
  obtain ⟨G, F, ι, h, v, u, R, V1, V2, D⟩ := t
  unfold vMul at D
  split at D
  · split at D
    · rename_i hc
      cases V1 with
      | im z =>
        cases V2 with
        | im y => cases z; cases y; exact .inl ⟨_, _, rfl, rfl, cMul_ok hc, fin_im R D (.int _)⟩
    · exact D.elim
  · rename_i k n
    split at D
    · rename_i w vs hc
      split at D
      · rename_i hh
        obtain ⟨b1, b2, b3⟩ := hh
        obtain ⟨ys, hH, P⟩ := R.at_lst hc
        cases V1 with
        | ref hk =>
          cases V2 with
          | im y =>
            cases y
            exact .inr ⟨_, n, ys, rfl, rfl, hH, by omega, by omega, by rw [SZ_eq, Paired.length P]; exact b3, fun q hq => fin_newL R D (paired_rep P _) q hq⟩
      · exact D.elim
    · exact D.elim
  · exact D.elim
end
end NT

set_option Elab.async false
set_option linter.all false
set_option maxRecDepth 100000
set_option autoImplicit false

namespace NT
open PySem PySem.Spec PyProof.Rows L2 PySem.W

/-! ### sorted(set(xs)), xs a list of pairs of small ints -/
abbrev PI2 := Int × Int
def pairsOf : List Val → Option (List PI2)
  | [] => some []
  | .im (.tuple [.int x, .int y]) :: r => (pairsOf r).map ((x, y) :: ·)
  | _ :: _ => none
def pD (p : PI2) : PyData := .tuple [.int p.1, .int p.2]
def cP (p : PI2) : Int := p.1 * 64 + p.2
def insP (p : PI2) : List PI2 → List PI2
  | [] => [p]
  | q :: r => if cP p < cP q then p :: q :: r else if cP p = cP q then q :: r else q :: insP p r
def sortPs (l : List PI2) : List PI2 := l.foldr insP []
def okP (p : PI2) : Bool := decide (0 ≤ p.1 ∧ p.1 < 64 ∧ 0 ≤ p.2 ∧ p.2 < 64)
def fSortSet (us : List Val) (h : Hs) : Res Val := match us with
  | [v] => match lstOf h v with
    | some vs => match pairsOf vs with
      | some ps => if (decide (ps.length < 64) && ps.all okP) = true then .ok (.ref h.length) (h ++ [.lst ((sortPs ps).map fun p => .im (pD p))]) else .no
      | none => .no
    | none => .no
  | _ => .no
theorem okP_inj {p q : PI2} (hp : okP p = true) (hq : okP q = true) (e : cP p = cP q) : p = q := by
  simp only [okP, decide_eq_true_eq] at hp hq
  unfold cP at e
  refine Prod.ext ?_ ?_ <;> omega
theorem insP_mem {p : PI2} (hp : okP p = true) : ∀ {l : List PI2}, (∀ q ∈ l, okP q = true) → ∀ z, z ∈ insP p l ↔ z = p ∨ z ∈ l
  | [], _, z => by simp [insP]
  | q :: r, h, z => by
    unfold insP
    split
    · simp
    · split
      · rename_i e
        have := okP_inj hp (h q List.mem_cons_self) e
        subst this
        simp
      · rw [List.mem_cons, insP_mem hp (fun q hq => h q (List.mem_cons_of_mem _ hq)) z, List.mem_cons]
        constructor
        · rintro (a | a | a) <;> simp [a]
        · rintro (a | a | a) <;> simp [a]
def Str2 (l : List PI2) : Prop := l.Pairwise fun a b => cP a < cP b
theorem insP_str {p : PI2} (hp : okP p = true) : ∀ {l : List PI2}, (∀ q ∈ l, okP q = true) → Str2 l → Str2 (insP p l)
  | [], _, _ => by simp [insP, Str2]
  | q :: r, h, s => by
    unfold insP
    obtain ⟨s1, s2⟩ := List.pairwise_cons.mp s
    split
    · rename_i hc
      refine List.pairwise_cons.mpr ⟨fun z hz => ?_, s⟩
      rcases List.mem_cons.mp hz with rfl | hz
      · exact hc
      · exact Int.lt_trans hc (s1 z hz)
    · split
      · exact s
      · rename_i h1 h2
        refine List.pairwise_cons.mpr ⟨fun z hz => ?_, insP_str hp (fun q hq => h q (List.mem_cons_of_mem _ hq)) s2⟩
        rcases (insP_mem hp (fun q hq => h q (List.mem_cons_of_mem _ hq)) z).mp hz with rfl | hz
        · omega
        · exact s1 z hz
theorem sortPs_ok : ∀ {l : List PI2}, (∀ q ∈ l, okP q = true) → (∀ z, z ∈ sortPs l ↔ z ∈ l) ∧ Str2 (sortPs l)
  | [], _ => ⟨fun z => Iff.rfl, .nil⟩
  | p :: r, h => by
    obtain ⟨h1, h2⟩ := sortPs_ok (l := r) fun q hq => h q (List.mem_cons_of_mem _ hq)
    have h3 : ∀ q ∈ sortPs r, okP q = true := fun q hq => h q (List.mem_cons_of_mem _ ((h1 q).mp hq))
    refine ⟨fun z => ?_, insP_str (h p List.mem_cons_self) h3 h2⟩
    show z ∈ insP p (sortPs r) ↔ _
    rw [insP_mem (h p List.mem_cons_self) h3, h1, List.mem_cons]
theorem str_eq : ∀ {l m : List PI2}, Str2 l → Str2 m → (∀ z, z ∈ l ↔ z ∈ m) → l = m
  | [], [], _, _, _ => rfl
  | [], b :: m, _, _, h => by have := (h b).mpr List.mem_cons_self; cases this
  | a :: l, [], _, _, h => by have := (h a).mp List.mem_cons_self; cases this
  | a :: l, b :: m, s, t, h => by
    obtain ⟨s1, s2⟩ := List.pairwise_cons.mp s
    obtain ⟨t1, t2⟩ := List.pairwise_cons.mp t
    have e : a = b := by
      rcases List.mem_cons.mp ((h a).mp List.mem_cons_self) with e | e
      · exact e
      · rcases List.mem_cons.mp ((h b).mpr List.mem_cons_self) with e2 | e2
        · exact e2.symm
        · have := t1 a e
          have := s1 b e2
          omega
    subst e
    congr 1
    refine str_eq s2 t2 fun z => ⟨fun hz => ?_, fun hz => ?_⟩
    · rcases List.mem_cons.mp ((h z).mp (List.mem_cons_of_mem _ hz)) with e | e
      · have := s1 z hz; rw [e] at this; omega
      · exact e
    · rcases List.mem_cons.mp ((h z).mpr (List.mem_cons_of_mem _ hz)) with e | e
      · have := t1 z hz; rw [e] at this; omega
      · exact e
section
variable {X : Cx} {W : WK}
theorem pairs_of : ∀ {vs : List Val} {ps : List PI2}, pairsOf vs = some ps → vs = ps.map fun p => .im (pD p)
  | [], _, e => by cases e; rfl
  | v :: r, ps, e => by
    unfold pairsOf at e
    split at e
    · cases e; rename_i h; cases h
    · rename_i x y r' h
      cases h
      cases e1 : pairsOf r with
      | none => rw [e1] at e; cases e
      | some l => rw [e1] at e; cases e; rw [pairs_of e1]; rfl
    · cases e
@[simp] theorem pairsOf_map : ∀ ns : List PI2, pairsOf (ns.map fun p => .im (pD p)) = some ns
  | [] => rfl
  | n :: ns => by simp [pairsOf, pD, pairsOf_map ns] <;> exact pairsOf_map ns
def pL (p : PI2) : List Int := [p.1, p.2]
theorem pairs_ks {C : Cst} {ι : Nat → Addr} {F : Hp} {n : Nat} : ∀ {ps : List PI2} {xs : List V}, Paired (RV C ι F n) xs (ps.map fun p => .im (pD p)) → ∃ ks : List (Addr × List Int), xs = ks.map (fun k => V.ref k.1) ∧ ks.map (·.2) = ps.map pL ∧ ∀ k ∈ ks, SqT C.K F k.1 (k.2.map V.int)
  | [], _, r => by cases r; exact ⟨[], rfl, rfl, fun _ h => by cases h⟩
  | p :: ps, _, r => by
    cases r with
    | cons a b =>
      obtain ⟨ks, h1, h2, h3⟩ := pairs_ks b
      cases a with
      | im z =>
        unfold pD at z
        cases z with
        | @tup ad xs _ s t =>
          cases t with
          | cons t1 t2 =>
            cases t1
            cases t2 with
            | cons t2 t3 =>
              cases t2
              cases t3
              refine ⟨(ad, pL p) :: ks, by rw [h1]; rfl, by simp only [List.map_cons]; rw [h2], fun k hk => ?_⟩
              rcases List.mem_cons.mp hk with rfl | hk
              · exact s
              · exact h3 k hk
theorem dp_ints {K : PySem.W.Frag} {F : Hp} : ∀ ns : List Int, DpAll K F (ns.map V.int) (ns.map PyData.int)
  | [] => .nil
  | n :: ns => .cons (.int n) (dp_ints ns)
theorem dp_ks {K : PySem.W.Frag} {F : Hp} : ∀ {ks : List (Addr × List Int)}, (∀ k ∈ ks, SqT K F k.1 (k.2.map V.int)) → DpAll K F (ks.map fun k => V.ref k.1) (ks.map fun k => .tuple (k.2.map .int))
  | [], _ => .nil
  | k :: ks, h => .cons (.tup (h k List.mem_cons_self) (dp_ints k.2)) (dp_ks fun c hc => h c (List.mem_cons_of_mem _ hc))
theorem pull_ps : ∀ {ls : List (List Int)} {ps : List PI2}, (∀ l ∈ ls, l ∈ ps.map pL) → ∃ qs : List PI2, ls = qs.map pL ∧ ∀ q ∈ qs, q ∈ ps
  | [], _, _ => ⟨[], rfl, fun _ h => by cases h⟩
  | l :: ls, ps, h => by
    obtain ⟨qs, h1, h2⟩ := pull_ps (ls := ls) (ps := ps) fun z hz => h z (List.mem_cons_of_mem _ hz)
    obtain ⟨p, hp, e⟩ := List.mem_map.mp (h l List.mem_cons_self)
    refine ⟨p :: qs, by rw [h1, ← e]; rfl, fun q hq => ?_⟩
    rcases List.mem_cons.mp hq with rfl | hq
    · exact hp
    · exact h2 q hq
theorem pL_inj {p q : PI2} (e : pL p = pL q) : p = q := by
  unfold pL at e
  injection e with e1 e2
  injection e2 with e2
  exact Prod.ext e1 e2
theorem code_pL (p : PI2) : TS.code 64 (pL p) = cP p := L2.code_pair p.1 p.2
theorem je_sortSet {a : Expr} {ms : M (List Val)} {p p2 pos pos2 : Pos} (K : Ctx X W) (hg : Gl X "sorted") (hm : X.mg "sorted" = none) (hg2 : Gl X "set") (hm2 : X.mg "set" = none) (ha : JA X W [a] ms)
    (na : starEach [a] X.env = (false, eval a X.env) :: starEach [] X.env := by rfl) (na2 : starEach [Expr.Call (.Name "set" p2) [a] [] pos2] X.env = (false, eval (.Call (.Name "set" p2) [a] [] pos2) X.env) :: starEach [] X.env := by rfl) :
    JE X W (.Call (.Name "sorted" p) [.Call (.Name "set" p2) [a] [] pos2] [] pos) (eB ms fSortSet) := by
  have hu := K.hu
  refine PE.imp (pe_callB (cr_sortedT K.calm) hg hm (by decide +kernel) (pa_cons (pe_callTy (cr_setOfT K.calm (by omega)) hg2 hm2 (by decide +kernel) ha (he := na)) pa_nil na2) (he := na2)) fun σ H Q t => ?_
  obtain ⟨G, F, ι, ρ, h, R, S, D⟩ := t
  refine st1 R S D fun F1 ι1 h1 H1 xs v R1 E1 l1 V1 D1 => ?_
  have V1' : Paired (RV (cst X) ι1 F1 h1.length) xs v := V1
  unfold fSortSet at D1
  split at D1
  · split at D1
    · rename_i v vs e
      split at D1
      · rename_i ps ep
        split at D1
        · rename_i hh
          rw [Bool.and_eq_true, decide_eq_true_eq] at hh
          obtain ⟨h64, hok⟩ := hh
          have hok' : ∀ q ∈ ps, okP q = true := List.all_eq_true.mp hok
          cases V1' with
          | cons va vb =>
            cases vb
            obtain ⟨l, ys, rfl, s', P⟩ := R1.lsts va e
            rw [pairs_of ep] at P
            obtain ⟨ks, rfl, k2, k3⟩ := pairs_ks P
            have kl : ks.length = ps.length := by have := congrArg List.length k2; simpa using this
            refine ⟨l, ks, rfl, s', fun k hk => tupF R1.f (k3 k hk), by omega, fun a L ha hL1 hL2 => ?_⟩
            have up : ∀ b o, H1 b = some o → upd H1 a (SetTO X.prog X.w a L) b = some o := fun b o e => by
              rw [upd_ne fun z => by rw [z, ha] at e; cases e]; exact e
            refine ⟨a, L, 2, 64, rfl, upd_same, fun k hk => tupF (fun b o e => up b o (R1.f b o e)) (k3 k (hL1 k hk)), by decide, fun k hk => ?_, fun L' q pm nd l64 pw hq => ?_⟩
            · have : k.2 ∈ ps.map pL := by rw [← k2]; exact List.mem_map_of_mem (hL1 k hk)
              obtain ⟨w, hw, e⟩ := List.mem_map.mp this
              have := hok' w hw
              simp only [okP, decide_eq_true_eq] at this
              rw [← e]
              refine ⟨rfl, fun m hm => ?_⟩
              unfold pL at hm
              rcases List.mem_cons.mp hm with rfl | hm
              · omega
              · rcases List.mem_cons.mp hm with rfl | hm
                · omega
                · cases hm
            · have R2 := R1.newF ha (SetTO X.prog X.w a L)
              have E2 := Ext.newF R1 ha (SetTO X.prog X.w a L)
              have D2 := Done.mono D1 E2 (Nat.le_refl _)
              have hk' : ∀ k ∈ L', k ∈ ks := fun k hk => hL1 k (pm.mem_iff.mp hk)
              obtain ⟨qs, q1, q2⟩ := pull_ps (ls := L'.map (·.2)) (ps := ps) fun z hz => by
                obtain ⟨k, hk, rfl⟩ := List.mem_map.mp hz
                rw [← k2]; exact List.mem_map_of_mem (hk' k hk)
              have qe : qs = sortPs ps := by
                obtain ⟨s1, s2⟩ := sortPs_ok hok'
                refine str_eq ?_ s2 fun z => ?_
                · have pw' : (L'.map (·.2)).Pairwise fun a b => TS.code 64 a ≤ TS.code 64 b := List.pairwise_map.mpr pw
                  rw [q1] at pw' nd
                  have pw2 := List.pairwise_map.mp pw'
                  have nd2 := List.pairwise_map.mp nd
                  refine (pw2.and nd2).imp_of_mem fun {x y} hx hy z => ?_
                  obtain ⟨z1, z2⟩ := z
                  rw [code_pL, code_pL] at z1
                  rcases Int.lt_or_eq_of_le z1 with z1 | z1
                  · exact z1
                  · exact absurd (congrArg pL (okP_inj (hok' x (q2 x hx)) (hok' y (q2 y hy)) z1)) z2
                · rw [s1]
                  refine ⟨q2 z, fun hz => ?_⟩
                  have : pL z ∈ ks.map (·.2) := by rw [k2]; exact List.mem_map_of_mem hz
                  obtain ⟨k, hk, e⟩ := List.mem_map.mp this
                  have := hL2 k hk
                  rw [e] at this
                  have : pL z ∈ L'.map (·.2) := (pm.map _).mem_iff.mpr this
                  rw [q1] at this
                  obtain ⟨w, hw, e⟩ := List.mem_map.mp this
                  rw [← pL_inj e]; exact hw
              refine fin_newL R2 D2 ?_ q hq
              have z := rvs_of (C := cst X) (ι := ι1) (n := h1.length) (dp_ks (K := X.K) (F := upd F1 a (SetTO X.prog X.w a L)) (ks := L') fun k hk => tupF E2.le (k3 k (hk' k hk)))
              have e3 : (L'.map fun k => PyData.tuple (k.2.map .int)) = (sortPs ps).map pD := by
                rw [← qe]
                have : (L'.map fun k => PyData.tuple (k.2.map .int)) = (L'.map (·.2)).map fun l => PyData.tuple (l.map .int) := by rw [List.map_map]; rfl
                rw [this, q1, List.map_map]
                rfl
              rw [e3, List.map_map] at z
              exact z
        · exact D1.elim
      · exact D1.elim
    · exact D1.elim
  · exact D1.elim
end

/-! ### stores -/
def sPut (mo mi me : Ev) : SM := fun _ ρ h => match me ρ h with
  | .ok v h1 => (match mo ρ h1 with
    | .ok o h2 => (match mi ρ h2 with
      | .ok i h3 => (match o, i with
        | .ref k, .im (.int i) => (match h3[k]? with
          | some (.lst vs) => (match ixN vs.length i with
            | some j => .nx ρ (trunc h.length (h3.set k (.lst (vs.set j v))))
            | none => .no)
          | _ => .no)
        | _, _ => .no)
      | .er c => .er c
      | .no => .no)
    | .er c => .er c
    | .no => .no)
  | .er c => .er c
  | .no => .no
section
variable {X : Cx} {W : WK} {o i e : Expr} {mo mi me : Ev} {pos pos2 : Pos}
theorem paired_set {α β : Type} {P : α → β → Prop} : ∀ {xs : List α} {ys : List β} {x : α} {y : β} (i : Nat), Paired P xs ys → P x y → Paired P (xs.set i x) (ys.set i y)
  | _, _, _, _, _, .nil, _ => .nil
  | _, _, _, _, 0, .cons a b, z => .cons z b
  | _, _, _, _, i + 1, .cons a b, z => .cons a (paired_set i b z)
theorem js_put (hg : PG X (.Subscript o i pos2) (gSub (tOf (repV (cst X)) (cst X) W mo) (tOf (repV (cst X)) (cst X) W mi) rSetL)) (he : JE X W e me)
    (hs : swapsWithSole [.Subscript o i pos2] e pos.line X.env = pure false := by rfl) (hw : swappedStores [.Subscript o i pos2] e X.env = pure none := by rfl)
    (h1 : (assignEach [.Subscript o i pos2] X.env).map (·.2) = [assign (.Subscript o i pos2) X.env] := by rfl) : JS X W (.Assign [.Subscript o i pos2] e pos) (sPut mo mi me) := PS.imp (ps_asg he hg hs hw h1) fun D σ H t => by
  obtain ⟨G, F, ι, p, ρ, h, R, S, hp, d⟩ := t
  unfold sPut at d
  refine ⟨G, F, ι, ρ, h, R, S, ?_⟩
  cases e1 : me ρ h with
  | no => rw [e1] at d; exact d
  | er c => rw [e1] at d; exact d
  | ok v h1 =>
    rw [e1] at d
    intro F1 ι1 H1 x R1 E1 l1 V1
    have S1 := S.mono E1.le E1.ag l1
    refine ⟨G, F1, ι1, ρ, h1, R1, S1, ?_⟩
    simp only at d
    cases e2 : mo ρ h1 with
    | no => rw [e2] at d; exact d
    | er c => rw [e2] at d; exact d
    | ok ov h2 =>
      rw [e2] at d
      intro F2 ι2 H2 y R2 E2 l2 V2
      have S2 := S1.mono E2.le E2.ag l2
      refine ⟨G, F2, ι2, ρ, h2, R2, S2, ?_⟩
      simp only at d
      cases e3 : mi ρ h2 with
      | no => rw [e3] at d; exact d
      | er c => rw [e3] at d; exact d
      | ok iv h3 =>
        rw [e3] at d
        intro F3 ι3 H3 z R3 E3 l3 V3
        have S3 := S2.mono E3.le E3.ag l3
        simp only at d
        split at d
        · rename_i k i'
          split at d
          · rename_i vs hc
            split at d
            · rename_i j hj
              obtain ⟨ys, hH, P⟩ := R3.at_lst hc
              have V2' : RV (cst X) ι2 F2 h2.length y (.ref k) := V2
              have V3' : RV (cst X) ι3 F3 h3.length z (.im (.int i')) := V3
              have W1 := RV.mono (RV.mono V1 E2.le E2.ag l2) E3.le E3.ag l3
              have W2 := RV.mono V2' E3.le E3.ag l3
              cases W2 with
              | ref hk =>
                cases V3' with
                | im z3 =>
                  cases z3
                  refine ⟨_, ys, i', j, rfl, rfl, hH, by rw [Paired.length P]; exact hj, ?_⟩
                  have R4 := R3.setL (xs := ys.set j x) hc (paired_set j P W1)
                  have ll : h.length ≤ (h3.set k (.lst (vs.set j v))).length := by rw [List.length_set]; omega
                  refine d F3 ι3 _ σ (R4.trunc ll) ((E1.trans (E2.trans E3 l2) l1).down hp) (Nat.le_trans hp (trunc_len ll)) ?_
                  exact S.mono (fun b o e => E3.le _ _ (E2.le _ _ (E1.le _ _ e))) (fun i hi => by rw [E3.ag i (by omega), E2.ag i (by omega), E1.ag i hi]) (trunc_len ll)
            · exact d.elim
          · exact d.elim
        · exact d.elim
end

section
variable {X : Cx}
/-- (a, b, ..) as a target -/
theorem gs_nil : PGs X [] (gNames []) := pgs_nil
theorem gs_cons {e : Expr} {es : List Expr} {i : Nat} {is : List Nat} (h1 : JG X e (.nm i)) (h2 : PGs X es (gNames is)) (hs : (assignEach (e :: es) X.env).map (·.2) = assign e X.env :: (assignEach es X.env).map (·.2) := by rfl) : PGs X (e :: es) (gNames (i :: is)) := pgs_cons h1 h2 hs
theorem jg_tup {W : WK} {es : List Expr} {k : Nat} {is : List Nat} {pos : Pos} (K : Ctx X W) (h : PGs X es (gNames is)) (hn : (assignEach es X.env).length = is.length := by rfl) (hst : (assignEach es X.env).findIdx? (·.1) = none := by rfl) : JG X (.Tuple es k pos) (.tup is) := pg_tup K.calm h hn hst
end
end NT

set_option Elab.async false
set_option linter.all false
set_option maxRecDepth 100000
set_option autoImplicit false

namespace NT
open PySem PySem.Spec PyProof.Rows L2 PySem.W

/-! ### the end: the law's def is called with the script alone -/
structure Scr (P : Program) (w : World) (K : PySem.W.Frag) (h : Heap) (a : Addr) (ns : List Int) (H : Hp) : Prop where
  only : Only H
  seq : SqL K H a (ns.map V.int)
  ok : HOk P w H h
  just : ∀ b, H b ≠ none → b = a
  out : H a ≠ none → K.lookup a = none
open Classical in
theorem scr_of {P : Program} {w : World} {K : PySem.W.Frag} {h : Heap} {a : Addr} {vs : List Value} {ns : List Int} (kin : K.In h) (e : h.get? a = some { cls := .type "list", data := .seq vs.toArray }) (is : IntsAre vs ns) (few : ns.length ≤ sizeLine) : ∃ H, Scr P w K h a ns H := by
  have vals := vals_ints is
  have few' : (ns.map V.int).length ≤ sizeLine := by rw [List.length_map]; exact few
  rcases Option.eq_none_or_eq_some (K.lookup a) with hk | ⟨o, hk⟩
  · let ob : Obj := { cls := .type "list", data := .seq vs.toArray }
    let H : Hp := fun b => if b = a then some (.frz ob (.lst (ns.map V.int))) else none
    have Ha : H a = some (.frz ob (.lst (ns.map V.int))) := if_pos rfl
    have Hb : ∀ {b}, b ≠ a → H b = none := fun hb => if_neg hb
    refine ⟨H, fun b => ?_, .inl (.inr ⟨ob, Ha⟩), fun b u z => ?_, fun b z => ?_, fun _ => hk⟩
    · rcases Classical.em (b = a) with rfl | hb
      · exact .inr ⟨_, _, Ha⟩
      · exact .inl (Hb hb)
    · rcases Classical.em (b = a) with rfl | hb
      · rw [Ha] at z
        cases z
        exact ⟨e, few', vs, _, vals, e⟩
      · rw [Hb hb] at z; cases z
    · rcases Classical.em (b = a) with hb | hb
      · exact hb
      · exact (z (Hb hb)).elim
  · have e' := kin a o hk
    rw [e] at e'
    cases e'
    refine ⟨fun _ => none, fun _ => .inl rfl, .inr ⟨_, vs.toArray, _, hk, rfl, rfl, rfl, ?_, by simpa using vals⟩, (fun _ _ z => by cases z), fun _ z => (z rfl).elim, fun z => (z rfl).elim⟩
    rw [List.size_toArray, is.length]
    exact few
theorem top_call {P : Program} {w : World} {K : PySem.W.Frag} {mg mb : Str → Option Value} {k : Nat} {fa a : Addr} {fd : FuncData} {x : Str} {f : Fn} {s : Shared} {vs : List Value} {ns : List Int}
    (kin : K.In s.heap) (nm : s.heap.Ns mainGlobals mg) (nb : s.heap.Ns builtinsNs mb) (boot : ∀ x : Str, x ≠ "__name__" → mb x = bootBuiltins x) (free : s.heap.NoLimit) (gens : s.gens = #[])
    (e : s.heap.get? a = some { cls := .type "list", data := .seq vs.toArray }) (is : IntsAre vs ns) (few : ns.length ≤ sizeLine) (room : Room k callerA)
    (F : ∀ base : Heap, K.In base → base.Ns mainGlobals mg → Good P w K mg base k fa fd [x] f) (bd : ∀ (s : Shared) (u : Value), BindsTo s fd ⟨[u], []⟩ [(x, u)])
    (L : ∃ h', f [.im (.list (ns.map .int))] [] = .ok (.im (.bool true)) h') :
    codeAny (model P w) callerA (.call (.ref fa) ⟨[.ref a], []⟩) (fun r s' => r = .ok (.ret (.bool true)) ∧ OldK s.heap s'.heap ∧ s'.os = s.os ∧ AllBare s'.gens) s := by
  obtain ⟨H, S⟩ := scr_of (P := P) (w := w) kin e is few
  have keepB : ∀ {b : Addr} {o : Obj}, s.heap.get? b = some o → b ≠ a → (hidT s.heap H).get? b = some o := fun {b o} z hb => hidT_get z (by
    rcases Option.eq_none_or_eq_some (H b) with q | ⟨u, q⟩
    · exact q
    · exact (hb (S.just b (by rw [q]; exact fun z => nomatch z))).elim)
  have nsB : ∀ {b : Addr} {m : Str → Option Value}, s.heap.Ns b m → (hidT s.heap H).Ns b m := fun {b m} ⟨o, es, ep, z, d, r⟩ => by
    refine ⟨o, es, ep, keepB z ?_, d, r⟩
    rintro rfl
    rw [e] at z
    cases z
    exact Data.noConfusion d
  have kinB : K.In (hidT s.heap H) := fun b o z => by
    rcases Classical.em (b = a) with rfl | hb
    · refine hidT_get (kin b o z) ?_
      rcases Option.eq_none_or_eq_some (H b) with q | ⟨u, q⟩
      · exact q
      · rw [S.out (by rw [q]; exact fun z => nomatch z)] at z; cases z
    · exact keepB (kin b o z) hb
  have md : Mod K mg (hidT s.heap H) := ⟨kinB, nsB nm, ⟨mb, nsB nb, boot⟩, let ⟨mc, h1, h2⟩ := free; ⟨mc, nsB h1, h2⟩⟩
  have ev : Env0 P w K mg (hidT s.heap H) callerA [] s H := ⟨rfl, md, fun _ _ z => of_hidT z, Nat.le_of_eq (hidT_size _ _), trivial, fun b hb => absurd (show b ∈ ([] : List Addr) from hb) (by simp), S.ok, AllBare.of_eq gens⟩
  obtain ⟨h', eL⟩ := L
  have R : Rel ⟨P, w, K⟩ H H (fun _ => 0) [] H := ⟨fun _ _ z => z, fun _ _ z => z, fun _ _ _ _ z => by simp at z, fun _ _ z => by simp at z, fun _ _ z => by simp at z, fun _ _ z => by simp at z⟩
  have sp : spOf 1 ⟨P, w, K⟩ mg f [.ref a] H (fun v _ => v = .bl true) (fun _ _ _ => False) := ⟨rfl, H, H, fun _ => 0, [], _, R, .cons (.im (.lst S.seq (dp_ints ns))) .nil, by
    rw [eL]
    intro F' ι' H' y _ _ _ V
    cases V with
    | im z => cases z; rfl⟩
  refine codeAny_mono ((F _ kinB (nsB nm)).run callerA [] s H ⟨[.ref a], []⟩ [.ref a] [.ref a] _ _ room rfl ev (bd s (.ref a)) (.cons rfl .nil) sp) ?_
  rintro (er | fl) s' z
  · obtain ⟨_, _, _, _, _, _, _, _, _, _, _, _, q⟩ := z
    exact q.elim
  · cases fl with
    | next | brk | cont => exact z.elim
    | ret u =>
      obtain ⟨v, H', os, bare, un, hok', rv, q⟩ := z
      obtain rfl : v = .bl true := q
      obtain rfl : u = .bool true := rv
      refine ⟨rfl, OldK.of_keep fun b o z => ?_, os, bare⟩
      rcases S.only b with q | ⟨ob, xs, q⟩
      · exact un.keep b o z q (fun z => by cases z) (by simp)
      · have o1 := (S.ok b _ q).1
        have o2 := (hok' b _ (un.frzs b ob _ q)).1
        rw [o1] at z
        cases z
        exact o2
theorem walk_good {l : PySem.W.OpenLaw} {n k : Nat} {q : Program} {loose : List Str} {XP : (Str → Option Value) → Heap → Prop} {YP : World → Heap → Prop} {d : DefRec} {K : Params → PySem.W.Frag} {f : Fn} {x : Str}
    (hn : l.most = some n) (hn2 : n ≤ sizeLine) (hdf : d.params.defaults = []) (room : Room k callerA)
    (inn : ∀ (w : World) (h : Heap), YP w h → (K w.params).In h)
    (F : ∀ (w : World) (m : Str → Option Value) (fa : Addr) (h : Heap), (K w.params).In h → h.Ns mainGlobals m → m d.name = some (.ref fa) →
      ∃ fd : FuncData, (∀ (s : Shared) (u : Value), BindsTo s fd ⟨[u], []⟩ [(x, u)]) ∧ ∀ base : Heap, (K w.params).In base → base.Ns mainGlobals m → Good l.prog w (K w.params) m base k fa fd [x] f)
    (L : ∀ ns : List Int, ns.length ≤ n → ∃ h', f [.im (.list (ns.map .int))] [] = .ok (.im (.bool true)) h') :
    PySem.W.WalkO q loose XP YP l.row.toRowW d [] (fun f vs => PySem.call f vs) := by
  refine Att.attach_call hn hdf fun w s₀ s₁ mg mb fa o pm cd doc a vs ns G Y _ _ _ hmg hob is hl gens => ?_
  obtain ⟨fd, bd, FF⟩ := F w mg fa _ (inn w _ Y) G.T.g hmg
  exact top_call (inn w _ Y) G.T.g G.T.b G.T.builtins G.T.nolimit gens hob is (Nat.le_trans hl hn2) room FF bd (L ns hl)
end NT

set_option Elab.async false
set_option linter.all false
set_option maxRecDepth 100000
set_option autoImplicit false

namespace NT
open PySem PySem.Spec PyProof.Rows L2 PySem.W

/-! ### a def as its callers use it -/
structure Use (P : Program) (w : World) (K : PySem.W.Frag) (mg : Str → Option Value) (base : Heap) (x : Str) (k : Nat) (ps : List Str) (s : Fn) (f : Addr) (fd : FuncData) : Prop where
  good : Good P w K mg base k f fd ps s
  glob : mg x = some (.ref f)
  keep : PySem.W.keepIn K (.ref f) = true
  bind : Binds K fd ps []
section
variable {X : Cx} {W : WK} {k j : Nat} {f : Addr} {fd : FuncData} {ps : List Str} {s : Fn} {x : Str} {p pos : Pos} {e : Expr} {es : List Expr} {ms : M (List Val)}
theorem je_use (K : Ctx X W) (U : Use X.prog X.w X.K X.mg X.base x j ps s f fd) (hr : Room k X.A) (hj : j ≤ k) (hg : Gl X x)
    (ha : JA X W (e :: es) ms) (hdb : (x == ("__debug__" : Str)) = false := by decide) (he : starEach (e :: es) X.env = (false, eval e X.env) :: starEach es X.env := by rfl) (hpl : (backTo pos (starEach es X.env)).any (·.1) = false := by rfl) :
    JE X W (.Call (.Name x p) (e :: es) [] pos) (eCall ps.length s ms) := je_call K U.good (hr.mono hj) hg U.glob U.keep U.bind ha hdb he hpl
theorem je_use0 (K : Ctx X W) (U : Use X.prog X.w X.K X.mg X.base x j ps s f fd) (hr : Room k X.A) (hj : j ≤ k) (hg : Gl X x) (hdb : (x == ("__debug__" : Str)) = false := by decide) :
    JE X W (.Call (.Name x p) [] [] pos) (eCall ps.length s mNil) := je_call0 K U.good (hr.mono hj) hg U.glob U.keep U.bind hdb
end
end NT

set_option Elab.async false
set_option linter.all false
set_option maxRecDepth 100000
set_option autoImplicit false

namespace NT
open PySem PySem.Spec PyProof.Rows L2 PySem.W

/-! ### a, b = x, y -/
def trunc2 (k : Nat) (v w : Val) (h : Hs) : Hs := if (v.isIm && w.isIm) = true then trunc k h else h
def sPar (i j : Nat) (m : M (List Val)) : SM := fun _ ρ h => match m ρ h with
  | .ok [v, w] h1 => .nx ((ρ.set i (some v)).set j (some w)) (trunc2 h.length v w h1)
  | .er c => .er c
  | _ => .no
section
variable {X : Cx} {W : WK} {a b : Expr} {ms : M (List Val)} {i j : Nat} {x y : Str} {px py pt pos : Pos} {kt k2 : Nat} {pt2 : Pos}
theorem js_par (K : Ctx X W) (hi : X.N[i]? = some x) (hj : X.N[j]? = some y) (hij : i ≠ j) (hx : X.env.scope.names.lookup x = some .local) (hy : X.env.scope.names.lookup y = some .local) (ha : JA X W [a, b] ms)
    (hw : swappedStores [.Tuple [.Name x px, .Name y py] kt pt] (.Tuple [a, b] k2 pt2) X.env = pure (some [x, y])) (hs : swapsWithSole [.Tuple [.Name x px, .Name y py] kt pt] (.Tuple [a, b] k2 pt2) pos.line X.env = pure false := by rfl) :
    JS X W (.Assign [.Tuple [.Name x px, .Name y py] kt pt] (.Tuple [a, b] k2 pt2) pos) (sPar i j ms) := PS.imp (ps_par K.calm K.nd hi hj hij hx hy ha hw hs) fun D σ H t => by
  obtain ⟨G, F, ι, p, ρ, h, R, S, hp, d⟩ := t
  unfold sPar at d
  refine ⟨G, F, ι, ρ, h, R, S, ?_⟩
  cases e : ms ρ h with
  | no => rw [e] at d; exact d
  | er c => rw [e] at d; exact d
  | ok vs h1 =>
    rw [e] at d
    intro F1 ι1 H1 xs R1 E1 l1 V1
    have S1 := S.mono E1.le E1.ag l1
    have V1' : Paired (RV (cst X) ι1 F1 h1.length) xs vs := V1
    match vs, V1', d with
    | [], _, d => exact d.elim
    | [_], _, d => exact d.elim
    | _ :: _ :: _ :: _, _, d => exact d.elim
    | [v, w], .cons r1 (.cons r2 .nil), d =>
      refine ⟨_, _, rfl, ?_⟩
      simp only [trunc2] at d
      split at d
      · rename_i hh
        rw [Bool.and_eq_true] at hh
        have lt := trunc_len (h := h1) l1
        exact d F1 ι1 H1 _ (R1.trunc l1) (E1.down hp) (Nat.le_trans hp lt) (((S.mono E1.le E1.ag lt).set (r1.flat hh.1)).set (r2.flat hh.2))
      · exact d F1 ι1 H1 _ R1 (E1.down hp) (Nat.le_trans hp l1) ((S1.set r1).set r2)
end
end NT

set_option Elab.async false
set_option linter.all false
set_option maxRecDepth 100000
set_option autoImplicit false

namespace NT
open PySem PySem.Spec PyProof.Rows L2 PySem.W

/-! ### computing with the terms -/
section
variable (a b c : Ev) (m r : M (List Val)) (s t : SM) (u v : M Bool) (p i n : Nat) (ρ : En) (h : Hs) (d : PyData) (x y : Val) (f : List Val → Hs → Res Val) (g : Val → Val → Hs → Res Val) (g1 : Val → Hs → Res Val) (gm : Val → List Val → Hs → Res Val) (ty : Val → Hs → Bool)
@[simp] theorem q_sNil : sNil p ρ h = .nx ρ h := rfl
@[simp] theorem q_sPass : sPass p ρ h = .nx ρ h := rfl
@[simp] theorem q_sBreak : sBreak p ρ h = .bk ρ h := rfl
@[simp] theorem q_sCont : sCont p ρ h = .ct ρ h := rfl
@[simp] theorem q_sRetN : sRetN p ρ h = .rt (.im .none) h := rfl
@[simp] theorem q_sSeq : sSeq s t p ρ h = match s p ρ h with | .nx ρ' h' => t p ρ' h' | r => r := rfl
@[simp] theorem q_sIf : sIf u s t p ρ h = match u ρ h with
  | .ok k h1 => if k = true then s p ρ (trunc h.length h1) else t p ρ (trunc h.length h1)
  | .er c => .er c
  | .no => .no := rfl
@[simp] theorem q_sRet : sRet a p ρ h = match a ρ h with | .ok v h1 => .rt v h1 | .er c => .er c | .no => .no := rfl
@[simp] theorem q_sExpr : sExpr a p ρ h = match a ρ h with | .ok _ h1 => .nx ρ (trunc h.length h1) | .er c => .er c | .no => .no := rfl
@[simp] theorem q_sSet : sSet i a p ρ h = match a ρ h with | .ok v h1 => asgn p i v h.length ρ h1 | .er c => .er c | .no => .no := rfl
@[simp] theorem q_e1 : e1 a g1 ρ h = (a ρ h).bind g1 := rfl
@[simp] theorem q_e2 : e2 a b g ρ h = (a ρ h).bind fun x h1 => (b ρ h1).bind fun y h2 => g x y h2 := rfl
@[simp] theorem q_eVar : eVar i ρ h = match ρ[i]? with | some (some v) => .ok v h | _ => .no := rfl
@[simp] theorem q_eC : eC d ρ h = .ok (.im d) h := rfl
@[simp] theorem q_tst : tst a ρ h = (a ρ h).bind vB := rfl
@[simp] theorem q_vB (k : Bool) : vB (.im (.bool k)) h = .ok k h := rfl
@[simp] theorem q_mNil : mNil ρ h = .ok [] h := rfl
@[simp] theorem q_mCons : mCons a m ρ h = (a ρ h).bind fun v h1 => (m ρ h1).bind fun vs h2 => .ok (v :: vs) h2 := rfl
@[simp] theorem q_eB : eB m f ρ h = (m ρ h).bind f := rfl
@[simp] theorem q_eM : eM ty a m gm ρ h = (a ρ h).bind fun v h1 => if ty v h1 = true then (m ρ h1).bind fun vs h2 => gm v vs h2 else .no := rfl
@[simp] theorem q_eCall (F : Fn) : eCall n F m ρ h = (m ρ h).bind fun vs h1 => if vs.length = n then callFn F vs h1 else .no := rfl
@[simp] theorem q_mAnd : mAnd u v ρ h = (u ρ h).bind fun c h1 => if c = true then v ρ h1 else .ok false h1 := rfl
@[simp] theorem q_mOr : mOr u v ρ h = (u ρ h).bind fun c h1 => if c = true then .ok true h1 else v ρ h1 := rfl
@[simp] theorem q_mNot : mNot u ρ h = (u ρ h).bind fun c h1 => .ok (!c) h1 := rfl
@[simp] theorem q_mTrue : mTrue ρ h = .ok true h := rfl
@[simp] theorem q_eIf : eIf u a b ρ h = (u ρ h).bind fun k h1 => if k = true then a ρ h1 else b ρ h1 := rfl
@[simp] theorem q_eTup : eTup m ρ h = (m ρ h).bind fun vs h1 => match frzL vs h1 with | some (ds, h2) => (if ds.length ≤ 16777216 then .ok (.im (.tuple ds)) h2 else .no) | none => .no := rfl
@[simp] theorem q_eLst : eLst m ρ h = (m ρ h).bind fun vs h1 => if vs.length ≤ 16777216 then .ok (.ref h1.length) (h1 ++ [.lst vs]) else .no := rfl
@[simp] theorem q_asgn_im (k : Nat) : asgn p i (.im d) k ρ h = .nx (ρ.set i (some (.im d))) (trunc k h) := rfl
@[simp] theorem q_isL_ref (k : Nat) : isL (.ref k) h = (lstOf h (.ref k)).isSome := rfl
@[simp] theorem q_isL_im (ds : List PyData) : isL (.im (.list ds)) h = true := rfl
end
abbrev VI (i : Int) : Val := .im (.int i)
abbrev CI (ns : List Int) : Cell := .lst (ns.map fun i => .im (.int i))
abbrev CP (ps : List PI2) : Cell := .lst (ps.map fun p => .im (pD p))
@[simp] theorem live_lst (l : List Val) : Cell.live (.lst l) = true := rfl
@[simp] theorem vbelow_im (k : Nat) (d : PyData) : Val.below k (.im d) = true := rfl
@[simp] theorem below_ref (k n : Nat) : Val.below k (.ref n) = decide (n < k) := rfl
@[simp] theorem isIm_im (d : PyData) : Val.isIm (.im d) = true := rfl
@[simp] theorem isIm_ref (k : Nat) : Val.isIm (.ref k) = false := rfl
@[simp] theorem ren_im (g : Nat → Nat) (d : PyData) : Val.ren g (.im d) = .im d := rfl
@[simp] theorem ren_ref (g : Nat → Nat) (k : Nat) : Val.ren g (.ref k) = .ref (g k) := rfl
@[simp] theorem cren_lst (g : Nat → Nat) (l : List Val) : Cell.ren g (.lst l) = .lst (l.map (Val.ren g)) := rfl
@[simp] theorem cbelow_lst (k : Nat) (l : List Val) : Cell.below k (.lst l) = l.all (Val.below k) := rfl
@[simp] theorem cflat_lst (l : List Val) : Cell.flat (.lst l) = l.all Val.isIm := rfl
@[simp] theorem cnoRef_lst (k : Nat) (l : List Val) : Cell.noRef k (.lst l) = l.all fun v => match v with | .ref j => j != k | _ => true := rfl
@[simp] theorem noRefAt_im (k : Nat) (d : PyData) : noRefAt k (some (.im d)) = true := rfl
@[simp] theorem noRefAt_none (k : Nat) : noRefAt k none = true := rfl
@[simp] theorem noRefAt_ref (k j : Nat) : noRefAt k (some (.ref j)) = (j != k) := rfl
@[simp] theorem ren_comp {α : Type} (g : Nat → Nat) (f : α → PyData) : (Val.ren g ∘ fun a => Val.im (f a)) = fun a => Val.im (f a) := rfl
@[simp] theorem below_comp {α : Type} (k : Nat) (f : α → PyData) : (Val.below k ∘ fun a => Val.im (f a)) = fun _ => true := rfl
@[simp] theorem isIm_comp {α : Type} (f : α → PyData) : (Val.isIm ∘ fun a => Val.im (f a)) = fun _ => true := rfl
theorem trunc_take {k : Nat} {h : Hs} (b : (h.take k).all (Cell.below k) = true) : trunc k h = h.take k := if_pos b
@[simp] theorem trunc_self (h : Hs) : trunc h.length h = h := by unfold trunc; split <;> simp
theorem trunc_ge {k : Nat} {h : Hs} (e : h.length ≤ k) : trunc k h = h := by
  unfold trunc
  split
  · exact List.take_of_length_le e
  · rfl
@[simp] theorem trunc_1 (a : Cell) : trunc 1 [a] = [a] := trunc_ge (by simp)
@[simp] theorem trunc_2 (a b : Cell) : trunc 2 [a, b] = [a, b] := trunc_ge (by simp)
@[simp] theorem trunc_3 (a b c : Cell) : trunc 3 [a, b, c] = [a, b, c] := trunc_ge (by simp)
@[simp] theorem trunc_4 (a b c d : Cell) : trunc 4 [a, b, c, d] = [a, b, c, d] := trunc_ge (by simp)
@[simp] theorem trunc_5 (a b c d e : Cell) : trunc 5 [a, b, c, d, e] = [a, b, c, d, e] := trunc_ge (by simp)
@[simp] theorem trunc_nil (k : Nat) : trunc k [] = [] := by unfold trunc; simp
theorem trunc_len_eq {k : Nat} {h : Hs} (e : k = h.length) : trunc k h = h := by subst e; exact trunc_self h
theorem fnOf1 {m : Nat} {b : SM} {x : Val} {h : Hs} : fnOf 1 m b [x] h = fnEnd h.length (b h.length (some x :: List.replicate (m - 1) none) h) := if_pos rfl
theorem fnOf2 {m : Nat} {b : SM} {x y : Val} {h : Hs} : fnOf 2 m b [x, y] h = fnEnd h.length (b h.length (some x :: some y :: List.replicate (m - 2) none) h) := if_pos rfl
theorem fnOf3 {m : Nat} {b : SM} {x y z : Val} {h : Hs} : fnOf 3 m b [x, y, z] h = fnEnd h.length (b h.length (some x :: some y :: some z :: List.replicate (m - 3) none) h) := if_pos rfl
theorem fnOf4 {m : Nat} {b : SM} {x y z u : Val} {h : Hs} : fnOf 4 m b [x, y, z, u] h = fnEnd h.length (b h.length (some x :: some y :: some z :: some u :: List.replicate (m - 4) none) h) := if_pos rfl
@[simp] theorem fnEnd_rt (p : Nat) (v : Val) (h : Hs) : fnEnd p (.rt v h) = fnFin p v h := rfl
@[simp] theorem fnEnd_nx (p : Nat) (ρ : En) (h : Hs) : fnEnd p (.nx ρ h) = fnFin p (.im .none) h := rfl
@[simp] theorem fnEnd_er (p : Nat) (c : Str) : fnEnd p (.er c) = .er c := rfl
@[simp] theorem fnFin_im (p : Nat) (d : PyData) (h : Hs) : fnFin p (.im d) h = .ok (.im d) (trunc p h) := rfl
/-- a call whose arguments are plain data -/
theorem call_im {s : Fn} {ds : List PyData} {h : Hs} : callFn s (ds.map .im) h = (s (ds.map .im) []).bind fun v h' => .ok (v.ren (backI [] h.length)) (h ++ h'.map (Cell.ren (backI [] h.length))) := by
  have e : ∀ ds : List PyData, ∀ n, isol h (ds.map .im) n = some (ds.map .im, []) := by
    intro ds
    induction ds with
    | nil => intro n; rfl
    | cons d ds ih => intro n; simp [isol, ih]
  unfold callFn
  rw [e]
  simp [cellsAt, wrs]
end NT

set_option Elab.async false
set_option linter.all false
set_option maxRecDepth 100000
set_option autoImplicit false

namespace NT
open PySem PySem.Spec PyProof.Rows L2 PySem.W
section
variable {α : Type} {s : Src} {T : Tg} {c : M Bool} {e : Ev} {ρ : En} {g : α → Val} {b : SM} {p : Nat}
abbrev CompStep (s : Src) (T : Tg) (c : M Bool) (e : Ev) (ρ : En) (g : α → Val) (J : List α → List PyData → Hs → Prop) : Prop := ∀ a r acc h, J (a :: r) acc h → s.okAt h ∧ acc.length < 16777216 ∧ ∃ ρ1, T.asg (g a) ρ = some ρ1 ∧ ∃ k h1, c ρ1 h = .ok k h1 ∧
      ((k = true ∧ ∃ d h2, e ρ1 (trunc h.length h1) = .ok (.im d) h2 ∧ J r (acc ++ [d]) (trunc (trunc h.length h1).length h2)) ∨ (k = false ∧ J r acc (trunc h.length h1)))
abbrev ForStep (b : SM) (p : Nat) (s : Src) (T : Tg) (g : α → Val) (J : List α → En → Hs → Prop) (Q : RS → Prop) : Prop := ∀ a r ρ h, J (a :: r) ρ h → s.okAt h ∧ ∃ ρ1, T.asg (g a) ρ = some ρ1 ∧ (match b p ρ1 h with
      | .nx ρ2 h2 => J r ρ2 h2
      | .ct ρ2 h2 => J r ρ2 h2
      | .bk ρ2 h2 => Q (.nx ρ2 h2)
      | x => Q x)
/-- a comprehension, by an invariant -/
theorem compGo_inv (J : List α → List PyData → Hs → Prop)
    (hs : ∀ a r acc h, J (a :: r) acc h → s.okAt h ∧ acc.length < 16777216 ∧ ∃ ρ1, T.asg (g a) ρ = some ρ1 ∧ ∃ k h1, c ρ1 h = .ok k h1 ∧
      ((k = true ∧ ∃ d h2, e ρ1 (trunc h.length h1) = .ok (.im d) h2 ∧ J r (acc ++ [d]) (trunc (trunc h.length h1).length h2)) ∨ (k = false ∧ J r acc (trunc h.length h1))))
    (he : ∀ acc h, J [] acc h → s.okAt h) : ∀ (l : List α) (acc : List PyData) (h : Hs), J l acc h → ∃ acc' h', compGo s T c e ρ (l.map g) (acc.map .im) h = .ok (acc'.map .im) h' ∧ J [] acc' h'
  | [], acc, h, j => ⟨acc, h, by rw [List.map_nil, compGo, if_pos (he acc h j)], j⟩
  | a :: r, acc, h, j => by
    obtain ⟨ok, ln, ρ1, e1, k, h1, e2, z⟩ := hs a r acc h j
    rw [List.map_cons, compGo, if_pos ok, e1]
    simp only [e2]
    rcases z with ⟨rfl, d, h2, e3, j2⟩ | ⟨rfl, j2⟩
    · simp only [if_true, e3, List.length_map, if_pos ln, truncV]
      have := compGo_inv J hs he r (acc ++ [d]) _ j2
      rw [List.map_append] at this
      exact this
    · simp only [Bool.false_eq_true, if_false]
      exact compGo_inv J hs he r acc _ j2
/-- .. that changes nothing -/
theorem compGo_pure {h : Hs} (cond : α → Bool) (elt : α → PyData) (ok : s.okAt h) :
    ∀ (l : List α) (acc : List PyData), (∀ a ∈ l, ∃ ρ1, T.asg (g a) ρ = some ρ1 ∧ ∃ h1, c ρ1 h = .ok (cond a) h1 ∧ trunc h.length h1 = h ∧ (cond a = true → ∃ h2, e ρ1 h = .ok (.im (elt a)) h2 ∧ trunc h.length h2 = h)) → acc.length + l.length ≤ 16777216 → compGo s T c e ρ (l.map g) (acc.map .im) h = .ok ((acc ++ (l.filter cond).map elt).map .im) h
  | [], acc, _, _ => by rw [List.map_nil, compGo, if_pos ok]; simp
  | a :: r, acc, hs, hl => by
    obtain ⟨ρ1, e1, h1, e2, e3, z⟩ := hs a List.mem_cons_self
    have hs' := fun b hb => hs b (List.mem_cons_of_mem a hb)
    rw [List.map_cons, compGo, if_pos ok, e1]
    simp only [List.length_cons] at hl
    simp only [e2, e3]
    cases hc : cond a with
    | true =>
      obtain ⟨h2, e4, e5⟩ := z hc
      have ln : acc.length < 16777216 := by omega
      simp only [if_true, e4, List.length_map, if_pos ln, truncV, e5]
      have := compGo_pure cond elt ok r (acc ++ [elt a]) hs' (by rw [List.length_append, List.length_singleton]; omega)
      rw [List.map_append] at this
      simpa [List.filter_cons, hc] using this
    | false =>
      simp only [Bool.false_eq_true, if_false]
      have := compGo_pure cond elt ok r acc hs' (by omega)
      simpa [List.filter_cons, hc] using this
theorem compGo_map {h : Hs} (elt : α → PyData) (ok : s.okAt h) (l : List α) (hs : ∀ a ∈ l, ∃ ρ1, T.asg (g a) ρ = some ρ1 ∧ ∃ h2, e ρ1 h = .ok (.im (elt a)) h2 ∧ trunc h.length h2 = h) (hl : l.length ≤ 16777216) :
    compGo s T mTrue e ρ (l.map g) [] h = .ok (l.map fun a => .im (elt a)) h := by
  have := compGo_pure (c := mTrue) (fun _ => true) elt ok l [] (fun a ha => by
    obtain ⟨ρ1, h1, h2, h3, h4⟩ := hs a ha
    exact ⟨ρ1, h1, h, rfl, trunc_self h, fun _ => ⟨h2, h3, h4⟩⟩) (by simpa using hl)
  rw [show l.filter (fun _ => true) = l from List.filter_eq_self.mpr fun _ _ => rfl] at this
  simpa [Function.comp_def] using this
theorem compGo_fil {h : Hs} (cond : α → Bool) (elt : α → PyData) (ok : s.okAt h) (l : List α) (hs : ∀ a ∈ l, ∃ ρ1, T.asg (g a) ρ = some ρ1 ∧ ∃ h1, c ρ1 h = .ok (cond a) h1 ∧ trunc h.length h1 = h ∧ (cond a = true → ∃ h2, e ρ1 h = .ok (.im (elt a)) h2 ∧ trunc h.length h2 = h)) (hl : l.length ≤ 16777216) :
    compGo s T c e ρ (l.map g) [] h = .ok ((l.filter cond).map fun a => .im (elt a)) h := by
  have := compGo_pure cond elt ok l [] hs (by simpa using hl)
  simpa [Function.comp_def] using this
theorem forGo_inv (J : List α → En → Hs → Prop) (Q : RS → Prop)
    (hs : ∀ a r ρ h, J (a :: r) ρ h → s.okAt h ∧ ∃ ρ1, T.asg (g a) ρ = some ρ1 ∧ (match b p ρ1 h with
      | .nx ρ2 h2 => J r ρ2 h2
      | .ct ρ2 h2 => J r ρ2 h2
      | .bk ρ2 h2 => Q (.nx ρ2 h2)
      | x => Q x))
    (he : ∀ ρ h, J [] ρ h → s.okAt h ∧ Q (.nx ρ h)) : ∀ (l : List α) (ρ : En) (h : Hs), J l ρ h → Q (forGo b T s p (l.map g) ρ h)
  | [], ρ, h, j => by rw [List.map_nil, forGo, if_pos (he ρ h j).1]; exact (he ρ h j).2
  | a :: r, ρ, h, j => by
    obtain ⟨ok, ρ1, e1, z⟩ := hs a r ρ h j
    rw [List.map_cons, forGo, if_pos ok, e1]
    simp only
    cases eb : b p ρ1 h with
    | nx ρ2 h2 => rw [eb] at z; exact forGo_inv J Q hs he r ρ2 h2 z
    | ct ρ2 h2 => rw [eb] at z; exact forGo_inv J Q hs he r ρ2 h2 z
    | bk ρ2 h2 => rw [eb] at z; exact z
    | rt v h2 => rw [eb] at z; exact z
    | er c => rw [eb] at z; exact z
    | no => rw [eb] at z; exact z
end
@[simp] theorem okAt_nil (items : List Val) (h : Hs) : Src.okAt ⟨items, []⟩ h := fun _ z => by cases z
@[simp] theorem pin_VI (l : List Int) (n : Nat) : Src.pin ⟨l.map VI, []⟩ n = 0 := by simp [Src.pin, VI, Function.comp_def]
@[simp] theorem pin_im {α : Type} (f : α → PyData) (l : List α) (n : Nat) : Src.pin ⟨l.map (fun a => .im (f a)), []⟩ n = 0 := by simp [Src.pin, Function.comp_def]
theorem okAt_one {items vs : List Val} {m : Nat} {h : Hs} (e : h[m]? = some (.lst vs)) : Src.okAt ⟨items, [(m, vs)]⟩ h := fun p hp => by
  rcases List.mem_cons.mp hp with rfl | hp
  · exact e
  · cases hp
theorem q_eComp (ms : M Src) (T : Tg) (c : M Bool) (e : Ev) (vs : List Nat) (ρ : En) (h : Hs) : eComp ms T c e vs ρ h = (ms ρ h).bind fun src h1 => (compGo src T c e (wE ρ vs) src.items [] h1).bind fun acc h2 => .ok (.ref h2.length) (h2 ++ [.lst acc]) := rfl
theorem q_sFor (ms : M Src) (T : Tg) (b : SM) (p : Nat) (ρ : En) (h : Hs) : sFor ms T b p ρ h = match ms ρ h with
  | .ok src h1 => forGo b T src (max p (src.pin h1.length)) src.items ρ h1
  | .er c => .er c
  | .no => .no := rfl
@[simp] theorem q_mSeq (a : Ev) (ρ : En) (h : Hs) : mSeq a ρ h = (a ρ h).bind fun v h1 => seqSrc h.length v h1 := rfl
@[simp] theorem q_mRng1 (m : M (List Val)) (ρ : En) (h : Hs) : mRng1 m ρ h = (m ρ h).bind fun vs h1 => match vs with
  | [.im (.int j)] => if smallI j = true then .ok ⟨rangeI 0 j.toNat, []⟩ (trunc h.length h1) else .no
  | _ => .no := rfl
@[simp] theorem q_mRng2 (m : M (List Val)) (ρ : En) (h : Hs) : mRng2 m ρ h = (m ρ h).bind fun vs h1 => match vs with
  | [.im (.int i), .im (.int j)] => if (smallI i && smallI j) = true then .ok ⟨rangeI i (j - i).toNat, []⟩ (trunc h.length h1) else .no
  | _ => .no := rfl
@[simp] theorem wE_nil (ρ : En) : wE ρ [] = ρ := rfl
@[simp] theorem wE_cons (ρ : En) (v : Nat) (vs : List Nat) : wE ρ (v :: vs) = (wE ρ vs).set v none := rfl
@[simp] theorem asg_nm (i : Nat) (v : Val) (ρ : En) : Tg.asg (.nm i) v ρ = some (ρ.set i (some v)) := rfl
theorem imsOf_mapf {α : Type} (f : α → PyData) : ∀ l : List α, imsOf (l.map fun a => .im (f a)) = some (l.map f)
  | [] => rfl
  | a :: r => by simp [imsOf, imsOf_mapf f r]
theorem seq_new {α : Type} (f : α → PyData) (l : List α) {h : Hs} (hb : h.all (Cell.below h.length) = true) : seqSrc h.length (.ref h.length) (h ++ [.lst (l.map fun a => .im (f a))]) = .ok ⟨l.map fun a => .im (f a), []⟩ h := by
  have e : (h ++ [Cell.lst (l.map fun a => .im (f a))])[h.length]? = some (.lst (l.map fun a => .im (f a))) := by simp
  have e2 : (h ++ [Cell.lst (l.map fun a => .im (f a))]).set h.length (.fz (.list (l.map f))) = h ++ [.fz (.list (l.map f))] := by simp
  simp only [seqSrc, e, imsOf_mapf, Nat.le_refl, if_true, e2]
  rw [trunc_take (by rw [List.take_left]; exact hb), List.take_left]
  simp [Function.comp_def]
/-- small ranges by their numbers -/
def rg (lo : Int) (n : Nat) : List Int := (List.range n).map fun (i : Nat) => lo + (i : Int)
theorem rangeI_eq (lo : Int) (n : Nat) : rangeI lo n = (rg lo n).map VI := by unfold rangeI rg; rw [List.map_map]; rfl
theorem rg_mem {lo x : Int} {n : Nat} (h : x ∈ rg lo n) : lo ≤ x ∧ x < lo + n := by
  unfold rg at h
  obtain ⟨i, hi, rfl⟩ := List.mem_map.mp h
  have := List.mem_range.mp hi
  omega
theorem rg_len (lo : Int) (n : Nat) : (rg lo n).length = n := by simp [rg]
theorem smallI_of {i : Int} (h : -1000 ≤ i ∧ i ≤ 1000) : smallI i = true := by
  simp only [smallI, decide_eq_true_eq]; omega
theorem src_rng2 {ms : M (List Val)} {ρ : En} {h : Hs} {i j : Int} (e : ms ρ h = .ok [VI i, VI j] h) (si : smallI i = true) (sj : smallI j = true) : mRng2 ms ρ h = .ok ⟨(rg i (j - i).toNat).map VI, []⟩ h := by
  rw [q_mRng2, e]
  simp only [bind_ok, si, sj, Bool.and_self, if_true, trunc_self, rangeI_eq]
theorem src_rng1 {ms : M (List Val)} {ρ : En} {h : Hs} {j : Int} (e : ms ρ h = .ok [VI j] h) (sj : smallI j = true) : mRng1 ms ρ h = .ok ⟨(rg 0 j.toNat).map VI, []⟩ h := by
  rw [q_mRng1, e]
  simp only [bind_ok, sj, if_true, trunc_self, rangeI_eq]
end NT

set_option Elab.async false
set_option linter.all false
set_option maxRecDepth 100000
set_option maxHeartbeats 4000000
set_option autoImplicit false
namespace NT
open PySem PySem.Spec PyProof.Rows L2 PySem.W
def top (i : Nat) : Stmt := PySem.Challenge.pw_nearturns_k81_close_places.main.body.getD i (.Pass ⟨0, 0, 0, 0⟩)
abbrev near_t : Stmt := top 1
abbrev near_N : List Str := ["web", "place", "one", "other"]
abbrev near_P : List Str := ["web", "place"]
noncomputable def near_c0 : Ev := eComp (mSeq (e2 (eVar 0) (eC (.int 1)) vIdx)) (.tup [2, 3]) (tst (e2 (eVar 1) (eTup (mCons (eVar 2) (mCons (eVar 3) mNil))) (vInS false))) (e2 (e2 (eVar 2) (eVar 3) vAdd) (eVar 1) vSub) [2, 3]
noncomputable def near_s0 : SM := (sRet (eB (mCons (eB (mCons near_c0 mNil) fSorted) mNil) fTuple))
noncomputable def near_b : SM :=
  near_s0
noncomputable def near_f : Fn := fnOf 2 4 near_b
abbrev but_for_t : Stmt := top 3
abbrev but_for_N : List Str := ["web", "place", "other", "left", "here"]
abbrev but_for_P : List Str := ["web", "place", "other", "left"]
noncomputable def but_for_c0 : Ev := eComp (mSeq (eCall 2 near_f (mCons (eVar 0) (mCons (eVar 1) mNil)))) (.nm 4) (mAnd (tst (e2 (eVar 4) (eVar 2) vNe)) (tst (e2 (eVar 4) (eVar 3) (vInS false)))) (eVar 4) [4]
noncomputable def but_for_s0 : SM := (sRet but_for_c0)
noncomputable def but_for_b : SM :=
  but_for_s0
noncomputable def but_for_f : Fn := fnOf 4 5 but_for_b
abbrev close_places_t : Stmt := top 4
abbrev close_places_N : List Str := ["web", "found", "every", "one", "other", "first", "last"]
abbrev close_places_P : List Str := ["web"]
noncomputable def close_places_s0 : SM := (sSet 1 (eLst mNil))
noncomputable def close_places_s1 : SM := (sSet 2 (e1 (e2 (eVar 0) (eC (.int 0)) vIdx) vRg1))
noncomputable def close_places_l0 : SM := (sSeq (sSet 5 (eCall 4 but_for_f (mCons (eVar 0) (mCons (eVar 3) (mCons (eVar 4) (mCons (eVar 2) mNil))))))
  (sSeq (sSet 6 (eCall 4 but_for_f (mCons (eVar 0) (mCons (eVar 4) (mCons (eVar 3) (mCons (eVar 2) mNil))))))
  (sIf (mOr (tst (e2 (eVar 5) (eLst mNil) vEq)) (mOr (tst (e2 (eVar 6) (eLst mNil) vEq)) (tst (e2 (eVar 5) (eVar 6) vEq)))) (sExpr (eM isL (eVar 1) (mCons (eTup (mCons (eVar 3) (mCons (eVar 4) mNil))) mNil) mAppend)) sNil)))
noncomputable def close_places_l1 : SM := (sFor (mRng2 (mCons (e2 (eVar 3) (eC (.int 1)) vAdd) (mCons (e2 (eVar 0) (eC (.int 0)) vIdx) mNil))) (.nm 4) close_places_l0)
noncomputable def close_places_s2 : SM := (sFor (mSeq (eVar 2)) (.nm 3) close_places_l1)
noncomputable def close_places_s3 : SM := (sRet (eVar 1))
noncomputable def close_places_b : SM :=
  (sSeq close_places_s0
  (sSeq close_places_s1
  (sSeq close_places_s2
  close_places_s3)))
noncomputable def close_places_f : Fn := fnOf 1 7 close_places_b
abbrev can_leave_t : Stmt := top 5
abbrev can_leave_N : List Str := ["web", "place", "left", "other", "rest"]
abbrev can_leave_P : List Str := ["web", "place", "left"]
noncomputable def can_leave_l0 : SM := (sIf (tst (e2 (eVar 3) (eVar 1) vNe)) (sSeq (sSet 4 (eCall 4 but_for_f (mCons (eVar 0) (mCons (eVar 1) (mCons (eVar 3) (mCons (eVar 2) mNil))))))
  (sIf (mOr (tst (e2 (eVar 4) (eLst mNil) vEq)) (tst (e2 (eVar 4) (eCall 4 but_for_f (mCons (eVar 0) (mCons (eVar 3) (mCons (eVar 1) (mCons (eVar 2) mNil))))) vEq))) (sRet (eC (.bool true))) sNil)) sNil)
noncomputable def can_leave_s0 : SM := (sFor (mSeq (eVar 2)) (.nm 3) can_leave_l0)
noncomputable def can_leave_s1 : SM := (sRet (eC (.bool false)))
noncomputable def can_leave_b : SM :=
  (sSeq can_leave_s0
  can_leave_s1)
noncomputable def can_leave_f : Fn := fnOf 3 5 can_leave_b
abbrev can_go_t : Stmt := top 6
abbrev can_go_N : List Str := ["web", "place"]
abbrev can_go_P : List Str := ["web", "place"]
noncomputable def can_go_s0 : SM := (sRet (eCall 3 can_leave_f (mCons (eVar 0) (mCons (eVar 1) (mCons (e1 (e2 (eVar 0) (eC (.int 0)) vIdx) vRg1) mNil)))))
noncomputable def can_go_b : SM :=
  can_go_s0
noncomputable def can_go_f : Fn := fnOf 2 2 can_go_b
abbrev _law_cell_at_t : Stmt := top 8
abbrev _law_cell_at_N : List Str := ["_law_script", "_law_k"]
abbrev _law_cell_at_P : List Str := ["_law_script", "_law_k"]
noncomputable def _law_cell_at_s0 : SM := (sIf (tst (e2 (eVar 1) (eB (mCons (eVar 0) mNil) fLen) vLt)) (sRet (e2 (eVar 0) (eVar 1) vIdx)) sNil)
noncomputable def _law_cell_at_s1 : SM := (sRet (eC (.int 0)))
noncomputable def _law_cell_at_b : SM :=
  (sSeq _law_cell_at_s0
  _law_cell_at_s1)
noncomputable def _law_cell_at_f : Fn := fnOf 2 2 _law_cell_at_b
abbrev _law_state_t : Stmt := top 9
abbrev _law_state_N : List Str := ["_law_script", "_law_k", "_law_cell"]
abbrev _law_state_P : List Str := ["_law_script", "_law_k"]
noncomputable def _law_state_s0 : SM := (sSet 2 (eCall 2 _law_cell_at_f (mCons (eVar 0) (mCons (eVar 1) mNil))))
noncomputable def _law_state_s1 : SM := (sIf (tst (e2 (eVar 2) (e2 (eC (.int 10)) (eC (.int 18)) vPow) vGe)) (sRet (eLst (mCons (e2 (eVar 2) (e2 (eC (.int 10)) (eC (.int 18)) vPow) vSub) (mCons (eC (.bool true)) mNil)))) sNil)
noncomputable def _law_state_s2 : SM := (sRet (eLst (mCons (e2 (eVar 2) (eC (.int 2147483647)) vMod) (mCons (eC (.bool false)) mNil))))
noncomputable def _law_state_b : SM :=
  (sSeq _law_state_s0
  (sSeq _law_state_s1
  _law_state_s2))
noncomputable def _law_state_f : Fn := fnOf 2 3 _law_state_b
abbrev _law_take_t : Stmt := top 10
abbrev _law_take_N : List Str := ["_law_state_here", "_law_many", "_law_mixed", "_law_found"]
abbrev _law_take_P : List Str := ["_law_state_here", "_law_many"]
noncomputable def _law_take_s0 : SM := (sIf (tst (e2 (eVar 0) (eC (.int 1)) vIdx)) (sSeq (sSet 3 (e2 (e2 (eVar 0) (eC (.int 0)) vIdx) (eVar 1) vMod))
  (sSeq (sPut (eVar 0) (eC (.int 0)) (e2 (e2 (eVar 0) (eC (.int 0)) vIdx) (eVar 1) vFdiv))
  (sRet (eVar 3)))) sNil)
noncomputable def _law_take_s1 : SM := (sPut (eVar 0) (eC (.int 0)) (e2 (e2 (e2 (e2 (eVar 0) (eC (.int 0)) vIdx) (eC (.int 48271)) vMul) (eC (.int 29)) vAdd) (eC (.int 2147483647)) vMod))
noncomputable def _law_take_s2 : SM := (sSet 2 (e2 (e2 (e2 (e2 (e2 (eVar 0) (eC (.int 0)) vIdx) (e2 (eVar 0) (eC (.int 0)) vIdx) vMul) (e2 (eC (.int 39373)) (e2 (eVar 0) (eC (.int 0)) vIdx) vMul) vAdd) (eC (.int 7)) vAdd) (eC (.int 2147483629)) vMod))
noncomputable def _law_take_s3 : SM := (sSet 2 (e2 (e2 (e2 (eVar 2) (eVar 2) vMul) (e2 (eC (.int 16807)) (eVar 2) vMul) vAdd) (eC (.int 2147483587)) vMod))
noncomputable def _law_take_s4 : SM := (sRet (e2 (e2 (eVar 2) (eC (.int 8)) vFdiv) (eVar 1) vMod))
noncomputable def _law_take_b : SM :=
  (sSeq _law_take_s0
  (sSeq _law_take_s1
  (sSeq _law_take_s2
  (sSeq _law_take_s3
  _law_take_s4))))
noncomputable def _law_take_f : Fn := fnOf 2 4 _law_take_b
abbrev _law_pairs_t : Stmt := top 11
abbrev _law_pairs_N : List Str := ["_law_places", "_law_found", "_law_a", "_law_b"]
abbrev _law_pairs_P : List Str := ["_law_places"]
noncomputable def _law_pairs_s0 : SM := (sSet 1 (eLst mNil))
noncomputable def _law_pairs_c0 : Ev := eComp (mRng2 (mCons (e2 (eVar 2) (eC (.int 1)) vAdd) (mCons (eVar 0) mNil))) (.nm 3) mTrue (eTup (mCons (eVar 2) (mCons (eVar 3) mNil))) [3]
noncomputable def _law_pairs_l0 : SM := (sExpr (eM isL (eVar 1) (mCons _law_pairs_c0 mNil) mExtend))
noncomputable def _law_pairs_s1 : SM := (sFor (mRng1 (mCons (eVar 0) mNil)) (.nm 2) _law_pairs_l0)
noncomputable def _law_pairs_s2 : SM := (sRet (eVar 1))
noncomputable def _law_pairs_b : SM :=
  (sSeq _law_pairs_s0
  (sSeq _law_pairs_s1
  _law_pairs_s2))
noncomputable def _law_pairs_f : Fn := fnOf 1 4 _law_pairs_b
abbrev _law_order_t : Stmt := top 12
abbrev _law_order_N : List Str := ["_law_state_here", "_law_many", "_law_left", "_law_k"]
abbrev _law_order_P : List Str := ["_law_state_here", "_law_many"]
noncomputable def _law_order_s0 : SM := (sSet 2 (e1 (eVar 1) vRg1))
noncomputable def _law_order_c0 : Ev := eComp (mRng1 (mCons (eVar 1) mNil)) (.nm 3) mTrue (eM isL (eVar 2) (mCons (eCall 2 _law_take_f (mCons (eVar 0) (mCons (eB (mCons (eVar 2) mNil) fLen) mNil))) mNil) mPopAt) [3]
noncomputable def _law_order_s1 : SM := (sRet (eB (mCons _law_order_c0 mNil) fTuple))
noncomputable def _law_order_b : SM :=
  (sSeq _law_order_s0
  _law_order_s1)
noncomputable def _law_order_f : Fn := fnOf 2 4 _law_order_b
abbrev _law_web_t : Stmt := top 13
abbrev _law_web_N : List Str := ["_law_state_here", "_law_least", "_law_most", "_law_places", "_law_kind", "_law_order_here", "_law_full", "_law_ties", "_law_found", "_law_pair", "_law_a", "_law_b", "_law_place"]
abbrev _law_web_P : List Str := ["_law_state_here", "_law_least", "_law_most"]
noncomputable def _law_web_s0 : SM := (sSet 3 (e2 (eVar 1) (eCall 2 _law_take_f (mCons (eVar 0) (mCons (e2 (e2 (eVar 2) (eVar 1) vSub) (eC (.int 1)) vAdd) mNil))) vAdd))
noncomputable def _law_web_s1 : SM := (sSet 4 (eCall 2 _law_take_f (mCons (eVar 0) (mCons (eC (.int 8)) mNil))))
noncomputable def _law_web_s2 : SM := (sSet 5 (eCall 2 _law_order_f (mCons (eVar 0) (mCons (eVar 3) mNil))))
noncomputable def _law_web_s3 : SM := (sSet 6 (e2 (eLst (mCons (eC (.int 2)) (mCons (eC (.int 3)) (mCons (eC (.int 5)) (mCons (eC (.int 7)) mNil))))) (eCall 2 _law_take_f (mCons (eVar 0) (mCons (eC (.int 4)) mNil))) vIdx))
noncomputable def _law_web_c0 : Ev := eComp (mSeq (eCall 1 _law_pairs_f (mCons (eVar 3) mNil))) (.nm 9) (tst (e2 (eCall 2 _law_take_f (mCons (eVar 0) (mCons (eC (.int 8)) mNil))) (eVar 6) vLt)) (eVar 9) [9]
noncomputable def _law_web_s4 : SM := (sSet 7 _law_web_c0)
noncomputable def _law_web_c1 : Ev := eComp (mRng2 (mCons (eC (.int 1)) (mCons (eVar 3) mNil))) (.nm 12) mTrue (eTup (mCons (eCall 2 _law_take_f (mCons (eVar 0) (mCons (eVar 12) mNil))) (mCons (eVar 12) mNil))) [12]
noncomputable def _law_web_c2 : Ev := eComp (mSeq (eCall 1 _law_pairs_f (mCons (eVar 3) mNil))) (.nm 9) (tst (e2 (eCall 2 _law_take_f (mCons (eVar 0) (mCons (eC (.int 6)) mNil))) (eC (.int 0)) vEq)) (eVar 9) [9]
noncomputable def _law_web_s5 : SM := (sIf (tst (e2 (eVar 4) (eTup (mCons (eC (.int 1)) (mCons (eC (.int 2)) (mCons (eC (.int 3)) mNil)))) (vInS false))) (sSeq (sSet 7 _law_web_c1)
  (sIf (tst (e2 (eVar 4) (eC (.int 2)) vEq)) (sSet 7 (e2 (eVar 7) _law_web_c2 vAdd)) sNil)) sNil)
noncomputable def _law_web_c3 : Ev := eComp (mRng1 (mCons (e2 (eVar 3) (eC (.int 1)) vSub) mNil)) (.nm 12) mTrue (eTup (mCons (eVar 12) (mCons (e2 (eVar 12) (eC (.int 1)) vAdd) mNil))) [12]
noncomputable def _law_web_s6 : SM := (sIf (mAnd (tst (e2 (eVar 4) (eC (.int 4)) vEq)) (tst (e2 (eVar 3) (eC (.int 2)) vGt))) (sSet 7 (e2 _law_web_c3 (eLst (mCons (eTup (mCons (eC (.int 0)) (mCons (e2 (eVar 3) (eC (.int 1)) vSub) mNil))) mNil)) vAdd)) sNil)
noncomputable def _law_web_c4 : Ev := eComp (mRng2 (mCons (eC (.int 1)) (mCons (eVar 3) mNil))) (.nm 12) mTrue (eTup (mCons (eC (.int 0)) (mCons (eVar 12) mNil))) [12]
noncomputable def _law_web_s7 : SM := (sIf (tst (e2 (eVar 4) (eC (.int 5)) vEq)) (sSet 7 (e2 (eLst (mCons _law_web_c4 (mCons (eCall 1 _law_pairs_f (mCons (eVar 3) mNil)) mNil))) (eCall 2 _law_take_f (mCons (eVar 0) (mCons (eC (.int 2)) mNil))) vIdx)) sNil)
noncomputable def _law_web_c5 : Ev := eComp (mSeq (eVar 7)) (.tup [10, 11]) mTrue (eTup (mCons (eB (mCons (e2 (eVar 5) (eVar 10) vIdx) (mCons (e2 (eVar 5) (eVar 11) vIdx) mNil)) fMin2) (mCons (eB (mCons (e2 (eVar 5) (eVar 10) vIdx) (mCons (e2 (eVar 5) (eVar 11) vIdx) mNil)) fMax2) mNil))) [10, 11]
noncomputable def _law_web_s8 : SM := (sSet 8 _law_web_c5)
noncomputable def _law_web_s9 : SM := (sRet (eTup (mCons (eVar 3) (mCons (eB (mCons (eB (mCons (eVar 8) mNil) fSortSet) mNil) fTuple) mNil))))
noncomputable def _law_web_b : SM :=
  (sSeq _law_web_s0
  (sSeq _law_web_s1
  (sSeq _law_web_s2
  (sSeq _law_web_s3
  (sSeq _law_web_s4
  (sSeq _law_web_s5
  (sSeq _law_web_s6
  (sSeq _law_web_s7
  (sSeq _law_web_s8
  _law_web_s9)))))))))
noncomputable def _law_web_f : Fn := fnOf 3 13 _law_web_b
abbrev _law_near_t : Stmt := top 14
abbrev _law_near_N : List Str := ["_law_web_here", "_law_place", "_law_found", "_law_a", "_law_b"]
abbrev _law_near_P : List Str := ["_law_web_here", "_law_place"]
noncomputable def _law_near_s0 : SM := (sSet 2 (eLst mNil))
noncomputable def _law_near_l0 : SM := (sSeq (sIf (tst (e2 (eVar 3) (eVar 1) vEq)) (sExpr (eM isL (eVar 2) (mCons (eVar 4) mNil) mAppend)) sNil)
  (sIf (tst (e2 (eVar 4) (eVar 1) vEq)) (sExpr (eM isL (eVar 2) (mCons (eVar 3) mNil) mAppend)) sNil))
noncomputable def _law_near_s1 : SM := (sFor (mSeq (e2 (eVar 0) (eC (.int 1)) vIdx)) (.tup [3, 4]) _law_near_l0)
noncomputable def _law_near_s2 : SM := (sRet (eB (mCons (eB (mCons (eVar 2) mNil) fSorted) mNil) fTuple))
noncomputable def _law_near_b : SM :=
  (sSeq _law_near_s0
  (sSeq _law_near_s1
  _law_near_s2))
noncomputable def _law_near_f : Fn := fnOf 2 5 _law_near_b
abbrev _law_same_t : Stmt := top 15
abbrev _law_same_N : List Str := ["_law_found", "_law_due"]
abbrev _law_same_P : List Str := ["_law_found", "_law_due"]
noncomputable def _law_same_s0 : SM := (sRet (e2 (eB (mCons (eVar 0) mNil) fRepr) (eB (mCons (eVar 1) mNil) fRepr) vEq))
noncomputable def _law_same_b : SM :=
  _law_same_s0
noncomputable def _law_same_f : Fn := fnOf 2 2 _law_same_b
abbrev _law_but_t : Stmt := top 16
abbrev _law_but_N : List Str := ["_law_web_here", "_law_place", "_law_other", "_law_left", "_law_there"]
abbrev _law_but_P : List Str := ["_law_web_here", "_law_place", "_law_other", "_law_left"]
noncomputable def _law_but_c0 : Ev := eComp (mSeq (eVar 3)) (.nm 4) (mAnd (tst (e2 (eVar 4) (eVar 2) vNe)) (tst (e2 (eVar 4) (eCall 2 _law_near_f (mCons (eVar 0) (mCons (eVar 1) mNil))) (vInS false)))) (eVar 4) [4]
noncomputable def _law_but_s0 : SM := (sRet _law_but_c0)
noncomputable def _law_but_b : SM :=
  _law_but_s0
noncomputable def _law_but_f : Fn := fnOf 4 5 _law_but_b
abbrev _law_can_t : Stmt := top 17
abbrev _law_can_N : List Str := ["_law_web_here", "_law_place", "_law_left", "_law_other", "_law_rest"]
abbrev _law_can_P : List Str := ["_law_web_here", "_law_place", "_law_left"]
noncomputable def _law_can_l0 : SM := (sIf (tst (e2 (eVar 3) (eVar 1) vNe)) (sSeq (sSet 4 (eCall 4 _law_but_f (mCons (eVar 0) (mCons (eVar 1) (mCons (eVar 3) (mCons (eVar 2) mNil))))))
  (sIf (tst (e2 (eVar 4) (eTup (mCons (eLst mNil) (mCons (eCall 4 _law_but_f (mCons (eVar 0) (mCons (eVar 3) (mCons (eVar 1) (mCons (eVar 2) mNil))))) mNil))) (vInS false))) (sRet (eC (.bool true))) sNil)) sNil)
noncomputable def _law_can_s0 : SM := (sFor (mSeq (eVar 2)) (.nm 3) _law_can_l0)
noncomputable def _law_can_s1 : SM := (sRet (eC (.bool false)))
noncomputable def _law_can_b : SM :=
  (sSeq _law_can_s0
  _law_can_s1)
noncomputable def _law_can_f : Fn := fnOf 3 5 _law_can_b
abbrev _law_close_t : Stmt := top 18
abbrev _law_close_N : List Str := ["_law_web_here", "_law_found", "_law_every", "_law_a", "_law_b", "_law_first", "_law_last"]
abbrev _law_close_P : List Str := ["_law_web_here"]
noncomputable def _law_close_s0 : SM := (sSet 1 (eLst mNil))
noncomputable def _law_close_s1 : SM := (sSet 2 (e1 (e2 (eVar 0) (eC (.int 0)) vIdx) vRg1))
noncomputable def _law_close_l0 : SM := (sSeq (sPar 5 6 (mCons (eCall 4 _law_but_f (mCons (eVar 0) (mCons (eVar 3) (mCons (eVar 4) (mCons (eVar 2) mNil))))) (mCons (eCall 4 _law_but_f (mCons (eVar 0) (mCons (eVar 4) (mCons (eVar 3) (mCons (eVar 2) mNil))))) mNil)))
  (sIf (mOr (tst (e2 (eLst mNil) (eTup (mCons (eVar 5) (mCons (eVar 6) mNil))) (vInS false))) (tst (e2 (eVar 5) (eVar 6) vEq))) (sExpr (eM isL (eVar 1) (mCons (eTup (mCons (eVar 3) (mCons (eVar 4) mNil))) mNil) mAppend)) sNil))
noncomputable def _law_close_s2 : SM := (sFor (mSeq (eCall 1 _law_pairs_f (mCons (e2 (eVar 0) (eC (.int 0)) vIdx) mNil))) (.tup [3, 4]) _law_close_l0)
noncomputable def _law_close_s3 : SM := (sRet (eVar 1))
noncomputable def _law_close_b : SM :=
  (sSeq _law_close_s0
  (sSeq _law_close_s1
  (sSeq _law_close_s2
  _law_close_s3)))
noncomputable def _law_close_f : Fn := fnOf 1 7 _law_close_b
abbrev law_t : Stmt := top 19
abbrev law_N : List Str := ["_law_script", "_law_k", "_law_state_here", "_law_web_here", "_law_due", "_law_turn", "_law_every", "_law_place", "_law_found"]
abbrev law_P : List Str := ["_law_script"]
noncomputable def law_s0 : SM := (sIf (mOr (tst (e2 (eCall 1 close_places_f (mCons (eTup (mCons (eC (.int 1)) (mCons (eTup mNil) mNil))) mNil)) (eLst mNil) vNe)) (mOr (tst (e2 (eCall 2 can_go_f (mCons (eTup (mCons (eC (.int 1)) (mCons (eTup mNil) mNil))) (mCons (eC (.int 0)) mNil))) (eC (.bool false)) (vIs true))) (tst (e2 (eCall 2 can_go_f (mCons (eTup (mCons (eC (.int 2)) (mCons (eTup mNil) mNil))) (mCons (eC (.int 1)) mNil))) (eC (.bool true)) (vIs true))))) (sRet (eC (.bool false))) sNil)
noncomputable def law_l0 : SM := (sSeq (sSet 8 (eCall 1 close_places_f (mCons (eVar 3) mNil)))
  (sSeq (sIf (mNot (tst (eCall 2 _law_same_f (mCons (eVar 8) (mCons (eVar 4) mNil))))) (sRet (eC (.bool false))) sNil)
  (sExpr (eM isL (eVar 8) (mCons (eTup mNil) mNil) mAppend))))
noncomputable def law_l1 : SM := (sIf (mNot (tst (eCall 2 _law_same_f (mCons (eCall 2 can_go_f (mCons (eVar 3) (mCons (eVar 7) mNil))) (mCons (eCall 3 _law_can_f (mCons (eVar 3) (mCons (eVar 7) (mCons (eVar 6) mNil)))) mNil))))) (sRet (eC (.bool false))) sNil)
noncomputable def law_l2 : SM := (sSeq (sSet 2 (eCall 2 _law_state_f (mCons (eVar 0) (mCons (eVar 1) mNil))))
  (sSeq (sSet 3 (eCall 3 _law_web_f (mCons (eVar 2) (mCons (eC (.int 1)) (mCons (eC (.int 8)) mNil)))))
  (sSeq (sSet 4 (eCall 1 _law_close_f (mCons (eVar 3) mNil)))
  (sSeq (sFor (mRng1 (mCons (eC (.int 2)) mNil)) (.nm 5) law_l0)
  (sSeq (sSet 6 (e1 (e2 (eVar 3) (eC (.int 0)) vIdx) vRg1))
  (sFor (mSeq (eVar 6)) (.nm 7) law_l1))))))
noncomputable def law_s1 : SM := (sFor (mRng1 (mCons (eB (mCons (eC (.int 1)) (mCons (eB (mCons (eB (mCons (eVar 0) mNil) fLen) (mCons (eC (.int 8)) mNil)) fMin2) mNil)) fMax2) mNil)) (.nm 1) law_l2)
noncomputable def law_s2 : SM := (sRet (eC (.bool true)))
noncomputable def law_b : SM :=
  (sSeq law_s0
  (sSeq law_s1
  law_s2))
noncomputable def law_f : Fn := fnOf 1 9 law_b
section
variable {P : Program} {w : World} {K : PySem.W.Frag} {mg : Str → Option Value} {base : Heap}
theorem near_sc : FnScope near_N near_P (defScope near_t) := ⟨rfl, rfl, rfl, by decide +kernel, rfl, by decide +kernel, by decide +kernel⟩
theorem near_ok {a : Addr} {fd : FuncData} (F : Fun K "near" "near" near_t a fd) (hm : mg "near" = some (.ref a)) (hb : Binds K fd near_P []) (h_sorted : mg "sorted" = none) (h_tuple : mg "tuple" = none)  : Use P w K mg base "near" 1 near_P near_f a fd :=
  ⟨mk_good F near_sc fun cdv A outer s H E B => show JSs _ _ _ near_b from ((jss_one (js_ret (je_callTy o_tuple rfl h_tuple (ja_cons (je_callB (o_sorted B.ctx) rfl h_sorted (ja_cons (je_comp (own := [(("one" : Str), 2), (("other" : Str), 3)]) B.ctx (ji_seq (je_idx je_var je_int)) (by first | exact blkOk_by (N := near_N) (sc := defScope near_t) (by decide +kernel) | exact blkOk_by (by kernel_rfl) | exact blkOk_by rfl) (by decide) (fun _ _ _ _ _ => (jg_tup (Ctx.blk B.ctx) (gs_cons (jg_name (Ctx.blk B.ctx) (i := 2) rfl (by first | exact Or.inl rfl | exact Or.inr rfl)) (gs_cons (jg_name (Ctx.blk B.ctx) (i := 3) rfl (by first | exact Or.inl rfl | exact Or.inr rfl)) gs_nil)))) (fun _ _ _ _ _ => (jtsOne (jt_cmp (c_inS (Ctx.blk B.ctx)) je_var (je_tup (ja_cons je_var (ja_cons je_var ja_nil)))))) (fun _ _ _ _ _ => (je_op o_sub (je_op o_add je_var je_var) je_var))) ja_nil)) ja_nil))))), hm, F.kp, hb⟩
theorem but_for_sc : FnScope but_for_N but_for_P (defScope but_for_t) := ⟨rfl, rfl, rfl, by decide +kernel, rfl, by decide +kernel, by decide +kernel⟩
theorem but_for_ok {a : Addr} {fd : FuncData} (F : Fun K "but_for" "but_for" but_for_t a fd) (hm : mg "but_for" = some (.ref a)) (hb : Binds K fd but_for_P [])  {a_near : Addr} {d_near : FuncData} (U_near : Use P w K mg base "near" 1 near_P near_f a_near d_near) : Use P w K mg base "but_for" 2 but_for_P but_for_f a fd :=
  ⟨mk_good F but_for_sc fun cdv A outer s H E B => show JSs _ _ _ but_for_b from ((jss_one (js_ret (je_comp (own := [(("here" : Str), 4)]) B.ctx (ji_seq (je_use B.ctx U_near B.room (by decide) rfl (ja_cons je_var (ja_cons je_var ja_nil)))) (by first | exact blkOk_by (N := but_for_N) (sc := defScope but_for_t) (by decide +kernel) | exact blkOk_by (by kernel_rfl) | exact blkOk_by rfl) (by decide) (fun _ _ _ _ _ => (jg_name (Ctx.blk B.ctx) (i := 4) rfl (by first | exact Or.inl rfl | exact Or.inr rfl))) (fun _ _ _ _ _ => (jtsOne (jt_w (jw_and (jt_cmp (c_ne (Ctx.blk B.ctx)) je_var je_var) (jw_and1 (jt_cmp (c_inS (Ctx.blk B.ctx)) je_var je_var)))))) (fun _ _ _ _ _ => je_var))))), hm, F.kp, hb⟩
theorem close_places_sc : FnScope close_places_N close_places_P (defScope close_places_t) := ⟨rfl, rfl, rfl, by decide +kernel, rfl, by decide +kernel, by decide +kernel⟩
theorem close_places_ok {a : Addr} {fd : FuncData} (F : Fun K "close_places" "close_places" close_places_t a fd) (hm : mg "close_places" = some (.ref a)) (hb : Binds K fd close_places_P []) (h_list : mg "list" = none) (h_range : mg "range" = none) {a_but_for : Addr} {d_but_for : FuncData} (U_but_for : Use P w K mg base "but_for" 2 but_for_P but_for_f a_but_for d_but_for) : Use P w K mg base "close_places" 3 close_places_P close_places_f a fd :=
  ⟨mk_good F close_places_sc fun cdv A outer s H E B => show JSs _ _ _ close_places_b from ((jss_cons (js_set B.ctx (i := 1) rfl (by first | exact Or.inl rfl | exact Or.inr rfl) (je_lst ja_nil))
  (jss_cons (js_set B.ctx (i := 2) rfl (by first | exact Or.inl rfl | exact Or.inr rfl) (je_listRg1 B.ctx rfl h_list rfl h_range (je_idx je_var je_int)))
  (jss_cons (js_for B.ctx B.pass (ji_seq je_var) (jg_name B.ctx (i := 3) rfl (by first | exact Or.inl rfl | exact Or.inr rfl)) (jss_one (js_for B.ctx B.pass (ji_rng2 rfl h_range (ja_cons (je_op o_add je_var je_int) (ja_cons (je_idx je_var je_int) ja_nil))) (jg_name B.ctx (i := 4) rfl (by first | exact Or.inl rfl | exact Or.inr rfl)) (jss_cons (js_set B.ctx (i := 5) rfl (by first | exact Or.inl rfl | exact Or.inr rfl) (je_use B.ctx U_but_for B.room (by decide) rfl (ja_cons je_var (ja_cons je_var (ja_cons je_var (ja_cons je_var ja_nil))))))
  (jss_cons (js_set B.ctx (i := 6) rfl (by first | exact Or.inl rfl | exact Or.inr rfl) (je_use B.ctx U_but_for B.room (by decide) rfl (ja_cons je_var (ja_cons je_var (ja_cons je_var (ja_cons je_var ja_nil))))))
  (jss_one (js_if (jt_w (jw_or (jt_cmp (c_eq B.ctx) je_var (je_lst ja_nil)) (jw_or (jt_cmp (c_eq B.ctx) je_var (je_lst ja_nil)) (jw_or1 (jt_cmp (c_eq B.ctx) je_var je_var))))) (jss_one (js_expr (je_meth (fun R V e => isL_ty R V e) (pe_bm PySem.F.plainAttrs_list PySem.F.slot_list_append PySem.F.type_list_append o_append je_var (ja_cons (je_tup (ja_cons je_var (ja_cons je_var ja_nil))) ja_nil))))) jss_nil)))))))
  (jss_one (js_ret je_var)))))), hm, F.kp, hb⟩
theorem can_leave_sc : FnScope can_leave_N can_leave_P (defScope can_leave_t) := ⟨rfl, rfl, rfl, by decide +kernel, rfl, by decide +kernel, by decide +kernel⟩
theorem can_leave_ok {a : Addr} {fd : FuncData} (F : Fun K "can_leave" "can_leave" can_leave_t a fd) (hm : mg "can_leave" = some (.ref a)) (hb : Binds K fd can_leave_P [])  {a_but_for : Addr} {d_but_for : FuncData} (U_but_for : Use P w K mg base "but_for" 2 but_for_P but_for_f a_but_for d_but_for) : Use P w K mg base "can_leave" 3 can_leave_P can_leave_f a fd :=
  ⟨mk_good F can_leave_sc fun cdv A outer s H E B => show JSs _ _ _ can_leave_b from ((jss_cons (js_for B.ctx B.pass (ji_seq je_var) (jg_name B.ctx (i := 3) rfl (by first | exact Or.inl rfl | exact Or.inr rfl)) (jss_one (js_if (jt_cmp (c_ne B.ctx) je_var je_var) (jss_cons (js_set B.ctx (i := 4) rfl (by first | exact Or.inl rfl | exact Or.inr rfl) (je_use B.ctx U_but_for B.room (by decide) rfl (ja_cons je_var (ja_cons je_var (ja_cons je_var (ja_cons je_var ja_nil))))))
  (jss_one (js_if (jt_w (jw_or (jt_cmp (c_eq B.ctx) je_var (je_lst ja_nil)) (jw_or1 (jt_cmp (c_eq B.ctx) je_var (je_use B.ctx U_but_for B.room (by decide) rfl (ja_cons je_var (ja_cons je_var (ja_cons je_var (ja_cons je_var ja_nil))))))))) (jss_one (js_ret je_bl)) jss_nil))) jss_nil)))
  (jss_one (js_ret je_bl)))), hm, F.kp, hb⟩
theorem can_go_sc : FnScope can_go_N can_go_P (defScope can_go_t) := ⟨rfl, rfl, rfl, by decide +kernel, rfl, by decide +kernel, by decide +kernel⟩
theorem can_go_ok {a : Addr} {fd : FuncData} (F : Fun K "can_go" "can_go" can_go_t a fd) (hm : mg "can_go" = some (.ref a)) (hb : Binds K fd can_go_P []) (h_list : mg "list" = none) (h_range : mg "range" = none) {a_can_leave : Addr} {d_can_leave : FuncData} (U_can_leave : Use P w K mg base "can_leave" 3 can_leave_P can_leave_f a_can_leave d_can_leave) : Use P w K mg base "can_go" 4 can_go_P can_go_f a fd :=
  ⟨mk_good F can_go_sc fun cdv A outer s H E B => show JSs _ _ _ can_go_b from ((jss_one (js_ret (je_use B.ctx U_can_leave B.room (by decide) rfl (ja_cons je_var (ja_cons je_var (ja_cons (je_listRg1 B.ctx rfl h_list rfl h_range (je_idx je_var je_int)) ja_nil))))))), hm, F.kp, hb⟩
theorem _law_cell_at_sc : FnScope _law_cell_at_N _law_cell_at_P (defScope _law_cell_at_t) := ⟨rfl, rfl, rfl, by decide +kernel, rfl, by decide +kernel, by decide +kernel⟩
theorem _law_cell_at_ok {a : Addr} {fd : FuncData} (F : Fun K "_law_cell_at" "_law_cell_at" _law_cell_at_t a fd) (hm : mg "_law_cell_at" = some (.ref a)) (hb : Binds K fd _law_cell_at_P []) (h_len : mg "len" = none)  : Use P w K mg base "_law_cell_at" 1 _law_cell_at_P _law_cell_at_f a fd :=
  ⟨mk_good F _law_cell_at_sc fun cdv A outer s H E B => show JSs _ _ _ _law_cell_at_b from ((jss_cons (js_if (jt_cmp (c_lt B.ctx) je_var (je_callB o_len rfl h_len (ja_cons je_var ja_nil))) (jss_one (js_ret (je_idx je_var je_var))) jss_nil)
  (jss_one (js_ret je_int)))), hm, F.kp, hb⟩
theorem _law_state_sc : FnScope _law_state_N _law_state_P (defScope _law_state_t) := ⟨rfl, rfl, rfl, by decide +kernel, rfl, by decide +kernel, by decide +kernel⟩
theorem _law_state_ok {a : Addr} {fd : FuncData} (F : Fun K "_law_state" "_law_state" _law_state_t a fd) (hm : mg "_law_state" = some (.ref a)) (hb : Binds K fd _law_state_P [])  {a__law_cell_at : Addr} {d__law_cell_at : FuncData} (U__law_cell_at : Use P w K mg base "_law_cell_at" 1 _law_cell_at_P _law_cell_at_f a__law_cell_at d__law_cell_at) : Use P w K mg base "_law_state" 2 _law_state_P _law_state_f a fd :=
  ⟨mk_good F _law_state_sc fun cdv A outer s H E B => show JSs _ _ _ _law_state_b from ((jss_cons (js_set B.ctx (i := 2) rfl (by first | exact Or.inl rfl | exact Or.inr rfl) (je_use B.ctx U__law_cell_at B.room (by decide) rfl (ja_cons je_var (ja_cons je_var ja_nil))))
  (jss_cons (js_if (jt_cmp (c_ge B.ctx) je_var (je_op o_pow je_int je_int)) (jss_one (js_ret (je_lst (ja_cons (je_op o_sub je_var (je_op o_pow je_int je_int)) (ja_cons je_bl ja_nil))))) jss_nil)
  (jss_one (js_ret (je_lst (ja_cons (je_op o_mod je_var je_int) (ja_cons je_bl ja_nil)))))))), hm, F.kp, hb⟩
theorem _law_take_sc : FnScope _law_take_N _law_take_P (defScope _law_take_t) := ⟨rfl, rfl, rfl, by decide +kernel, rfl, by decide +kernel, by decide +kernel⟩
theorem _law_take_ok {a : Addr} {fd : FuncData} (F : Fun K "_law_take" "_law_take" _law_take_t a fd) (hm : mg "_law_take" = some (.ref a)) (hb : Binds K fd _law_take_P [])   : Use P w K mg base "_law_take" 1 _law_take_P _law_take_f a fd :=
  ⟨mk_good F _law_take_sc fun cdv A outer s H E B => show JSs _ _ _ _law_take_b from ((jss_cons (js_if (jt_val (je_idx je_var je_int)) (jss_cons (js_set B.ctx (i := 3) rfl (by first | exact Or.inl rfl | exact Or.inr rfl) (je_op o_mod (je_idx je_var je_int) je_var))
  (jss_cons (js_put (pg_sub je_var je_int set_list) (je_op o_fdiv (je_idx je_var je_int) je_var))
  (jss_one (js_ret je_var)))) jss_nil)
  (jss_cons (js_put (pg_sub je_var je_int set_list) (je_op o_mod (je_op o_add (je_op o_mul (je_idx je_var je_int) je_int) je_int) je_int))
  (jss_cons (js_set B.ctx (i := 2) rfl (by first | exact Or.inl rfl | exact Or.inr rfl) (je_op o_mod (je_op o_add (je_op o_add (je_op o_mul (je_idx je_var je_int) (je_idx je_var je_int)) (je_op o_mul je_int (je_idx je_var je_int))) je_int) je_int))
  (jss_cons (js_set B.ctx (i := 2) rfl (by first | exact Or.inl rfl | exact Or.inr rfl) (je_op o_mod (je_op o_add (je_op o_mul je_var je_var) (je_op o_mul je_int je_var)) je_int))
  (jss_one (js_ret (je_op o_mod (je_op o_fdiv je_var je_int) je_var)))))))), hm, F.kp, hb⟩
theorem _law_pairs_sc : FnScope _law_pairs_N _law_pairs_P (defScope _law_pairs_t) := ⟨rfl, rfl, rfl, by decide +kernel, rfl, by decide +kernel, by decide +kernel⟩
theorem _law_pairs_ok {a : Addr} {fd : FuncData} (F : Fun K "_law_pairs" "_law_pairs" _law_pairs_t a fd) (hm : mg "_law_pairs" = some (.ref a)) (hb : Binds K fd _law_pairs_P []) (h_range : mg "range" = none)  : Use P w K mg base "_law_pairs" 1 _law_pairs_P _law_pairs_f a fd :=
  ⟨mk_good F _law_pairs_sc fun cdv A outer s H E B => show JSs _ _ _ _law_pairs_b from ((jss_cons (js_set B.ctx (i := 1) rfl (by first | exact Or.inl rfl | exact Or.inr rfl) (je_lst ja_nil))
  (jss_cons (js_for B.ctx B.pass (ji_rng1 rfl h_range (ja_cons je_var ja_nil)) (jg_name B.ctx (i := 2) rfl (by first | exact Or.inl rfl | exact Or.inr rfl)) (jss_one (js_expr (je_meth (fun R V e => isL_ty R V e) (pe_bm PySem.F.plainAttrs_list PySem.F.slot_list_extend PySem.F.type_list_extend o_extend je_var (ja_cons (je_comp (own := [(("_law_b" : Str), 3)]) B.ctx (ji_rng2 rfl h_range (ja_cons (je_op o_add je_var je_int) (ja_cons je_var ja_nil))) (by first | exact blkOk_by (N := _law_pairs_N) (sc := defScope _law_pairs_t) (by decide +kernel) | exact blkOk_by (by kernel_rfl) | exact blkOk_by rfl) (by decide) (fun _ _ _ _ _ => (jg_name (Ctx.blk B.ctx) (i := 3) rfl (by first | exact Or.inl rfl | exact Or.inr rfl))) (fun _ _ _ _ _ => jtsTrue) (fun _ _ _ _ _ => (je_tup (ja_cons je_var (ja_cons je_var ja_nil))))) ja_nil))))))
  (jss_one (js_ret je_var))))), hm, F.kp, hb⟩
theorem _law_order_sc : FnScope _law_order_N _law_order_P (defScope _law_order_t) := ⟨rfl, rfl, rfl, by decide +kernel, rfl, by decide +kernel, by decide +kernel⟩
theorem _law_order_ok {a : Addr} {fd : FuncData} (F : Fun K "_law_order" "_law_order" _law_order_t a fd) (hm : mg "_law_order" = some (.ref a)) (hb : Binds K fd _law_order_P []) (h_list : mg "list" = none) (h_range : mg "range" = none) (h_len : mg "len" = none) (h_tuple : mg "tuple" = none) {a__law_take : Addr} {d__law_take : FuncData} (U__law_take : Use P w K mg base "_law_take" 1 _law_take_P _law_take_f a__law_take d__law_take) : Use P w K mg base "_law_order" 2 _law_order_P _law_order_f a fd :=
  ⟨mk_good F _law_order_sc fun cdv A outer s H E B => show JSs _ _ _ _law_order_b from ((jss_cons (js_set B.ctx (i := 2) rfl (by first | exact Or.inl rfl | exact Or.inr rfl) (je_listRg1 B.ctx rfl h_list rfl h_range je_var))
  (jss_one (js_ret (je_callTy o_tuple rfl h_tuple (ja_cons (je_comp (own := [(("_law_k" : Str), 3)]) B.ctx (ji_rng1 rfl h_range (ja_cons je_var ja_nil)) (by first | exact blkOk_by (N := _law_order_N) (sc := defScope _law_order_t) (by decide +kernel) | exact blkOk_by (by kernel_rfl) | exact blkOk_by rfl) (by decide) (fun _ _ _ _ _ => (jg_name (Ctx.blk B.ctx) (i := 3) rfl (by first | exact Or.inl rfl | exact Or.inr rfl))) (fun _ _ _ _ _ => jtsTrue) (fun _ _ _ _ _ => (je_meth (fun R V e => isL_ty R V e) (pe_bm PySem.F.plainAttrs_list PySem.F.slot_list_pop PySem.F.type_list_pop o_popAt je_var (ja_cons (je_use (Ctx.blk B.ctx) U__law_take B.room (by decide) rfl (ja_cons je_var (ja_cons (je_callB o_len rfl h_len (ja_cons je_var ja_nil)) ja_nil))) ja_nil))))) ja_nil)))))), hm, F.kp, hb⟩
theorem _law_web_sc : FnScope _law_web_N _law_web_P (defScope _law_web_t) := ⟨rfl, rfl, rfl, by decide +kernel, rfl, by decide +kernel, by decide +kernel⟩
theorem _law_web_ok {a : Addr} {fd : FuncData} (F : Fun K "_law_web" "_law_web" _law_web_t a fd) (hm : mg "_law_web" = some (.ref a)) (hb : Binds K fd _law_web_P []) (h_range : mg "range" = none) (h_min : mg "min" = none) (h_max : mg "max" = none) (h_sorted : mg "sorted" = none) (h_set : mg "set" = none) (h_tuple : mg "tuple" = none) {a__law_take : Addr} {d__law_take : FuncData} (U__law_take : Use P w K mg base "_law_take" 1 _law_take_P _law_take_f a__law_take d__law_take) {a__law_order : Addr} {d__law_order : FuncData} (U__law_order : Use P w K mg base "_law_order" 2 _law_order_P _law_order_f a__law_order d__law_order) {a__law_pairs : Addr} {d__law_pairs : FuncData} (U__law_pairs : Use P w K mg base "_law_pairs" 1 _law_pairs_P _law_pairs_f a__law_pairs d__law_pairs) : Use P w K mg base "_law_web" 3 _law_web_P _law_web_f a fd :=
  ⟨mk_good F _law_web_sc fun cdv A outer s H E B => show JSs _ _ _ _law_web_b from ((jss_cons (js_set B.ctx (i := 3) rfl (by first | exact Or.inl rfl | exact Or.inr rfl) (je_op o_add je_var (je_use B.ctx U__law_take B.room (by decide) rfl (ja_cons je_var (ja_cons (je_op o_add (je_op o_sub je_var je_var) je_int) ja_nil)))))
  (jss_cons (js_set B.ctx (i := 4) rfl (by first | exact Or.inl rfl | exact Or.inr rfl) (je_use B.ctx U__law_take B.room (by decide) rfl (ja_cons je_var (ja_cons je_int ja_nil))))
  (jss_cons (js_set B.ctx (i := 5) rfl (by first | exact Or.inl rfl | exact Or.inr rfl) (je_use B.ctx U__law_order B.room (by decide) rfl (ja_cons je_var (ja_cons je_var ja_nil))))
  (jss_cons (js_set B.ctx (i := 6) rfl (by first | exact Or.inl rfl | exact Or.inr rfl) (je_idx (je_lst (ja_cons je_int (ja_cons je_int (ja_cons je_int (ja_cons je_int ja_nil))))) (je_use B.ctx U__law_take B.room (by decide) rfl (ja_cons je_var (ja_cons je_int ja_nil)))))
  (jss_cons (js_setLc (own := [(("_law_pair" : Str), 9)]) B.ctx (i := 7) rfl rfl (sw_true rfl rfl rfl (by first | decide +kernel | rfl)) (ji_seq (je_use B.ctx U__law_pairs B.room (by decide) rfl (ja_cons je_var ja_nil))) (by first | exact blkOk_by (N := _law_web_N) (sc := defScope _law_web_t) (by decide +kernel) | exact blkOk_by (by kernel_rfl) | exact blkOk_by rfl) (by decide) (fun _ _ _ _ _ => (jg_name (Ctx.blk B.ctx) (i := 9) rfl (by first | exact Or.inl rfl | exact Or.inr rfl))) (fun _ _ _ _ _ => (jtsOne (jt_cmp (c_lt (Ctx.blk B.ctx)) (je_use (Ctx.blk B.ctx) U__law_take B.room (by decide) rfl (ja_cons je_var (ja_cons je_int ja_nil))) je_var))) (fun _ _ _ _ _ => je_var))
  (jss_cons (js_if (jt_cmp (c_inS B.ctx) je_var (je_tup (ja_cons je_int (ja_cons je_int (ja_cons je_int ja_nil))))) (jss_cons (js_setLc (own := [(("_law_place" : Str), 12)]) B.ctx (i := 7) rfl rfl (sw_true rfl rfl rfl (by first | decide +kernel | rfl)) (ji_rng2 rfl h_range (ja_cons je_int (ja_cons je_var ja_nil))) (by first | exact blkOk_by (N := _law_web_N) (sc := defScope _law_web_t) (by decide +kernel) | exact blkOk_by (by kernel_rfl) | exact blkOk_by rfl) (by decide) (fun _ _ _ _ _ => (jg_name (Ctx.blk B.ctx) (i := 12) rfl (by first | exact Or.inl rfl | exact Or.inr rfl))) (fun _ _ _ _ _ => jtsTrue) (fun _ _ _ _ _ => (je_tup (ja_cons (je_use (Ctx.blk B.ctx) U__law_take B.room (by decide) rfl (ja_cons je_var (ja_cons je_var ja_nil))) (ja_cons je_var ja_nil)))))
  (jss_one (js_if (jt_cmp (c_eq B.ctx) je_var je_int) (jss_one (js_set B.ctx (i := 7) rfl (by first | exact Or.inl rfl | exact Or.inr rfl) (je_op o_add je_var (je_comp (own := [(("_law_pair" : Str), 9)]) B.ctx (ji_seq (je_use B.ctx U__law_pairs B.room (by decide) rfl (ja_cons je_var ja_nil))) (by first | exact blkOk_by (N := _law_web_N) (sc := defScope _law_web_t) (by decide +kernel) | exact blkOk_by (by kernel_rfl) | exact blkOk_by rfl) (by decide) (fun _ _ _ _ _ => (jg_name (Ctx.blk B.ctx) (i := 9) rfl (by first | exact Or.inl rfl | exact Or.inr rfl))) (fun _ _ _ _ _ => (jtsOne (jt_cmp (c_eq (Ctx.blk B.ctx)) (je_use (Ctx.blk B.ctx) U__law_take B.room (by decide) rfl (ja_cons je_var (ja_cons je_int ja_nil))) je_int))) (fun _ _ _ _ _ => je_var))))) jss_nil))) jss_nil)
  (jss_cons (js_if (jt_w (jw_and (jt_cmp (c_eq B.ctx) je_var je_int) (jw_and1 (jt_cmp (c_gt B.ctx) je_var je_int)))) (jss_one (js_set B.ctx (i := 7) rfl (by first | exact Or.inl rfl | exact Or.inr rfl) (je_op o_add (je_comp (own := [(("_law_place" : Str), 12)]) B.ctx (ji_rng1 rfl h_range (ja_cons (je_op o_sub je_var je_int) ja_nil)) (by first | exact blkOk_by (N := _law_web_N) (sc := defScope _law_web_t) (by decide +kernel) | exact blkOk_by (by kernel_rfl) | exact blkOk_by rfl) (by decide) (fun _ _ _ _ _ => (jg_name (Ctx.blk B.ctx) (i := 12) rfl (by first | exact Or.inl rfl | exact Or.inr rfl))) (fun _ _ _ _ _ => jtsTrue) (fun _ _ _ _ _ => (je_tup (ja_cons je_var (ja_cons (je_op o_add je_var je_int) ja_nil))))) (je_lst (ja_cons (je_tup (ja_cons je_int (ja_cons (je_op o_sub je_var je_int) ja_nil))) ja_nil))))) jss_nil)
  (jss_cons (js_if (jt_cmp (c_eq B.ctx) je_var je_int) (jss_one (js_set B.ctx (i := 7) rfl (by first | exact Or.inl rfl | exact Or.inr rfl) (je_idx (je_lst (ja_cons (je_comp (own := [(("_law_place" : Str), 12)]) B.ctx (ji_rng2 rfl h_range (ja_cons je_int (ja_cons je_var ja_nil))) (by first | exact blkOk_by (N := _law_web_N) (sc := defScope _law_web_t) (by decide +kernel) | exact blkOk_by (by kernel_rfl) | exact blkOk_by rfl) (by decide) (fun _ _ _ _ _ => (jg_name (Ctx.blk B.ctx) (i := 12) rfl (by first | exact Or.inl rfl | exact Or.inr rfl))) (fun _ _ _ _ _ => jtsTrue) (fun _ _ _ _ _ => (je_tup (ja_cons je_int (ja_cons je_var ja_nil))))) (ja_cons (je_use B.ctx U__law_pairs B.room (by decide) rfl (ja_cons je_var ja_nil)) ja_nil))) (je_use B.ctx U__law_take B.room (by decide) rfl (ja_cons je_var (ja_cons je_int ja_nil)))))) jss_nil)
  (jss_cons (js_setLc (own := [(("_law_a" : Str), 10), (("_law_b" : Str), 11)]) B.ctx (i := 8) rfl rfl (sw_true rfl rfl rfl (by first | decide +kernel | rfl)) (ji_seq je_var) (by first | exact blkOk_by (N := _law_web_N) (sc := defScope _law_web_t) (by decide +kernel) | exact blkOk_by (by kernel_rfl) | exact blkOk_by rfl) (by decide) (fun _ _ _ _ _ => (jg_tup (Ctx.blk B.ctx) (gs_cons (jg_name (Ctx.blk B.ctx) (i := 10) rfl (by first | exact Or.inl rfl | exact Or.inr rfl)) (gs_cons (jg_name (Ctx.blk B.ctx) (i := 11) rfl (by first | exact Or.inl rfl | exact Or.inr rfl)) gs_nil)))) (fun _ _ _ _ _ => jtsTrue) (fun _ _ _ _ _ => (je_tup (ja_cons (je_callB (o_min2 (Ctx.blk B.ctx)) rfl h_min (ja_cons (je_idx je_var je_var) (ja_cons (je_idx je_var je_var) ja_nil))) (ja_cons (je_callB (o_max2 (Ctx.blk B.ctx)) rfl h_max (ja_cons (je_idx je_var je_var) (ja_cons (je_idx je_var je_var) ja_nil))) ja_nil)))))
  (jss_one (js_ret (je_tup (ja_cons je_var (ja_cons (je_callTy o_tuple rfl h_tuple (ja_cons (je_sortSet B.ctx rfl h_sorted rfl h_set (ja_cons je_var ja_nil)) ja_nil)) ja_nil))))))))))))))), hm, F.kp, hb⟩
theorem _law_near_sc : FnScope _law_near_N _law_near_P (defScope _law_near_t) := ⟨rfl, rfl, rfl, by decide +kernel, rfl, by decide +kernel, by decide +kernel⟩
theorem _law_near_ok {a : Addr} {fd : FuncData} (F : Fun K "_law_near" "_law_near" _law_near_t a fd) (hm : mg "_law_near" = some (.ref a)) (hb : Binds K fd _law_near_P []) (h_sorted : mg "sorted" = none) (h_tuple : mg "tuple" = none)  : Use P w K mg base "_law_near" 1 _law_near_P _law_near_f a fd :=
  ⟨mk_good F _law_near_sc fun cdv A outer s H E B => show JSs _ _ _ _law_near_b from ((jss_cons (js_set B.ctx (i := 2) rfl (by first | exact Or.inl rfl | exact Or.inr rfl) (je_lst ja_nil))
  (jss_cons (js_for B.ctx B.pass (ji_seq (je_idx je_var je_int)) (jg_tup B.ctx (gs_cons (jg_name B.ctx (i := 3) rfl (by first | exact Or.inl rfl | exact Or.inr rfl)) (gs_cons (jg_name B.ctx (i := 4) rfl (by first | exact Or.inl rfl | exact Or.inr rfl)) gs_nil))) (jss_cons (js_if (jt_cmp (c_eq B.ctx) je_var je_var) (jss_one (js_expr (je_meth (fun R V e => isL_ty R V e) (pe_bm PySem.F.plainAttrs_list PySem.F.slot_list_append PySem.F.type_list_append o_append je_var (ja_cons je_var ja_nil))))) jss_nil)
  (jss_one (js_if (jt_cmp (c_eq B.ctx) je_var je_var) (jss_one (js_expr (je_meth (fun R V e => isL_ty R V e) (pe_bm PySem.F.plainAttrs_list PySem.F.slot_list_append PySem.F.type_list_append o_append je_var (ja_cons je_var ja_nil))))) jss_nil))))
  (jss_one (js_ret (je_callTy o_tuple rfl h_tuple (ja_cons (je_callB (o_sorted B.ctx) rfl h_sorted (ja_cons je_var ja_nil)) ja_nil))))))), hm, F.kp, hb⟩
theorem _law_same_sc : FnScope _law_same_N _law_same_P (defScope _law_same_t) := ⟨rfl, rfl, rfl, by decide +kernel, rfl, by decide +kernel, by decide +kernel⟩
theorem _law_same_ok {a : Addr} {fd : FuncData} (F : Fun K "_law_same" "_law_same" _law_same_t a fd) (hm : mg "_law_same" = some (.ref a)) (hb : Binds K fd _law_same_P []) (h_repr : mg "repr" = none)  : Use P w K mg base "_law_same" 1 _law_same_P _law_same_f a fd :=
  ⟨mk_good F _law_same_sc fun cdv A outer s H E B => show JSs _ _ _ _law_same_b from ((jss_one (js_ret (je_cmp (c_eq B.ctx) (je_callB (o_repr B.ctx) rfl h_repr (ja_cons je_var ja_nil)) (je_callB (o_repr B.ctx) rfl h_repr (ja_cons je_var ja_nil)))))), hm, F.kp, hb⟩
theorem _law_but_sc : FnScope _law_but_N _law_but_P (defScope _law_but_t) := ⟨rfl, rfl, rfl, by decide +kernel, rfl, by decide +kernel, by decide +kernel⟩
theorem _law_but_ok {a : Addr} {fd : FuncData} (F : Fun K "_law_but" "_law_but" _law_but_t a fd) (hm : mg "_law_but" = some (.ref a)) (hb : Binds K fd _law_but_P [])  {a__law_near : Addr} {d__law_near : FuncData} (U__law_near : Use P w K mg base "_law_near" 1 _law_near_P _law_near_f a__law_near d__law_near) : Use P w K mg base "_law_but" 2 _law_but_P _law_but_f a fd :=
  ⟨mk_good F _law_but_sc fun cdv A outer s H E B => show JSs _ _ _ _law_but_b from ((jss_one (js_ret (je_comp (own := [(("_law_there" : Str), 4)]) B.ctx (ji_seq je_var) (by first | exact blkOk_by (N := _law_but_N) (sc := defScope _law_but_t) (by decide +kernel) | exact blkOk_by (by kernel_rfl) | exact blkOk_by rfl) (by decide) (fun _ _ _ _ _ => (jg_name (Ctx.blk B.ctx) (i := 4) rfl (by first | exact Or.inl rfl | exact Or.inr rfl))) (fun _ _ _ _ _ => (jtsOne (jt_w (jw_and (jt_cmp (c_ne (Ctx.blk B.ctx)) je_var je_var) (jw_and1 (jt_cmp (c_inS (Ctx.blk B.ctx)) je_var (je_use (Ctx.blk B.ctx) U__law_near B.room (by decide) rfl (ja_cons je_var (ja_cons je_var ja_nil))))))))) (fun _ _ _ _ _ => je_var))))), hm, F.kp, hb⟩
theorem _law_can_sc : FnScope _law_can_N _law_can_P (defScope _law_can_t) := ⟨rfl, rfl, rfl, by decide +kernel, rfl, by decide +kernel, by decide +kernel⟩
theorem _law_can_ok {a : Addr} {fd : FuncData} (F : Fun K "_law_can" "_law_can" _law_can_t a fd) (hm : mg "_law_can" = some (.ref a)) (hb : Binds K fd _law_can_P [])  {a__law_but : Addr} {d__law_but : FuncData} (U__law_but : Use P w K mg base "_law_but" 2 _law_but_P _law_but_f a__law_but d__law_but) : Use P w K mg base "_law_can" 3 _law_can_P _law_can_f a fd :=
  ⟨mk_good F _law_can_sc fun cdv A outer s H E B => show JSs _ _ _ _law_can_b from ((jss_cons (js_for B.ctx B.pass (ji_seq je_var) (jg_name B.ctx (i := 3) rfl (by first | exact Or.inl rfl | exact Or.inr rfl)) (jss_one (js_if (jt_cmp (c_ne B.ctx) je_var je_var) (jss_cons (js_set B.ctx (i := 4) rfl (by first | exact Or.inl rfl | exact Or.inr rfl) (je_use B.ctx U__law_but B.room (by decide) rfl (ja_cons je_var (ja_cons je_var (ja_cons je_var (ja_cons je_var ja_nil))))))
  (jss_one (js_if (jt_cmp (c_inS B.ctx) je_var (je_tup (ja_cons (je_lst ja_nil) (ja_cons (je_use B.ctx U__law_but B.room (by decide) rfl (ja_cons je_var (ja_cons je_var (ja_cons je_var (ja_cons je_var ja_nil))))) ja_nil)))) (jss_one (js_ret je_bl)) jss_nil))) jss_nil)))
  (jss_one (js_ret je_bl)))), hm, F.kp, hb⟩
theorem _law_close_sc : FnScope _law_close_N _law_close_P (defScope _law_close_t) := ⟨rfl, rfl, rfl, by decide +kernel, rfl, by decide +kernel, by decide +kernel⟩
theorem _law_close_ok {a : Addr} {fd : FuncData} (F : Fun K "_law_close" "_law_close" _law_close_t a fd) (hm : mg "_law_close" = some (.ref a)) (hb : Binds K fd _law_close_P []) (h_list : mg "list" = none) (h_range : mg "range" = none) {a__law_pairs : Addr} {d__law_pairs : FuncData} (U__law_pairs : Use P w K mg base "_law_pairs" 1 _law_pairs_P _law_pairs_f a__law_pairs d__law_pairs) {a__law_but : Addr} {d__law_but : FuncData} (U__law_but : Use P w K mg base "_law_but" 2 _law_but_P _law_but_f a__law_but d__law_but) : Use P w K mg base "_law_close" 3 _law_close_P _law_close_f a fd :=
  ⟨mk_good F _law_close_sc fun cdv A outer s H E B => show JSs _ _ _ _law_close_b from ((jss_cons (js_set B.ctx (i := 1) rfl (by first | exact Or.inl rfl | exact Or.inr rfl) (je_lst ja_nil))
  (jss_cons (js_set B.ctx (i := 2) rfl (by first | exact Or.inl rfl | exact Or.inr rfl) (je_listRg1 B.ctx rfl h_list rfl h_range (je_idx je_var je_int)))
  (jss_cons (js_for B.ctx B.pass (ji_seq (je_use B.ctx U__law_pairs B.room (by decide) rfl (ja_cons (je_idx je_var je_int) ja_nil))) (jg_tup B.ctx (gs_cons (jg_name B.ctx (i := 3) rfl (by first | exact Or.inl rfl | exact Or.inr rfl)) (gs_cons (jg_name B.ctx (i := 4) rfl (by first | exact Or.inl rfl | exact Or.inr rfl)) gs_nil))) (jss_cons (js_par B.ctx (i := 5) (j := 6) rfl rfl (by decide) rfl rfl (ja_cons (je_use B.ctx U__law_but B.room (by decide) rfl (ja_cons je_var (ja_cons je_var (ja_cons je_var (ja_cons je_var ja_nil))))) (ja_cons (je_use B.ctx U__law_but B.room (by decide) rfl (ja_cons je_var (ja_cons je_var (ja_cons je_var (ja_cons je_var ja_nil))))) ja_nil)) (by rfl))
  (jss_one (js_if (jt_w (jw_or (jt_cmp (c_inS B.ctx) (je_lst ja_nil) (je_tup (ja_cons je_var (ja_cons je_var ja_nil)))) (jw_or1 (jt_cmp (c_eq B.ctx) je_var je_var)))) (jss_one (js_expr (je_meth (fun R V e => isL_ty R V e) (pe_bm PySem.F.plainAttrs_list PySem.F.slot_list_append PySem.F.type_list_append o_append je_var (ja_cons (je_tup (ja_cons je_var (ja_cons je_var ja_nil))) ja_nil))))) jss_nil))))
  (jss_one (js_ret je_var)))))), hm, F.kp, hb⟩
theorem law_sc : FnScope law_N law_P (defScope law_t) := ⟨rfl, rfl, rfl, by decide +kernel, rfl, by decide +kernel, by decide +kernel⟩
theorem law_ok {a : Addr} {fd : FuncData} (F : Fun K "law" "law" law_t a fd) (hm : mg "law" = some (.ref a)) (hb : Binds K fd law_P []) (h_range : mg "range" = none) (h_len : mg "len" = none) (h_min : mg "min" = none) (h_max : mg "max" = none) (h_list : mg "list" = none) {a_close_places : Addr} {d_close_places : FuncData} (U_close_places : Use P w K mg base "close_places" 3 close_places_P close_places_f a_close_places d_close_places) {a_can_go : Addr} {d_can_go : FuncData} (U_can_go : Use P w K mg base "can_go" 4 can_go_P can_go_f a_can_go d_can_go) {a__law_state : Addr} {d__law_state : FuncData} (U__law_state : Use P w K mg base "_law_state" 2 _law_state_P _law_state_f a__law_state d__law_state) {a__law_web : Addr} {d__law_web : FuncData} (U__law_web : Use P w K mg base "_law_web" 3 _law_web_P _law_web_f a__law_web d__law_web) {a__law_close : Addr} {d__law_close : FuncData} (U__law_close : Use P w K mg base "_law_close" 3 _law_close_P _law_close_f a__law_close d__law_close) {a__law_same : Addr} {d__law_same : FuncData} (U__law_same : Use P w K mg base "_law_same" 1 _law_same_P _law_same_f a__law_same d__law_same) {a__law_can : Addr} {d__law_can : FuncData} (U__law_can : Use P w K mg base "_law_can" 3 _law_can_P _law_can_f a__law_can d__law_can) : Use P w K mg base "law" 5 law_P law_f a fd :=
  ⟨mk_good F law_sc fun cdv A outer s H E B => show JSs _ _ _ law_b from ((jss_cons (js_if (jt_w (jw_or (jt_cmp (c_ne B.ctx) (je_use B.ctx U_close_places B.room (by decide) rfl (ja_cons (je_tup (ja_cons je_int (ja_cons (je_tup ja_nil) ja_nil))) ja_nil)) (je_lst ja_nil)) (jw_or (jt_cmp c_isnot (je_use B.ctx U_can_go B.room (by decide) rfl (ja_cons (je_tup (ja_cons je_int (ja_cons (je_tup ja_nil) ja_nil))) (ja_cons je_int ja_nil))) je_bl) (jw_or1 (jt_cmp c_isnot (je_use B.ctx U_can_go B.room (by decide) rfl (ja_cons (je_tup (ja_cons je_int (ja_cons (je_tup ja_nil) ja_nil))) (ja_cons je_int ja_nil))) je_bl))))) (jss_one (js_ret je_bl)) jss_nil)
  (jss_cons (js_for B.ctx B.pass (ji_rng1 rfl h_range (ja_cons (je_callB (o_max2 B.ctx) rfl h_max (ja_cons je_int (ja_cons (je_callB (o_min2 B.ctx) rfl h_min (ja_cons (je_callB o_len rfl h_len (ja_cons je_var ja_nil)) (ja_cons je_int ja_nil))) ja_nil))) ja_nil)) (jg_name B.ctx (i := 1) rfl (by first | exact Or.inl rfl | exact Or.inr rfl)) (jss_cons (js_set B.ctx (i := 2) rfl (by first | exact Or.inl rfl | exact Or.inr rfl) (je_use B.ctx U__law_state B.room (by decide) rfl (ja_cons je_var (ja_cons je_var ja_nil))))
  (jss_cons (js_set B.ctx (i := 3) rfl (by first | exact Or.inl rfl | exact Or.inr rfl) (je_use B.ctx U__law_web B.room (by decide) rfl (ja_cons je_var (ja_cons je_int (ja_cons je_int ja_nil)))))
  (jss_cons (js_set B.ctx (i := 4) rfl (by first | exact Or.inl rfl | exact Or.inr rfl) (je_use B.ctx U__law_close B.room (by decide) rfl (ja_cons je_var ja_nil)))
  (jss_cons (js_for B.ctx B.pass (ji_rng1 rfl h_range (ja_cons je_int ja_nil)) (jg_name B.ctx (i := 5) rfl (by first | exact Or.inl rfl | exact Or.inr rfl)) (jss_cons (js_set B.ctx (i := 8) rfl (by first | exact Or.inl rfl | exact Or.inr rfl) (je_use B.ctx U_close_places B.room (by decide) rfl (ja_cons je_var ja_nil)))
  (jss_cons (js_if (jt_not (jt_val (je_use B.ctx U__law_same B.room (by decide) rfl (ja_cons je_var (ja_cons je_var ja_nil))))) (jss_one (js_ret je_bl)) jss_nil)
  (jss_one (js_expr (je_meth (fun R V e => isL_ty R V e) (pe_bm PySem.F.plainAttrs_list PySem.F.slot_list_append PySem.F.type_list_append o_append je_var (ja_cons (je_tup ja_nil) ja_nil))))))))
  (jss_cons (js_set B.ctx (i := 6) rfl (by first | exact Or.inl rfl | exact Or.inr rfl) (je_listRg1 B.ctx rfl h_list rfl h_range (je_idx je_var je_int)))
  (jss_one (js_for B.ctx B.pass (ji_seq je_var) (jg_name B.ctx (i := 7) rfl (by first | exact Or.inl rfl | exact Or.inr rfl)) (jss_one (js_if (jt_not (jt_val (je_use B.ctx U__law_same B.room (by decide) rfl (ja_cons (je_use B.ctx U_can_go B.room (by decide) rfl (ja_cons je_var (ja_cons je_var ja_nil))) (ja_cons (je_use B.ctx U__law_can B.room (by decide) rfl (ja_cons je_var (ja_cons je_var (ja_cons je_var ja_nil)))) ja_nil))))) (jss_one (js_ret je_bl)) jss_nil))))))))))
  (jss_one (js_ret je_bl))))), hm, F.kp, hb⟩
end
theorem all_mk {P : Program} {w : World} {K : PySem.W.Frag} {h : Heap} {mg : Str → Option Value} {fa f0 f1 f2 f3 f4 f5 f6 f7 f8 f9 f10 f11 f12 f13 f14 f15 f16 : Addr} (X : K.In h) (G : h.Ns mainGlobals mg) (hfa : mg "law" = some (.ref fa))
    {od0 an0 od1 an1 od2 an2 od3 an3 od4 an4 od5 an5 od6 an6 od7 an7 od8 an8 od9 an9 od10 an10 od11 an11 od12 an12 od13 an13 od14 an14 od15 an15 od16 an16 : Option Addr} {sl0 sl1 sl2 sl3 sl4 sl5 sl6 sl7 sl8 sl9 sl10 sl11 sl12 sl13 sl14 sl15 sl16 : Array (Option Value)} {oc0 kV0 dc0 pm0 cd0 ct0 oc1 kV1 dc1 pm1 cd1 ct1 oc2 kV2 dc2 pm2 cd2 ct2 oc3 kV3 dc3 pm3 cd3 ct3 oc4 kV4 dc4 pm4 cd4 ct4 oc5 kV5 dc5 pm5 cd5 ct5 oc6 kV6 dc6 pm6 cd6 ct6 oc7 kV7 dc7 pm7 cd7 ct7 oc8 kV8 dc8 pm8 cd8 ct8 oc9 kV9 dc9 pm9 cd9 ct9 oc10 kV10 dc10 pm10 cd10 ct10 oc11 kV11 dc11 pm11 cd11 ct11 oc12 kV12 dc12 pm12 cd12 ct12 oc13 kV13 dc13 pm13 cd13 ct13 oc14 kV14 dc14 pm14 cd14 ct14 oc15 kV15 dc15 pm15 cd15 ct15 oc16 kV16 dc16 pm16 cd16 ct16 : Value}
    (a0 : nsIn K mainGlobals "near" = some (some (.ref f0))) (l0 : K.lookup f0 = some ⟨oc0, od0, .func (PySem.W.fnOf "near" "near" (defArgs near_t) (defBody near_t) (defScope near_t) .none kV0 dc0 pm0 an0 cd0 ct0), sl0⟩) (c0 : codeIn K cd0 "near" = true) (k0 : keepIn K (.ref f0) = true)
    (a1 : nsIn K mainGlobals "but_for" = some (some (.ref f1))) (l1 : K.lookup f1 = some ⟨oc1, od1, .func (PySem.W.fnOf "but_for" "but_for" (defArgs but_for_t) (defBody but_for_t) (defScope but_for_t) .none kV1 dc1 pm1 an1 cd1 ct1), sl1⟩) (c1 : codeIn K cd1 "but_for" = true) (k1 : keepIn K (.ref f1) = true)
    (a2 : nsIn K mainGlobals "close_places" = some (some (.ref f2))) (l2 : K.lookup f2 = some ⟨oc2, od2, .func (PySem.W.fnOf "close_places" "close_places" (defArgs close_places_t) (defBody close_places_t) (defScope close_places_t) .none kV2 dc2 pm2 an2 cd2 ct2), sl2⟩) (c2 : codeIn K cd2 "close_places" = true) (k2 : keepIn K (.ref f2) = true)
    (a3 : nsIn K mainGlobals "can_leave" = some (some (.ref f3))) (l3 : K.lookup f3 = some ⟨oc3, od3, .func (PySem.W.fnOf "can_leave" "can_leave" (defArgs can_leave_t) (defBody can_leave_t) (defScope can_leave_t) .none kV3 dc3 pm3 an3 cd3 ct3), sl3⟩) (c3 : codeIn K cd3 "can_leave" = true) (k3 : keepIn K (.ref f3) = true)
    (a4 : nsIn K mainGlobals "can_go" = some (some (.ref f4))) (l4 : K.lookup f4 = some ⟨oc4, od4, .func (PySem.W.fnOf "can_go" "can_go" (defArgs can_go_t) (defBody can_go_t) (defScope can_go_t) .none kV4 dc4 pm4 an4 cd4 ct4), sl4⟩) (c4 : codeIn K cd4 "can_go" = true) (k4 : keepIn K (.ref f4) = true)
    (a5 : nsIn K mainGlobals "_law_cell_at" = some (some (.ref f5))) (l5 : K.lookup f5 = some ⟨oc5, od5, .func (PySem.W.fnOf "_law_cell_at" "_law_cell_at" (defArgs _law_cell_at_t) (defBody _law_cell_at_t) (defScope _law_cell_at_t) .none kV5 dc5 pm5 an5 cd5 ct5), sl5⟩) (c5 : codeIn K cd5 "_law_cell_at" = true) (k5 : keepIn K (.ref f5) = true)
    (a6 : nsIn K mainGlobals "_law_state" = some (some (.ref f6))) (l6 : K.lookup f6 = some ⟨oc6, od6, .func (PySem.W.fnOf "_law_state" "_law_state" (defArgs _law_state_t) (defBody _law_state_t) (defScope _law_state_t) .none kV6 dc6 pm6 an6 cd6 ct6), sl6⟩) (c6 : codeIn K cd6 "_law_state" = true) (k6 : keepIn K (.ref f6) = true)
    (a7 : nsIn K mainGlobals "_law_take" = some (some (.ref f7))) (l7 : K.lookup f7 = some ⟨oc7, od7, .func (PySem.W.fnOf "_law_take" "_law_take" (defArgs _law_take_t) (defBody _law_take_t) (defScope _law_take_t) .none kV7 dc7 pm7 an7 cd7 ct7), sl7⟩) (c7 : codeIn K cd7 "_law_take" = true) (k7 : keepIn K (.ref f7) = true)
    (a8 : nsIn K mainGlobals "_law_pairs" = some (some (.ref f8))) (l8 : K.lookup f8 = some ⟨oc8, od8, .func (PySem.W.fnOf "_law_pairs" "_law_pairs" (defArgs _law_pairs_t) (defBody _law_pairs_t) (defScope _law_pairs_t) .none kV8 dc8 pm8 an8 cd8 ct8), sl8⟩) (c8 : codeIn K cd8 "_law_pairs" = true) (k8 : keepIn K (.ref f8) = true)
    (a9 : nsIn K mainGlobals "_law_order" = some (some (.ref f9))) (l9 : K.lookup f9 = some ⟨oc9, od9, .func (PySem.W.fnOf "_law_order" "_law_order" (defArgs _law_order_t) (defBody _law_order_t) (defScope _law_order_t) .none kV9 dc9 pm9 an9 cd9 ct9), sl9⟩) (c9 : codeIn K cd9 "_law_order" = true) (k9 : keepIn K (.ref f9) = true)
    (a10 : nsIn K mainGlobals "_law_web" = some (some (.ref f10))) (l10 : K.lookup f10 = some ⟨oc10, od10, .func (PySem.W.fnOf "_law_web" "_law_web" (defArgs _law_web_t) (defBody _law_web_t) (defScope _law_web_t) .none kV10 dc10 pm10 an10 cd10 ct10), sl10⟩) (c10 : codeIn K cd10 "_law_web" = true) (k10 : keepIn K (.ref f10) = true)
    (a11 : nsIn K mainGlobals "_law_near" = some (some (.ref f11))) (l11 : K.lookup f11 = some ⟨oc11, od11, .func (PySem.W.fnOf "_law_near" "_law_near" (defArgs _law_near_t) (defBody _law_near_t) (defScope _law_near_t) .none kV11 dc11 pm11 an11 cd11 ct11), sl11⟩) (c11 : codeIn K cd11 "_law_near" = true) (k11 : keepIn K (.ref f11) = true)
    (a12 : nsIn K mainGlobals "_law_same" = some (some (.ref f12))) (l12 : K.lookup f12 = some ⟨oc12, od12, .func (PySem.W.fnOf "_law_same" "_law_same" (defArgs _law_same_t) (defBody _law_same_t) (defScope _law_same_t) .none kV12 dc12 pm12 an12 cd12 ct12), sl12⟩) (c12 : codeIn K cd12 "_law_same" = true) (k12 : keepIn K (.ref f12) = true)
    (a13 : nsIn K mainGlobals "_law_but" = some (some (.ref f13))) (l13 : K.lookup f13 = some ⟨oc13, od13, .func (PySem.W.fnOf "_law_but" "_law_but" (defArgs _law_but_t) (defBody _law_but_t) (defScope _law_but_t) .none kV13 dc13 pm13 an13 cd13 ct13), sl13⟩) (c13 : codeIn K cd13 "_law_but" = true) (k13 : keepIn K (.ref f13) = true)
    (a14 : nsIn K mainGlobals "_law_can" = some (some (.ref f14))) (l14 : K.lookup f14 = some ⟨oc14, od14, .func (PySem.W.fnOf "_law_can" "_law_can" (defArgs _law_can_t) (defBody _law_can_t) (defScope _law_can_t) .none kV14 dc14 pm14 an14 cd14 ct14), sl14⟩) (c14 : codeIn K cd14 "_law_can" = true) (k14 : keepIn K (.ref f14) = true)
    (a15 : nsIn K mainGlobals "_law_close" = some (some (.ref f15))) (l15 : K.lookup f15 = some ⟨oc15, od15, .func (PySem.W.fnOf "_law_close" "_law_close" (defArgs _law_close_t) (defBody _law_close_t) (defScope _law_close_t) .none kV15 dc15 pm15 an15 cd15 ct15), sl15⟩) (c15 : codeIn K cd15 "_law_close" = true) (k15 : keepIn K (.ref f15) = true)
    (a16 : nsIn K mainGlobals "law" = some (some (.ref f16))) (l16 : K.lookup f16 = some ⟨oc16, od16, .func (PySem.W.fnOf "law" "law" (defArgs law_t) (defBody law_t) (defScope law_t) .none kV16 dc16 pm16 an16 cd16 ct16), sl16⟩) (c16 : codeIn K cd16 "law" = true) (k16 : keepIn K (.ref f16) = true)
    (z_sorted : nsIn K mainGlobals "sorted" = some none) (z_tuple : nsIn K mainGlobals "tuple" = some none) (z_list : nsIn K mainGlobals "list" = some none) (z_range : nsIn K mainGlobals "range" = some none) (z_len : nsIn K mainGlobals "len" = some none) (z_min : nsIn K mainGlobals "min" = some none) (z_max : nsIn K mainGlobals "max" = some none) (z_set : nsIn K mainGlobals "set" = some none) (z_repr : nsIn K mainGlobals "repr" = some none) :
    ∃ fd : FuncData, (∀ (s : Shared) (v : Value), BindsTo s fd ⟨[v], []⟩ [(("_law_script" : Str), v)]) ∧ ∀ base : Heap, K.In base → base.Ns mainGlobals mg → Good P w K mg base 5 fa fd law_P law_f := by
  have e := hfa.symm.trans (mg_of X G a16)
  cases e
  have F0 := fun_mk (st := near_t) l0 c0 k0
  have b0 := F0.binds (ps := near_P) fun _ _ _ _ _ _ us hl => match us, hl with | [_, _], _ => rfl
  have F1 := fun_mk (st := but_for_t) l1 c1 k1
  have b1 := F1.binds (ps := but_for_P) fun _ _ _ _ _ _ us hl => match us, hl with | [_, _, _, _], _ => rfl
  have F2 := fun_mk (st := close_places_t) l2 c2 k2
  have b2 := F2.binds (ps := close_places_P) fun _ _ _ _ _ _ us hl => match us, hl with | [_], _ => rfl
  have F3 := fun_mk (st := can_leave_t) l3 c3 k3
  have b3 := F3.binds (ps := can_leave_P) fun _ _ _ _ _ _ us hl => match us, hl with | [_, _, _], _ => rfl
  have F4 := fun_mk (st := can_go_t) l4 c4 k4
  have b4 := F4.binds (ps := can_go_P) fun _ _ _ _ _ _ us hl => match us, hl with | [_, _], _ => rfl
  have F5 := fun_mk (st := _law_cell_at_t) l5 c5 k5
  have b5 := F5.binds (ps := _law_cell_at_P) fun _ _ _ _ _ _ us hl => match us, hl with | [_, _], _ => rfl
  have F6 := fun_mk (st := _law_state_t) l6 c6 k6
  have b6 := F6.binds (ps := _law_state_P) fun _ _ _ _ _ _ us hl => match us, hl with | [_, _], _ => rfl
  have F7 := fun_mk (st := _law_take_t) l7 c7 k7
  have b7 := F7.binds (ps := _law_take_P) fun _ _ _ _ _ _ us hl => match us, hl with | [_, _], _ => rfl
  have F8 := fun_mk (st := _law_pairs_t) l8 c8 k8
  have b8 := F8.binds (ps := _law_pairs_P) fun _ _ _ _ _ _ us hl => match us, hl with | [_], _ => rfl
  have F9 := fun_mk (st := _law_order_t) l9 c9 k9
  have b9 := F9.binds (ps := _law_order_P) fun _ _ _ _ _ _ us hl => match us, hl with | [_, _], _ => rfl
  have F10 := fun_mk (st := _law_web_t) l10 c10 k10
  have b10 := F10.binds (ps := _law_web_P) fun _ _ _ _ _ _ us hl => match us, hl with | [_, _, _], _ => rfl
  have F11 := fun_mk (st := _law_near_t) l11 c11 k11
  have b11 := F11.binds (ps := _law_near_P) fun _ _ _ _ _ _ us hl => match us, hl with | [_, _], _ => rfl
  have F12 := fun_mk (st := _law_same_t) l12 c12 k12
  have b12 := F12.binds (ps := _law_same_P) fun _ _ _ _ _ _ us hl => match us, hl with | [_, _], _ => rfl
  have F13 := fun_mk (st := _law_but_t) l13 c13 k13
  have b13 := F13.binds (ps := _law_but_P) fun _ _ _ _ _ _ us hl => match us, hl with | [_, _, _, _], _ => rfl
  have F14 := fun_mk (st := _law_can_t) l14 c14 k14
  have b14 := F14.binds (ps := _law_can_P) fun _ _ _ _ _ _ us hl => match us, hl with | [_, _, _], _ => rfl
  have F15 := fun_mk (st := _law_close_t) l15 c15 k15
  have b15 := F15.binds (ps := _law_close_P) fun _ _ _ _ _ _ us hl => match us, hl with | [_], _ => rfl
  have F16 := fun_mk (st := law_t) l16 c16 k16
  have b16 := F16.binds (ps := law_P) fun _ _ _ _ _ _ us hl => match us, hl with | [_], _ => rfl
  refine ⟨PySem.W.fnOf "law" "law" (defArgs law_t) (defBody law_t) (defScope law_t) .none kV16 dc16 pm16 an16 cd16 ct16, fun s v => .of_eq rfl, fun base _ _ => ?_⟩
  have U0 : Use P w K mg base _ _ _ _ _ _ := near_ok F0 (mg_of X G a0) b0 (mg_none_of X G z_sorted) (mg_none_of X G z_tuple) 
  have U1 : Use P w K mg base _ _ _ _ _ _ := but_for_ok F1 (mg_of X G a1) b1  U0
  have U2 : Use P w K mg base _ _ _ _ _ _ := close_places_ok F2 (mg_of X G a2) b2 (mg_none_of X G z_list) (mg_none_of X G z_range) U1
  have U3 : Use P w K mg base _ _ _ _ _ _ := can_leave_ok F3 (mg_of X G a3) b3  U1
  have U4 : Use P w K mg base _ _ _ _ _ _ := can_go_ok F4 (mg_of X G a4) b4 (mg_none_of X G z_list) (mg_none_of X G z_range) U3
  have U5 : Use P w K mg base _ _ _ _ _ _ := _law_cell_at_ok F5 (mg_of X G a5) b5 (mg_none_of X G z_len) 
  have U6 : Use P w K mg base _ _ _ _ _ _ := _law_state_ok F6 (mg_of X G a6) b6  U5
  have U7 : Use P w K mg base _ _ _ _ _ _ := _law_take_ok F7 (mg_of X G a7) b7  
  have U8 : Use P w K mg base _ _ _ _ _ _ := _law_pairs_ok F8 (mg_of X G a8) b8 (mg_none_of X G z_range) 
  have U9 : Use P w K mg base _ _ _ _ _ _ := _law_order_ok F9 (mg_of X G a9) b9 (mg_none_of X G z_list) (mg_none_of X G z_range) (mg_none_of X G z_len) (mg_none_of X G z_tuple) U7
  have U10 : Use P w K mg base _ _ _ _ _ _ := _law_web_ok F10 (mg_of X G a10) b10 (mg_none_of X G z_range) (mg_none_of X G z_min) (mg_none_of X G z_max) (mg_none_of X G z_sorted) (mg_none_of X G z_set) (mg_none_of X G z_tuple) U7 U9 U8
  have U11 : Use P w K mg base _ _ _ _ _ _ := _law_near_ok F11 (mg_of X G a11) b11 (mg_none_of X G z_sorted) (mg_none_of X G z_tuple) 
  have U12 : Use P w K mg base _ _ _ _ _ _ := _law_same_ok F12 (mg_of X G a12) b12 (mg_none_of X G z_repr) 
  have U13 : Use P w K mg base _ _ _ _ _ _ := _law_but_ok F13 (mg_of X G a13) b13  U11
  have U14 : Use P w K mg base _ _ _ _ _ _ := _law_can_ok F14 (mg_of X G a14) b14  U13
  have U15 : Use P w K mg base _ _ _ _ _ _ := _law_close_ok F15 (mg_of X G a15) b15 (mg_none_of X G z_list) (mg_none_of X G z_range) U8 U13
  have U16 : Use P w K mg base _ _ _ _ _ _ := law_ok F16 (mg_of X G a16) b16 (mg_none_of X G z_range) (mg_none_of X G z_len) (mg_none_of X G z_min) (mg_none_of X G z_max) (mg_none_of X G z_list) U2 U4 U6 U10 U15 U12 U14
  exact U16.good
end NT

set_option Elab.async false
set_option linter.all false
set_option maxRecDepth 100000
set_option autoImplicit false

namespace NT
open PySem PySem.Spec PyProof.Rows L2 PySem.W
theorem cell_at_ok (ns : List Int) (k : Nat) : _law_cell_at_f [.im (.list (ns.map .int)), VI k] [] = .ok (VI (ns.getD k 0)) [] := by
  unfold _law_cell_at_f
  rw [fnOf2]
  unfold _law_cell_at_b _law_cell_at_s0 _law_cell_at_s1
  by_cases hk : k < ns.length
  · have : (k : Int) < ns.length := by omega
    simp [vLt, cmpV, fLen, itemsOf, vIdx, atI, ixN, hk]
  · have : ¬ (k : Int) < ns.length := by omega
    simp [vLt, cmpV, fLen, itemsOf, hk]
abbrev CS (st : Int) (fl : Bool) : Cell := .lst [VI st, .im (.bool fl)]
theorem call2 {s : Fn} {d e : PyData} {h : Hs} : callFn s [.im d, .im e] h = (s [.im d, .im e] []).bind fun v h' => .ok (v.ren (backI [] h.length)) (h ++ h'.map (Cell.ren (backI [] h.length))) := call_im (ds := [d, e])
theorem call1 {s : Fn} {d : PyData} {h : Hs} : callFn s [.im d] h = (s [.im d] []).bind fun v h' => .ok (v.ren (backI [] h.length)) (h ++ h'.map (Cell.ren (backI [] h.length))) := call_im (ds := [d])
theorem call3 {s : Fn} {d e f : PyData} {h : Hs} : callFn s [.im d, .im e, .im f] h = (s [.im d, .im e, .im f] []).bind fun v h' => .ok (v.ren (backI [] h.length)) (h ++ h'.map (Cell.ren (backI [] h.length))) := call_im (ds := [d, e, f])
@[simp] theorem backI_nil (n k : Nat) : backI [] n k = n + k := by simp [backI]
theorem state_ok (ns : List Int) (k : Nat) : ∃ st fl, _law_state_f [.im (.list (ns.map .int)), VI k] [] = .ok (.ref 0) [CS st fl] := by
  unfold _law_state_f
  rw [fnOf2]
  unfold _law_state_b _law_state_s0 _law_state_s1 _law_state_s2
  have hc := cell_at_ok ns k
  generalize ns.getD k 0 = c at hc
  have e1 : cPow 10 18 = true := by decide
  have e2 : cMod c 2147483647 = true := by simp [cMod]
  by_cases h : (1000000000000000000 : Int) ≤ c
  · refine ⟨c - 1000000000000000000, true, ?_⟩
    simp [call2, hc, vGe, cmpV, vPow, vInt2c, e1, h, vSub, vInt2, fnFin, trunc]
  · refine ⟨c % 2147483647, false, ?_⟩
    simp [call2, hc, vGe, cmpV, vPow, vInt2c, e1, e2, h, vMod, fnFin, trunc]
theorem take_ok (st many : Int) (fl : Bool) (h0 : 0 < many) (h1 : many < 1073741824) : ∃ v st', 0 ≤ v ∧ v < many ∧ _law_take_f [.ref 0, VI many] [CS st fl] = .ok (VI v) [CS st' fl] := by
  unfold _law_take_f
  rw [fnOf2]
  unfold _law_take_b _law_take_s0 _law_take_s1 _law_take_s2 _law_take_s3 _law_take_s4
  have e1 : ∀ x, cMod x many = true := by simp [cMod, h0]
  have e2 : ∀ x, cDiv x many = true := by simp [cDiv, h0, h1]
  cases fl with
  | true =>
    refine ⟨st % many, st / many, Int.emod_nonneg _ (by omega), Int.emod_lt_of_pos _ h0, ?_⟩
    simp [vIdx, itemsOf, atI, ixN, vMod, vInt2c, e1, e2, vFdiv, sPut, trunc]
  | false =>
    have m1 : ∀ x, cMul x 48271 = true := by simp [cMul]
    have m2 : ∀ x, cMod x 2147483647 = true := by simp [cMod]
    have m3 : ∀ x, cMod x 2147483629 = true := by simp [cMod]
    have m4 : ∀ x, cMod x 2147483587 = true := by simp [cMod]
    have m5 : ∀ x, cDiv x 8 = true := by simp [cDiv]
    have m6 : ∀ x, cMul 39373 x = true := by simp [cMul]
    have m7 : ∀ x, cMul 16807 x = true := by simp [cMul]
    generalize hs : (st * 48271 + 29) % 2147483647 = s0
    have m8 : cMul s0 s0 = true := by
      have a1 := Int.emod_nonneg (st * 48271 + 29) (b := 2147483647) (by decide)
      have a2 := Int.emod_lt_of_pos (st * 48271 + 29) (b := 2147483647) (by decide)
      rw [hs] at a1 a2
      simp only [cMul, Bool.or_eq_true, decide_eq_true_eq]
      left; constructor <;> omega
    generalize hm : (s0 * s0 + 39373 * s0 + 7) % 2147483629 = s1
    have m9 : cMul s1 s1 = true := by
      have a1 := Int.emod_nonneg (s0 * s0 + 39373 * s0 + 7) (b := 2147483629) (by decide)
      have a2 := Int.emod_lt_of_pos (s0 * s0 + 39373 * s0 + 7) (b := 2147483629) (by decide)
      rw [hm] at a1 a2
      simp only [cMul, Bool.or_eq_true, decide_eq_true_eq]
      left; constructor <;> omega
    refine ⟨(s1 * s1 + 16807 * s1) % 2147483587 / 8 % many, s0, Int.emod_nonneg _ (by omega), Int.emod_lt_of_pos _ h0, ?_⟩
    simp [vIdx, itemsOf, atI, ixN, vMod, vInt2c, e1, e2, vFdiv, sPut, trunc, vMul, vAdd, m1, m2, m3, m4, m5, m6, m7, hs, m8, hm, m9]
end NT

set_option Elab.async false
set_option linter.all false
set_option maxRecDepth 100000
set_option autoImplicit false

namespace NT
open PySem PySem.Spec PyProof.Rows L2 PySem.W
def pairsF (n a : Int) : List PI2 := (rg (a + 1) (n - (a + 1)).toNat).map fun b => (a, b)
def pairsL (n : Int) : List PI2 := (rg 0 n.toNat).flatMap (pairsF n)
theorem pairsF_len (n a : Int) : (pairsF n a).length = (n - (a + 1)).toNat := by simp [pairsF, rg_len]
theorem pairs_mem {n : Int} {p : PI2} (h : p ∈ pairsL n) : 0 ≤ p.1 ∧ p.1 < p.2 ∧ p.2 < n := by
  unfold pairsL at h
  obtain ⟨a, ha, h⟩ := List.mem_flatMap.mp h
  obtain ⟨b, hb, rfl⟩ := List.mem_map.mp h
  have h1 := rg_mem ha
  have h2 := rg_mem hb
  dsimp only
  omega
theorem pairs_len {n : Int} (h0 : 0 ≤ n) (h1 : n ≤ 8) : (pairsL n).length ≤ 28 := by
  obtain ⟨k, rfl⟩ := Int.eq_ofNat_of_zero_le h0
  have hk : k ≤ 8 := by omega
  have : ∀ k : Nat, k ≤ 8 → (pairsL (k : Int)).length ≤ 28 := by decide
  exact this k hk
theorem pairs_ok (n : Int) (h0 : 0 ≤ n) (h1 : n ≤ 8) : _law_pairs_f [VI n] [] = .ok (.ref 0) [CP (pairsL n)] := by
  unfold _law_pairs_f
  rw [fnOf1]
  unfold _law_pairs_b _law_pairs_s0 _law_pairs_s1 _law_pairs_s2 _law_pairs_l0 _law_pairs_c0
  have s1 : smallI n = true := smallI_of (by omega)
  have hl := pairs_len h0 h1
  -- one turn's pairs
  have hc : ∀ (a : Int) (v3 : Option Val) (acc : List PI2), 0 ≤ a → a < n → eComp (mRng2 (mCons (e2 (eVar 2) (eC (.int 1)) vAdd) (mCons (eVar 0) mNil))) (.nm 3) mTrue (eTup (mCons (eVar 2) (mCons (eVar 3) mNil))) [3] [some (VI n), some (.ref 0), some (VI a), v3] [CP acc] = .ok (.ref 1) [CP acc, CP (pairsF n a)] := by
    intro a v3 acc a0 a1
    have s2 : smallI (a + 1) = true := smallI_of (by omega)
    have hg := compGo_map (s := ⟨(rg (a + 1) (n - (a + 1)).toNat).map VI, []⟩) (T := .nm 3) (e := eTup (mCons (eVar 2) (mCons (eVar 3) mNil))) (ρ := [some (VI n), some (.ref 0), some (VI a), none]) (g := VI) (h := [CP acc]) (fun b => pD (a, b)) (by simp)
      (rg (a + 1) (n - (a + 1)).toNat) (fun b _ => ⟨_, rfl, [CP acc], by simp [frzL, frz, pD], by simp⟩) (by rw [rg_len]; omega)
    rw [q_eComp]
    simp [vAdd, s1, s2, rangeI_eq]
    rw [hg]
    simp [pairsF, Function.comp_def]
  have hf : ∀ (p : Nat) (ρ : En) (h : Hs), (∃ v2 v3, ρ = [some (VI n), some (.ref 0), v2, v3] ∧ h = [CP []]) → ∃ v2 v3, forGo (sExpr (eM isL (eVar 1) (mCons (eComp (mRng2 (mCons (e2 (eVar 2) (eC (.int 1)) vAdd) (mCons (eVar 0) mNil))) (.nm 3) mTrue (eTup (mCons (eVar 2) (mCons (eVar 3) mNil))) [3]) mNil) mExtend)) (.nm 2) ⟨(rg 0 n.toNat).map VI, []⟩ p ((rg 0 n.toNat).map VI) ρ h = .nx [some (VI n), some (.ref 0), v2, v3] [CP (pairsL n)] := by
    intro p ρ h hr
    refine forGo_inv (J := fun r ρ h => (∀ a ∈ r, 0 ≤ a ∧ a < n) ∧ ∃ acc v2 v3, ρ = [some (VI n), some (.ref 0), v2, v3] ∧ h = [CP acc] ∧ acc ++ r.flatMap (pairsF n) = pairsL n) (Q := fun x => ∃ v2 v3, x = .nx [some (VI n), some (.ref 0), v2, v3] [CP (pairsL n)]) ?_ ?_ _ _ _ ?_
    · rintro a r ρ h ⟨hb, acc, v2, v3, rfl, rfl, e⟩
      obtain ⟨a0, a1⟩ := hb a List.mem_cons_self
      refine ⟨by simp, _, rfl, ?_⟩
      have hz : acc.length + (pairsF n a).length ≤ 16777216 := by
        have := congrArg List.length e
        simp only [List.flatMap_cons, List.length_append] at this
        omega
      simp [hc a v3 acc a0 a1, lstOf, mExtend, hz, trunc]
      refine ⟨fun b hb' => hb b (List.mem_cons_of_mem _ hb'), acc ++ pairsF n a, ?_, by simpa using e⟩
      simp
    · rintro ρ h ⟨_, acc, v2, v3, rfl, rfl, e⟩
      refine ⟨by simp, v2, v3, ?_⟩
      simp at e
      rw [e]
    · obtain ⟨v2, v3, rfl, rfl⟩ := hr
      exact ⟨fun a ha => by have := rg_mem ha; omega, [], v2, v3, rfl, rfl, by simp [pairsL]⟩
  obtain ⟨v2, v3, hf'⟩ := hf 0 _ _ ⟨none, none, rfl, rfl⟩
  have e1 : asgn 0 1 (.ref 0) 0 [some (VI n), none, none, none] [Cell.lst []] = .nx [some (VI n), some (.ref 0), none, none] [Cell.lst []] := by simp [asgn, reuse]
  simp only [q_sSeq, q_sSet, q_eLst, q_mNil, bind_ok, List.length_nil, Nat.zero_le, if_true, List.nil_append]
  simp [e1, q_sFor, s1, rangeI_eq]
  rw [show ([Cell.lst []] : Hs) = [CP []] from rfl, hf']
  simp [fnFin, trunc]
end NT

set_option Elab.async false
set_option linter.all false
set_option maxRecDepth 100000
set_option autoImplicit false

namespace NT
open PySem PySem.Spec PyProof.Rows L2 PySem.W
theorem call_s1 {s : Fn} {h : Hs} {k : Nat} {st st' : Int} {fl : Bool} {d v : PyData} (e : h[k]? = some (CS st fl)) (es : s [.ref 0, .im d] [CS st fl] = .ok (.im v) [CS st' fl]) : callFn s [.ref k, .im d] h = .ok (.im v) (h.set k (CS st' fl)) := by
  have e2 : isol h [.ref k, .im d] 0 = some ([.ref 0, .im d], [k]) := by simp [isol, e]
  unfold callFn
  rw [e2]
  have e3 : cellsAt h [k] = [CS st fl] := by simp [cellsAt, List.getD_eq_getElem?_getD, e]
  simp [e3, es, wrs]
theorem call_s2 {s : Fn} {h : Hs} {k : Nat} {st st' : Int} {fl : Bool} {d f v : PyData} (e : h[k]? = some (CS st fl)) (es : s [.ref 0, .im d, .im f] [CS st fl] = .ok (.im v) [CS st' fl]) : callFn s [.ref k, .im d, .im f] h = .ok (.im v) (h.set k (CS st' fl)) := by
  have e2 : isol h [.ref k, .im d, .im f] 0 = some ([.ref 0, .im d, .im f], [k]) := by simp [isol, e]
  unfold callFn
  rw [e2]
  have e3 : cellsAt h [k] = [CS st fl] := by simp [cellsAt, List.getD_eq_getElem?_getD, e]
  simp [e3, es, wrs]
theorem map_erase {α β : Type} (f : α → β) : ∀ (l : List α) (i : Nat), (l.map f).eraseIdx i = (l.eraseIdx i).map f
  | [], i => by simp
  | a :: r, 0 => by simp
  | a :: r, i + 1 => by simp [map_erase f r i]
theorem frzL_map {α : Type} (f : α → PyData) (h : Hs) : ∀ l : List α, frzL (l.map fun a => .im (f a)) h = some (l.map f, h)
  | [] => rfl
  | a :: r => by simp [frzL, frz, frzL_map f h r]
theorem rg0_eq (m : Nat) : ((List.range m).map fun i => Val.im (.int (i : Nat))) = (rg 0 m).map fun i => .im (.int i) := by simp [rg, Function.comp_def]
theorem erase_perm {α : Type} : ∀ (l : List α) (i : Nat) (h : i < l.length), (l[i] :: l.eraseIdx i).Perm l
  | a :: r, 0, _ => by simp
  | a :: r, i + 1, h => by
    simp only [List.getElem_cons_succ, List.eraseIdx_cons_succ]
    exact (List.Perm.swap _ _ _).trans ((erase_perm r i (by simpa using h)).cons a)
theorem order_ok (st n : Int) (fl : Bool) (h0 : 0 ≤ n) (h1 : n ≤ 8) : ∃ (o : List Int) (st' : Int), o.Perm (rg 0 n.toNat) ∧ _law_order_f [.ref 0, VI n] [CS st fl] = .ok (.im (.tuple (o.map .int))) [CS st' fl] := by
  have s1 : smallI n = true := smallI_of (by omega)
  have hc : ∃ (os : List Int) (st' : Int), os.Perm (rg 0 n.toNat) ∧ compGo ⟨(rg 0 n.toNat).map VI, []⟩ (.nm 3) mTrue (eM isL (eVar 2) (mCons (eCall 2 _law_take_f (mCons (eVar 0) (mCons (eB (mCons (eVar 2) mNil) fLen) mNil))) mNil) mPopAt) [some (.ref 0), some (VI n), some (.ref 1), none] ((rg 0 n.toNat).map VI) [] [CS st fl, CI (rg 0 n.toNat)] = .ok (os.map fun i => .im (.int i)) [CS st' fl, CI []] := by
    let J : List Int → List PyData → Hs → Prop := fun r acc h => ∃ (os left : List Int) (st : Int), acc = os.map .int ∧ h = [CS st fl, CI left] ∧ (os ++ left).Perm (rg 0 n.toNat) ∧ left.length = r.length
    have hstep : ∀ a r acc h, J (a :: r) acc h → Src.okAt ⟨(rg 0 n.toNat).map VI, []⟩ h ∧ acc.length < 16777216 ∧ ∃ ρ1, Tg.asg (.nm 3) (VI a) [some (.ref 0), some (VI n), some (.ref 1), none] = some ρ1 ∧ ∃ k h1, mTrue ρ1 h = .ok k h1 ∧
      ((k = true ∧ ∃ d h2, (eM isL (eVar 2) (mCons (eCall 2 _law_take_f (mCons (eVar 0) (mCons (eB (mCons (eVar 2) mNil) fLen) mNil))) mNil) mPopAt) ρ1 (trunc h.length h1) = .ok (.im d) h2 ∧ J r (acc ++ [d]) (trunc (trunc h.length h1).length h2)) ∨ (k = false ∧ J r acc (trunc h.length h1))) := by
      rintro a r acc h ⟨os, left, st, rfl, rfl, pm, hl⟩
      have ln : (os ++ left).length = n.toNat := by rw [pm.length_eq, rg_len]
      simp only [List.length_append, List.length_cons] at ln hl
      obtain ⟨v, st', v0, v1, ev⟩ := take_ok st left.length fl (by omega) (by omega)
      have hv : v.toNat < left.length := by omega
      refine ⟨by simp, by rw [List.length_map]; omega, _, rfl, true, _, rfl, .inl ⟨rfl, .int left[v.toNat], [CS st' fl, CI (left.eraseIdx v.toNat)], ?_, os ++ [left[v.toNat]], left.eraseIdx v.toNat, st', by simp, by simp, ?_, ?_⟩⟩
      · simp only [List.length_cons, List.length_nil, trunc_2]
        have : v < 16777216 := by omega
        simp [lstOf, fLen, itemsOf, call_s1 (h := [CS st fl, CI left]) (k := 0) rfl ev, mPopAt, v0, this, hv, map_erase]
      · refine List.Perm.trans ?_ pm
        rw [List.append_assoc]
        exact (erase_perm left _ hv).append_left os
      · rw [List.length_eraseIdx, if_pos hv]; omega
    obtain ⟨acc', h', e, j⟩ := compGo_inv (s := ⟨(rg 0 n.toNat).map VI, []⟩) (T := .nm 3) (c := mTrue) (e := eM isL (eVar 2) (mCons (eCall 2 _law_take_f (mCons (eVar 0) (mCons (eB (mCons (eVar 2) mNil) fLen) mNil))) mNil) mPopAt) (ρ := [some (.ref 0), some (VI n), some (.ref 1), none]) (g := VI)
      (J := J) hstep (fun _ _ _ => by simp) (rg 0 n.toNat) [] [CS st fl, CI (rg 0 n.toNat)] ⟨[], _, _, rfl, rfl, by simp, rfl⟩
    obtain ⟨os, left, st', rfl, rfl, pm, hl⟩ := j
    have : left = [] := by simpa using hl
    subst this
    refine ⟨os, st', by simpa using pm, ?_⟩
    simpa [Function.comp_def] using e
  obtain ⟨os, st', pm, hc⟩ := hc
  refine ⟨os, st', pm, ?_⟩
  unfold _law_order_f
  rw [fnOf2]
  unfold _law_order_b _law_order_s0 _law_order_s1 _law_order_c0
  have n1 : n ≤ 16777216 := by omega
  have n2 : -16777216 ≤ n := by omega
  have e1 : asgn 1 2 (.ref 1) 1 [some (.ref 0), some (VI n), none, none] [CS st fl, CI (rg 0 n.toNat)] = .nx [some (.ref 0), some (VI n), some (.ref 1), none] [CS st fl, CI (rg 0 n.toNat)] := by simp [asgn, reuse]
  have hz : os.length ≤ 16777216 := by rw [pm.length_eq, rg_len]; omega
  simp only [q_sSeq, q_sSet, q_e1, q_eVar, List.getElem?_cons_zero, List.getElem?_cons_succ, bind_ok, vRg1, if_pos n1, if_pos n2, List.length_cons, List.length_nil, rg0_eq, List.cons_append, List.nil_append, List.replicate]
  rw [e1]
  simp only [q_sRet, q_eB, q_mCons, q_mNil, q_eComp, q_mRng1, q_eVar, List.getElem?_cons_zero, List.getElem?_cons_succ, bind_ok, s1, if_true, wE_nil, wE_cons, rangeI_eq, List.length_cons, List.length_nil, Nat.zero_add, Nat.reduceAdd, trunc_2, List.set_cons_succ, List.set_cons_zero]
  rw [hc]
  simp [fTuple, lstOf, frzL_map, trunc, -List.map_map]
end NT

set_option Elab.async false
set_option linter.all false
set_option maxRecDepth 100000
set_option autoImplicit false

namespace NT
open PySem PySem.Spec PyProof.Rows L2 PySem.W
def TOk (m : Int) (k : Nat) (l : List PI2) : Prop := (∀ p ∈ l, 0 ≤ p.1 ∧ p.1 < p.2 ∧ p.2 < m) ∧ l.length ≤ k
abbrev WE (lo hi : Int) (a3 a4 a5 a6 a7 a8 : Option Val) : En := [some (.ref 0), some (VI lo), some (VI hi), a3, a4, a5, a6, a7, a8, none, none, none, none]
section
variable {lo hi m st full : Int} {fl : Bool} {a4 a5 a6 a7 a8 : Option Val}
theorem src_pairs (h0 : 0 ≤ m) (h1 : m ≤ 8) {h : Hs} (hb : h.all (Cell.below h.length) = true) : mSeq (eCall 1 _law_pairs_f (mCons (eVar 3) mNil)) (WE lo hi (some (VI m)) a4 a5 a6 a7 a8) h = .ok ⟨(pairsL m).map fun p => .im (pD p), []⟩ h := by
  have e := seq_new pD (pairsL m) hb
  simp [call1, pairs_ok m h0 h1, e]
theorem c0_ok (h0 : 0 ≤ m) (h1 : m ≤ 8) : ∃ (ps : List PI2) (st' : Int), TOk m 28 ps ∧ _law_web_c0 (WE lo hi (some (VI m)) a4 a5 (some (VI full)) a7 a8) [CS st fl] = .ok (.ref 1) [CS st' fl, CP ps] := by
  let J : List PI2 → List PyData → Hs → Prop := fun r acc h => ∃ (ps : List PI2) (st : Int), acc = ps.map pD ∧ h = [CS st fl] ∧ TOk m (28 - r.length) ps ∧ r.length ≤ 28 ∧ ∀ p ∈ r, 0 ≤ p.1 ∧ p.1 < p.2 ∧ p.2 < m
  have hs : CompStep ⟨(pairsL m).map fun p => .im (pD p), []⟩ (.nm 9) (tst (e2 (eCall 2 _law_take_f (mCons (eVar 0) (mCons (eC (.int 8)) mNil))) (eVar 6) vLt)) (eVar 9) (WE lo hi (some (VI m)) a4 a5 (some (VI full)) a7 a8) (fun p => .im (pD p)) J := by
    rintro a r acc h ⟨ps, st, rfl, rfl, tok, hl, hr⟩
    obtain ⟨v, st', v0, v1, ev⟩ := take_ok st 8 fl (by omega) (by omega)
    simp only [List.length_cons] at tok hl
    refine ⟨by simp, by rw [List.length_map]; have := tok.2; omega, _, rfl, decide (v < full), [CS st' fl], ?_, ?_⟩
    · simp [call_s1 (h := [CS st fl]) (k := 0) rfl ev, vLt, cmpV]
    · by_cases hv : v < full
      · refine .inl ⟨by simp [hv], pD a, [CS st' fl], by simp, ps ++ [a], st', by simp, by simp, ⟨fun p hp => ?_, ?_⟩, by omega, fun p hp => hr p (List.mem_cons_of_mem _ hp)⟩
        · rcases List.mem_append.mp hp with hp | hp
          · exact tok.1 p hp
          · rw [List.mem_singleton.mp hp]; exact hr a List.mem_cons_self
        · have := tok.2
          rw [List.length_append, List.length_singleton]; omega
      · exact .inr ⟨by simp [hv], ps, st', rfl, by simp, ⟨tok.1, by have := tok.2; omega⟩, by omega, fun p hp => hr p (List.mem_cons_of_mem _ hp)⟩
  obtain ⟨acc, h', e, ps, st', rfl, rfl, tok, _⟩ := compGo_inv J hs (fun _ _ _ => by simp) (pairsL m) [] [CS st fl] ⟨[], st, rfl, rfl, ⟨by simp, by simp⟩, pairs_len h0 h1, fun p hp => pairs_mem hp⟩
  refine ⟨ps, st', tok, ?_⟩
  unfold _law_web_c0
  rw [q_eComp, src_pairs h0 h1 (by simp)]
  simp only [bind_ok, wE_cons, wE_nil, List.set_cons_succ, List.set_cons_zero, List.map_nil] at e ⊢
  rw [e]
  simp [Function.comp_def]
theorem c2_ok {ts : List PI2} (h0 : 0 ≤ m) (h1 : m ≤ 8) : ∃ (ps : List PI2) (st' : Int), TOk m 28 ps ∧ _law_web_c2 (WE lo hi (some (VI m)) a4 a5 a6 a7 a8) [CS st fl, CP ts] = .ok (.ref 2) [CS st' fl, CP ts, CP ps] := by
  let J : List PI2 → List PyData → Hs → Prop := fun r acc h => ∃ (ps : List PI2) (st : Int), acc = ps.map pD ∧ h = [CS st fl, CP ts] ∧ TOk m (28 - r.length) ps ∧ r.length ≤ 28 ∧ ∀ p ∈ r, 0 ≤ p.1 ∧ p.1 < p.2 ∧ p.2 < m
  have hs : CompStep ⟨(pairsL m).map fun p => .im (pD p), []⟩ (.nm 9) (tst (e2 (eCall 2 _law_take_f (mCons (eVar 0) (mCons (eC (.int 6)) mNil))) (eC (.int 0)) vEq)) (eVar 9) (WE lo hi (some (VI m)) a4 a5 a6 a7 a8) (fun p => .im (pD p)) J := by
    rintro a r acc h ⟨ps, st, rfl, rfl, tok, hl, hr⟩
    obtain ⟨v, st', v0, v1, ev⟩ := take_ok st 6 fl (by omega) (by omega)
    simp only [List.length_cons] at tok hl
    refine ⟨by simp, by rw [List.length_map]; have := tok.2; omega, _, rfl, decide (v = 0), [CS st' fl, CP ts], ?_, ?_⟩
    · simp [call_s1 (h := [CS st fl, CP ts]) (k := 0) rfl ev, vEq, eqVal]
    · by_cases hv : v = 0
      · refine .inl ⟨by simp [hv], pD a, [CS st' fl, CP ts], by simp, ps ++ [a], st', by simp, by simp, ⟨fun p hp => ?_, ?_⟩, by omega, fun p hp => hr p (List.mem_cons_of_mem _ hp)⟩
        · rcases List.mem_append.mp hp with hp | hp
          · exact tok.1 p hp
          · rw [List.mem_singleton.mp hp]; exact hr a List.mem_cons_self
        · have := tok.2
          rw [List.length_append, List.length_singleton]; omega
      · exact .inr ⟨by simp [hv], ps, st', rfl, by simp, ⟨tok.1, by have := tok.2; omega⟩, by omega, fun p hp => hr p (List.mem_cons_of_mem _ hp)⟩
  obtain ⟨acc, h', e, ps, st', rfl, rfl, tok, _⟩ := compGo_inv J hs (fun _ _ _ => by simp) (pairsL m) [] [CS st fl, CP ts] ⟨[], st, rfl, rfl, ⟨by simp, by simp⟩, pairs_len h0 h1, fun p hp => pairs_mem hp⟩
  refine ⟨ps, st', tok, ?_⟩
  unfold _law_web_c2
  rw [q_eComp, src_pairs h0 h1 (by simp)]
  simp only [bind_ok, wE_cons, wE_nil, List.set_cons_succ, List.set_cons_zero, List.map_nil] at e ⊢
  rw [e]
  simp [Function.comp_def]
theorem c1_ok {ts : List PI2} (h0 : 0 ≤ m) (h1 : m ≤ 8) : ∃ (ps : List PI2) (st' : Int), TOk m 8 ps ∧ _law_web_c1 (WE lo hi (some (VI m)) a4 a5 a6 a7 a8) [CS st fl, CP ts] = .ok (.ref 2) [CS st' fl, CP ts, CP ps] := by
  let J : List Int → List PyData → Hs → Prop := fun r acc h => ∃ (ps : List PI2) (st : Int), acc = ps.map pD ∧ h = [CS st fl, CP ts] ∧ TOk m (8 - r.length) ps ∧ r.length ≤ 8 ∧ ∀ p ∈ r, 1 ≤ p ∧ p < m
  have hs : CompStep ⟨(rg 1 (m - 1).toNat).map VI, []⟩ (.nm 12) mTrue (eTup (mCons (eCall 2 _law_take_f (mCons (eVar 0) (mCons (eVar 12) mNil))) (mCons (eVar 12) mNil))) (WE lo hi (some (VI m)) a4 a5 a6 a7 a8) VI J := by
    rintro a r acc h ⟨ps, st, rfl, rfl, tok, hl, hr⟩
    obtain ⟨a0, a1⟩ := hr a List.mem_cons_self
    obtain ⟨v, st', v0, v1, ev⟩ := take_ok st a fl (by omega) (by omega)
    simp only [List.length_cons] at tok hl
    refine ⟨by simp, by rw [List.length_map]; have := tok.2; omega, _, rfl, true, _, rfl, .inl ⟨rfl, pD (v, a), [CS st' fl, CP ts], ?_, ps ++ [(v, a)], st', by simp, by simp, ⟨fun p hp => ?_, ?_⟩, by omega, fun p hp => hr p (List.mem_cons_of_mem _ hp)⟩⟩
    · simp [call_s1 (h := [CS st fl, CP ts]) (k := 0) rfl ev, frzL, frz, pD]
    · rcases List.mem_append.mp hp with hp | hp
      · exact tok.1 p hp
      · rw [List.mem_singleton.mp hp]; exact ⟨v0, v1, a1⟩
    · have := tok.2
      rw [List.length_append, List.length_singleton]; omega
  obtain ⟨acc, h', e, ps, st', rfl, rfl, tok, _⟩ := compGo_inv J hs (fun _ _ _ => by simp) (rg 1 (m - 1).toNat) [] [CS st fl, CP ts] ⟨[], st, rfl, rfl, ⟨by simp, by simp⟩, by rw [rg_len]; omega, fun p hp => by have := rg_mem hp; omega⟩
  refine ⟨ps, st', tok, ?_⟩
  have s1 : smallI 1 = true := smallI_of (by omega)
  have s2 : smallI m = true := smallI_of (by omega)
  unfold _law_web_c1
  rw [q_eComp, src_rng2 (i := 1) (j := m) (by simp) s1 s2]
  simp only [bind_ok, wE_cons, wE_nil, List.set_cons_succ, List.set_cons_zero, List.map_nil] at e ⊢
  rw [e]
  simp [Function.comp_def]
theorem c3_ok {ts : List PI2} (h0 : 2 < m) (h1 : m ≤ 8) : ∃ ps : List PI2, TOk m 8 ps ∧ _law_web_c3 (WE lo hi (some (VI m)) a4 a5 a6 a7 a8) [CS st fl, CP ts] = .ok (.ref 2) [CS st fl, CP ts, CP ps] := by
  refine ⟨(rg 0 (m - 1).toNat).map fun p => (p, p + 1), ⟨fun p hp => ?_, by rw [List.length_map, rg_len]; omega⟩, ?_⟩
  · obtain ⟨a, ha, rfl⟩ := List.mem_map.mp hp
    have := rg_mem ha
    dsimp only; omega
  · have s1 : smallI (m - 1) = true := smallI_of (by omega)
    unfold _law_web_c3
    rw [q_eComp, src_rng1 (j := m - 1) (by simp [vSub, vInt2]) s1]
    simp only [bind_ok, wE_cons, wE_nil, List.set_cons_succ, List.set_cons_zero]
    rw [compGo_map (g := VI) (fun p => pD (p, p + 1)) (by simp) _ (fun p _ => ⟨_, rfl, [CS st fl, CP ts], by simp [frzL, frz, pD, vAdd], by simp⟩) (by rw [rg_len]; omega)]
    simp [Function.comp_def]
theorem c4_ok {ts : List PI2} (h0 : 0 ≤ m) (h1 : m ≤ 8) : ∃ ps : List PI2, TOk m 8 ps ∧ _law_web_c4 (WE lo hi (some (VI m)) a4 a5 a6 a7 a8) [CS st fl, CP ts] = .ok (.ref 2) [CS st fl, CP ts, CP ps] := by
  refine ⟨(rg 1 (m - 1).toNat).map fun p => (0, p), ⟨fun p hp => ?_, by rw [List.length_map, rg_len]; omega⟩, ?_⟩
  · obtain ⟨a, ha, rfl⟩ := List.mem_map.mp hp
    have := rg_mem ha
    dsimp only; omega
  · have s1 : smallI 1 = true := smallI_of (by omega)
    have s2 : smallI m = true := smallI_of (by omega)
    unfold _law_web_c4
    rw [q_eComp, src_rng2 (i := 1) (j := m) (by simp) s1 s2]
    simp only [bind_ok, wE_cons, wE_nil, List.set_cons_succ, List.set_cons_zero]
    rw [compGo_map (g := VI) (fun p => pD (0, p)) (by simp) _ (fun p _ => ⟨_, rfl, [CS st fl, CP ts], by simp [frzL, frz, pD], by simp⟩) (by rw [rg_len]; omega)]
    simp [Function.comp_def]
def mn (i j : Int) : Int := if j < i then j else i
def mx (i j : Int) : Int := if j > i then j else i
theorem c5_ok {ts : List PI2} {o : List Int} (ho : o.Perm (rg 0 m.toNat)) (h0 : 0 ≤ m) (h1 : m ≤ 8) (tk : TOk m 60 ts) : ∃ ps : List PI2, TOk m 60 ps ∧ _law_web_c5 (WE lo hi (some (VI m)) a4 (some (.im (.tuple (o.map .int)))) a6 (some (.ref 1)) a8) [CS st fl, CP ts] = .ok (.ref 2) [CS st fl, CP ts, CP ps] := by
  have ol : o.length = m.toNat := by rw [ho.length_eq, rg_len]
  have nd : o.Nodup := by
    rw [ho.nodup_iff]
    unfold rg
    rw [List.nodup_iff_pairwise_ne, List.pairwise_map]
    exact List.nodup_range.imp fun h => by omega
  have ob : ∀ i, i < o.length → 0 ≤ o.getD i 0 ∧ o.getD i 0 < m := fun i hi => by
    have : o.getD i 0 ∈ o := by rw [List.getD_eq_getElem?_getD, List.getElem?_eq_getElem hi]; simp
    have := rg_mem (ho.mem_iff.mp this)
    omega
  refine ⟨ts.map fun p => (mn (o.getD p.1.toNat 0) (o.getD p.2.toNat 0), mx (o.getD p.1.toNat 0) (o.getD p.2.toNat 0)), ⟨fun p hp => ?_, by rw [List.length_map]; exact tk.2⟩, ?_⟩
  · obtain ⟨q, hq, rfl⟩ := List.mem_map.mp hp
    obtain ⟨q0, q1, q2⟩ := tk.1 q hq
    have b1 := ob q.1.toNat (by omega)
    have b2 := ob q.2.toNat (by omega)
    have ne : o.getD q.1.toNat 0 ≠ o.getD q.2.toNat 0 := fun e => by
      have l1 : q.1.toNat < o.length := by omega
      have l2 : q.2.toNat < o.length := by omega
      rw [List.getD_eq_getElem?_getD, List.getD_eq_getElem?_getD, List.getElem?_eq_getElem l1, List.getElem?_eq_getElem l2] at e
      have := (List.getElem_inj nd).mp (by simpa using e)
      omega
    generalize o.getD q.1.toNat 0 = x at b1 ne
    generalize o.getD q.2.toNat 0 = y at b2 ne
    unfold mn mx
    dsimp only
    split <;> split <;> omega
  · unfold _law_web_c5
    have src : mSeq (eVar 7) (WE lo hi (some (VI m)) a4 (some (.im (.tuple (o.map .int)))) a6 (some (.ref 1)) a8) [CS st fl, CP ts] = .ok ⟨ts.map fun p => .im (pD p), [(1, ts.map fun p => .im (pD p))]⟩ [CS st fl, CP ts] := by
      simp [seqSrc, imsOf_mapf]
    rw [q_eComp, src]
    simp only [bind_ok, wE_cons, wE_nil, List.set_cons_succ, List.set_cons_zero]
    rw [compGo_map (g := fun p => .im (pD p)) (fun p => pD (mn (o.getD p.1.toNat 0) (o.getD p.2.toNat 0), mx (o.getD p.1.toNat 0) (o.getD p.2.toNat 0))) (okAt_one (by simp)) _ (fun p hp => ?_) (by have := tk.2; omega)]
    · simp [Function.comp_def]
    · obtain ⟨q0, q1, q2⟩ := tk.1 p hp
      have l1 : p.1.toNat < o.length := by omega
      have l2 : p.2.toNat < o.length := by omega
      have p1 : p.1 < (o.length : Int) := by omega
      have p2 : p.2 < (o.length : Int) := by omega
      have p3 : 0 ≤ p.2 := by omega
      refine ⟨_, by simp [Tg.asg, pD, setIs]; rfl, [CS st fl, CP ts], ?_, by simp⟩
      simp [vIdx, itemsOf, atI, ixN, q0, p1, p2, p3, l1, l2, fMin2, fMax2, frzL, frz, pD, mn, mx]
end
end NT

set_option Elab.async false
set_option linter.all false
set_option maxRecDepth 100000
set_option autoImplicit false

namespace NT
open PySem PySem.Spec PyProof.Rows L2 PySem.W
theorem TOk.mono {m : Int} {k j : Nat} {l : List PI2} (t : TOk m k l) (h : k ≤ j) : TOk m j l := ⟨t.1, Nat.le_trans t.2 h⟩
theorem TOk.app {m : Int} {k j : Nat} {l l' : List PI2} (t : TOk m k l) (t' : TOk m j l') : TOk m (k + j) (l ++ l') := ⟨fun p hp => (List.mem_append.mp hp).elim (t.1 p) (t'.1 p), by rw [List.length_append]; have := t.2; have := t'.2; omega⟩
theorem vIn_tup {neg : Bool} {d : PyData} {ds : List PyData} {h : Hs} (e : (okD 8 d && okD 9 (.tuple ds)) = true) : vInS neg (.im d) (.im (.tuple ds)) h = .ok (.im (.bool (neg ^^ ds.any fun z => PyData.eqv z d))) h := by
  simp only [vInS, rdD]
  rw [if_pos e]
abbrev WT (lo hi m : Int) (a4 a5 a6 : Option Val) : En := WE lo hi (some (VI m)) a4 a5 a6 (some (.ref 1)) none
section
variable {lo hi m st full kind : Int} {fl : Bool} {a4 a5 a6 a7 a8 : Option Val}
theorem s5_ok {o : PyData} {ts : List PI2} (h0 : 0 ≤ m) (h1 : m ≤ 8) (tk : TOk m 28 ts) : ∃ (ps : List PI2) (st' : Int), TOk m 60 ps ∧ _law_web_s5 1 (WT lo hi m (some (VI kind)) (some (.im o)) (some (VI full))) [CS st fl, CP ts] = .nx (WT lo hi m (some (VI kind)) (some (.im o)) (some (VI full))) [CS st' fl, CP ps] := by
  unfold _law_web_s5
  have eb := vIn_tup (neg := false) (d := .int kind) (ds := [.int 1, .int 2, .int 3]) (h := [CS st fl, CP ts]) (by simp [okD])
  generalize ([.int 1, .int 2, .int 3] : List PyData).any (fun z => PyData.eqv z (.int kind)) = b at eb
  cases b with
  | false => exact ⟨ts, st, tk.mono (by decide), by simp [frzL, frz, eb]⟩
  | true =>
    obtain ⟨ps, st1, tk1, e1⟩ := c1_ok (lo := lo) (hi := hi) (st := st) (fl := fl) (a4 := some (VI kind)) (a5 := some (.im o)) (a6 := some (VI full)) (a7 := some (.ref 1)) (a8 := none) (ts := ts) h0 h1
    by_cases k2 : kind = 2
    · subst k2
      obtain ⟨qs, st2, tk2, e2⟩ := c2_ok (lo := lo) (hi := hi) (st := st1) (fl := fl) (a4 := some (VI 2)) (a5 := some (.im o)) (a6 := some (VI full)) (a7 := some (.ref 1)) (a8 := none) (ts := ps) h0 h1
      refine ⟨ps ++ qs, st2, (tk1.app tk2).mono (by decide), ?_⟩
      have hz : ps.length + qs.length ≤ 16777216 := by have := tk1.2; have := tk2.2; omega
      simp [frzL, frz, eb, e1, e2, asgn, reuse, vEq, eqVal, vAdd, hz, trunc]
    · refine ⟨ps, st1, tk1.mono (by decide), ?_⟩
      simp [frzL, frz, eb, e1, asgn, reuse, vEq, eqVal, k2, trunc]
theorem s6_ok {o : PyData} {ts : List PI2} (h0 : 0 ≤ m) (h1 : m ≤ 8) (tk : TOk m 60 ts) : ∃ (ps : List PI2), TOk m 60 ps ∧ _law_web_s6 1 (WT lo hi m (some (VI kind)) (some (.im o)) (some (VI full))) [CS st fl, CP ts] = .nx (WT lo hi m (some (VI kind)) (some (.im o)) (some (VI full))) [CS st fl, CP ps] := by
  unfold _law_web_s6
  by_cases k2 : kind = 4
  · by_cases m2 : 2 < m
    · obtain ⟨ps, tk1, e1⟩ := c3_ok (lo := lo) (hi := hi) (st := st) (fl := fl) (a4 := some (VI kind)) (a5 := some (.im o)) (a6 := some (VI full)) (a7 := some (.ref 1)) (a8 := none) (ts := ts) m2 h1
      refine ⟨ps ++ [(0, m - 1)], (tk1.app (j := 1) ⟨fun p hp => ?_, by simp⟩).mono (by decide), ?_⟩
      · rw [List.mem_singleton.mp hp]; dsimp only; omega
      · have hz : ps.length + 1 ≤ 16777216 := by have := tk1.2; omega
        subst k2
        simp [m2, vEq, eqVal, vGt, cmpV, vSub, vInt2, frzL, frz, e1, vAdd, hz, asgn, reuse, trunc, pD]
    · refine ⟨ts, tk, ?_⟩
      simp [k2, m2, vEq, eqVal, vGt, cmpV]
  · refine ⟨ts, tk, ?_⟩
    simp [k2, vEq, eqVal]
theorem s7_ok {o : PyData} {ts : List PI2} (h0 : 0 ≤ m) (h1 : m ≤ 8) (tk : TOk m 60 ts) : ∃ (ps : List PI2) (st' : Int), TOk m 60 ps ∧ _law_web_s7 1 (WT lo hi m (some (VI kind)) (some (.im o)) (some (VI full))) [CS st fl, CP ts] = .nx (WT lo hi m (some (VI kind)) (some (.im o)) (some (VI full))) [CS st' fl, CP ps] := by
  unfold _law_web_s7
  by_cases k2 : kind = 5
  · obtain ⟨ps, tk1, e1⟩ := c4_ok (lo := lo) (hi := hi) (st := st) (fl := fl) (a4 := some (VI kind)) (a5 := some (.im o)) (a6 := some (VI full)) (a7 := some (.ref 1)) (a8 := none) (ts := ts) h0 h1
    obtain ⟨v, st', v0, v1, ev⟩ := take_ok st 2 fl (by omega) (by omega)
    have tk2 : TOk m 28 (pairsL m) := ⟨fun p hp => pairs_mem hp, pairs_len h0 h1⟩
    subst k2
    have ec := call_s1 (h := [CS st fl, CP ts, CP ps, CP (pairsL m), .lst [.ref 2, .ref 3]]) (k := 0) rfl ev
    have v2 : v = 0 ∨ v = 1 := by omega
    rcases v2 with rfl | rfl
    · refine ⟨ps, st', tk1.mono (by decide), ?_⟩
      simp [vEq, eqVal, e1, call1, pairs_ok m h0 h1]
      simp [ec, vIdx, itemsOf, atI, ixN, asgn, reuse]
    · refine ⟨pairsL m, st', tk2.mono (by decide), ?_⟩
      simp [vEq, eqVal, e1, call1, pairs_ok m h0 h1]
      simp [ec, vIdx, itemsOf, atI, ixN, asgn, reuse]
  · refine ⟨ts, st, tk, ?_⟩
    simp [k2, vEq, eqVal]
end
end NT

set_option Elab.async false
set_option linter.all false
set_option maxRecDepth 100000
set_option autoImplicit false

namespace NT
open PySem PySem.Spec PyProof.Rows L2 PySem.W
def WebOk (m : Int) (ts : List PI2) : Prop := 1 ≤ m ∧ m ≤ 8 ∧ Str2 ts ∧ ts.length ≤ 64 ∧ ∀ p ∈ ts, 0 ≤ p.1 ∧ p.1 < p.2 ∧ p.2 < m
theorem insP_len (p : PI2) : ∀ l : List PI2, (insP p l).length ≤ l.length + 1
  | [] => by simp [insP]
  | q :: r => by
    unfold insP
    have := insP_len p r
    split
    · simp
    · split <;> simp <;> omega
theorem sortPs_len : ∀ l : List PI2, (sortPs l).length ≤ l.length
  | [] => by simp [sortPs]
  | p :: r => by
    have h1 := insP_len p (sortPs r)
    have h2 := sortPs_len r
    show (insP p (sortPs r)).length ≤ _
    rw [List.length_cons]; omega
def webD (m : Int) (ts : List PI2) : PyData := .tuple [.int m, .tuple (ts.map pD)]
theorem web_ok (st lo hi : Int) (fl : Bool) (h0 : 1 ≤ lo) (h1 : lo ≤ hi) (h2 : hi ≤ 8) : ∃ (m : Int) (ts : List PI2) (st' : Int), lo ≤ m ∧ m ≤ hi ∧ WebOk m ts ∧ _law_web_f [.ref 0, VI lo, VI hi] [CS st fl] = .ok (.im (webD m ts)) [CS st' fl] := by
  obtain ⟨v1, st1, b1, c1, e1⟩ := take_ok st (hi - lo + 1) fl (by omega) (by omega)
  obtain ⟨kind, st2, b2, c2, e2⟩ := take_ok st1 8 fl (by omega) (by omega)
  generalize hm : lo + v1 = m
  have m0 : 0 ≤ m := by omega
  have m1 : m ≤ 8 := by omega
  obtain ⟨o, st3, pm, e3⟩ := order_ok st2 m fl m0 m1
  obtain ⟨v4, st4, b4, c4, e4⟩ := take_ok st3 4 fl (by omega) (by omega)
  have hfull : ∃ full : Int, ([2, 3, 5, 7] : List Int)[v4.toNat]? = some full := by
    have : v4.toNat < ([2, 3, 5, 7] : List Int).length := by simp; omega
    exact ⟨_, List.getElem?_eq_getElem this⟩
  obtain ⟨full, hfull⟩ := hfull
  obtain ⟨t5, st5, k5, e5⟩ := c0_ok (lo := lo) (hi := hi) (full := full) (st := st4) (fl := fl) (a4 := some (VI kind)) (a5 := some (.im (.tuple (o.map .int)))) (a7 := none) (a8 := none) m0 m1
  obtain ⟨t6, st6, k6, e6⟩ := s5_ok (lo := lo) (hi := hi) (full := full) (st := st5) (fl := fl) (kind := kind) (o := .tuple (o.map .int)) m0 m1 k5
  obtain ⟨t7, k7, e7⟩ := s6_ok (lo := lo) (hi := hi) (full := full) (st := st6) (fl := fl) (kind := kind) (o := .tuple (o.map .int)) m0 m1 k6
  obtain ⟨t8, st8, k8, e8⟩ := s7_ok (lo := lo) (hi := hi) (full := full) (st := st6) (fl := fl) (kind := kind) (o := .tuple (o.map .int)) m0 m1 k7
  obtain ⟨t9, k9, e9⟩ := c5_ok (lo := lo) (hi := hi) (st := st8) (fl := fl) (a4 := some (VI kind)) (a6 := some (VI full)) (a8 := none) pm m0 m1 k8
  have okp : ∀ q ∈ t9, okP q = true := fun q hq => by
    have := k9.1 q hq
    simp only [okP, decide_eq_true_eq]
    omega
  obtain ⟨q1, q2⟩ := sortPs_ok okp
  refine ⟨m, sortPs t9, st8, by omega, by omega, ⟨by omega, m1, q2, by have := sortPs_len t9; have := k9.2; omega, fun p hp => k9.1 p ((q1 p).mp hp)⟩, ?_⟩
  unfold _law_web_f
  rw [fnOf3]
  unfold _law_web_b
  have f0 : _law_web_s0 1 (WE lo hi none none none none none none) [CS st fl] = .nx (WE lo hi (some (VI m)) none none none none none) [CS st1 fl] := by
    unfold _law_web_s0
    have ec := call_s1 (h := [CS st fl]) (k := 0) rfl e1
    simp [vSub, vInt2, vAdd, ec, hm]
  have f1 : _law_web_s1 1 (WE lo hi (some (VI m)) none none none none none) [CS st1 fl] = .nx (WE lo hi (some (VI m)) (some (VI kind)) none none none none) [CS st2 fl] := by
    unfold _law_web_s1
    have ec := call_s1 (h := [CS st1 fl]) (k := 0) rfl e2
    simp [ec]
  have f2 : _law_web_s2 1 (WE lo hi (some (VI m)) (some (VI kind)) none none none none) [CS st2 fl] = .nx (WE lo hi (some (VI m)) (some (VI kind)) (some (.im (.tuple (o.map .int)))) none none none) [CS st3 fl] := by
    unfold _law_web_s2
    have ec := call_s1 (h := [CS st2 fl]) (k := 0) rfl e3
    simp [ec]
  have f3 : _law_web_s3 1 (WE lo hi (some (VI m)) (some (VI kind)) (some (.im (.tuple (o.map .int)))) none none none) [CS st3 fl] = .nx (WE lo hi (some (VI m)) (some (VI kind)) (some (.im (.tuple (o.map .int)))) (some (VI full)) none none) [CS st4 fl] := by
    unfold _law_web_s3
    have ec := call_s1 (h := [CS st3 fl, .lst [VI 2, VI 3, VI 5, VI 7]]) (k := 0) rfl e4
    have hx : atI [VI 2, VI 3, VI 5, VI 7] v4 = some (VI full) := by
      have : ([VI 2, VI 3, VI 5, VI 7] : List Val) = ([2, 3, 5, 7] : List Int).map VI := rfl
      rw [this]
      simp only [atI, ixN, b4, if_true, List.length_map, List.length_cons, List.length_nil]
      rw [if_pos (by omega)]
      simp only [Option.bind_some, List.getElem?_map, hfull, Option.map_some]
    simp [ec, vIdx, itemsOf, hx, trunc]
  have f4 : _law_web_s4 1 (WE lo hi (some (VI m)) (some (VI kind)) (some (.im (.tuple (o.map .int)))) (some (VI full)) none none) [CS st4 fl] = .nx (WT lo hi m (some (VI kind)) (some (.im (.tuple (o.map .int)))) (some (VI full))) [CS st5 fl, CP t5] := by
    unfold _law_web_s4
    simp [e5, asgn, reuse]
  have f8 : _law_web_s8 1 (WT lo hi m (some (VI kind)) (some (.im (.tuple (o.map .int)))) (some (VI full))) [CS st8 fl, CP t8] = .nx (WE lo hi (some (VI m)) (some (VI kind)) (some (.im (.tuple (o.map .int)))) (some (VI full)) (some (.ref 1)) (some (.ref 2))) [CS st8 fl, CP t8, CP t9] := by
    unfold _law_web_s8
    simp [e9, asgn, reuse]
  have f9 : _law_web_s9 1 (WE lo hi (some (VI m)) (some (VI kind)) (some (.im (.tuple (o.map .int)))) (some (VI full)) (some (.ref 1)) (some (.ref 2))) [CS st8 fl, CP t8, CP t9] = .rt (.im (webD m (sortPs t9))) [CS st8 fl, CP t8, CP t9, CP (sortPs t9)] := by
    unfold _law_web_s9
    have l64 : t9.length < 64 := by have := k9.2; omega
    have al : (decide (t9.length < 64) && t9.all okP) = true := by rw [Bool.and_eq_true, decide_eq_true_eq]; exact ⟨l64, List.all_eq_true.mpr okp⟩
    have hfs : fSortSet [.ref 2] [CS st8 fl, CP t8, CP t9] = .ok (.ref 3) [CS st8 fl, CP t8, CP t9, CP (sortPs t9)] := by
      simp only [fSortSet, lstOf, List.getElem?_cons_succ, List.getElem?_cons_zero, pairsOf_map, al, if_true, List.length_cons, List.length_nil, List.cons_append, List.nil_append]
    have hft : fTuple [.ref 3] [CS st8 fl, CP t8, CP t9, CP (sortPs t9)] = .ok (.im (.tuple ((sortPs t9).map pD))) [CS st8 fl, CP t8, CP t9, CP (sortPs t9)] := by
      simp only [fTuple, lstOf, List.getElem?_cons_succ, List.getElem?_cons_zero, frzL_map]
    simp [hfs, hft, frzL, frz, webD]
  have g0 : (some (Val.ref 0) :: some (VI lo) :: some (VI hi) :: List.replicate (13 - 3) none : En) = WE lo hi none none none none none none := rfl
  simp only [g0, List.length_cons, List.length_nil, Nat.zero_add, q_sSeq, f0, f1, f2, f3, f4, e6, e7, e8, f8, f9, fnEnd_rt, fnFin_im]
  simp [trunc]
end NT

set_option Elab.async false
set_option linter.all false
set_option maxRecDepth 100000
set_option autoImplicit false

namespace NT
open PySem PySem.Spec PyProof.Rows L2 PySem.W
def nbOf (p : Int) (q : PI2) : List Int := (if q.1 = p then [q.2] else []) ++ (if q.2 = p then [q.1] else [])
def nb (ts : List PI2) (p : Int) : List Int := ts.flatMap (nbOf p)
def isort (l : List Int) : List Int := l.mergeSort fun a b => decide (a ≤ b)
def nearL (ts : List PI2) (p : Int) : List Int := isort (nb ts p)
theorem eqv_int (i j : Int) : PyData.eqv (.int i) (.int j) = decide (i = j) := by
  rw [PyData.eqv]
  (rw [Bool.eq_iff_iff, beq_iff_eq, decide_eq_true_eq])
theorem srt_ints (l : List Int) : srt (l.map .int) = (isort l).map .int := by
  unfold srt isort
  have key : ∀ a b : Int, dataLe false id (PyData.int a) (PyData.int b) = decide (a ≤ b) := fun a b => congrFun (congrFun (dataLe_int (β := Int) fun b => b) a) b
  exact (List.map_mergeSort (f := PyData.int) (r := fun a b => decide (a ≤ b)) (s := dataLe false id) fun a _ b _ => (key a b).symm).symm
theorem fSorted_ints {k : Nat} {h : Hs} {l : List Int} (e : h[k]? = some (CI l)) : fSorted [.ref k] h = .ok (.ref h.length) (h ++ [CI (isort l)]) := by
  have c : (alikeB (l.map PyData.int) && sortB (l.map PyData.int) && (l.map PyData.int).all (okD 8)) = true := by
    simp only [Bool.and_eq_true]
    refine ⟨⟨?_, ?_⟩, ?_⟩
    · simp [alikeB, alike]
    · simp [sortB]
    · simp [okD]
  have i1 : imsOf (l.map fun i => Val.im (.int i)) = some (l.map PyData.int) := imsOf_mapf PyData.int l
  simp only [fSorted, lstOf, e, i1, c, if_true, srt_ints, List.map_map]
  rfl
theorem fTuple_ints {k : Nat} {h : Hs} {l : List Int} (e : h[k]? = some (CI l)) : fTuple [.ref k] h = .ok (.im (.tuple (l.map .int))) h := by
  simp only [fTuple, lstOf, e, frzL_map]
theorem ties_at {m : Int} {ts : List PI2} {h : Hs} : vIdx (.im (webD m ts)) (VI 1) h = .ok (.im (.tuple (ts.map pD))) h := by
  simp [vIdx, webD, itemsOf, atI, ixN]
theorem seq_tup {α : Type} (f : α → PyData) (l : List α) (k : Nat) (h : Hs) : seqSrc k (.im (.tuple (l.map f))) h = .ok ⟨l.map fun a => .im (f a), []⟩ (trunc k h) := by
  simp only [seqSrc, List.map_map]
  rfl
theorem asg_pair {i j : Nat} {p : PI2} {ρ : En} : Tg.asg (.tup [i, j]) (.im (pD p)) ρ = some ((ρ.set i (some (VI p.1))).set j (some (VI p.2))) := by
  simp [Tg.asg, pD, setIs]
def TsOk (ts : List PI2) : Prop := (∀ p ∈ ts, p.1 < p.2) ∧ ts.length ≤ 64
theorem near_ok' {m : Int} {ts : List PI2} (p : Int) (tk : TsOk ts) : near_f [.im (webD m ts), VI p] [] = .ok (.im (.tuple ((nearL ts p).map .int))) [] := by
  have hc : near_c0 [some (.im (webD m ts)), some (VI p), none, none] [] = .ok (.ref 0) [CI (nb ts p)] := by
    unfold near_c0
    rw [q_eComp]
    have src : mSeq (e2 (eVar 0) (eC (.int 1)) vIdx) [some (.im (webD m ts)), some (VI p), none, none] [] = .ok ⟨ts.map fun q => .im (pD q), []⟩ [] := by
      simp [ties_at, seq_tup]
    rw [src]
    simp only [bind_ok, wE_cons, wE_nil, List.set_cons_succ, List.set_cons_zero]
    rw [compGo_fil (g := fun q => .im (pD q)) (fun q => decide (q.1 = p ∨ q.2 = p)) (fun q => .int (q.1 + q.2 - p)) (by simp) ts (fun q _ => ?_) (by have := tk.2; omega)]
    · simp only [bind_ok, List.length_nil, List.nil_append]
      congr 3
      have : ∀ l : List PI2, (∀ q ∈ l, q.1 < q.2) → ((l.filter fun q => decide (q.1 = p ∨ q.2 = p)).map fun q => Val.im (.int (q.1 + q.2 - p))) = (l.flatMap (nbOf p)).map fun i => .im (.int i) := by
        intro l
        induction l with
        | nil => intro _; rfl
        | cons q l ih =>
          intro hl
          have hq := hl q List.mem_cons_self
          rw [List.flatMap_cons, List.map_append, ← ih fun z hz => hl z (List.mem_cons_of_mem _ hz)]
          by_cases a : q.1 = p
          · have b : ¬ q.2 = p := by omega
            simp [List.filter_cons, nbOf, a, b]
            omega
          · by_cases b : q.2 = p
            · simp [List.filter_cons, nbOf, a, b]
            · simp [List.filter_cons, nbOf, a, b]
      exact this ts tk.1
    · refine ⟨_, asg_pair, [], ?_, by simp, fun _ => ⟨[], ?_, by simp⟩⟩
      · have e := vIn_tup (neg := false) (d := .int p) (ds := [.int q.1, .int q.2]) (h := []) (by simp [okD])
        simp [frzL, frz, e, eqv_int]
      · simp [vAdd, vSub, vInt2]
  unfold near_f
  rw [fnOf2]
  unfold near_b near_s0
  have g0 : (some (Val.im (webD m ts)) :: some (VI p) :: List.replicate (4 - 2) none : En) = [some (.im (webD m ts)), some (VI p), none, none] := rfl
  have h1 := fSorted_ints (k := 0) (h := [CI (nb ts p)]) rfl
  have h2 := fTuple_ints (k := 1) (h := [CI (nb ts p), CI (isort (nb ts p))]) (l := isort (nb ts p)) rfl
  simp only [List.length_cons, List.length_nil, List.cons_append, List.nil_append, Nat.zero_add] at h1
  simp only [g0, q_sRet, q_eB, q_mCons, q_mNil, hc, bind_ok, h1, h2, fnEnd_rt, fnFin_im]
  simp [trunc, nearL]
theorem lnear_ok {m : Int} {ts : List PI2} (p : Int) (tk : TsOk ts) : _law_near_f [.im (webD m ts), VI p] [] = .ok (.im (.tuple ((nearL ts p).map .int))) [] := by
  have hf : ∃ v3 v4, forGo _law_near_l0 (.tup [3, 4]) ⟨ts.map fun q => .im (pD q), []⟩ 0 (ts.map fun q => .im (pD q)) [some (.im (webD m ts)), some (VI p), some (.ref 0), none, none] [CI []] = .nx [some (.im (webD m ts)), some (VI p), some (.ref 0), v3, v4] [CI (nb ts p)] := by
    let J : List PI2 → En → Hs → Prop := fun r ρ h => ∃ acc v3 v4, ρ = [some (.im (webD m ts)), some (VI p), some (.ref 0), v3, v4] ∧ h = [CI acc] ∧ acc ++ r.flatMap (nbOf p) = nb ts p ∧ (∀ q ∈ r, q.1 < q.2) ∧ acc.length + r.length ≤ 64
    refine forGo_inv (J := J) (Q := fun x => ∃ v3 v4, x = .nx [some (.im (webD m ts)), some (VI p), some (.ref 0), v3, v4] [CI (nb ts p)]) ?_ ?_ _ _ _ ⟨[], none, none, rfl, rfl, rfl, tk.1, by have := tk.2; simpa using this⟩
    · rintro q r ρ h ⟨acc, v3, v4, rfl, rfl, e, hr, hl⟩
      have hq := hr q List.mem_cons_self
      simp only [List.length_cons] at hl
      have l1 : acc.length < 16777216 := by omega
      refine ⟨by simp, _, asg_pair, ?_⟩
      unfold _law_near_l0
      by_cases a : q.1 = p
      · have b : ¬ q.2 = p := by omega
        subst a
        simp [vEq, eqVal, b, lstOf, mAppend, l1, J]
        refine ⟨acc ++ [q.2], by simp, ?_, fun x y h => hr (x, y) (List.mem_cons_of_mem _ h), by simp; omega⟩
        rw [← e, List.flatMap_cons]
        simp [nbOf, b]
      · by_cases b : q.2 = p
        · subst b
          simp [vEq, eqVal, a, lstOf, mAppend, l1, J]
          refine ⟨acc ++ [q.1], by simp, ?_, fun x y h => hr (x, y) (List.mem_cons_of_mem _ h), by simp; omega⟩
          rw [← e, List.flatMap_cons]
          simp [nbOf, a]
        · simp [vEq, eqVal, a, b, J]
          refine ⟨acc, by simp, ?_, fun x y h => hr (x, y) (List.mem_cons_of_mem _ h), by omega⟩
          rw [← e, List.flatMap_cons]
          simp [nbOf, a, b]
    · rintro ρ h ⟨acc, v3, v4, rfl, rfl, e, hr, hl⟩
      refine ⟨by simp, v3, v4, ?_⟩
      simp at e
      rw [e]
  obtain ⟨v3, v4, hf⟩ := hf
  unfold _law_near_f
  rw [fnOf2]
  unfold _law_near_b _law_near_s0 _law_near_s1 _law_near_s2
  have src : mSeq (e2 (eVar 0) (eC (.int 1)) vIdx) [some (.im (webD m ts)), some (VI p), some (.ref 0), none, none] [CI []] = .ok ⟨ts.map fun q => .im (pD q), []⟩ [CI []] := by
    simp [ties_at, seq_tup]
  have e1 : asgn 0 2 (.ref 0) 0 [some (.im (webD m ts)), some (VI p), none, none, none] [.lst []] = .nx [some (.im (webD m ts)), some (VI p), some (.ref 0), none, none] [CI []] := by simp [asgn, reuse]
  have h1 := fSorted_ints (k := 0) (h := [CI (nb ts p)]) rfl
  have h2 := fTuple_ints (k := 1) (h := [CI (nb ts p), CI (isort (nb ts p))]) (l := isort (nb ts p)) rfl
  simp only [List.length_cons, List.length_nil, List.cons_append, List.nil_append, Nat.zero_add] at h1
  have g0 : (some (Val.im (webD m ts)) :: some (VI p) :: List.replicate (5 - 2) none : En) = [some (.im (webD m ts)), some (VI p), none, none, none] := rfl
  simp only [g0, q_sSeq, q_sSet, q_eLst, q_mNil, bind_ok, List.length_nil, Nat.zero_le, if_true, List.nil_append, e1, q_sFor, src, pin_im, Nat.max_self, hf, q_sRet, q_eB, q_mCons, q_eVar, List.getElem?_cons_succ, List.getElem?_cons_zero, h1, h2, fnEnd_rt, fnFin_im]
  simp [trunc, nearL]
end NT

set_option Elab.async false
set_option linter.all false
set_option maxRecDepth 100000
set_option autoImplicit false

namespace NT
open PySem PySem.Spec PyProof.Rows L2 PySem.W
theorem any_eqv (l : List Int) (x : Int) : (l.map PyData.int).any (fun z => PyData.eqv z (.int x)) = decide (x ∈ l) := by
  induction l with
  | nil => simp
  | cons a l ih =>
    rw [List.map_cons, List.any_cons, ih, eqv_int]
    by_cases h : a = x
    · simp [h]
    · have : ¬ x = a := fun z => h z.symm
      simp [h, this]
theorem okD_ints (n : Nat) (l : List Int) : (l.map PyData.int).all (okD n) = true := by
  cases n <;> simp [okD]
theorem vIn_ref {k : Nat} {h : Hs} {l : List Int} {x : Int} (e : h[k]? = some (CI l)) : vInS false (VI x) (.ref k) h = .ok (.im (.bool (decide (x ∈ l)))) h := by
  have i1 : imsOf (l.map fun i => Val.im (.int i)) = some (l.map PyData.int) := imsOf_mapf PyData.int l
  simp only [vInS, rdD, e, i1, Option.map_some]
  rw [if_pos (by simp only [okD, okD_ints, Bool.and_self]), any_eqv, Bool.false_xor]
theorem vIn_tupI {h : Hs} {l : List Int} {x : Int} : vInS false (VI x) (.im (.tuple (l.map .int))) h = .ok (.im (.bool (decide (x ∈ l)))) h := by
  rw [vIn_tup (by simp only [okD, okD_ints, Bool.and_self]), any_eqv, Bool.false_xor]
theorem eqvAll_ints : ∀ l r : List Int, PyData.eqvAll (l.map PyData.int) (r.map PyData.int) = decide (l = r)
  | [], [] => by simp [PyData.eqvAll]
  | [], b :: r => by simp [PyData.eqvAll]
  | a :: l, [] => by simp [PyData.eqvAll]
  | a :: l, b :: r => by
    rw [List.map_cons, List.map_cons, PyData.eqvAll, eqv_int, eqvAll_ints l r]
    by_cases h : a = b <;> by_cases h2 : l = r <;> simp [h, h2]
theorem eqv_lists (l r : List Int) : PyData.eqv (.list (l.map .int)) (.list (r.map .int)) = decide (l = r) := by
  rw [PyData.eqv, eqvAll_ints]
theorem eqRef {neg : Bool} {j k : Nat} {h : Hs} {l r : List Int} (e1 : h[j]? = some (CI l)) (e2 : h[k]? = some (CI r)) : eqVal neg (.ref j) (.ref k) h = .ok (.im (.bool (neg ^^ decide (l = r)))) h := by
  have i1 : imsOf (l.map fun i => Val.im (.int i)) = some (l.map PyData.int) := imsOf_mapf PyData.int l
  have i2 : imsOf (r.map fun i => Val.im (.int i)) = some (r.map PyData.int) := imsOf_mapf PyData.int r
  simp only [eqVal, eqD, rdD, e1, e2, i1, i2, Option.map_some]
  rw [if_pos (by simp only [okD, okD_ints, Bool.and_self]), eqv_lists]
theorem set_same {α : Type} : ∀ {l : List α} {k : Nat} {a : α}, l[k]? = some a → l.set k a = l
  | [], _, _, e => by simp at e
  | b :: l, 0, a, e => by simp at e; simp [e]
  | b :: l, k + 1, a, e => by simp at e; simp [set_same e]
theorem call_b4 {s : Fn} {h : Hs} {k : Nat} {a b c : PyData} {l r : List Int} (e : h[k]? = some (CI l)) (es : s [.im a, .im b, .im c, .ref 0] [CI l] = .ok (.ref 1) [CI l, CI r]) : callFn s [.im a, .im b, .im c, .ref k] h = .ok (.ref h.length) (h ++ [CI r]) := by
  have e2 : isol h [.im a, .im b, .im c, .ref k] 0 = some ([.im a, .im b, .im c, .ref 0], [k]) := by simp [isol, e]
  unfold callFn
  rw [e2]
  have e3 : cellsAt h [k] = [CI l] := by simp [cellsAt, List.getD_eq_getElem?_getD, e]
  simp [e3, es, wrs, backI, set_same e]
theorem call_c3 {s : Fn} {h : Hs} {k : Nat} {a b d : PyData} {l : List Int} (e : h[k]? = some (CI l)) (es : s [.im a, .im b, .ref 0] [CI l] = .ok (.im d) [CI l]) : callFn s [.im a, .im b, .ref k] h = .ok (.im d) h := by
  have e2 : isol h [.im a, .im b, .ref k] 0 = some ([.im a, .im b, .ref 0], [k]) := by simp [isol, e]
  unfold callFn
  rw [e2]
  have e3 : cellsAt h [k] = [CI l] := by simp [cellsAt, List.getD_eq_getElem?_getD, e]
  simp [e3, es, wrs, set_same e]

/-! ### the places looked at -/
def SS (l : List Int) : Prop := l.Pairwise (· < ·)
theorem ss_eq : ∀ {l m : List Int}, SS l → SS m → (∀ z, z ∈ l ↔ z ∈ m) → l = m
  | [], [], _, _, _ => rfl
  | [], b :: m, _, _, h => by have := (h b).mpr List.mem_cons_self; cases this
  | a :: l, [], _, _, h => by have := (h a).mp List.mem_cons_self; cases this
  | a :: l, b :: m, s, t, h => by
    obtain ⟨s1, s2⟩ := List.pairwise_cons.mp s
    obtain ⟨t1, t2⟩ := List.pairwise_cons.mp t
    have e : a = b := by
      rcases List.mem_cons.mp ((h a).mp List.mem_cons_self) with e | e
      · exact e
      · rcases List.mem_cons.mp ((h b).mpr List.mem_cons_self) with e2 | e2
        · exact e2.symm
        · have := t1 a e
          have := s1 b e2
          omega
    subst e
    congr 1
    refine ss_eq s2 t2 fun z => ⟨fun hz => ?_, fun hz => ?_⟩
    · rcases List.mem_cons.mp ((h z).mp (List.mem_cons_of_mem _ hz)) with e | e
      · have := s1 z hz; rw [e] at this; omega
      · exact e
    · rcases List.mem_cons.mp ((h z).mpr (List.mem_cons_of_mem _ hz)) with e | e
      · have := t1 z hz; rw [e] at this; omega
      · exact e
theorem nbOf_mem {p x : Int} {q : PI2} : x ∈ nbOf p q ↔ (q.1 = p ∧ x = q.2) ∨ (q.2 = p ∧ x = q.1) := by
  unfold nbOf
  rw [List.mem_append]
  by_cases a : q.1 = p <;> by_cases b : q.2 = p <;> simp [a, b]
theorem nb_nodup {ts : List PI2} (p : Int) (st : Str2 ts) (h : ∀ q ∈ ts, q.1 < q.2) : (nb ts p).Nodup := by
  unfold nb
  rw [List.nodup_iff_pairwise_ne, List.pairwise_flatMap]
  refine ⟨fun q hq => ?_, List.Pairwise.imp_of_mem (fun {a b} ha hb hab x hx y hy e => ?_) st⟩
  · have := h q hq
    unfold nbOf
    by_cases a : q.1 = p
    · have b : ¬ q.2 = p := by omega
      simp [a, b]
    · by_cases b : q.2 = p <;> simp [a, b]
  · subst e
    have h1 := h a ha
    have h2 := h b hb
    have : a = b := by
      rcases nbOf_mem.mp hx with ⟨x1, x2⟩ | ⟨x1, x2⟩ <;> rcases nbOf_mem.mp hy with ⟨y1, y2⟩ | ⟨y1, y2⟩
      · exact Prod.ext (by omega) (by omega)
      · omega
      · omega
      · exact Prod.ext (by omega) (by omega)
    rw [this] at hab
    exact absurd hab (Int.lt_irrefl _)
theorem near_ss {ts : List PI2} (p : Int) (st : Str2 ts) (h : ∀ q ∈ ts, q.1 < q.2) : SS (nearL ts p) := by
  have nd : (nearL ts p).Nodup := (List.mergeSort_perm (nb ts p) _).nodup_iff.mpr (nb_nodup p st h)
  have pw : (nearL ts p).Pairwise fun a b => (decide (a ≤ b)) = true := List.pairwise_mergeSort (fun a b c h1 h2 => by simp at *; omega) (fun a b => by simp; omega) _
  exact (pw.and nd).imp fun {a b} ⟨h1, h2⟩ => by
    have : a ≤ b := by simpa using h1
    have : a ≠ b := h2
    omega
def butL (ts : List PI2) (left : List Int) (p o : Int) : List Int := left.filter fun x => decide (x ≠ o) && decide (x ∈ nearL ts p)
theorem but_eq {ts : List PI2} {left : List Int} (p o : Int) (st : Str2 ts) (h : ∀ q ∈ ts, q.1 < q.2) (sl : SS left) : ((nearL ts p).filter fun x => decide (x ≠ o) && decide (x ∈ left)) = butL ts left p o := by
  unfold butL
  refine ss_eq ((near_ss p st h).filter _) (sl.filter _) fun z => ?_
  simp only [List.mem_filter, Bool.and_eq_true, decide_eq_true_eq]
  constructor
  · rintro ⟨a, b, c⟩; exact ⟨c, b, a⟩
  · rintro ⟨a, b, c⟩; exact ⟨c, b, a⟩
structure Wb (m : Int) (ts : List PI2) : Prop where
  st : Str2 ts
  up : ∀ q ∈ ts, q.1 < q.2
  few : ts.length ≤ 64
theorem nb_len (ts : List PI2) (p : Int) : (nb ts p).length ≤ 2 * ts.length := by
  induction ts with
  | nil => simp [nb]
  | cons q ts ih =>
    have : (nbOf p q).length ≤ 2 := by unfold nbOf; split <;> split <;> simp
    unfold nb at ih ⊢
    rw [List.flatMap_cons, List.length_append, List.length_cons]
    omega
theorem near_len (ts : List PI2) (p : Int) : (nearL ts p).length ≤ 2 * ts.length := by
  unfold nearL isort; rw [List.length_mergeSort]; exact nb_len ts p
section
variable {m : Int} {ts : List PI2} {left : List Int}
theorem but_ok (p o : Int) (wb : Wb m ts) (sl : SS left) : but_for_f [.im (webD m ts), VI p, VI o, .ref 0] [CI left] = .ok (.ref 1) [CI left, CI (butL ts left p o)] := by
  have tk : TsOk ts := ⟨wb.up, wb.few⟩
  unfold but_for_f
  rw [fnOf4]
  unfold but_for_b but_for_s0 but_for_c0
  have src : mSeq (eCall 2 near_f (mCons (eVar 0) (mCons (eVar 1) mNil))) [some (.im (webD m ts)), some (VI p), some (VI o), some (.ref 0), none] [CI left] = .ok ⟨(nearL ts p).map fun i => .im (.int i), []⟩ [CI left] := by
    simp [call2, near_ok' p tk, seq_tup]
  have g0 : (some (Val.im (webD m ts)) :: some (VI p) :: some (VI o) :: some (.ref 0) :: List.replicate (5 - 4) none : En) = [some (.im (webD m ts)), some (VI p), some (VI o), some (.ref 0), none] := rfl
  rw [g0, q_sRet, q_eComp, src]
  simp only [bind_ok, wE_cons, wE_nil, List.set_cons_succ, List.set_cons_zero]
  rw [compGo_fil (g := fun i => .im (.int i)) (fun x => decide (x ≠ o) && decide (x ∈ left)) (fun i => .int i) (by simp) _ (fun x _ => ⟨_, rfl, [CI left], ?_, by simp, fun _ => ⟨[CI left], by simp, by simp⟩⟩) (by have := near_len ts p; have := wb.few; omega)]
  · rw [but_eq p o wb.st wb.up sl]
    simp [fnFin]
  · have e := vIn_ref (k := 0) (h := [CI left]) (l := left) (x := x) rfl
    by_cases hx : x = o <;> simp [vNe, eqVal, hx, e]
theorem lbut_ok (p o : Int) (wb : Wb m ts) (hl : left.length ≤ 64) : _law_but_f [.im (webD m ts), VI p, VI o, .ref 0] [CI left] = .ok (.ref 1) [CI left, CI (butL ts left p o)] := by
  have tk : TsOk ts := ⟨wb.up, wb.few⟩
  unfold _law_but_f
  rw [fnOf4]
  unfold _law_but_b _law_but_s0 _law_but_c0
  have src : mSeq (eVar 3) [some (.im (webD m ts)), some (VI p), some (VI o), some (.ref 0), none] [CI left] = .ok ⟨left.map fun i => .im (.int i), [(0, left.map fun i => .im (.int i))]⟩ [CI left] := by
    simp [seqSrc, imsOf_mapf]
  have g0 : (some (Val.im (webD m ts)) :: some (VI p) :: some (VI o) :: some (.ref 0) :: List.replicate (5 - 4) none : En) = [some (.im (webD m ts)), some (VI p), some (VI o), some (.ref 0), none] := rfl
  rw [g0, q_sRet, q_eComp, src]
  simp only [bind_ok, wE_cons, wE_nil, List.set_cons_succ, List.set_cons_zero]
  rw [compGo_fil (g := fun i => .im (.int i)) (fun x => decide (x ≠ o) && decide (x ∈ nearL ts p)) (fun i => .int i) (okAt_one (by simp)) _ (fun x _ => ⟨_, rfl, [CI left], ?_, by simp, fun _ => ⟨[CI left], by simp, by simp⟩⟩) (by omega)]
  · simp [fnFin, butL]
  · have e := vIn_tupI (h := [CI left]) (l := nearL ts p) (x := x)
    by_cases hx : x = o <;> simp [vNe, eqVal, hx, call2, lnear_ok p tk, e]
end
end NT

set_option Elab.async false
set_option linter.all false
set_option maxRecDepth 100000
set_option autoImplicit false
set_option maxHeartbeats 1000000

namespace NT
open PySem PySem.Spec PyProof.Rows L2 PySem.W
def canO (ts : List PI2) (left : List Int) (p o : Int) : Bool := decide (o ≠ p) && (decide (butL ts left p o = []) || decide (butL ts left p o = butL ts left o p))
def canL (ts : List PI2) (left : List Int) (p : Int) : Bool := left.any (canO ts left p)
section
variable {m : Int} {ts : List PI2} {left : List Int}
/-- the loop that looks for another place, in the law's words and in the program's -/
def JC (m : Int) (ts : List PI2) (left : List Int) (p : Int) : List Int → En → Hs → Prop := fun r ρ h => (∃ v3 x4 r0, ρ = [some (.im (webD m ts)), some (VI p), some (.ref 0), v3, x4] ∧ ((x4 = none ∧ h = [CI left]) ∨ (x4 = some (.ref 1) ∧ h = [CI left, CI r0]))) ∧ r.any (canO ts left p) = canL ts left p
def QC (ts : List PI2) (left : List Int) (p : Int) : RS → Prop := fun x => (canL ts left p = false ∧ ∃ ρ h, x = .nx ρ h ∧ trunc 1 h = [CI left]) ∨ (canL ts left p = true ∧ ∃ h, x = .rt (.im (.bool true)) h ∧ trunc 1 h = [CI left])
theorem can_step (p : Int) (wb : Wb m ts) (sl : SS left) : ForStep can_leave_l0 1 ⟨left.map fun i => .im (.int i), [(0, left.map fun i => .im (.int i))]⟩ (.nm 3) (fun i => .im (.int i)) (JC m ts left p) (QC ts left p) := by
  rintro o r ρ h ⟨⟨v3, x4, r0, rfl, hx⟩, e⟩
  have key : ∀ h0 : Hs, h0[0]? = some (CI left) → callFn but_for_f [.im (webD m ts), VI p, VI o, .ref 0] h0 = .ok (.ref h0.length) (h0 ++ [CI (butL ts left p o)]) ∧ callFn but_for_f [.im (webD m ts), VI o, VI p, .ref 0] h0 = .ok (.ref h0.length) (h0 ++ [CI (butL ts left o p)]) := fun h0 e0 => ⟨call_b4 e0 (but_ok p o wb sl), call_b4 e0 (but_ok o p wb sl)⟩
  have hz : h[0]? = some (.lst (left.map fun i => .im (.int i))) := by rcases hx with ⟨_, rfl⟩ | ⟨_, rfl⟩ <;> rfl
  refine ⟨okAt_one hz, _, rfl, ?_⟩
  rw [List.any_cons] at e
  unfold can_leave_l0
  by_cases op : o = p
  · subst op
    have e' : r.any (canO ts left o) = canL ts left o := by rw [← e]; simp [canO]
    have : ∀ ρ, tst (e2 (eVar 3) (eVar 1) vNe) ([some (.im (webD m ts)), some (VI o), some (.ref 0), some (VI o), x4] : En) ρ = .ok false ρ := fun ρ => by simp [vNe, eqVal]
    simp only [List.set_cons_succ, List.set_cons_zero, q_sIf, this, Bool.false_eq_true, if_false, q_sNil, trunc_self]
    exact ⟨⟨_, x4, r0, rfl, hx⟩, e'⟩
  · have t1 : ∀ h0, tst (e2 (eVar 3) (eVar 1) vNe) ([some (.im (webD m ts)), some (VI p), some (.ref 0), some (VI o), x4] : En) h0 = .ok true h0 := fun h0 => by simp [vNe, eqVal, op]
    have as1 : sSet 4 (eCall 4 but_for_f (mCons (eVar 0) (mCons (eVar 1) (mCons (eVar 3) (mCons (eVar 2) mNil))))) 1 [some (.im (webD m ts)), some (VI p), some (.ref 0), some (VI o), x4] h = .nx [some (.im (webD m ts)), some (VI p), some (.ref 0), some (VI o), some (.ref 1)] [CI left, CI (butL ts left p o)] := by
      rcases hx with ⟨rfl, rfl⟩ | ⟨rfl, rfl⟩
      · have k1 := (key [CI left] rfl).1
        simp only [List.length_cons, List.length_nil, Nat.zero_add, List.cons_append, List.nil_append] at k1
        simp [k1, asgn, reuse]
      · have k1 := (key [CI left, CI r0] rfl).1
        simp only [List.length_cons, List.length_nil, Nat.zero_add, List.cons_append, List.nil_append, Nat.reduceAdd] at k1
        simp [k1, asgn, reuse]
    have k2 := (key [CI left, CI (butL ts left p o), .lst []] rfl).2
    simp only [List.length_cons, List.length_nil, Nat.zero_add, List.cons_append, List.nil_append, Nat.reduceAdd] at k2
    have q1 := eqRef (neg := false) (j := 1) (k := 2) (h := [CI left, CI (butL ts left p o), .lst []]) (l := butL ts left p o) (r := []) rfl rfl
    have q2 := eqRef (neg := false) (j := 1) (k := 3) (h := [CI left, CI (butL ts left p o), .lst [], CI (butL ts left o p)]) (l := butL ts left p o) (r := butL ts left o p) rfl rfl
    simp only [List.set_cons_succ, List.set_cons_zero, q_sIf, t1, if_true, q_sSeq, trunc_self, as1]
    have cs : ∃ h2, mOr (tst (e2 (eVar 4) (eLst mNil) vEq)) (tst (e2 (eVar 4) (eCall 4 but_for_f (mCons (eVar 0) (mCons (eVar 3) (mCons (eVar 1) (mCons (eVar 2) mNil))))) vEq)) [some (.im (webD m ts)), some (VI p), some (.ref 0), some (VI o), some (.ref 1)] [CI left, CI (butL ts left p o)] = .ok (canO ts left p o) h2 ∧ trunc 2 h2 = [CI left, CI (butL ts left p o)] := by
      by_cases b1 : butL ts left p o = []
      · have hc : canO ts left p o = true := by simp [canO, op, b1]
        rw [decide_eq_true b1] at q1
        refine ⟨[CI left, CI (butL ts left p o), .lst []], ?_, by simp [trunc]⟩
        rw [hc]
        generalize butL ts left p o = b at q1
        simp [vEq, q1]
      · have hc : canO ts left p o = decide (butL ts left p o = butL ts left o p) := by simp [canO, op, b1]
        rw [decide_eq_false b1] at q1
        refine ⟨[CI left, CI (butL ts left p o), .lst [], CI (butL ts left o p)], ?_, by simp [trunc]⟩
        rw [hc]
        generalize butL ts left p o = b at q1 q2 k2
        generalize butL ts left o p = c at q1 q2 k2
        simp [vEq, q1, k2, q2]
    obtain ⟨h2, c1, c2⟩ := cs
    rw [c1]
    simp only [List.length_cons, List.length_nil, Nat.zero_add, Nat.reduceAdd, c2]
    cases hb : canO ts left p o with
    | true =>
      rw [hb, Bool.true_or] at e
      simp only [if_true, q_sRet, q_eC]
      exact .inr ⟨e.symm, _, rfl, by simp [trunc]⟩
    | false =>
      rw [hb, Bool.false_or] at e
      simp only [Bool.false_eq_true, if_false, q_sNil]
      exact ⟨⟨_, _, _, rfl, .inr ⟨rfl, rfl⟩⟩, e⟩
theorem lcan_step (p : Int) (wb : Wb m ts) (hl : left.length ≤ 64) : ForStep _law_can_l0 1 ⟨left.map fun i => .im (.int i), [(0, left.map fun i => .im (.int i))]⟩ (.nm 3) (fun i => .im (.int i)) (JC m ts left p) (QC ts left p) := by
  rintro o r ρ h ⟨⟨v3, x4, r0, rfl, hx⟩, e⟩
  have key : ∀ h0 : Hs, h0[0]? = some (CI left) → callFn _law_but_f [.im (webD m ts), VI p, VI o, .ref 0] h0 = .ok (.ref h0.length) (h0 ++ [CI (butL ts left p o)]) ∧ callFn _law_but_f [.im (webD m ts), VI o, VI p, .ref 0] h0 = .ok (.ref h0.length) (h0 ++ [CI (butL ts left o p)]) := fun h0 e0 => ⟨call_b4 e0 (lbut_ok p o wb hl), call_b4 e0 (lbut_ok o p wb hl)⟩
  have hz : h[0]? = some (.lst (left.map fun i => .im (.int i))) := by rcases hx with ⟨_, rfl⟩ | ⟨_, rfl⟩ <;> rfl
  refine ⟨okAt_one hz, _, rfl, ?_⟩
  rw [List.any_cons] at e
  unfold _law_can_l0
  by_cases op : o = p
  · subst op
    have e' : r.any (canO ts left o) = canL ts left o := by rw [← e]; simp [canO]
    have : ∀ ρ, tst (e2 (eVar 3) (eVar 1) vNe) ([some (.im (webD m ts)), some (VI o), some (.ref 0), some (VI o), x4] : En) ρ = .ok false ρ := fun ρ => by simp [vNe, eqVal]
    simp only [List.set_cons_succ, List.set_cons_zero, q_sIf, this, Bool.false_eq_true, if_false, q_sNil, trunc_self]
    exact ⟨⟨_, x4, r0, rfl, hx⟩, e'⟩
  · have t1 : ∀ h0, tst (e2 (eVar 3) (eVar 1) vNe) ([some (.im (webD m ts)), some (VI p), some (.ref 0), some (VI o), x4] : En) h0 = .ok true h0 := fun h0 => by simp [vNe, eqVal, op]
    have as1 : sSet 4 (eCall 4 _law_but_f (mCons (eVar 0) (mCons (eVar 1) (mCons (eVar 3) (mCons (eVar 2) mNil))))) 1 [some (.im (webD m ts)), some (VI p), some (.ref 0), some (VI o), x4] h = .nx [some (.im (webD m ts)), some (VI p), some (.ref 0), some (VI o), some (.ref 1)] [CI left, CI (butL ts left p o)] := by
      rcases hx with ⟨rfl, rfl⟩ | ⟨rfl, rfl⟩
      · have k1 := (key [CI left] rfl).1
        simp only [List.length_cons, List.length_nil, Nat.zero_add, List.cons_append, List.nil_append] at k1
        simp [k1, asgn, reuse]
      · have k1 := (key [CI left, CI r0] rfl).1
        simp only [List.length_cons, List.length_nil, Nat.zero_add, List.cons_append, List.nil_append, Nat.reduceAdd] at k1
        simp [k1, asgn, reuse]
    have k2 := (key [CI left, CI (butL ts left p o), .lst []] rfl).2
    simp only [List.length_cons, List.length_nil, Nat.zero_add, List.cons_append, List.nil_append, Nat.reduceAdd] at k2
    simp only [List.set_cons_succ, List.set_cons_zero, q_sIf, t1, if_true, q_sSeq, trunc_self, as1]
    have cs : ∃ h2, tst (e2 (eVar 4) (eTup (mCons (eLst mNil) (mCons (eCall 4 _law_but_f (mCons (eVar 0) (mCons (eVar 3) (mCons (eVar 1) (mCons (eVar 2) mNil))))) mNil))) (vInS false)) [some (.im (webD m ts)), some (VI p), some (.ref 0), some (VI o), some (.ref 1)] [CI left, CI (butL ts left p o)] = .ok (canO ts left p o) h2 ∧ trunc 2 h2 = [CI left, CI (butL ts left p o)] := by
      have hc : canO ts left p o = (decide ([] = butL ts left p o) || decide (butL ts left o p = butL ts left p o)) := by
        unfold canO
        rw [decide_eq_true (show o ≠ p from op), Bool.true_and, show decide (butL ts left p o = []) = decide ([] = butL ts left p o) from decide_eq_decide.mpr eq_comm, show decide (butL ts left p o = butL ts left o p) = decide (butL ts left o p = butL ts left p o) from decide_eq_decide.mpr eq_comm]
      refine ⟨[CI left, CI (butL ts left p o), .fz (.list []), .fz (.list ((butL ts left o p).map .int))], ?_, by simp [trunc]⟩
      rw [hc]
      generalize butL ts left p o = b at k2
      generalize butL ts left o p = c at k2
      have i1 : imsOf (c.map fun i => Val.im (.int i)) = some (c.map PyData.int) := imsOf_mapf PyData.int _
      have i2 : imsOf (b.map fun i => Val.im (.int i)) = some (b.map PyData.int) := imsOf_mapf PyData.int _
      have et : eTup (mCons (eLst mNil) (mCons (eCall 4 _law_but_f (mCons (eVar 0) (mCons (eVar 3) (mCons (eVar 1) (mCons (eVar 2) mNil))))) mNil)) [some (.im (webD m ts)), some (VI p), some (.ref 0), some (VI o), some (.ref 1)] [CI left, CI b] = .ok (.im (.tuple [.list [], .list (c.map .int)])) [CI left, CI b, .fz (.list []), .fz (.list (c.map .int))] := by
        simp [k2, frzL, frz, imsOf, i1]
      have vi : vInS false (.ref 1) (.im (.tuple [.list [], .list (c.map .int)])) [CI left, CI b, .fz (.list []), .fz (.list (c.map .int))] = .ok (.im (.bool (decide ([] = b) || decide (c = b)))) [CI left, CI b, .fz (.list []), .fz (.list (c.map .int))] := by
        have j1 := eqv_lists [] b
        have j2 := eqv_lists c b
        rw [List.map_nil] at j1
        have ok : (okD 8 (.list (b.map .int)) && okD 9 (.tuple [.list [], .list (c.map .int)])) = true := by simp [okD]
        simp only [vInS, rdD, List.getElem?_cons_succ, List.getElem?_cons_zero, i2, Option.map_some]
        rw [if_pos ok]
        simp only [List.any_cons, List.any_nil, j1, j2, Bool.or_false, Bool.false_xor]
      rw [q_tst, q_e2]
      simp only [q_eVar, List.getElem?_cons_succ, List.getElem?_cons_zero, bind_ok, et, vi, q_vB]
    obtain ⟨h2, c1, c2⟩ := cs
    rw [c1]
    simp only [List.length_cons, List.length_nil, Nat.zero_add, Nat.reduceAdd, c2]
    cases hb : canO ts left p o with
    | true =>
      rw [hb, Bool.true_or] at e
      simp only [if_true, q_sRet, q_eC]
      exact .inr ⟨e.symm, _, rfl, by simp [trunc]⟩
    | false =>
      rw [hb, Bool.false_or] at e
      simp only [Bool.false_eq_true, if_false, q_sNil]
      exact ⟨⟨_, _, _, rfl, .inr ⟨rfl, rfl⟩⟩, e⟩
theorem src_left {ρ : En} : ρ[2]? = some (some (.ref 0)) → mSeq (eVar 2) ρ [CI left] = .ok ⟨left.map fun i => .im (.int i), [(0, left.map fun i => .im (.int i))]⟩ [CI left] := fun e => by
  simp [seqSrc, imsOf_mapf, e]
theorem can_ok (p : Int) (wb : Wb m ts) (sl : SS left) : can_leave_f [.im (webD m ts), VI p, .ref 0] [CI left] = .ok (.im (.bool (canL ts left p))) [CI left] := by
  have hq := forGo_inv (JC m ts left p) (QC ts left p) (can_step p wb sl) (by
    rintro ρ h ⟨⟨v3, x4, r0, rfl, hx⟩, e⟩
    refine ⟨okAt_one (by rcases hx with ⟨_, rfl⟩ | ⟨_, rfl⟩ <;> rfl), .inl ⟨e.symm, _, _, rfl, ?_⟩⟩
    rcases hx with ⟨_, rfl⟩ | ⟨_, rfl⟩ <;> simp [trunc]) left [some (.im (webD m ts)), some (VI p), some (.ref 0), none, none] [CI left] ⟨⟨none, none, [], rfl, .inl ⟨rfl, rfl⟩⟩, rfl⟩
  unfold can_leave_f
  rw [fnOf3]
  unfold can_leave_b can_leave_s0 can_leave_s1
  have g0 : (some (Val.im (webD m ts)) :: some (VI p) :: some (.ref 0) :: List.replicate (5 - 3) none : En) = [some (.im (webD m ts)), some (VI p), some (.ref 0), none, none] := rfl
  have pin : max [CI left].length (Src.pin ⟨left.map fun i => .im (.int i), [(0, left.map fun i => .im (.int i))]⟩ [CI left].length) = 1 := by simp [Src.pin]
  simp only [g0, q_sSeq, q_sFor, src_left (show ([some (.im (webD m ts)), some (VI p), some (.ref 0), none, none] : En)[2]? = _ from rfl), pin]
  rcases hq with ⟨c, ρ, h, e, t⟩ | ⟨c, h, e, t⟩
  · rw [e, c]; simp [t]
  · rw [e, c]; simp [t]
theorem lcan_ok (p : Int) (wb : Wb m ts) (hl : left.length ≤ 64) : _law_can_f [.im (webD m ts), VI p, .ref 0] [CI left] = .ok (.im (.bool (canL ts left p))) [CI left] := by
  have hq := forGo_inv (JC m ts left p) (QC ts left p) (lcan_step p wb hl) (by
    rintro ρ h ⟨⟨v3, x4, r0, rfl, hx⟩, e⟩
    refine ⟨okAt_one (by rcases hx with ⟨_, rfl⟩ | ⟨_, rfl⟩ <;> rfl), .inl ⟨e.symm, _, _, rfl, ?_⟩⟩
    rcases hx with ⟨_, rfl⟩ | ⟨_, rfl⟩ <;> simp [trunc]) left [some (.im (webD m ts)), some (VI p), some (.ref 0), none, none] [CI left] ⟨⟨none, none, [], rfl, .inl ⟨rfl, rfl⟩⟩, rfl⟩
  unfold _law_can_f
  rw [fnOf3]
  unfold _law_can_b _law_can_s0 _law_can_s1
  have g0 : (some (Val.im (webD m ts)) :: some (VI p) :: some (.ref 0) :: List.replicate (5 - 3) none : En) = [some (.im (webD m ts)), some (VI p), some (.ref 0), none, none] := rfl
  have pin : max [CI left].length (Src.pin ⟨left.map fun i => .im (.int i), [(0, left.map fun i => .im (.int i))]⟩ [CI left].length) = 1 := by simp [Src.pin]
  simp only [g0, q_sSeq, q_sFor, src_left (show ([some (.im (webD m ts)), some (VI p), some (.ref 0), none, none] : En)[2]? = _ from rfl), pin]
  rcases hq with ⟨c, ρ, h, e, t⟩ | ⟨c, h, e, t⟩
  · rw [e, c]; simp [t]
  · rw [e, c]; simp [t]
end
end NT

set_option Elab.async false
set_option linter.all false
set_option maxRecDepth 100000
set_option autoImplicit false
set_option maxHeartbeats 1000000

namespace NT
open PySem PySem.Spec PyProof.Rows L2 PySem.W
def clB (ts : List PI2) (ev : List Int) (p : PI2) : Bool := decide (butL ts ev p.1 p.2 = []) || (decide (butL ts ev p.2 p.1 = []) || decide (butL ts ev p.1 p.2 = butL ts ev p.2 p.1))
theorem ss_rg (lo : Int) (n : Nat) : SS (rg lo n) := by
  unfold SS rg
  rw [List.pairwise_map]
  exact List.pairwise_lt_range.imp fun h => by omega
section
variable {m : Int} {ts : List PI2} {ev : List Int}
theorem idxm {h : Hs} : vIdx (.im (webD m ts)) (VI 0) h = .ok (VI m) h := by
  simp [vIdx, webD, itemsOf, atI, ixN]
theorem pushP {k : Nat} {h : Hs} {x : PI2} {r : List PI2} (e : h[k]? = some (CP r)) (hl : r.length < 16777216) : mAppend (.ref k) [.im (pD x)] h = .ok (.im .none) (h.set k (CP (r ++ [x]))) := by
  have : (r ++ [x]).map (fun i => Val.im (pD i)) = r.map (fun i => Val.im (pD i)) ++ [.im (pD x)] := by simp
  simp only [mAppend, e, List.length_map, hl, if_true, CP, this]
theorem isL_P {k : Nat} {h : Hs} {r : List PI2} (e : h[k]? = some (CP r)) : isL (.ref k) h = true := by simp [lstOf, e]
abbrev EC (m : Int) (ts : List PI2) (v3 v4 x5 x6 : Option Val) : En := [some (.im (webD m ts)), some (.ref 0), some (.ref 1), v3, v4, x5, x6]
/-- one pair, in the program -/
theorem cl_turn {p q : Int} {f : List PI2} {x5 x6 : Option Val} {h : Hs} {u v : List Int} (wb : Wb m ts) (sl : SS ev) (hf : f.length < 1000)
    (hx : (x5 = none ∧ x6 = none ∧ h = [CP f, CI ev]) ∨ (x5 = some (.ref 2) ∧ x6 = some (.ref 3) ∧ h = [CP f, CI ev, CI u, CI v])) :
    close_places_l0 2 (EC m ts (some (VI p)) (some (VI q)) x5 x6) h = .nx (EC m ts (some (VI p)) (some (VI q)) (some (.ref 2)) (some (.ref 3))) [CP (if clB ts ev (p, q) = true then f ++ [(p, q)] else f), CI ev, CI (butL ts ev p q), CI (butL ts ev q p)] := by
  have key : ∀ h0 : Hs, h0[1]? = some (CI ev) → ∀ a b : Int, callFn but_for_f [.im (webD m ts), VI a, VI b, .ref 1] h0 = .ok (.ref h0.length) (h0 ++ [CI (butL ts ev a b)]) := fun h0 e0 a b => call_b4 e0 (but_ok a b wb sl)
  have hcl : clB ts ev (p, q) = (decide (butL ts ev p q = []) || (decide (butL ts ev q p = []) || decide (butL ts ev p q = butL ts ev q p))) := rfl
  generalize hb : butL ts ev p q = b at hcl
  generalize hc : butL ts ev q p = c at hcl
  have s1 : ∃ z, sSet 5 (eCall 4 but_for_f (mCons (eVar 0) (mCons (eVar 3) (mCons (eVar 4) (mCons (eVar 2) mNil))))) 2 (EC m ts (some (VI p)) (some (VI q)) x5 x6) h = .nx (EC m ts (some (VI p)) (some (VI q)) (some (.ref 2)) x6) z ∧ ((x6 = none ∧ z = [CP f, CI ev, CI b]) ∨ (x6 = some (.ref 3) ∧ z = [CP f, CI ev, CI b, CI v])) := by
    rcases hx with ⟨rfl, rfl, rfl⟩ | ⟨rfl, rfl, rfl⟩
    · have k1 := key [CP f, CI ev] rfl p q
      rw [hb] at k1
      exact ⟨_, by simp [k1, asgn, reuse], .inl ⟨rfl, rfl⟩⟩
    · have k1 := key [CP f, CI ev, CI u, CI v] rfl p q
      rw [hb] at k1
      exact ⟨_, by simp [k1, asgn, reuse], .inr ⟨rfl, rfl⟩⟩
  obtain ⟨z, e1, hz⟩ := s1
  have s2 : sSet 6 (eCall 4 but_for_f (mCons (eVar 0) (mCons (eVar 4) (mCons (eVar 3) (mCons (eVar 2) mNil))))) 2 (EC m ts (some (VI p)) (some (VI q)) (some (.ref 2)) x6) z = .nx (EC m ts (some (VI p)) (some (VI q)) (some (.ref 2)) (some (.ref 3))) [CP f, CI ev, CI b, CI c] := by
    rcases hz with ⟨rfl, rfl⟩ | ⟨rfl, rfl⟩
    · have k1 := key [CP f, CI ev, CI b] rfl q p
      rw [hc] at k1
      simp [k1, asgn, reuse]
    · have k1 := key [CP f, CI ev, CI b, CI v] rfl q p
      rw [hc] at k1
      simp [k1, asgn, reuse]
  have s3 : ∃ h2, mOr (tst (e2 (eVar 5) (eLst mNil) vEq)) (mOr (tst (e2 (eVar 6) (eLst mNil) vEq)) (tst (e2 (eVar 5) (eVar 6) vEq))) (EC m ts (some (VI p)) (some (VI q)) (some (.ref 2)) (some (.ref 3))) [CP f, CI ev, CI b, CI c] = .ok (clB ts ev (p, q)) h2 ∧ trunc 4 h2 = [CP f, CI ev, CI b, CI c] := by
    have q1 := eqRef (neg := false) (j := 2) (k := 4) (h := [CP f, CI ev, CI b, CI c, .lst []]) (l := b) (r := []) rfl rfl
    have q2 := eqRef (neg := false) (j := 3) (k := 5) (h := [CP f, CI ev, CI b, CI c, .lst [], .lst []]) (l := c) (r := []) rfl rfl
    have q3 := eqRef (neg := false) (j := 2) (k := 3) (h := [CP f, CI ev, CI b, CI c, .lst [], .lst []]) (l := b) (r := c) rfl rfl
    rw [hcl]
    by_cases b1 : b = []
    · rw [decide_eq_true b1] at q1 ⊢
      exact ⟨[CP f, CI ev, CI b, CI c, .lst []], by simp [vEq, q1], by simp [trunc]⟩
    · rw [decide_eq_false b1] at q1 ⊢
      by_cases c1 : c = []
      · rw [decide_eq_true c1] at q2 ⊢
        exact ⟨[CP f, CI ev, CI b, CI c, .lst [], .lst []], by simp [vEq, q1, q2], by simp [trunc]⟩
      · rw [decide_eq_false c1] at q2 ⊢
        exact ⟨[CP f, CI ev, CI b, CI c, .lst [], .lst []], by simp [vEq, q1, q2, q3], by simp [trunc]⟩
  obtain ⟨h2, c1, c2⟩ := s3
  unfold close_places_l0
  rw [q_sSeq, e1]
  simp only
  rw [q_sSeq, s2]
  simp only
  rw [q_sIf, c1]
  simp only [List.length_cons, List.length_nil, Nat.zero_add, Nat.reduceAdd, c2]
  cases clB ts ev (p, q) with
  | false => simp
  | true =>
    have i2 := pushP (k := 0) (h := [CP f, CI ev, CI b, CI c]) (x := (p, q)) (r := f) rfl (by omega)
    have i3 := isL_P (k := 0) (h := [CP f, CI ev, CI b, CI c]) (r := f) rfl
    have et : eTup (mCons (eVar 3) (mCons (eVar 4) mNil)) (EC m ts (some (VI p)) (some (VI q)) (some (.ref 2)) (some (.ref 3))) [CP f, CI ev, CI b, CI c] = .ok (.im (pD (p, q))) [CP f, CI ev, CI b, CI c] := by simp [frzL, frz, pD]
    simp only [if_true, q_sExpr, q_eM, q_eVar, List.getElem?_cons_succ, List.getElem?_cons_zero, bind_ok, i3, q_mCons, q_mNil, et, i2, List.set_cons_succ, List.set_cons_zero, List.length_cons, List.length_nil, Nat.zero_add, Nat.reduceAdd, trunc_4]
/-- what stands while pairs are looked at -/
def JP (m : Int) (ts : List PI2) (ev : List Int) (done : List PI2) (ρ : En) (h : Hs) : Prop := ∃ v3 v4 x5 x6 u v, ρ = EC m ts v3 v4 x5 x6 ∧ (v3 = none ∨ ∃ i, v3 = some (VI i)) ∧ (v4 = none ∨ ∃ i, v4 = some (VI i)) ∧ ((x5 = none ∧ x6 = none ∧ h = [CP (done.filter (clB ts ev)), CI ev]) ∨ (x5 = some (.ref 2) ∧ x6 = some (.ref 3) ∧ h = [CP (done.filter (clB ts ev)), CI ev, CI u, CI v]))
theorem filter_snoc (f : PI2 → Bool) (l : List PI2) (a : PI2) : (l ++ [a]).filter f = if f a = true then l.filter f ++ [a] else l.filter f := by
  rw [List.filter_append]
  cases h : f a <;> simp [h]
theorem close_ok (wb : Wb m ts) (h0 : 1 ≤ m) (h1 : m ≤ 8) : close_places_f [.im (webD m ts)] [] = .ok (.ref 0) [CP ((pairsL m).filter (clB ts (rg 0 m.toNat)))] := by
  have pl := pairs_len (show 0 ≤ m by omega) h1
  have sl := ss_rg 0 m.toNat
  generalize hev : rg 0 m.toNat = ev at sl
  have inner : ∀ (a : Int) (done : List PI2) (ρ : En) (h : Hs), 0 ≤ a → a < m → done ++ pairsF m a <+: pairsL m → JP m ts ev done (ρ.set 3 (some (VI a))) h → ρ.length = 7 → ∃ ρ' h', close_places_l1 2 (ρ.set 3 (some (VI a))) h = .nx ρ' h' ∧ JP m ts ev (done ++ pairsF m a) ρ' h' := by
    intro a done ρ h a0 a1 pre j rl
    have s1 : smallI (a + 1) = true := smallI_of (by omega)
    have s2 : smallI m = true := smallI_of (by omega)
    have src : mRng2 (mCons (e2 (eVar 3) (eC (.int 1)) vAdd) (mCons (e2 (eVar 0) (eC (.int 0)) vIdx) mNil)) (ρ.set 3 (some (VI a))) h = .ok ⟨(rg (a + 1) (m - (a + 1)).toNat).map VI, []⟩ h := by
      obtain ⟨v3, v4, x5, x6, u, v, e, _⟩ := j
      refine src_rng2 ?_ s1 s2
      rw [e]
      have e3 : v3 = some (VI a) := by
        have := congrArg (fun l : En => l[3]?) e
        simpa [rl] using this.symm
      subst e3
      simp [vAdd, idxm]
    unfold close_places_l1
    rw [q_sFor, src]
    simp only [pin_VI, Nat.max_zero]
    have hpre : ∀ r : List Int, ∀ d : List PI2, d ++ r.map (fun b => (a, b)) = done ++ pairsF m a → d.length ≤ 28 := fun r d e => by
      have l1 := pre.length_le
      have l2 := congrArg List.length e
      simp only [List.length_append] at l1 l2
      omega
    refine forGo_inv (J := fun r ρ h => ∃ d, JP m ts ev d ρ h ∧ ρ[3]? = some (some (VI a)) ∧ d ++ r.map (fun b => (a, b)) = done ++ pairsF m a) (Q := fun x => ∃ ρ' h', x = .nx ρ' h' ∧ JP m ts ev (done ++ pairsF m a) ρ' h') ?_ ?_ _ _ _ ⟨done, j, by simp [rl], rfl⟩
    · rintro b r ρ h ⟨d, ⟨v3, v4, x5, x6, u, v, rfl, _, _, hx⟩, e3, e⟩
      simp at e3
      subst e3
      refine ⟨by simp, _, rfl, ?_⟩
      have dl := hpre _ _ e
      have fl : (d.filter (clB ts ev)).length < 1000 := Nat.lt_of_le_of_lt (List.length_filter_le _ _) (by omega)
      have ct := cl_turn (p := a) (q := b) wb sl fl hx
      simp only [List.set_cons_succ, List.set_cons_zero, ct]
      refine ⟨d ++ [(a, b)], ⟨_, _, _, _, _, _, rfl, .inr ⟨_, rfl⟩, .inr ⟨_, rfl⟩, .inr ⟨rfl, rfl, by rw [filter_snoc]⟩⟩, by simp, by simpa using e⟩
    · rintro ρ h ⟨d, jj, _, e⟩
      refine ⟨by simp, ρ, h, rfl, ?_⟩
      simp at e
      rw [← e]; exact jj
  have outer : ∃ ρ' h', forGo close_places_l1 (.nm 3) ⟨ev.map fun i => .im (.int i), [(1, ev.map fun i => .im (.int i))]⟩ 2 (ev.map fun i => .im (.int i)) (EC m ts none none none none) [CP [], CI ev] = .nx ρ' h' ∧ JP m ts ev (pairsL m) ρ' h' := by
    refine forGo_inv (J := fun r ρ h => ∃ d, JP m ts ev d ρ h ∧ d ++ r.flatMap (pairsF m) = pairsL m ∧ ∀ a ∈ r, 0 ≤ a ∧ a < m) (Q := fun x => ∃ ρ' h', x = .nx ρ' h' ∧ JP m ts ev (pairsL m) ρ' h') ?_ ?_ _ _ _ ⟨[], ⟨none, none, none, none, [], [], rfl, .inl rfl, .inl rfl, .inl ⟨rfl, rfl, rfl⟩⟩, by rw [← hev]; rfl, fun a ha => by rw [← hev] at ha; have := rg_mem ha; omega⟩
    · rintro a r ρ h ⟨d, jj, e, hr⟩
      obtain ⟨a0, a1⟩ := hr a List.mem_cons_self
      have jj' := jj
      obtain ⟨v3, v4, x5, x6, u, v, rfl, c3, c4, hx⟩ := jj
      have hz : h[1]? = some (.lst (ev.map fun i => .im (.int i))) := by rcases hx with ⟨_, _, rfl⟩ | ⟨_, _, rfl⟩ <;> rfl
      refine ⟨okAt_one hz, _, rfl, ?_⟩
      rw [List.flatMap_cons, ← List.append_assoc] at e
      obtain ⟨ρ', h', e2, j2⟩ := inner a d (EC m ts v3 v4 x5 x6) h a0 a1 ⟨_, e⟩ ⟨_, v4, x5, x6, u, v, rfl, .inr ⟨_, rfl⟩, c4, hx⟩ rfl
      rw [e2]
      exact ⟨_, j2, e, fun b hb => hr b (List.mem_cons_of_mem _ hb)⟩
    · rintro ρ h ⟨d, jj, e, _⟩
      simp at e
      subst e
      have jj' := jj
      obtain ⟨v3, v4, x5, x6, u, v, rfl, c3, c4, hx⟩ := jj
      have hz : h[1]? = some (.lst (ev.map fun i => .im (.int i))) := by rcases hx with ⟨_, _, rfl⟩ | ⟨_, _, rfl⟩ <;> rfl
      exact ⟨okAt_one hz, _, _, rfl, jj'⟩
  obtain ⟨ρ', h', eo, v3, v4, x5, x6, u, v, rfl, _, _, hx⟩ := outer
  have n1 : m ≤ 16777216 := by omega
  have n2 : -16777216 ≤ m := by omega
  have e0 : close_places_s0 0 [some (.im (webD m ts)), none, none, none, none, none, none] [] = .nx [some (.im (webD m ts)), some (.ref 0), none, none, none, none, none] [CP []] := by
    unfold close_places_s0
    simp [asgn, reuse]
  have e1 : close_places_s1 0 [some (.im (webD m ts)), some (.ref 0), none, none, none, none, none] [CP []] = .nx (EC m ts none none none none) [CP [], CI ev] := by
    unfold close_places_s1
    have : vRg1 (VI m) [CP []] = .ok (.ref 1) [CP [], CI ev] := by simp only [vRg1, n1, n2, if_true, rg0_eq, hev, List.length_cons, List.length_nil, Nat.zero_add, List.cons_append, List.nil_append]
    simp [idxm, this, asgn, reuse]
  have src : mSeq (eVar 2) (EC m ts none none none none) [CP [], CI ev] = .ok ⟨ev.map fun i => .im (.int i), [(1, ev.map fun i => .im (.int i))]⟩ [CP [], CI ev] := by
    simp [seqSrc, imsOf_mapf]
  have pin : max 0 (Src.pin ⟨ev.map fun i => .im (.int i), [(1, ev.map fun i => .im (.int i))]⟩ [CP [], CI ev].length) = 2 := by simp [Src.pin]
  unfold close_places_f
  rw [fnOf1]
  unfold close_places_b close_places_s2 close_places_s3
  have g0 : (some (Val.im (webD m ts)) :: List.replicate (7 - 1) none : En) = [some (.im (webD m ts)), none, none, none, none, none, none] := rfl
  simp only [g0, List.length_nil, q_sSeq, e0, e1, q_sFor, src, pin, eo]
  generalize (pairsL m).filter (clB ts ev) = R at hx
  rcases hx with ⟨_, _, rfl⟩ | ⟨_, _, rfl⟩ <;> simp [fnFin]
end
end NT

set_option Elab.async false
set_option linter.all false
set_option maxRecDepth 100000
set_option autoImplicit false
set_option maxHeartbeats 1000000

namespace NT
open PySem PySem.Spec PyProof.Rows L2 PySem.W
section
variable {m : Int} {ts : List PI2} {ev : List Int}
/-- cells that ask for no other -/
def Free (h : Hs) : Prop := ∀ c ∈ h, ∀ k, Cell.below k c = true
theorem Free.trunc {h : Hs} (f : Free h) (k : Nat) : NT.trunc k h = h.take k := trunc_take (List.all_eq_true.mpr fun c hc => f c (List.mem_of_mem_take hc) k)
theorem Free.snoc {h : Hs} (f : Free h) {c : Cell} (hc : ∀ k, Cell.below k c = true) : Free (h ++ [c]) := fun d hd => by
  rcases List.mem_append.mp hd with hd | hd
  · exact f d hd
  · rw [List.mem_singleton.mp hd]; exact hc
theorem Free.set {h : Hs} (f : Free h) {c : Cell} (hc : ∀ k, Cell.below k c = true) (n : Nat) : Free (h.set n c) := fun d hd => by
  rcases List.mem_or_eq_of_mem_set hd with hd | rfl
  · exact f d hd
  · exact hc
theorem below_CI (l : List Int) (k : Nat) : Cell.below k (CI l) = true := by simp
theorem below_CP (l : List PI2) (k : Nat) : Cell.below k (CP l) = true := by simp
/-- one pair, in the law -/
theorem lcl_turn {p q : Int} {f : List PI2} {x5 x6 : Option Val} {h : Hs} (wb : Wb m ts) (sl : ev.length ≤ 64) (hf : f.length < 1000) (h0 : h[0]? = some (CP f)) (h1 : h[1]? = some (CI ev)) (fr : Free h) :
    ∃ x5' x6' h', _law_close_l0 0 (EC m ts (some (VI p)) (some (VI q)) x5 x6) h = .nx (EC m ts (some (VI p)) (some (VI q)) x5' x6') h' ∧ h'[0]? = some (CP (if clB ts ev (p, q) = true then f ++ [(p, q)] else f)) ∧ h'[1]? = some (CI ev) ∧ Free h' := by
  have hcl : clB ts ev (p, q) = (decide (butL ts ev p q = []) || (decide (butL ts ev q p = []) || decide (butL ts ev p q = butL ts ev q p))) := rfl
  have l2 : 2 ≤ h.length := (List.getElem?_eq_some_iff.mp h1).1
  have k1 := call_b4 (s := _law_but_f) h1 (lbut_ok p q wb sl)
  have h1' : (h ++ [CI (butL ts ev p q)])[1]? = some (CI ev) := by rw [List.getElem?_append_left (by omega)]; exact h1
  have k2 := call_b4 (s := _law_but_f) h1' (lbut_ok q p wb sl)
  generalize butL ts ev p q = b at hcl k1 k2
  generalize butL ts ev q p = c at hcl k1 k2
  let n := h.length
  let H : Hs := h ++ [CI b] ++ [CI c]
  have lH : H.length = n + 2 := by simp [H, n]
  have s1 : sPar 5 6 (mCons (eCall 4 _law_but_f (mCons (eVar 0) (mCons (eVar 3) (mCons (eVar 4) (mCons (eVar 2) mNil))))) (mCons (eCall 4 _law_but_f (mCons (eVar 0) (mCons (eVar 4) (mCons (eVar 3) (mCons (eVar 2) mNil))))) mNil)) 0 (EC m ts (some (VI p)) (some (VI q)) x5 x6) h = .nx (EC m ts (some (VI p)) (some (VI q)) (some (.ref n)) (some (.ref (n + 1)))) H := by
    have e : mCons (eCall 4 _law_but_f (mCons (eVar 0) (mCons (eVar 3) (mCons (eVar 4) (mCons (eVar 2) mNil))))) (mCons (eCall 4 _law_but_f (mCons (eVar 0) (mCons (eVar 4) (mCons (eVar 3) (mCons (eVar 2) mNil))))) mNil) (EC m ts (some (VI p)) (some (VI q)) x5 x6) h = .ok [.ref n, .ref (n + 1)] H := by
      simp only [q_mCons, q_mNil, q_eCall, q_eVar, List.getElem?_cons_succ, List.getElem?_cons_zero, bind_ok, List.length_cons, List.length_nil, Nat.zero_add, Nat.reduceAdd, if_true, k1, k2, List.length_append]
      rfl
    unfold sPar
    rw [e]
    simp [trunc2]
  have Hn : H[n]? = some (CI b) := by simp [H, n]
  have Hn1 : H[n + 1]? = some (CI c) := by simp [H, n]
  have H0 : H[0]? = some (CP f) := by
    show (h ++ [CI b] ++ [CI c])[0]? = _
    rw [List.append_assoc, List.getElem?_append_left (by omega)]; exact h0
  have H1 : H[1]? = some (CI ev) := by
    show (h ++ [CI b] ++ [CI c])[1]? = _
    rw [List.append_assoc, List.getElem?_append_left (by omega)]; exact h1
  have Fr : Free H := (fr.snoc (below_CI b)).snoc (below_CI c)
  clear_value H
  -- the question
  let H4 : Hs := (H.set n (.fz (.list (b.map .int)))).set (n + 1) (.fz (.list (c.map .int)))
  have Fr4 : Free H4 := (Fr.set (fun _ => rfl) _).set (fun _ => rfl) _
  have l4 : H4.length = n + 2 := by simp [H4, lH]
  have H40 : H4[0]? = some (CP f) := by
    show ((H.set n _).set (n + 1) _)[0]? = _
    rw [List.getElem?_set_ne (by omega), List.getElem?_set_ne (by omega)]; exact H0
  have H41 : H4[1]? = some (CI ev) := by
    show ((H.set n _).set (n + 1) _)[1]? = _
    rw [List.getElem?_set_ne (by omega), List.getElem?_set_ne (by omega)]; exact H1
  have i1 : imsOf (b.map fun i => Val.im (.int i)) = some (b.map PyData.int) := imsOf_mapf PyData.int _
  have i2 : imsOf (c.map fun i => Val.im (.int i)) = some (c.map PyData.int) := imsOf_mapf PyData.int _
  have fz : frzL [.ref n, .ref (n + 1)] (H ++ [Cell.lst []]) = some ([.list (b.map .int), .list (c.map .int)], H4 ++ [Cell.lst []]) := by
    have a1 : (H ++ [Cell.lst []])[n]? = some (CI b) := by rw [List.getElem?_append_left (by omega)]; exact Hn
    have a2 : ((H ++ [Cell.lst []]).set n (.fz (.list (b.map .int))))[n + 1]? = some (CI c) := by
      rw [List.getElem?_set_ne (by omega), List.getElem?_append_left (by omega)]; exact Hn1
    have a3 : ((H ++ [Cell.lst []]).set n (.fz (.list (b.map .int)))).set (n + 1) (.fz (.list (c.map .int))) = H4 ++ [Cell.lst []] := by
      rw [List.set_append_left _ _ (by omega), List.set_append_left _ _ (by rw [List.length_set]; omega)]
    have f1 : frz (.ref n) (H ++ [Cell.lst []]) = some (.list (b.map .int), (H ++ [Cell.lst []]).set n (.fz (.list (b.map .int)))) := by
      simp only [frz, a1, i1]; rfl
    have f2 : frz (.ref (n + 1)) ((H ++ [Cell.lst []]).set n (.fz (.list (b.map .int)))) = some (.list (c.map .int), H4 ++ [Cell.lst []]) := by
      simp only [frz, a2, i2]; rw [← a3]; rfl
    simp [frzL, f1, f2]
  have vi : vInS false (.ref (n + 2)) (.im (.tuple [.list (b.map .int), .list (c.map .int)])) (H4 ++ [Cell.lst []]) = .ok (.im (.bool (decide (b = []) || decide (c = [])))) (H4 ++ [Cell.lst []]) := by
    have j1 := eqv_lists b []
    have j2 := eqv_lists c []
    rw [List.map_nil] at j1 j2
    have ok : (okD 8 (.list []) && okD 9 (.tuple [.list (b.map .int), .list (c.map .int)])) = true := by simp [okD]
    have r0 : rdD (H4 ++ [Cell.lst []]) (.ref (n + 2)) = some (.list []) := by
      simp only [rdD]
      rw [List.getElem?_append_right (by omega), l4, Nat.sub_self]
      rfl
    have r9 : rdD (H4 ++ [Cell.lst []]) (.im (.tuple [.list (b.map .int), .list (c.map .int)])) = some (.tuple [.list (b.map .int), .list (c.map .int)]) := rfl
    simp only [vInS, r0, r9]
    rw [if_pos ok]
    simp only [List.any_cons, List.any_nil, j1, j2, Bool.or_false, Bool.false_xor]
  have ve : vEq (.ref n) (.ref (n + 1)) (H4 ++ [Cell.lst []]) = .ok (.im (.bool (decide (b = c)))) (H4 ++ [Cell.lst []]) := by
    have r1 : rdD (H4 ++ [Cell.lst []]) (.ref n) = some (.list (b.map .int)) := by
      simp only [rdD]
      rw [List.getElem?_append_left (by omega), List.getElem?_set_ne (by omega), List.getElem?_set_self (by omega)]
    have r2 : rdD (H4 ++ [Cell.lst []]) (.ref (n + 1)) = some (.list (c.map .int)) := by
      simp only [rdD]
      rw [List.getElem?_append_left (by omega), List.getElem?_set_self (by rw [List.length_set]; omega)]
    simp only [vEq, eqVal, eqD, r1, r2]
    rw [if_pos (by simp only [okD, okD_ints, Bool.and_self]), eqv_lists, Bool.false_xor]
  have tr : trunc (n + 2) (H4 ++ [Cell.lst []]) = H4 := by
    rw [(Fr4.snoc (fun _ => rfl)).trunc, ← l4, List.take_left]
  have cond : mOr (tst (e2 (eLst mNil) (eTup (mCons (eVar 5) (mCons (eVar 6) mNil))) (vInS false))) (tst (e2 (eVar 5) (eVar 6) vEq)) (EC m ts (some (VI p)) (some (VI q)) (some (.ref n)) (some (.ref (n + 1)))) H = .ok (clB ts ev (p, q)) (H4 ++ [Cell.lst []]) := by
    rw [hcl]
    have z : ([] : List Val).length ≤ 16777216 := by decide
    have z2 : ([.list (b.map .int), .list (c.map .int)] : List PyData).length ≤ 16777216 := by simp
    simp only [q_mOr, q_tst, q_e2, q_eLst, q_mNil, bind_ok, if_pos z, q_eTup, q_mCons, q_eVar, List.getElem?_cons_succ, List.getElem?_cons_zero, fz, if_pos z2, lH, vi, q_vB]
    cases hh : (decide (b = []) || decide (c = [])) with
    | true =>
      have : (decide (b = []) || (decide (c = []) || decide (b = c))) = true := by rw [← Bool.or_assoc, hh, Bool.true_or]
      rw [this]; simp
    | false =>
      have : (decide (b = []) || (decide (c = []) || decide (b = c))) = decide (b = c) := by rw [← Bool.or_assoc, hh, Bool.false_or]
      rw [this]; simp [ve]
  clear_value H4
  unfold _law_close_l0
  rw [q_sSeq, s1]
  simp only
  rw [q_sIf, cond]
  simp only [lH, tr]
  cases clB ts ev (p, q) with
  | false => exact ⟨some (.ref n), some (.ref (n + 1)), H4, by simp only [Bool.false_eq_true, if_false, q_sNil], by simpa using H40, H41, Fr4⟩
  | true =>
    have i2 := pushP (k := 0) (h := H4) (x := (p, q)) (r := f) H40 (by omega)
    have i3 := isL_P (k := 0) (h := H4) (r := f) H40
    have et : eTup (mCons (eVar 3) (mCons (eVar 4) mNil)) (EC m ts (some (VI p)) (some (VI q)) (some (.ref n)) (some (.ref (n + 1)))) H4 = .ok (.im (pD (p, q))) H4 := by simp [frzL, frz, pD]
    refine ⟨some (.ref n), some (.ref (n + 1)), H4.set 0 (CP (f ++ [(p, q)])), ?_, ?_, ?_, Fr4.set (below_CP _) _⟩
    · simp only [if_true, q_sExpr, q_eM, q_eVar, List.getElem?_cons_succ, List.getElem?_cons_zero, bind_ok, i3, q_mCons, q_mNil, et, i2]
      rw [trunc_len_eq (k := H4.length) (by rw [List.length_set])]
    · rw [if_pos rfl, List.getElem?_set_self (by omega)]
    · rw [List.getElem?_set_ne (by omega)]; exact H41
theorem lclose_ok (wb : Wb m ts) (h0 : 1 ≤ m) (h1 : m ≤ 8) : _law_close_f [.im (webD m ts)] [] = .ok (.ref 0) [CP ((pairsL m).filter (clB ts (rg 0 m.toNat)))] := by
  have pl := pairs_len (show 0 ≤ m by omega) h1
  have evl : (rg 0 m.toNat).length ≤ 64 := by rw [rg_len]; omega
  generalize hev : rg 0 m.toNat = ev at evl
  have loop : ∃ v3 v4 x5 x6 h', forGo _law_close_l0 (.tup [3, 4]) ⟨(pairsL m).map fun p => .im (pD p), []⟩ 0 ((pairsL m).map fun p => .im (pD p)) (EC m ts none none none none) [CP [], CI ev] = .nx (EC m ts v3 v4 x5 x6) h' ∧ h'[0]? = some (CP ((pairsL m).filter (clB ts ev))) := by
    refine forGo_inv (J := fun r ρ h => ∃ d v3 v4 x5 x6, ρ = EC m ts v3 v4 x5 x6 ∧ h[0]? = some (CP (d.filter (clB ts ev))) ∧ h[1]? = some (CI ev) ∧ Free h ∧ d ++ r = pairsL m) (Q := fun x => ∃ v3 v4 x5 x6 h', x = .nx (EC m ts v3 v4 x5 x6) h' ∧ h'[0]? = some (CP ((pairsL m).filter (clB ts ev)))) ?_ ?_ _ _ _ ⟨[], none, none, none, none, rfl, rfl, rfl, fun c hc k => ?_, rfl⟩
    · rintro ⟨p, q⟩ r ρ h ⟨d, v3, v4, x5, x6, rfl, e0, e1, fr, e⟩
      refine ⟨by simp, _, asg_pair, ?_⟩
      have dl : d.length ≤ 28 := by have := congrArg List.length e; simp only [List.length_append] at this; omega
      have fl : (d.filter (clB ts ev)).length < 1000 := Nat.lt_of_le_of_lt (List.length_filter_le _ _) (by omega)
      obtain ⟨x5', x6', h', t1, t2, t3, t4⟩ := lcl_turn (p := p) (q := q) (x5 := x5) (x6 := x6) wb evl fl e0 e1 fr
      simp only [List.set_cons_succ, List.set_cons_zero, t1]
      exact ⟨d ++ [(p, q)], _, _, _, _, rfl, by rw [filter_snoc]; exact t2, t3, t4, by simpa using e⟩
    · rintro ρ h ⟨d, v3, v4, x5, x6, rfl, e0, e1, fr, e⟩
      rw [List.append_nil] at e
      subst e
      exact ⟨by simp, _, _, _, _, _, rfl, e0⟩
    · rcases List.mem_cons.mp hc with rfl | hc
      · exact below_CP [] k
      · rw [List.mem_singleton.mp hc]; exact below_CI ev k
  obtain ⟨v3, v4, x5, x6, h', eo, hz⟩ := loop
  have n1 : m ≤ 16777216 := by omega
  have n2 : -16777216 ≤ m := by omega
  have e0 : _law_close_s0 0 [some (.im (webD m ts)), none, none, none, none, none, none] [] = .nx [some (.im (webD m ts)), some (.ref 0), none, none, none, none, none] [CP []] := by
    unfold _law_close_s0
    simp [asgn, reuse]
  have e1 : _law_close_s1 0 [some (.im (webD m ts)), some (.ref 0), none, none, none, none, none] [CP []] = .nx (EC m ts none none none none) [CP [], CI ev] := by
    unfold _law_close_s1
    have : vRg1 (VI m) [CP []] = .ok (.ref 1) [CP [], CI ev] := by simp only [vRg1, n1, n2, if_true, rg0_eq, hev, List.length_cons, List.length_nil, Nat.zero_add, List.cons_append, List.nil_append]
    simp [idxm, this, asgn, reuse]
  have src : mSeq (eCall 1 _law_pairs_f (mCons (e2 (eVar 0) (eC (.int 0)) vIdx) mNil)) (EC m ts none none none none) [CP [], CI ev] = .ok ⟨(pairsL m).map fun p => .im (pD p), []⟩ [CP [], CI ev] := by
    have e := seq_new pD (pairsL m) (h := [CP [], CI ev]) (by simp)
    simp only [List.length_cons, List.length_nil, Nat.zero_add, Nat.reduceAdd, List.cons_append, List.nil_append] at e
    simp [idxm, call1, pairs_ok m (by omega) h1, e]
  unfold _law_close_f
  rw [fnOf1]
  unfold _law_close_b _law_close_s2 _law_close_s3
  have g0 : (some (Val.im (webD m ts)) :: List.replicate (7 - 1) none : En) = [some (.im (webD m ts)), none, none, none, none, none, none] := rfl
  simp only [g0, List.length_nil, q_sSeq, e0, e1, q_sFor, src, pin_im, Nat.max_self, eo]
  generalize (pairsL m).filter (clB ts ev) = R at hz
  simp [fnFin, hz]
theorem can_go_sp (p : Int) (wb : Wb m ts) (h0 : 0 ≤ m) (h1 : m ≤ 8) : can_go_f [.im (webD m ts), VI p] [] = .ok (.im (.bool (canL ts (rg 0 m.toNat) p))) [] := by
  have n1 : m ≤ 16777216 := by omega
  have n2 : -16777216 ≤ m := by omega
  have sl := ss_rg 0 m.toNat
  have l : vRg1 (VI m) [] = .ok (.ref 0) [CI (rg 0 m.toNat)] := by simp only [vRg1, n1, n2, if_true, rg0_eq, List.length_nil, List.nil_append]
  generalize rg 0 m.toNat = ev at sl l
  have k := call_c3 (h := [CI ev]) (k := 0) rfl (can_ok p wb sl)
  unfold can_go_f
  rw [fnOf2]
  unfold can_go_b can_go_s0
  simp [idxm, l, k, trunc]
end
end NT

set_option Elab.async false
set_option linter.all false
set_option maxRecDepth 100000
set_option autoImplicit false
set_option maxHeartbeats 1000000

namespace NT
open PySem PySem.Spec PyProof.Rows L2 PySem.W
/-! ### both told alike -/
def reprOk (d : PyData) : Bool := okD 8 d && d.showable && decide (d.shown.length ≤ 16777216)
theorem same_ok {d : PyData} (h : reprOk d = true) : _law_same_f [.im d, .im d] [] = .ok (.im (.bool true)) [] := by
  have e : fRepr [.im d] [] = .ok (.im (.str d.shown)) [] := by
    simp only [fRepr, rdD]
    exact if_pos h
  unfold _law_same_f
  rw [fnOf2]
  unfold _law_same_b _law_same_s0
  simp [e, vEq, eqVal]
theorem same_ref {r : List PI2} (h : reprOk (.list (r.map pD)) = true) : _law_same_f [.ref 0, .ref 1] [CP r, CP r] = .ok (.im (.bool true)) [CP r, CP r] := by
  have i1 : imsOf (r.map fun p => Val.im (pD p)) = some (r.map pD) := imsOf_mapf pD r
  have e0 : fRepr [.ref 0] [CP r, CP r] = .ok (.im (.str (PyData.list (r.map pD)).shown)) [CP r, CP r] := by
    have r0 : rdD [CP r, CP r] (.ref 0) = some (.list (r.map pD)) := by simp only [rdD, List.getElem?_cons_zero, i1]; rfl
    simp only [fRepr, r0]
    exact if_pos h
  have e1 : fRepr [.ref 1] [CP r, CP r] = .ok (.im (.str (PyData.list (r.map pD)).shown)) [CP r, CP r] := by
    have r0 : rdD [CP r, CP r] (.ref 1) = some (.list (r.map pD)) := by simp only [rdD, List.getElem?_cons_succ, List.getElem?_cons_zero, i1]; rfl
    simp only [fRepr, r0]
    exact if_pos h
  unfold _law_same_f
  rw [fnOf2]
  unfold _law_same_b _law_same_s0
  generalize (PyData.list (r.map pD)).shown = S at e0 e1
  simp [e0, e1, vEq, eqVal]
theorem call_same {j k : Nat} {h : Hs} {r : List PI2} (hr : reprOk (.list (r.map pD)) = true) (ej : h[j]? = some (CP r)) (ek : h[k]? = some (CP r)) (jk : j ≠ k) : callFn _law_same_f [.ref j, .ref k] h = .ok (.im (.bool true)) h := by
  have e2 : isol h [.ref j, .ref k] 0 = some ([.ref 0, .ref 1], [j, k]) := by simp [isol, ej, ek]
  unfold callFn
  rw [e2]
  have e3 : cellsAt h [j, k] = [CP r, CP r] := by simp [cellsAt, List.getD_eq_getElem?_getD, ej, ek]
  simp [e3, same_ref hr, wrs, jk, set_same ej, set_same ek]
theorem small_shown : ∀ n : Nat, n < 64 → (PyData.shown (.int (n : Int))).length ≤ 8 := by decide +kernel
theorem small_log : ∀ n : Nat, n < 64 → ((n : Int).natAbs).log2 < 1920 := by decide +kernel
theorem leaf_int {x : Int} (a : 0 ≤ x) (b : x < 64) : PyData.leavesShort 8 (.int x) = true ∧ PyData.showable (.int x) = true := by
  obtain ⟨n, rfl⟩ := Int.eq_ofNat_of_zero_le a
  constructor
  · simp only [PyData.leavesShort, decide_eq_true_eq]
    exact small_shown n (by omega)
  · simp only [PyData.showable, decide_eq_true_eq]
    exact small_log n (by omega)
theorem pairs_show : ∀ r : List PI2, (∀ p ∈ r, 0 ≤ p.1 ∧ p.1 < 64 ∧ 0 ≤ p.2 ∧ p.2 < 64) → PyData.leavesShortAll 8 (r.map pD) = true ∧ PyData.showableAll (r.map pD) = true ∧ PyData.bulkAll (r.map pD) = 3 * r.length ∧ (r.map pD).all (okD 7) = true
  | [], _ => by simp [PyData.leavesShortAll, PyData.showableAll, PyData.bulkAll]
  | p :: r, h => by
    obtain ⟨a, b, c, d⟩ := h p List.mem_cons_self
    obtain ⟨h1, h2, h3, h4⟩ := pairs_show r fun q hq => h q (List.mem_cons_of_mem _ hq)
    obtain ⟨x1, x2⟩ := leaf_int a b
    obtain ⟨y1, y2⟩ := leaf_int c d
    refine ⟨?_, ?_, ?_, ?_⟩
    · rw [List.map_cons, PyData.leavesShortAll, h1]
      unfold pD
      rw [PyData.leavesShort, PyData.leavesShortAll, PyData.leavesShortAll, PyData.leavesShortAll, x1, y1]
      rfl
    · rw [List.map_cons, PyData.showableAll, h2]
      unfold pD
      rw [PyData.showable, PyData.showableAll, PyData.showableAll, PyData.showableAll, x2, y2]
      rfl
    · rw [List.map_cons, PyData.bulkAll, h3]
      unfold pD
      simp only [PyData.bulk, PyData.bulkAll, List.length_cons]
      omega
    · rw [List.map_cons, List.all_cons, h4]
      simp [pD, okD]
theorem pairsD_ok {r : List PI2} (h : ∀ p ∈ r, 0 ≤ p.1 ∧ p.1 < 64 ∧ 0 ≤ p.2 ∧ p.2 < 64) (hl : r.length ≤ 64) : reprOk (.list (r.map pD)) = true := by
  obtain ⟨h1, h2, h3, h4⟩ := pairs_show r h
  have b := PyData.shown_le_bulk 8 (by decide) (.list (r.map pD)) (by rw [PyData.leavesShort]; exact h1)
  have bb : (PyData.list (r.map pD)).bulk = 3 * r.length := by rw [PyData.bulk]; exact h3
  rw [bb] at b
  unfold reprOk
  simp only [Bool.and_eq_true, decide_eq_true_eq]
  refine ⟨⟨?_, ?_⟩, by omega⟩
  · simp only [okD]; exact h4
  · rw [PyData.showable]; exact h2
theorem boolD_ok (b : Bool) : reprOk (.bool b) = true := by cases b <;> decide +kernel
theorem nearL_nil (p : Int) : nearL [] p = [] := by simp [nearL, nb, isort]
theorem butL_nil (l : List Int) (p o : Int) : butL [] l p o = [] := by simp [butL, nearL_nil]
theorem canL_nil (l : List Int) (p : Int) : canL [] l p = l.any fun o => decide (o ≠ p) := by
  unfold canL
  congr 1
  funext o
  simp [canO, butL_nil]
theorem wb_nil (m : Int) : Wb m [] := ⟨.nil, (fun _ h => by cases h), by simp⟩
abbrev FF (f : List PI2) : Cell := .lst ((f.map fun p => .im (pD p)) ++ [.im (.tuple [])])
abbrev EL (ns : List Int) (v1 x2 x3 x4 v5 x6 v7 x8 : Option Val) : En := [some (.im (.list (ns.map .int))), v1, x2, x3, x4, v5, x6, v7, x8]
def Nm (v : Option Val) : Prop := v = none ∨ ∃ i, v = some (VI i)
/-- the law's cells between two webs -/
def Sh (x6 x8 : Option Val) (c0 c1 : Cell) (h : Hs) : Prop := (x6 = none ∧ x8 = none ∧ h = [c0, c1]) ∨ (∃ f, x6 = none ∧ x8 = some (.ref 2) ∧ h = [c0, c1, FF f]) ∨ (∃ f e, x6 = some (.ref 3) ∧ x8 = some (.ref 2) ∧ h = [c0, c1, FF f, CI e])
section
variable {m : Int} {ts : List PI2} {ns : List Int} {v1 v5 v7 x6 x8 : Option Val} {st : Int} {fl : Bool}
theorem turn_ok (wb : Wb m ts) (h0 : 1 ≤ m) (h1 : m ≤ 8) {h : Hs} (i1 : Nm v1) (i5 : Nm v5) (i7 : Nm v7) (sh : Sh x6 x8 (CS st fl) (CP ((pairsL m).filter (clB ts (rg 0 m.toNat)))) h) :
    ∃ h', law_l0 0 (EL ns v1 (some (.ref 0)) (some (.im (webD m ts))) (some (.ref 1)) v5 x6 v7 x8) h = .nx (EL ns v1 (some (.ref 0)) (some (.im (webD m ts))) (some (.ref 1)) v5 x6 v7 (some (.ref 2))) h' ∧ Sh x6 (some (.ref 2)) (CS st fl) (CP ((pairsL m).filter (clB ts (rg 0 m.toNat)))) h' := by
  have ck := close_ok wb h0 h1
  have hr : reprOk (.list (((pairsL m).filter (clB ts (rg 0 m.toNat))).map pD)) = true := pairsD_ok (fun p hp => by
    have := pairs_mem (List.mem_filter.mp hp).1
    omega) (Nat.le_trans (List.length_filter_le _ _) (by have := pairs_len (show 0 ≤ m by omega) h1; omega))
  have hz : ((pairsL m).filter (clB ts (rg 0 m.toNat))).length < 16777216 := Nat.lt_of_le_of_lt (List.length_filter_le _ _) (by have := pairs_len (show 0 ≤ m by omega) h1; omega)
  generalize (pairsL m).filter (clB ts (rg 0 m.toNat)) = R at ck hr sh hz
  generalize webD m ts = Wd at ck
  have s1 : ∃ z, sSet 8 (eCall 1 close_places_f (mCons (eVar 3) mNil)) 0 (EL ns v1 (some (.ref 0)) (some (.im Wd)) (some (.ref 1)) v5 x6 v7 x8) h = .nx (EL ns v1 (some (.ref 0)) (some (.im Wd)) (some (.ref 1)) v5 x6 v7 (some (.ref 2))) z ∧ ((x6 = none ∧ z = [CS st fl, CP R, CP R]) ∨ ∃ e, x6 = some (.ref 3) ∧ z = [CS st fl, CP R, CP R, CI e]) := by
    rcases sh with ⟨rfl, rfl, rfl⟩ | ⟨f, rfl, rfl, rfl⟩ | ⟨f, e, rfl, rfl, rfl⟩
    · exact ⟨_, by simp [call1, ck, asgn, reuse], .inl ⟨rfl, rfl⟩⟩
    · refine ⟨_, ?_, .inl ⟨rfl, rfl⟩⟩
      rcases i1 with rfl | ⟨a, rfl⟩ <;> rcases i5 with rfl | ⟨b, rfl⟩ <;> rcases i7 with rfl | ⟨c, rfl⟩ <;> simp [call1, ck, asgn, reuse]
    · refine ⟨_, ?_, .inr ⟨e, rfl, rfl⟩⟩
      rcases i1 with rfl | ⟨a, rfl⟩ <;> rcases i5 with rfl | ⟨b, rfl⟩ <;> rcases i7 with rfl | ⟨c, rfl⟩ <;> simp [call1, ck, asgn, reuse]
  obtain ⟨z, e1, hz'⟩ := s1
  have z1 : z[1]? = some (CP R) := by rcases hz' with ⟨_, rfl⟩ | ⟨e, _, rfl⟩ <;> rfl
  have z2 : z[2]? = some (CP R) := by rcases hz' with ⟨_, rfl⟩ | ⟨e, _, rfl⟩ <;> rfl
  have cs := call_same hr z2 z1 (by decide)
  have e2 : (sSeq (sIf (mNot (tst (eCall 2 _law_same_f (mCons (eVar 8) (mCons (eVar 4) mNil))))) (sRet (eC (.bool false))) sNil) (sExpr (eM isL (eVar 8) (mCons (eTup mNil) mNil) mAppend))) 0 (EL ns v1 (some (.ref 0)) (some (.im Wd)) (some (.ref 1)) v5 x6 v7 (some (.ref 2))) z = .nx (EL ns v1 (some (.ref 0)) (some (.im Wd)) (some (.ref 1)) v5 x6 v7 (some (.ref 2))) (z.set 2 (FF R)) := by
    have il := isL_P z2
    have ma : mAppend (.ref 2) [.im (.tuple [])] z = .ok (.im .none) (z.set 2 (FF R)) := by simp [mAppend, z2, hz]
    simp [cs, frzL, il, ma]
    exact trunc_len_eq (by rw [List.length_set])
  refine ⟨_, by unfold law_l0; rw [q_sSeq, e1]; exact e2, ?_⟩
  rcases hz' with ⟨rfl, rfl⟩ | ⟨e, rfl, rfl⟩
  · exact .inr (.inl ⟨R, rfl, rfl, rfl⟩)
  · exact .inr (.inr ⟨R, e, rfl, rfl, rfl⟩)
end
end NT

set_option Elab.async false
set_option linter.all false
set_option maxRecDepth 100000
set_option autoImplicit false
set_option maxHeartbeats 1000000

namespace NT
open PySem PySem.Spec PyProof.Rows L2 PySem.W
def SB (x2 x3 x4 x6 x8 : Option Val) (h : Hs) : Prop := (x2 = none ∧ x3 = none ∧ x4 = none ∧ x6 = none ∧ x8 = none ∧ h = []) ∨ ∃ w s fl d f e, x2 = some (.ref 0) ∧ x3 = some (.im w) ∧ x4 = some (.ref 1) ∧ x6 = some (.ref 3) ∧ x8 = some (.ref 2) ∧ h = [CS s fl, CP d, FF f, CI e]
theorem web_turn (ns : List Int) (k : Nat) {x2 x3 x4 x6 x8 v5 v7 : Option Val} {h : Hs} (i5 : Nm v5) (i7 : Nm v7) (sb : SB x2 x3 x4 x6 x8 h) :
    ∃ x2' x3' x4' v5' x6' v7' x8' h', law_l2 0 (EL ns (some (VI k)) x2 x3 x4 v5 x6 v7 x8) h = .nx (EL ns (some (VI k)) x2' x3' x4' v5' x6' v7' x8') h' ∧ Nm v5' ∧ Nm v7' ∧ SB x2' x3' x4' x6' x8' h' := by
  obtain ⟨st, fl, es⟩ := state_ok ns k
  obtain ⟨m, ts, st', m0, m1, wo, ew⟩ := web_ok st 1 8 fl (by decide) (by decide) (by decide)
  obtain ⟨_, _, w3, wl, w4⟩ := wo
  have wb : Wb m ts := ⟨w3, fun q hq => (w4 q hq).2.1, wl⟩
  have lc := lclose_ok wb m0 m1
  have s1 : ∃ z, sSet 2 (eCall 2 _law_state_f (mCons (eVar 0) (mCons (eVar 1) mNil))) 0 (EL ns (some (VI k)) x2 x3 x4 v5 x6 v7 x8) h = .nx (EL ns (some (VI k)) (some (.ref 0)) x3 x4 v5 x6 v7 x8) z ∧ ((x3 = none ∧ x4 = none ∧ x6 = none ∧ x8 = none ∧ z = [CS st fl]) ∨ ∃ w d f e, x3 = some (.im w) ∧ x4 = some (.ref 1) ∧ x6 = some (.ref 3) ∧ x8 = some (.ref 2) ∧ z = [CS st fl, CP d, FF f, CI e]) := by
    rcases sb with ⟨rfl, rfl, rfl, rfl, rfl, rfl⟩ | ⟨w, s, g, d, f, e, rfl, rfl, rfl, rfl, rfl, rfl⟩
    · exact ⟨_, by simp [call2, es, asgn, reuse], .inl ⟨rfl, rfl, rfl, rfl, rfl⟩⟩
    · refine ⟨_, ?_, .inr ⟨w, d, f, e, rfl, rfl, rfl, rfl, rfl⟩⟩
      rcases i5 with rfl | ⟨b, rfl⟩ <;> rcases i7 with rfl | ⟨c, rfl⟩ <;> simp [call2, es, asgn, reuse]
  obtain ⟨z, e1, hz⟩ := s1
  have s2 : ∃ z2, sSet 3 (eCall 3 _law_web_f (mCons (eVar 2) (mCons (eC (.int 1)) (mCons (eC (.int 8)) mNil)))) 0 (EL ns (some (VI k)) (some (.ref 0)) x3 x4 v5 x6 v7 x8) z = .nx (EL ns (some (VI k)) (some (.ref 0)) (some (.im (webD m ts))) x4 v5 x6 v7 x8) z2 ∧ ((x4 = none ∧ x6 = none ∧ x8 = none ∧ z2 = [CS st' fl]) ∨ ∃ d f e, x4 = some (.ref 1) ∧ x6 = some (.ref 3) ∧ x8 = some (.ref 2) ∧ z2 = [CS st' fl, CP d, FF f, CI e]) := by
    have z0 : z[0]? = some (CS st fl) := by rcases hz with ⟨_, _, _, _, rfl⟩ | ⟨w, d, f, e, _, _, _, _, rfl⟩ <;> rfl
    have cw := call_s2 (h := z) (k := 0) (s := _law_web_f) z0 ew
    refine ⟨z.set 0 (CS st' fl), ?_, ?_⟩
    · simp [cw]
      exact trunc_len_eq (by rw [List.length_set])
    · rcases hz with ⟨_, a2, a3, a4, rfl⟩ | ⟨w, d, f, e, _, a2, a3, a4, rfl⟩
      · exact .inl ⟨a2, a3, a4, rfl⟩
      · exact .inr ⟨d, f, e, a2, a3, a4, rfl⟩
  obtain ⟨z2, e2, hz2⟩ := s2
  have s3 : ∃ z3, sSet 4 (eCall 1 _law_close_f (mCons (eVar 3) mNil)) 0 (EL ns (some (VI k)) (some (.ref 0)) (some (.im (webD m ts))) x4 v5 x6 v7 x8) z2 = .nx (EL ns (some (VI k)) (some (.ref 0)) (some (.im (webD m ts))) (some (.ref 1)) v5 x6 v7 x8) z3 ∧ Sh x6 x8 (CS st' fl) (CP ((pairsL m).filter (clB ts (rg 0 m.toNat)))) z3 := by
    generalize (pairsL m).filter (clB ts (rg 0 m.toNat)) = R at lc
    generalize webD m ts = Wd at lc
    rcases hz2 with ⟨rfl, rfl, rfl, rfl⟩ | ⟨d, f, e, rfl, rfl, rfl, rfl⟩
    · exact ⟨_, by simp [call1, lc, asgn, reuse], .inl ⟨rfl, rfl, rfl⟩⟩
    · refine ⟨_, ?_, .inr (.inr ⟨f, e, rfl, rfl, rfl⟩)⟩
      rcases i5 with rfl | ⟨b, rfl⟩ <;> rcases i7 with rfl | ⟨c, rfl⟩ <;> simp [call1, lc, asgn, reuse]
  obtain ⟨z3, e3, sh⟩ := s3
  have s4 : ∃ v5' z4, sFor (mRng1 (mCons (eC (.int 2)) mNil)) (.nm 5) law_l0 0 (EL ns (some (VI k)) (some (.ref 0)) (some (.im (webD m ts))) (some (.ref 1)) v5 x6 v7 x8) z3 = .nx (EL ns (some (VI k)) (some (.ref 0)) (some (.im (webD m ts))) (some (.ref 1)) v5' x6 v7 (some (.ref 2))) z4 ∧ Nm v5' ∧ Sh x6 (some (.ref 2)) (CS st' fl) (CP ((pairsL m).filter (clB ts (rg 0 m.toNat)))) z4 := by
    rw [q_sFor, src_rng1 (j := 2) (by simp) (smallI_of (by decide))]
    simp only [pin_VI, Nat.max_self]
    refine forGo_inv (J := fun r ρ h => ∃ v5 x8, ρ = EL ns (some (VI k)) (some (.ref 0)) (some (.im (webD m ts))) (some (.ref 1)) v5 x6 v7 x8 ∧ Nm v5 ∧ Sh x6 x8 (CS st' fl) (CP ((pairsL m).filter (clB ts (rg 0 m.toNat)))) h ∧ (x8 = some (.ref 2) ∨ r ≠ [])) (Q := fun x => ∃ v5' z4, x = .nx (EL ns (some (VI k)) (some (.ref 0)) (some (.im (webD m ts))) (some (.ref 1)) v5' x6 v7 (some (.ref 2))) z4 ∧ Nm v5' ∧ Sh x6 (some (.ref 2)) (CS st' fl) (CP ((pairsL m).filter (clB ts (rg 0 m.toNat)))) z4) ?_ ?_ _ _ _ ⟨v5, x8, rfl, i5, sh, .inr (by decide)⟩
    · rintro a r ρ h ⟨v5, x8, rfl, j5, sh, _⟩
      refine ⟨by simp, _, rfl, ?_⟩
      obtain ⟨h', t1, t2⟩ := turn_ok (ns := ns) (v1 := some (VI k)) (v5 := some (VI a)) wb m0 m1 (.inr ⟨_, rfl⟩) (.inr ⟨_, rfl⟩) i7 sh
      simp only [List.set_cons_succ, List.set_cons_zero, t1]
      exact ⟨_, _, rfl, .inr ⟨_, rfl⟩, t2, .inl rfl⟩
    · rintro ρ h ⟨v5, x8, rfl, j5, sh, hx⟩
      rcases hx with rfl | hx
      · exact ⟨by simp, _, _, rfl, j5, sh⟩
      · exact absurd rfl hx
  obtain ⟨v5', z4, e4, i5', sh4⟩ := s4
  have n1 : m ≤ 16777216 := by omega
  have n2 : -16777216 ≤ m := by omega
  have s5 : ∃ d f, sSet 6 (NT.e1 (NT.e2 (eVar 3) (eC (.int 0)) vIdx) vRg1) 0 (EL ns (some (VI k)) (some (.ref 0)) (some (.im (webD m ts))) (some (.ref 1)) v5' x6 v7 (some (.ref 2))) z4 = .nx (EL ns (some (VI k)) (some (.ref 0)) (some (.im (webD m ts))) (some (.ref 1)) v5' (some (.ref 3)) v7 (some (.ref 2))) [CS st' fl, CP d, FF f, CI (rg 0 m.toNat)] := by
    have l : ∀ h : Hs, vRg1 (VI m) h = .ok (.ref h.length) (h ++ [CI (rg 0 m.toNat)]) := fun h => by simp only [vRg1, n1, n2, if_true, rg0_eq]
    have ix : ∀ h : Hs, vIdx (.im (webD m ts)) (VI 0) h = .ok (VI m) h := fun h => idxm
    generalize rg 0 m.toNat = ev at l sh4
    generalize (pairsL m).filter (clB ts ev) = R at sh4
    generalize webD m ts = Wd at ix
    rcases sh4 with ⟨_, h2, _⟩ | ⟨f, rfl, _, rfl⟩ | ⟨f, e, rfl, _, rfl⟩
    · cases h2
    · exact ⟨R, f, by simp [ix, l, asgn, reuse]⟩
    · refine ⟨R, f, ?_⟩
      rcases i5' with rfl | ⟨b, rfl⟩ <;> rcases i7 with rfl | ⟨c, rfl⟩ <;> simp [ix, l, asgn, reuse]
  obtain ⟨d, f, e5⟩ := s5
  have sl := ss_rg 0 m.toNat
  have evl : (rg 0 m.toNat).length ≤ 64 := by rw [rg_len]; omega
  have s6 : ∃ v7', sFor (mSeq (eVar 6)) (.nm 7) law_l1 0 (EL ns (some (VI k)) (some (.ref 0)) (some (.im (webD m ts))) (some (.ref 1)) v5' (some (.ref 3)) v7 (some (.ref 2))) [CS st' fl, CP d, FF f, CI (rg 0 m.toNat)] = .nx (EL ns (some (VI k)) (some (.ref 0)) (some (.im (webD m ts))) (some (.ref 1)) v5' (some (.ref 3)) v7' (some (.ref 2))) [CS st' fl, CP d, FF f, CI (rg 0 m.toNat)] ∧ Nm v7' := by
    have cg := fun p : Int => can_go_sp p wb (show 0 ≤ m by omega) m1
    have lc2 := fun p : Int => call_c3 (h := [CS st' fl, CP d, FF f, CI (rg 0 m.toNat)]) (k := 3) rfl (lcan_ok p wb evl)
    generalize rg 0 m.toNat = ev at cg lc2
    have src : mSeq (eVar 6) (EL ns (some (VI k)) (some (.ref 0)) (some (.im (webD m ts))) (some (.ref 1)) v5' (some (.ref 3)) v7 (some (.ref 2))) [CS st' fl, CP d, FF f, CI ev] = .ok ⟨ev.map fun i => .im (.int i), [(3, ev.map fun i => .im (.int i))]⟩ [CS st' fl, CP d, FF f, CI ev] := by
      simp [seqSrc, imsOf_mapf]
    rw [q_sFor, src]
    simp only
    generalize max 0 (Src.pin ⟨ev.map fun i => Val.im (.int i), [(3, ev.map fun i => Val.im (.int i))]⟩ [CS st' fl, CP d, FF f, CI ev].length) = p'
    refine forGo_inv (J := fun r ρ h => h = [CS st' fl, CP d, FF f, CI ev] ∧ ∃ v7, ρ = EL ns (some (VI k)) (some (.ref 0)) (some (.im (webD m ts))) (some (.ref 1)) v5' (some (.ref 3)) v7 (some (.ref 2)) ∧ Nm v7) (Q := fun x => ∃ v7', x = .nx (EL ns (some (VI k)) (some (.ref 0)) (some (.im (webD m ts))) (some (.ref 1)) v5' (some (.ref 3)) v7' (some (.ref 2))) [CS st' fl, CP d, FF f, CI ev] ∧ Nm v7') ?_ ?_ _ _ _ ⟨rfl, v7, rfl, i7⟩
    · rintro a r ρ h ⟨rfl, v7, rfl, j7⟩
      refine ⟨okAt_one rfl, _, rfl, ?_⟩
      have sm := same_ok (boolD_ok (canL ts ev a))
      have g1 := cg a
      have g2 := lc2 a
      have : law_l1 p' (EL ns (some (VI k)) (some (.ref 0)) (some (.im (webD m ts))) (some (.ref 1)) v5' (some (.ref 3)) (some (VI a)) (some (.ref 2))) [CS st' fl, CP d, FF f, CI ev] = .nx (EL ns (some (VI k)) (some (.ref 0)) (some (.im (webD m ts))) (some (.ref 1)) v5' (some (.ref 3)) (some (VI a)) (some (.ref 2))) [CS st' fl, CP d, FF f, CI ev] := by
        unfold law_l1
        generalize webD m ts = Wd at g1 g2
        generalize canL ts ev a = cb at g1 g2 sm
        simp [call2, g1, g2, sm]
      simp only [List.set_cons_succ, List.set_cons_zero, this]
      exact ⟨trivial, _, rfl, .inr ⟨_, rfl⟩⟩
    · rintro ρ h ⟨rfl, v7, rfl, j7⟩
      exact ⟨okAt_one rfl, _, rfl, j7⟩
  obtain ⟨v7', e6, i7'⟩ := s6
  refine ⟨_, _, _, v5', _, v7', _, _, ?_, i5', i7', .inr ⟨webD m ts, st', fl, d, f, rg 0 m.toNat, rfl, rfl, rfl, rfl, rfl, rfl⟩⟩
  unfold law_l2
  rw [q_sSeq, e1]
  simp only
  rw [q_sSeq, e2]
  simp only
  rw [q_sSeq, e3]
  simp only
  rw [q_sSeq, e4]
  simp only
  rw [q_sSeq, e5]
  simp only
  rw [e6]
theorem law_true (ns : List Int) (hn : ns.length ≤ 63) : ∃ h', law_f [.im (.list (ns.map .int))] [] = .ok (.im (.bool true)) h' := by
  have e0 : law_s0 0 (EL ns none none none none none none none none) [] = .nx (EL ns none none none none none none none none) [] := by
    have c1 := close_ok (m := 1) (wb_nil 1) (by decide) (by decide)
    have g1 := can_go_sp (m := 1) 0 (wb_nil 1) (by decide) (by decide)
    have g2 := can_go_sp (m := 2) 1 (wb_nil 2) (by decide) (by decide)
    have r1 : rg 0 (1 : Int).toNat = [0] := rfl
    have r2 : rg 0 (2 : Int).toNat = [0, 1] := rfl
    have p1 : pairsL 1 = [] := rfl
    have w1 : webD 1 [] = .tuple [.int 1, .tuple []] := rfl
    have w2 : webD 2 [] = .tuple [.int 2, .tuple []] := rfl
    have k1 : canL [] [0] 0 = false := by simp [canL_nil]
    have k2 : canL [] [0, 1] 1 = true := by simp [canL_nil]
    rw [p1, w1] at c1
    rw [r1, k1, w1] at g1
    rw [r2, k2, w2] at g2
    simp only [List.filter_nil, List.map_nil, CP] at c1
    have q := eqRef (neg := true) (j := 0) (k := 1) (h := [.lst [], .lst []]) (l := []) (r := []) rfl rfl
    unfold law_s0
    simp [frzL, frz, call1, call2, c1, g1, g2, vNe, q, vIs, trunc]
  have hs : ∀ N : Nat, N ≤ 8 → ∃ ρ' h', forGo law_l2 (.nm 1) ⟨(rg 0 N).map VI, []⟩ 0 ((rg 0 N).map VI) (EL ns none none none none none none none none) [] = .nx ρ' h' := by
    intro N hN
    refine forGo_inv (J := fun r ρ h => (∀ x ∈ r, 0 ≤ x) ∧ ∃ v1 x2 x3 x4 v5 x6 v7 x8, ρ = EL ns v1 x2 x3 x4 v5 x6 v7 x8 ∧ Nm v5 ∧ Nm v7 ∧ SB x2 x3 x4 x6 x8 h) (Q := fun x => ∃ ρ' h', x = .nx ρ' h') ?_ ?_ _ _ _ ⟨fun x hx => (rg_mem hx).1, none, none, none, none, none, none, none, none, rfl, .inl rfl, .inl rfl, .inl ⟨rfl, rfl, rfl, rfl, rfl, rfl⟩⟩
    · rintro a r ρ h ⟨hr, v1, x2, x3, x4, v5, x6, v7, x8, rfl, i5, i7, sb⟩
      refine ⟨by simp, _, rfl, ?_⟩
      obtain ⟨k, rfl⟩ := Int.eq_ofNat_of_zero_le (hr a List.mem_cons_self)
      obtain ⟨x2', x3', x4', v5', x6', v7', x8', h', e, i5', i7', sb'⟩ := web_turn ns k i5 i7 sb
      simp only [List.set_cons_succ, List.set_cons_zero, e]
      exact ⟨fun x hx => hr x (List.mem_cons_of_mem _ hx), _, _, _, _, _, _, _, _, rfl, i5', i7', sb'⟩
    · rintro ρ h _
      exact ⟨by simp, _, _, rfl⟩
  have hN : ∃ N : Nat, N ≤ 8 ∧ mRng1 (mCons (eB (mCons (eC (.int 1)) (mCons (eB (mCons (eB (mCons (eVar 0) mNil) fLen) (mCons (eC (.int 8)) mNil)) fMin2) mNil)) fMax2) mNil) (EL ns none none none none none none none none) [] = .ok ⟨(rg 0 N).map VI, []⟩ [] := by
    refine ⟨(if (if (8 : Int) < (ns.length : Int) then 8 else (ns.length : Int)) > 1 then (if (8 : Int) < (ns.length : Int) then 8 else (ns.length : Int)) else 1).toNat, by split <;> split <;> omega, ?_⟩
    refine src_rng1 (j := if (if (8 : Int) < (ns.length : Int) then 8 else (ns.length : Int)) > 1 then (if (8 : Int) < (ns.length : Int) then 8 else (ns.length : Int)) else 1) ?_ (smallI_of (by split <;> split <;> omega))
    simp [fLen, itemsOf, fMin2, fMax2]
  obtain ⟨N, hN8, hN⟩ := hN
  obtain ⟨ρ', h', hs⟩ := hs N hN8
  refine ⟨[], ?_⟩
  unfold law_f
  rw [fnOf1]
  have g0 : (some (Val.im (.list (ns.map .int))) :: List.replicate (9 - 1) none : En) = EL ns none none none none none none none none := rfl
  unfold law_b law_s1 law_s2
  simp only [g0, List.length_nil, q_sSeq, e0, q_sFor, hN, pin_VI, Nat.max_self, hs, q_sRet, q_eC, fnEnd_rt, fnFin_im]
  simp [trunc]
end NT

set_option Elab.async false
set_option linter.all false
set_option maxRecDepth 100000
set_option autoImplicit false
open PySem PySem.W PyProof.Rows in
set_option maxRecDepth 100000 in
set_option maxHeartbeats 0 in
theorem PySem.Challenge.cw_nearturns_k81_close_places_holds : PySem.Challenge.rw_nearturns_k81_close_places.Holds := by
  w_on; o_law; k_head; (case hw => w_witness2)
  k_fill
  refine NT.walk_good (l := PySem.Challenge.rw_nearturns_k81_close_places) (n := 63) (k := 5) (f := NT.law_f) (x := ("_law_script" : Str)) rfl (by decide) rfl ⟨rfl, by decide, by decide⟩ (fun w h Y => PySem.W.kIn_of Y) ?F NT.law_true
  case F =>
    intro w m fa h KX G hmg
    refine' NT.all_mk KX G hmg ?a0 ?l0 ?c0 ?k0 ?a1 ?l1 ?c1 ?k1 ?a2 ?l2 ?c2 ?k2 ?a3 ?l3 ?c3 ?k3 ?a4 ?l4 ?c4 ?k4 ?a5 ?l5 ?c5 ?k5 ?a6 ?l6 ?c6 ?k6 ?a7 ?l7 ?c7 ?k7 ?a8 ?l8 ?c8 ?k8 ?a9 ?l9 ?c9 ?k9 ?a10 ?l10 ?c10 ?k10 ?a11 ?l11 ?c11 ?k11 ?a12 ?l12 ?c12 ?k12 ?a13 ?l13 ?c13 ?k13 ?a14 ?l14 ?c14 ?k14 ?a15 ?l15 ?c15 ?k15 ?a16 ?l16 ?c16 ?k16 ?z_sorted ?z_tuple ?z_list ?z_range ?z_len ?z_min ?z_max ?z_set ?z_repr
    (case a0 => k_is)
    (case l0 => k_is)
    (case c0 => k_is)
    (case k0 => k_is)
    (case a1 => k_is)
    (case l1 => k_is)
    (case c1 => k_is)
    (case k1 => k_is)
    (case a2 => k_is)
    (case l2 => k_is)
    (case c2 => k_is)
    (case k2 => k_is)
    (case a3 => k_is)
    (case l3 => k_is)
    (case c3 => k_is)
    (case k3 => k_is)
    (case a4 => k_is)
    (case l4 => k_is)
    (case c4 => k_is)
    (case k4 => k_is)
    (case a5 => k_is)
    (case l5 => k_is)
    (case c5 => k_is)
    (case k5 => k_is)
    (case a6 => k_is)
    (case l6 => k_is)
    (case c6 => k_is)
    (case k6 => k_is)
    (case a7 => k_is)
    (case l7 => k_is)
    (case c7 => k_is)
    (case k7 => k_is)
    (case a8 => k_is)
    (case l8 => k_is)
    (case c8 => k_is)
    (case k8 => k_is)
    (case a9 => k_is)
    (case l9 => k_is)
    (case c9 => k_is)
    (case k9 => k_is)
    (case a10 => k_is)
    (case l10 => k_is)
    (case c10 => k_is)
    (case k10 => k_is)
    (case a11 => k_is)
    (case l11 => k_is)
    (case c11 => k_is)
    (case k11 => k_is)
    (case a12 => k_is)
    (case l12 => k_is)
    (case c12 => k_is)
    (case k12 => k_is)
    (case a13 => k_is)
    (case l13 => k_is)
    (case c13 => k_is)
    (case k13 => k_is)
    (case a14 => k_is)
    (case l14 => k_is)
    (case c14 => k_is)
    (case k14 => k_is)
    (case a15 => k_is)
    (case l15 => k_is)
    (case c15 => k_is)
    (case k15 => k_is)
    (case a16 => k_is)
    (case l16 => k_is)
    (case c16 => k_is)
    (case k16 => k_is)
    (case z_sorted => k_is)
    (case z_tuple => k_is)
    (case z_list => k_is)
    (case z_range => k_is)
    (case z_len => k_is)
    (case z_min => k_is)
    (case z_max => k_is)
    (case z_set => k_is)
    (case z_repr => k_is)

