import PyProof.Rows.All
import Wide.All
import OpenK.AllK
import Wide.FinOn
import KE.KeyNested
import HandS.ForMost
import HandS.Sort
import HandS.TupSets
import HandS.SortKw
import HandS.SortInts
import HandS.SortRule
import HandS.Deep
import HandS.Zip
import HandS.Walk
import HandS.Conv
import HandS.TupLe
import HandS.TupAny
import HandS.TupMul
import HandS.IsInst
import HandS.ForExc
import HandS.Lambda
import KE.SortData
import KE.DataCmp
import KE.GoesMore
import PyProof.ReprRoads
import PyProof.CallFns
import HandS.Words
import HandS.EndBits
import HandS.ReCall
import KE.KDictKeyed
import KE.KDictCopyH
import KE.KDictSum
import HandS.ExcOwn
import HandS.TryOnly
import KE.KDictDisplayH
import KE.KRevSl
import HandS.Strs
import HandS.ExcIs
import HandS.EndTab
import KE.KNestM
import PyProof.DictUpdate
import KE.KTupSum
import HandS.Text
import HandS.RaiseMore
import PySem.Challenge.RW_nearturns_k91_texts_written_and_read
set_option Elab.async false
set_option linter.all false
set_option maxRecDepth 100000
set_option autoImplicit false
namespace NT
open PySem PySem.Spec PyProof.Rows L2

/-! ### values, cells, results -/
inductive Val where
  | im (d : PyData)
  | ref (n : Nat)
inductive Cell where
  | lst (vs : List Val)
  | fz (d : PyData)
  | dct (kvs : List (PyData × Val))
abbrev Hs := List Cell
abbrev En := List (Option Val)
inductive Res (α : Type) where
  | ok (a : α) (h : Hs)
  | er (c : Str)
  | no
def Res.bind {α β : Type} (r : Res α) (f : α → Hs → Res β) : Res β := match r with
  | .ok a h => f a h
  | .er c => .er c
  | .no => .no
@[simp] theorem bind_ok {α β : Type} (a : α) (h : Hs) (f : α → Hs → Res β) : (Res.ok a h).bind f = f a h := rfl
@[simp] theorem bind_er {α β : Type} (c : Str) (f : α → Hs → Res β) : (Res.er c : Res α).bind f = .er c := rfl
@[simp] theorem bind_no {α β : Type} (f : α → Hs → Res β) : (Res.no : Res α).bind f = .no := rfl
def Cell.live : Cell → Bool
  | .fz _ => false
  | _ => true
def Val.below (n : Nat) : Val → Bool
  | .im _ => true
  | .ref k => decide (k < n)
def Cell.below (n : Nat) : Cell → Bool
  | .lst vs => vs.all (Val.below n)
  | .fz _ => true
  | .dct kvs => kvs.all fun p => p.2.below n

/-- what does not change through a proof -/
structure Cst where
  P : Program
  w : World
  K : PySem.W.Frag
  T : List (Addr × Str)
/-- what is asked where an exception leaves, and the tables of code objects -/
structure TW where
  l : List (Addr × Str)
  g : Bool
structure WK where
  T : TW
  r : Str → Hp → Prop
instance : CoeFun WK (fun _ => Str → Hp → Prop) := ⟨WK.r⟩
abbrev cst (X : Cx) (W : WK) : Cst := ⟨X.prog, X.w, X.K, W.T.l⟩

mutual
/-- data as a dict's key -/
def nkOf : PyData → Option NestedKey
  | .none => some .none
  | .bool b => some (.num (if b = true then 1 else 0))
  | .int i => some (.num i)
  | .str x => some (.text x)
  | .tuple ds => (nksOf ds).map .tup
  | _ => none
def nksOf : List PyData → Option (List NestedKey)
  | [] => some []
  | d :: r => (nkOf d).bind fun k => (nksOf r).map (k :: ·)
end

/-- a pair of whole numbers, as data and as a dict's entry -/
def pI (p : Int × Int) : PyData × PyData := (.int p.1, .int p.2)
def kI (p : Int × Int) : Key × V := (.inl p.1, .int p.2)
mutual
/-- what value stands for what data: as HandS has it, and dicts of whole numbers -/
inductive Dp (K : PySem.W.Frag) (F : Hp) : V → PyData → Prop
  | dic {p : Addr} {l : List (Int × Int)} {kvs : List (PyData × PyData)} (ek : kvs = l.map pI) (at' : F p = some (.dK (l.map kI))) : Dp K F (.ref p) (.dict kvs)
  | tup {p : Addr} {vs : List V} {ts : List PyData} (sq : SqT K F p vs) (al : DpAll K F vs ts) : Dp K F (.ref p) (.tuple ts)
  | lst {p : Addr} {vs : List V} {ts : List PyData} (sq : SqL K F p vs) (al : DpAll K F vs ts) : Dp K F (.ref p) (.list ts)
  | str (z : Str) : Dp K F (.str z) (.str z)
  | int (n : Int) : Dp K F (.int n) (.int n)
  | bl (q : Bool) : Dp K F (.bl q) (.bool q)
  | non : Dp K F .non .none
inductive DpAll (K : PySem.W.Frag) (F : Hp) : List V → List PyData → Prop
  | cons {x : V} {t : PyData} {vs : List V} {ts : List PyData} (hd : Dp K F x t) (tl : DpAll K F vs ts) : DpAll K F (x :: vs) (t :: ts)
  | nil : DpAll K F [] []
end
section
variable {X : Cx} {pins : List (Addr × Obj)} {σ : L2.St} {H : Hp} {s : Shared}
theorem reads_ents : ∀ {l : List (Int × Int)} {vs : List (Key × Value)} {es : List DictEntry}, KV (l.map kI) vs → Pairs (mixKind X.prog X.w) es vs →
    (∃ as, ReadsAll s.heap (es.map (·.key)) ((l.map pI).map (·.1)) as) ∧ ∃ bs, ReadsAll s.heap (es.map (·.val)) ((l.map pI).map (·.2)) bs
  | [], _, _, k, p => by cases k; cases p; exact ⟨⟨_, .nil⟩, _, .nil⟩
  | (i, j) :: l, _, _, k, p => by
    cases k with
    | cons k1 k2 =>
      cases p with
      | cons p1 p2 p3 =>
        obtain ⟨⟨_, q1⟩, _, q2⟩ := reads_ents k2 p3
        obtain ⟨ek, t2, ev⟩ := k1
        rw [← ek] at p1
        have p1' : keyIs (.inl i) _ = true := p1
        rcases keyIs_shape p1' with ⟨i', t, e1, e2⟩ | ⟨x, t, e1, e2⟩
        · cases e1
          rw [List.map_cons, List.map_cons, List.map_cons, List.map_cons, List.map_cons, e2, p2, ev]
          exact ⟨⟨_, .cons (.int i t) q1⟩, _, .cons (.int j t2) q2⟩
        · cases e1
mutual
theorem Dp.reads (I : Inv X pins σ H s) : ∀ (t : PyData) (x : V) (u : Value), Dp X.K H x t → RelV x u → ∃ at', Reads s.heap u t at'
  | .dict kvs, _, _, z, r => by
    cases z with
    | dic e g =>
      cases r
      obtain ⟨_, _, vs, rk, o, es, ep, g1, g2, g3, _, g5, _⟩ := I.hok _ _ g
      obtain ⟨⟨as, q1⟩, bs, q2⟩ := reads_ents (X := X) rk g5
      subst e
      exact ⟨_, .dict g1 g2.1 g3 q1 q2⟩
  | .tuple ts, _, _, z, r => by
    cases z with
    | tup sq al =>
      cases r
      obtain ⟨us, ru, ⟨ob, g1, g2, m, g3⟩, _⟩ := I.tuple sq
      exact let ⟨_, q⟩ := Dp.readsAll I ts _ us al ru; ⟨_, .tuple g1 g2 g3 q⟩
  | .list ts, _, _, z, r => by
    cases z with
    | lst sq al =>
      cases r
      obtain ⟨us, ru, ⟨ob, m, g1, g2, _, g3⟩, _⟩ := I.list sq
      exact let ⟨_, q⟩ := Dp.readsAll I ts _ us al ru; ⟨_, .list g1 g2 g3 q⟩
  | .str z, _, _, w, r => by cases w; exact let ⟨t, e⟩ := r; e ▸ ⟨_, .str z t⟩
  | .int n, _, _, w, r => by cases w; exact let ⟨t, e⟩ := r; e ▸ ⟨_, .int n t⟩
  | .bool q, _, _, w, r => by cases w; cases r; exact ⟨_, .bool q⟩
  | .none, _, _, w, r => by cases w; cases r; exact ⟨_, .none⟩
theorem Dp.readsAll (I : Inv X pins σ H s) : ∀ (ts : List PyData) (vs : List V) (us : List Value), DpAll X.K H vs ts → Vals vs us → ∃ at', ReadsAll s.heap us ts at'
  | t :: ts, _, _, z, r => by
    cases z with
    | cons a b =>
      cases r with
      | cons c d => exact let ⟨_, p⟩ := Dp.reads I t _ _ a c; let ⟨_, q⟩ := Dp.readsAll I ts _ _ b d; ⟨_, .cons p q⟩
  | [], _, _, z, r => by cases z; cases r; exact ⟨_, .nil⟩
end
end
/-- a dict's object: keys, values, hashes -/
def dictP (a : Addr) (L : List (V × V × Int)) : Heap → Prop := fun h => (a == sysModules) = false ∧ ∃ o es ep, h.get? a = some o ∧ o.ExactDict ∧ o.data = .dict es ep ∧
  Paired (fun (x : V × V × Int) (e : DictEntry) => e.hash = x.2.2 ∧ RelV x.1 e.key ∧ RelV x.2.1 e.val) L es.toList

inductive RV (C : Cst) (ι : Nat → Addr) (F : Hp) (n : Nat) : V → Val → Prop
  | im {v : V} {d : PyData} : Dp C.K F v d → RV C ι F n v (.im d)
  | ref {k : Nat} : k < n → RV C ι F n (.ref (ι k)) (.ref k)
def CellR (C : Cst) (ι : Nat → Addr) (F : Hp) (n : Nat) (a : Addr) (o : Option HO) : Cell → Prop
  | .lst vs => ∃ xs, o = some (.lst xs) ∧ Paired (RV C ι F n) xs vs
  | .fz d => Dp C.K F (.ref a) d
  | .dct kvs => ∃ L, o = some (.ext (dictP a L)) ∧ L.length ≤ sizeLine ∧ Paired (fun (x : V × V × Int) (p : PyData × Val) => Dp C.K F x.1 p.1 ∧ RV C ι F n x.2.1 p.2 ∧ ∀ k, nkOf p.1 = some k → x.2.2 = k.hash C.w) L kvs
structure Rel (C : Cst) (G F : Hp) (ι : Nat → Addr) (h : Hs) (H : Hp) : Prop where
  g : ∀ b o, G b = some o → H b = some o
  f : ∀ b o, F b = some o → H b = some o
  inj : ∀ i j c c', h[i]? = some c → h[j]? = some c' → c.live = true → c'.live = true → ι i = ι j → i = j
  gl : ∀ i c, h[i]? = some c → c.live = true → G (ι i) = none
  fl : ∀ i c, h[i]? = some c → c.live = true → F (ι i) = none
  cell : ∀ i c, h[i]? = some c → CellR C ι F h.length (ι i) (H (ι i)) c
  tb : ∀ p ∈ C.T, G p.1 = none ∧ F p.1 = none ∧ LamX.TabS H p.1 p.2
  ng : ∀ b ps, G b ≠ some (.tbl ps)
  nf : ∀ b ps, F b ≠ some (.tbl ps)
structure SR (C : Cst) (ι : Nat → Addr) (F : Hp) (n : Nat) (σ : L2.St) (ρ : En) : Prop where
  len : ρ.length = σ.length
  at' : ∀ (i : Nat) (v : Val), ρ[i]? = some (some v) → ∃ x, σ[i]? = some (some x) ∧ RV C ι F n x v
structure Ext (G F : Hp) (ι : Nat → Addr) (q : Nat) (F' : Hp) (ι' : Nat → Addr) : Prop where
  le : ∀ b o, F b = some o → F' b = some o
  ag : ∀ i, i < q → ι' i = ι i
  out : ∀ b, G b ≠ none → F' b = F b

mutual
theorem Dp.le {K : PySem.W.Frag} {F F' : Hp} (l : ∀ b o, F b = some o → F' b = some o) : ∀ (d : PyData) (v : V), Dp K F v d → Dp K F' v d
  | .none, _, h => by cases h; exact .non
  | .bool b, _, h => by cases h; exact .bl b
  | .int i, _, h => by cases h; exact .int i
  | .str x, _, h => by cases h; exact .str x
  | .list ds, _, h => by
    cases h with
    | lst hs ha =>
      refine .lst ?_ (Dp.leAll l ds _ ha)
      rcases hs with (z | ⟨o, z⟩) | z
      · exact .inl (.inl (l _ _ z))
      · exact .inl (.inr ⟨o, l _ _ z⟩)
      · exact .inr z
  | .tuple ds, _, h => by
    cases h with
    | tup hs ha =>
      refine .tup ?_ (Dp.leAll l ds _ ha)
      rcases hs with (z | ⟨o, z⟩) | z
      · exact .inl (.inl (l _ _ z))
      · exact .inl (.inr ⟨o, l _ _ z⟩)
      · exact .inr z
  | .dict _, _, h => by cases h with | dic e q => exact .dic e (l _ _ q)
theorem Dp.leAll {K : PySem.W.Frag} {F F' : Hp} (l : ∀ b o, F b = some o → F' b = some o) : ∀ (ds : List PyData) (vs : List V), DpAll K F vs ds → DpAll K F' vs ds
  | [], _, h => by cases h; exact .nil
  | d :: ds, _, h => by
    cases h with
    | cons h1 h2 => exact .cons (Dp.le l d _ h1) (Dp.leAll l ds _ h2)
end
section
variable {C : Cst} {G F F' F2 : Hp} {ι ι' ι2 : Nat → Addr} {n n' q : Nat} {x : V} {v : Val} {h h' : Hs} {H H' : Hp} {σ : L2.St} {ρ : En}
theorem RV.mono (r : RV C ι F n x v) (le : ∀ b o, F b = some o → F' b = some o) (ag : ∀ i, i < n → ι' i = ι i) (hn : n ≤ n') : RV C ι' F' n' x v := by
  cases r with
  | im d => exact .im (Dp.le le _ _ d)
  | ref hk =>
    rename_i k
    rw [← ag k hk]
    exact .ref (Nat.lt_of_lt_of_le hk hn)
theorem RVs.mono {xs : List V} {vs : List Val} (r : Paired (RV C ι F n) xs vs) (le : ∀ b o, F b = some o → F' b = some o) (ag : ∀ i, i < n → ι' i = ι i) (hn : n ≤ n') : Paired (RV C ι' F' n') xs vs :=
  Paired.mapP r fun _ _ z => z.mono le ag hn
theorem CellR.mono {a : Addr} {o : Option HO} {c : Cell} (r : CellR C ι F n a o c) (le : ∀ b o, F b = some o → F' b = some o) (ag : ∀ i, i < n → ι' i = ι i) (hn : n ≤ n') : CellR C ι' F' n' a o c := by
  cases c with
  | lst vs => obtain ⟨xs, e, p⟩ := r; exact ⟨xs, e, RVs.mono p le ag hn⟩
  | fz d => exact Dp.le le _ _ r
  | dct kvs => obtain ⟨L, e, z, p⟩ := r; exact ⟨L, e, z, Paired.mapP p fun _ _ z => ⟨Dp.le le _ _ z.1, z.2.1.mono le ag hn, z.2.2⟩⟩
theorem SR.mono (r : SR C ι F n σ ρ) (le : ∀ b o, F b = some o → F' b = some o) (ag : ∀ i, i < n → ι' i = ι i) (hn : n ≤ n') : SR C ι' F' n' σ ρ :=
  ⟨r.len, fun i v e => let ⟨x, e1, z⟩ := r.at' i v e; ⟨x, e1, z.mono le ag hn⟩⟩
theorem Ext.refl : Ext G F ι q F ι := ⟨fun _ _ z => z, fun _ _ => rfl, fun _ _ => rfl⟩
theorem Ext.trans {q' : Nat} (a : Ext G F ι q F' ι') (b : Ext G F' ι' q' F2 ι2) (hq : q ≤ q') : Ext G F ι q F2 ι2 :=
  ⟨fun c o z => b.le c o (a.le c o z), fun i hi => (b.ag i (Nat.lt_of_lt_of_le hi hq)).trans (a.ag i hi), fun c hc => (b.out c hc).trans (a.out c hc)⟩
theorem Ext.down {q' : Nat} (a : Ext G F ι q F' ι') (hq : q' ≤ q) : Ext G F ι q' F' ι' := ⟨a.le, fun i hi => a.ag i (Nat.lt_of_lt_of_le hi hq), a.out⟩

end

/-! ### what a reading comes to -/
structure Rp (α β : Type) where
  r : (Nat → Addr) → Hp → Nat → β → α → Prop
def repV (C : Cst) : Rp Val V := ⟨fun ι F n x v => RV C ι F n x v⟩
def repB : Rp Bool Bool := ⟨fun _ _ _ x v => x = v⟩
def repL (C : Cst) : Rp (List Val) (List V) := ⟨fun ι F n x v => Paired (RV C ι F n) x v⟩
def repO : Rp (Option Int) (Option Int) := ⟨fun _ _ _ x v => x = v⟩
def Done {α β : Type} (A : Rp α β) (C : Cst) (W : WK) (G F : Hp) (ι : Nat → Addr) (q : Nat) (r : Res α) (Q : β → Hp → Prop) : Prop := match r with
  | .ok v h' => ∀ F' ι' H' x, Rel C G F' ι' h' H' → Ext G F ι q F' ι' → q ≤ h'.length → A.r ι' F' h'.length x v → Q x H'
  | .er c => ∀ H', (∀ b o, G b = some o → H' b = some o) → LamX.Tabs C.T H' → W c H'
  | .no => False
abbrev M (α : Type) := En → Hs → Res α
abbrev Ev := M Val
def tOf {α β : Type} (A : Rp α β) (C : Cst) (W : WK) (m : M α) : L2.St → Hp → (β → Hp → Prop) → Prop :=
  fun σ H Q => ∃ G F ι ρ h, Rel C G F ι h H ∧ SR C ι F h.length σ ρ ∧ Done A C W G F ι h.length (m ρ h) Q
section
variable {α β γ δ : Type} {A : Rp α β} {B : Rp γ δ} {C : Cst} {W : WK} {G F F' F2 : Hp} {ι ι' ι2 : Nat → Addr} {n n' q : Nat} {h h' : Hs} {H H' : Hp} {σ : L2.St} {ρ : En}
theorem Done.mono {r : Res α} {Q : β → Hp → Prop} (d : Done A C W G F ι q r Q) {q' : Nat} (e : Ext G F ι q F' ι') (hq : q ≤ q') : Done A C W G F' ι' q' r Q := by
  cases r with
  | ok v h' => exact fun F2 ι2 H2 x R E l z => d F2 ι2 H2 x R (e.trans E hq) (Nat.le_trans hq l) z
  | er c => exact d
  | no => exact d
theorem st1 {a : M α} {f : α → Hs → Res γ} {Q : δ → Hp → Prop} {T : β → Hp → Prop} (R : Rel C G F ι h H) (S : SR C ι F h.length σ ρ) (D : Done B C W G F ι h.length ((a ρ h).bind f) Q)
    (k : ∀ F1 ι1 h1 H1 x v, Rel C G F1 ι1 h1 H1 → Ext G F ι h.length F1 ι1 → h.length ≤ h1.length → A.r ι1 F1 h1.length x v → Done B C W G F1 ι1 h1.length (f v h1) Q → T x H1) : tOf A C W a σ H T := by
  refine ⟨G, F, ι, ρ, h, R, S, ?_⟩
  cases e : a ρ h with
  | ok v h1 =>
    rw [e] at D
    exact fun F1 ι1 H1 x R1 E1 l1 V1 => k F1 ι1 h1 H1 x v R1 E1 l1 V1 (Done.mono D E1 l1)
  | er c => rw [e] at D; exact D
  | no => rw [e] at D; exact D
theorem Rel.dead (R : Rel C G F ι h H) : ∀ b o, G b = some o → H b = some o := R.g
theorem Rel.tabs (R : Rel C G F ι h H) : LamX.Tabs C.T H := fun p hp => (R.tb p hp).2.2
end
/-- the context's side -/
structure Ctx (X : Cx) (W : WK) : Prop where
  calm : X.calm = true
  nd : X.N.Nodup
  hu : X.A.units + 65 < cLine
  gd : W.T.g = true → X.A.guards = some []
  tk : Takes X (fun cls d _ H => ∃ c Ca, X.mg c = some (.ref Ca) ∧ cls = .ref Ca ∧ d = none ∧ W c H)
abbrev JE (X : Cx) (W : WK) (e : Expr) (m : Ev) : Prop := PE X e (tOf (repV (cst X W)) (cst X W) W m)
abbrev JT (X : Cx) (W : WK) (e : Expr) (m : M Bool) : Prop := PT X e (tOf repB (cst X W) W m)
abbrev JW (X : Cx) (W : WK) (e : Expr) (m : M Bool) : Prop := PW X e (tOf repB (cst X W) W m)
abbrev JA (X : Cx) (W : WK) (es : List Expr) (m : M (List Val)) : Prop := PA X es (tOf (repL (cst X W)) (cst X W) W m)
theorem PE.imp {X : Cx} {e : Expr} {t t' : TE} (p : PE X e t) (h : ∀ σ H Q, t' σ H Q → t σ H Q) : PE X e t' := ⟨fun pins s σ H Q I q => p.run pins s σ H Q I (h σ H Q q)⟩
theorem PT.imp {X : Cx} {e : Expr} {t t' : TT} (p : PT X e t) (h : ∀ σ H Q, t' σ H Q → t σ H Q) : PT X e t' := ⟨fun pins s σ H Q I q => p.run pins s σ H Q I (h σ H Q q)⟩
theorem PW.imp {X : Cx} {e : Expr} {t t' : TT} (p : PW X e t) (h : ∀ σ H Q, t' σ H Q → t σ H Q) : PW X e t' := ⟨fun w pins s σ H Q I q => p.run w pins s σ H Q I (h σ H Q q)⟩
theorem PA.imp {X : Cx} {e : List Expr} {t t' : TA} (p : PA X e t) (h : ∀ σ H Q, t' σ H Q → t σ H Q) : PA X e t' := ⟨fun ps pins s σ H Q I q => p.run ps pins s σ H Q I (h σ H Q q)⟩
theorem PS.imp {X : Cx} {e : Stmt} {t t' : TS} (p : PS X e t) (h : ∀ D σ H, t' D σ H → t D σ H) : PS X e t' := ⟨fun pins s σ H D I q => p.run pins s σ H D I (h D σ H q)⟩
theorem PSs.imp {X : Cx} {e : List Stmt} {t t' : TS} (p : PSs X e t) (h : ∀ D σ H, t' D σ H → t D σ H) : PSs X e t' := ⟨fun pins s σ H D I q => p.run pins s σ H D I (h D σ H q)⟩

/-! ### names, constants, operators -/
def eVar (i : Nat) : Ev := fun ρ h => match ρ[i]? with
  | some (some v) => .ok v h
  | _ => .no
def eC (d : PyData) : Ev := fun _ h => .ok (.im d) h
def e2 (a b : Ev) (f : Val → Val → Hs → Res Val) : Ev := fun ρ h => (a ρ h).bind fun x h1 => (b ρ h1).bind fun y h2 => f x y h2
def e1 (a : Ev) (f : Val → Hs → Res Val) : Ev := fun ρ h => (a ρ h).bind f
section
variable {X : Cx} {W : WK} {a b c : Expr} {ma mb mc : Ev} {pos : Pos} {G F : Hp} {ι : Nat → Addr} {h : Hs} {H : Hp} {σ : L2.St} {ρ : En}
theorem je_var {i : Nat} {x : Str} (hN : X.N[i]? = some x := by rfl) (hv : Vis X.env.scope x := by first | exact Or.inl rfl | exact Or.inr (Or.inl rfl) | exact Or.inr (Or.inr rfl)) (hd : (x == ("__debug__" : Str)) = false := by decide) (hcd : (x == ("__classdict__" : Str)) = false := by decide) :
    JE X W (.Name x pos) (eVar i) := by
  refine PE.imp (pe_var hN hv hd hcd) fun σ H Q h => ?_
  obtain ⟨G, F, ι, ρ, h, R, S, D⟩ := h
  unfold eVar at D
  split at D
  · rename_i v e
    obtain ⟨x, e1, z⟩ := S.at' _ _ e
    exact ⟨x, e1, D F ι H x R Ext.refl (Nat.le_refl _) z⟩
  · exact D.elim
theorem fin_im {C : Cst} {W : WK} {x : V} {d : PyData} {Q : VK} (R : Rel C G F ι h H) (D : Done (repV C) C W G F ι h.length (.ok (.im d) h) Q) (z : Dp C.K F x d) : Q x H := D F ι H x R Ext.refl (Nat.le_refl _) (.im z)
theorem je_const {e : Expr} {d : PyData} {x : V} (hp : PE X e (tC x)) (hd : ∀ K H, Dp K H x d) : JE X W e (eC d) := by
  refine PE.imp hp fun σ H Q h => ?_
  obtain ⟨G, F, ι, ρ, h, R, S, D⟩ := h
  exact fin_im R D (hd _ _)
theorem je_int {i j} : JE X W (.Constant (.int i) j pos) (eC (.int i)) := je_const pe_int fun _ _ => .int i
theorem je_bl {b j} : JE X W (.Constant (.bool b) j pos) (eC (.bool b)) := je_const pe_bl fun _ _ => .bl b
theorem je_non {j} : JE X W (.Constant .none j pos) (eC .none) := je_const pe_non fun _ _ => .non
theorem je_str {x j} : JE X W (.Constant (.str x) j pos) (eC (.str x)) := je_const pe_str fun _ _ => .str x
/-- two in a row -/
theorem two {C : Cst} {W : WK} {ma mb : Ev} {f : Val → Val → Hs → Res Val} {Q : VK} {T : V → V → Hp → Prop} (R : Rel C G F ι h H) (S : SR C ι F h.length σ ρ) (D : Done (repV C) C W G F ι h.length (e2 ma mb f ρ h) Q)
    (k : ∀ F2 ι2 h2 H2 x y v u, Rel C G F2 ι2 h2 H2 → RV C ι2 F2 h2.length x v → RV C ι2 F2 h2.length y u → Done (repV C) C W G F2 ι2 h2.length (f v u h2) Q → T x y H2) :
    tOf (repV C) C W ma σ H fun x H1 => tOf (repV C) C W mb σ H1 fun y H2 => T x y H2 := by
  refine st1 R S D fun F1 ι1 h1 H1 x v R1 E1 l1 V1 D1 => ?_
  refine st1 R1 (S.mono E1.le E1.ag l1) D1 fun F2 ι2 h2 H2 y u R2 E2 l2 V2 D2 => ?_
  exact k F2 ι2 h2 H2 x y v u R2 (RV.mono V1 E2.le E2.ag l2) V2 D2
/-- a binary operation by values -/
def rOf2 (C : Cst) (W : WK) (f : Val → Val → Hs → Res Val) : R2 := fun x y H Q => ∃ G F ι h v u, Rel C G F ι h H ∧ RV C ι F h.length x v ∧ RV C ι F h.length y u ∧ Done (repV C) C W G F ι h.length (f v u h) Q
def rOf1 (C : Cst) (W : WK) (f : Val → Hs → Res Val) : V → Hp → VK → Prop := fun x H Q => ∃ G F ι h v, Rel C G F ι h H ∧ RV C ι F h.length x v ∧ Done (repV C) C W G F ι h.length (f v h) Q
def rOfL (C : Cst) (W : WK) (f : List Val → Hs → Res Val) : List V → Hp → VK → Prop := fun x H Q => ∃ G F ι h v, Rel C G F ι h H ∧ Paired (RV C ι F h.length) x v ∧ Done (repV C) C W G F ι h.length (f v h) Q
def rOfM (C : Cst) (W : WK) (f : Val → List Val → Hs → Res Val) : V → List V → Hp → VK → Prop := fun x xs H Q => ∃ G F ι h u v, Rel C G F ι h H ∧ RV C ι F h.length x u ∧ Paired (RV C ι F h.length) xs v ∧ Done (repV C) C W G F ι h.length (f u v h) Q
theorem two_r {C : Cst} {W : WK} {ma mb : Ev} {f : Val → Val → Hs → Res Val} {Q : VK} (t : tOf (repV C) C W (e2 ma mb f) σ H Q) : tOp (rOf2 C W f) (tOf (repV C) C W ma) (tOf (repV C) C W mb) σ H Q := by
  obtain ⟨G, F, ι, ρ, h, R, S, D⟩ := t
  exact two R S D fun F2 ι2 h2 H2 x y v u R2 V1 V2 D2 => ⟨G, F2, ι2, h2, v, u, R2, V1, V2, D2⟩
theorem OpR.imp {X : Cx} {f : Value → Value → Sem Value} {r r' : R2} (p : OpR X f r) (h : ∀ x y H Q, r' x y H Q → r x y H Q) : OpR X f r' := fun pins s σ H x y v u Q I rx ry q => p pins s σ H x y v u Q I rx ry (h _ _ _ _ q)
theorem UnR.imp {X : Cx} {f : Value → Sem Value} {r r' : V → Hp → VK → Prop} (p : UnR X f r) (h : ∀ x H Q, r' x H Q → r x H Q) : UnR X f r' := fun pins s σ H x v Q I rx q => p pins s σ H x v Q I rx (h _ _ _ q)
theorem CallR.imp {X : Cx} {f : Value} {r r' : List V → Hp → VK → Prop} (p : CallR X f r) (h : ∀ x H Q, r' x H Q → r x H Q) : CallR X f r' := fun pins s σ H x v Q I rx q => p pins s σ H x v Q I rx (h _ _ _ q)
theorem je_op {op : Operator} {f : Val → Val → Hs → Res Val} (ho : OpR X (binaryOp op) (rOf2 (cst X W) W f)) (ha : JE X W a ma) (hb : JE X W b mb) : JE X W (.BinOp a op b pos) (e2 ma mb f) :=
  PE.imp (pe_op ho ha hb) fun _ _ _ t => two_r t
theorem je_un {op : UnaryOp} {f : Val → Hs → Res Val} (ho : UnR X (unaryOp op) (rOf1 (cst X W) W f)) (ha : JE X W a ma) : JE X W (.UnaryOp op a pos) (e1 ma f) := by
  refine PE.imp (pe_un ho ha) fun σ H Q t => ?_
  obtain ⟨G, F, ι, ρ, h, R, S, D⟩ := t
  exact st1 R S D fun F1 ι1 h1 H1 x v R1 E1 l1 V1 D1 => ⟨G, F1, ι1, h1, v, R1, V1, D1⟩
theorem je_cmp {op : CmpOp} {f : Val → Val → Hs → Res Val} (ho : OpR X (compareOp op) (rOf2 (cst X W) W f)) (ha : JE X W a ma) (hb : JE X W b mb) (hm : behindInMarks op b = false := by first | exact nomark _ | rfl) : JE X W (.Compare a [op] [b] pos) (e2 ma mb f) :=
  PE.imp (pe_cmpR ho ha hb hm) fun _ _ _ t => two_r t
def vB (v : Val) (h : Hs) : Res Bool := match v with
  | .im (.bool b) => .ok b h
  | _ => .no
def tst (a : Ev) : M Bool := fun ρ h => (a ρ h).bind vB
theorem tst_r {C : Cst} {W : WK} {m : Ev} {σ : L2.St} {H : Hp} {Q : Bool → Hp → Prop} (t : tOf repB C W (tst m) σ H Q) : tOf (repV C) C W m σ H fun x H1 => ∃ c, x = .bl c ∧ Q c H1 := by
  obtain ⟨G, F, ι, ρ, h, R, S, D⟩ := t
  refine st1 R S D fun F1 ι1 h1 H1 x v R1 E1 l1 V1 D1 => ?_
  unfold vB at D1
  split at D1
  · cases V1 with
    | im z => cases z; exact ⟨_, rfl, D1 F1 ι1 H1 _ R1 Ext.refl (Nat.le_refl _) rfl⟩
  · exact D1.elim
theorem tst_op {C : Cst} {W : WK} {ma mb : Ev} {f : Val → Val → Hs → Res Val} {σ : L2.St} {H : Hp} {Q : Bool → Hp → Prop} (t : tOf repB C W (tst (e2 ma mb f)) σ H Q) :
    tOp (rOf2 C W f) (tOf (repV C) C W ma) (tOf (repV C) C W mb) σ H fun x H' => ∃ k, x = .bl k ∧ Q k H' := two_r (tst_r t)
theorem jt_cmp {op : CmpOp} {f : Val → Val → Hs → Res Val} (ho : OpR X (compareOp op) (rOf2 (cst X W) W f)) (ha : JE X W a ma) (hb : JE X W b mb) (hm : behindInMarks op b = false := by first | exact nomark _ | rfl) : JT X W (.Compare a [op] [b] pos) (tst (e2 ma mb f)) :=
  PT.imp (pt_cmpR ho ha hb hm) fun _ _ _ t => tst_op t
theorem jt_val (ha : JE X W a ma) (he : ∀ whole, isTrue a X.env whole = (do let v ← whole; standAt a.pos; holding [v] (truthy v)) := by intro _; rfl) : JT X W a (tst ma) :=
  PT.imp (pt_val ha he) fun _ _ _ t => tst_r t
end
end NT

set_option Elab.async false
set_option linter.all false
set_option maxRecDepth 100000
set_option autoImplicit false

namespace NT
open PySem PySem.Spec PyProof.Rows L2

/-! ### cells laid, written, frozen -/
def putI (ι : Nat → Addr) (n : Nat) (p : Addr) : Nat → Addr := fun i => if i = n then p else ι i
theorem putI_same {ι : Nat → Addr} {n : Nat} {p : Addr} : putI ι n p n = p := if_pos rfl
theorem putI_ne {ι : Nat → Addr} {n i : Nat} {p : Addr} (h : i ≠ n) : putI ι n p i = ι i := if_neg h
theorem putI_lt {ι : Nat → Addr} {n i : Nat} {p : Addr} (h : i < n) : putI ι n p i = ι i := if_neg (Nat.ne_of_lt h)
section
variable {C : Cst} {W : WK} {G F F' : Hp} {ι ι' : Nat → Addr} {n n' q : Nat} {h h' : Hs} {H H' : Hp} {σ : L2.St} {ρ : En}
theorem CellR.at' {a : Addr} {o o' : Option HO} {c : Cell} (r : CellR C ι F n a o c) (e : c.live = true → o' = o) : CellR C ι F n a o' c := by
  cases c with
  | lst vs => rw [e rfl]; exact r
  | fz d => exact r
  | dct kvs => rw [e rfl]; exact r
theorem Rel.there (R : Rel C G F ι h H) {i : Nat} {c : Cell} (e : h[i]? = some c) (l : c.live = true) : ∃ o, H (ι i) = some o := by
  have r := R.cell i c e
  cases c with
  | lst vs => obtain ⟨xs, z, _⟩ := r; exact ⟨_, z⟩
  | fz d => cases l
  | dct kvs => obtain ⟨L, z, _⟩ := r; exact ⟨_, z⟩
theorem Rel.ne (R : Rel C G F ι h H) {i : Nat} {c : Cell} (e : h[i]? = some c) (l : c.live = true) {p : Addr} (hp : H p = none) : ι i ≠ p := fun z => by
  obtain ⟨o, q⟩ := R.there e l
  rw [z, hp] at q; cases q
theorem Rel.freeG (R : Rel C G F ι h H) {p : Addr} (hp : H p = none) : G p = none := by
  cases e : G p with
  | none => rfl
  | some o => rw [R.g p o e] at hp; cases hp
theorem Rel.freeF (R : Rel C G F ι h H) {p : Addr} (hp : H p = none) : F p = none := by
  cases e : F p with
  | none => rfl
  | some o => rw [R.f p o e] at hp; cases hp
theorem get_snoc {α : Type} {l : List α} {a b : α} {i : Nat} (e : (l ++ [a])[i]? = some b) : (i < l.length ∧ l[i]? = some b) ∨ (i = l.length ∧ a = b) := by
  by_cases hi : i < l.length
  · rw [List.getElem?_append_left hi] at e; exact .inl ⟨hi, e⟩
  · rw [List.getElem?_append_right (Nat.le_of_not_lt hi)] at e
    have hl : i - l.length = 0 := by
      have := (List.getElem?_eq_some_iff.mp e).1
      simp at this
      omega
    rw [hl] at e
    exact .inr ⟨by omega, by simpa using e⟩
/-! ### the tables of code objects stay -/
theorem codeO_dict {a : Addr} {q : Str} {L : List (V × V × Int)} : LamX.CodeO a q ≠ .ext (dictP a L) := fun z => by
  unfold LamX.CodeO at z
  injection z with z
  let ob : Obj := { cls := .none, data := .fields #[.none, .str q 0] }
  let hh : Heap := { objs := (Array.replicate (a + 1) ob) }
  have hg : hh.get? a = some ob := by
    unfold Heap.get?
    have : hh.objs[a]? = some ob := by
      show (Array.replicate (a + 1) ob)[a]? = some ob
      simp
    rw [this]
  have h1 : ∃ (oc : Obj) (vs : Array Value) (t : Tok), hh.get? a = some oc ∧ oc.data = .fields vs ∧ vs[1]? = some (.str q t) := ⟨ob, _, 0, hg, rfl, rfl⟩
  have h2 : dictP a L hh := (congrFun z hh) ▸ h1
  obtain ⟨_, o, es, ep, e1, _, e3, _⟩ := h2
  rw [hg] at e1
  cases e1
  cases e3
theorem tabS_new {p P : Addr} {o : HO} {q : Str} (t : LamX.TabS H P q) (hp : H p = none) : LamX.TabS (upd H p o) P q := t.ext fun b u e => by
  rw [upd_ne fun z => by rw [z, hp] at e; cases e]; exact e
theorem tabS_put {a P : Addr} {o : HO} {q : Str} (t : LamX.TabS H P q) (h1 : ∀ ps, H a ≠ some (.tbl ps)) (h2 : ∀ q, H a ≠ some (LamX.CodeO a q)) : LamX.TabS (upd H a o) P q := by
  obtain ⟨ps, e1, e2, e3⟩ := t
  refine ⟨ps, by rw [upd_ne fun z => by rw [← z] at h1; exact h1 ps e1]; exact e1, e2, fun pos cv hc => ?_⟩
  obtain ⟨c, e4, e5⟩ := e3 pos cv hc
  exact ⟨c, e4, by rw [upd_ne fun z => by rw [← z] at h2; exact h2 q e5]; exact e5⟩
theorem Rel.notTab (R : Rel C G F ι h H) {k : Nat} {c : Cell} (e : h[k]? = some c) (l : c.live = true) : (∀ ps, H (ι k) ≠ some (.tbl ps)) ∧ ∀ q, H (ι k) ≠ some (LamX.CodeO (ι k) q) := by
  have r := R.cell k c e
  cases c with
  | lst vs =>
    obtain ⟨xs, z, _⟩ := r
    rw [z]
    exact ⟨fun ps q => by (injection q with q; cases q), fun q w => by (injection w with w; unfold LamX.CodeO at w; cases w)⟩
  | fz d => cases l
  | dct kvs =>
    obtain ⟨L, z, _⟩ := r
    rw [z]
    exact ⟨fun ps q => by (injection q with q; cases q), fun q w => by (injection w with w; exact codeO_dict w.symm)⟩
def NoTab (H : Hp) (D : Addr) : Prop := (∀ ps, H D ≠ some (.tbl ps)) ∧ ∀ q, H D ≠ some (LamX.CodeO D q)
theorem NoTab.none {D : Addr} (e : H D = Option.none) : NoTab H D := ⟨fun _ => by rw [e]; exact fun z => (by cases z), fun _ => by rw [e]; exact fun z => (by cases z)⟩
theorem NoTab.lst {D : Addr} {xs : List V} (e : H D = some (.lst xs)) : NoTab H D := ⟨fun ps => by rw [e]; exact fun q => (by injection q with q; cases q), fun q => by rw [e]; exact fun w => (by injection w with w; unfold LamX.CodeO at w; cases w)⟩
theorem NoTab.dct {D : Addr} {L : List (V × V × Int)} (e : H D = some (.ext (dictP D L))) : NoTab H D := ⟨fun ps => by rw [e]; exact fun q => (by injection q with q; cases q), fun q => by rw [e]; exact fun w => (by injection w with w; exact codeO_dict w.symm)⟩
theorem Rel.tabCell (R : Rel C G F ι h H) {p : Addr × Str} (hp : p ∈ C.T) {k : Nat} {c : Cell} (e : h[k]? = some c) (l : c.live = true) : p.1 ≠ ι k := fun z => by
  obtain ⟨ps, q, _⟩ := (R.tb p hp).2.2
  exact (R.notTab e l).1 ps (by rw [← z]; exact q)
theorem Rel.tabNe (R : Rel C G F ι h H) {p : Addr × Str} (hp : p ∈ C.T) : H p.1 ≠ none := by
  obtain ⟨ps, e, _⟩ := (R.tb p hp).2.2
  rw [e]; exact fun z => by cases z
/-- a new cell -/
theorem Rel.newC (R : Rel C G F ι h H) {p : Addr} (hp : H p = none) {o : HO} {c : Cell} (lv : c.live = true) (V : CellR C (putI ι h.length p) F (h.length + 1) p (some o) c) : Rel C G F (putI ι h.length p) (h ++ [c]) (upd H p o) := by
  have np : ∀ b u, H b = some u → b ≠ p := fun b u e z => by rw [z, hp] at e; cases e
  have old : ∀ {i : Nat} {c' : Cell}, h[i]? = some c' → putI ι h.length p i = ι i := fun e => putI_lt (List.getElem?_eq_some_iff.mp e).1
  refine ⟨fun b u e => ?_, fun b u e => ?_, fun i j c1 c2 e1 e2 l1 l2 z => ?_, fun i c1 e1 l1 => ?_, fun i c1 e1 l1 => ?_, fun i c1 e1 => ?_, fun x hx => ⟨(R.tb x hx).1, (R.tb x hx).2.1, tabS_new (R.tb x hx).2.2 hp⟩, R.ng, R.nf⟩
  · rw [upd_ne (np b u (R.g b u e))]; exact R.g b u e
  · rw [upd_ne (np b u (R.f b u e))]; exact R.f b u e
  · rcases get_snoc e1 with ⟨h1, e1⟩ | ⟨h1, e1⟩
    · rcases get_snoc e2 with ⟨h2, e2⟩ | ⟨h2, e2⟩
      · rw [old e1, old e2] at z
        exact R.inj i j c1 c2 e1 e2 l1 l2 z
      · rw [old e1, h2, putI_same] at z
        exact absurd z (R.ne e1 l1 hp)
    · rcases get_snoc e2 with ⟨h2, e2⟩ | ⟨h2, e2⟩
      · rw [old e2, h1, putI_same] at z
        exact absurd z.symm (R.ne e2 l2 hp)
      · rw [h1, h2]
  · rcases get_snoc e1 with ⟨h1, e1⟩ | ⟨h1, e1⟩
    · rw [old e1]; exact R.gl i c1 e1 l1
    · rw [h1, putI_same]; exact R.freeG hp
  · rcases get_snoc e1 with ⟨h1, e1⟩ | ⟨h1, e1⟩
    · rw [old e1]; exact R.fl i c1 e1 l1
    · rw [h1, putI_same]; exact R.freeF hp
  · rw [List.length_append, List.length_singleton]
    rcases get_snoc e1 with ⟨h1, e1⟩ | ⟨h1, e1⟩
    · rw [old e1]
      refine CellR.at' (CellR.mono (R.cell i c1 e1) (fun _ _ z => z) (fun j hj => putI_lt hj) (Nat.le_succ _)) fun l1 => ?_
      exact upd_ne (R.ne e1 l1 hp)
    · rw [h1, putI_same, upd_same, ← e1]; exact V
theorem Ext.newC (R : Rel C G F ι h H) (p : Addr) (o : HO) : Ext G F ι h.length F (putI ι h.length p) := ⟨fun _ _ z => z, fun i hi => putI_lt hi, fun _ _ => rfl⟩
theorem Rel.newL (R : Rel C G F ι h H) {p : Addr} (hp : H p = none) {xs : List V} {vs : List Val} (V : Paired (RV C ι F h.length) xs vs) : Rel C G F (putI ι h.length p) (h ++ [.lst vs]) (upd H p (.lst xs)) :=
  R.newC hp rfl ⟨xs, rfl, RVs.mono V (fun _ _ z => z) (fun i hi => putI_lt hi) (Nat.le_succ _)⟩
/-- a new thing that never changes -/
theorem Rel.newF (R : Rel C G F ι h H) {p : Addr} (hp : H p = none) (o : HO) (ho : ∀ ps, o ≠ .tbl ps := by intro ps z; cases z) : Rel C G (upd F p o) ι h (upd H p o) := by
  have np : ∀ b u, H b = some u → b ≠ p := fun b u e z => by rw [z, hp] at e; cases e
  have le : ∀ b u, F b = some u → upd F p o b = some u := fun b u e => by rw [upd_ne (np b u (R.f b u e))]; exact e
  refine ⟨fun b u e => ?_, fun b u e => ?_, R.inj, R.gl, fun i c1 e1 l1 => ?_, fun i c1 e1 => ?_, fun x hx => ⟨(R.tb x hx).1, by rw [upd_ne fun z => R.tabNe hx (by rw [z]; exact hp)]; exact (R.tb x hx).2.1, tabS_new (R.tb x hx).2.2 hp⟩, R.ng, fun b ps z => ?_⟩
  · rw [upd_ne (np b u (R.g b u e))]; exact R.g b u e
  · by_cases hb : b = p
    · subst hb; rw [upd_same] at e ⊢; exact e
    · rw [upd_ne hb] at e ⊢; exact R.f b u e
  · rw [upd_ne (R.ne e1 l1 hp)]; exact R.fl i c1 e1 l1
  · refine CellR.at' (CellR.mono (R.cell i c1 e1) le (fun _ _ => rfl) (Nat.le_refl _)) fun l1 => upd_ne (R.ne e1 l1 hp)
  · by_cases hb : b = p
    · subst hb; rw [upd_same] at z; cases z; exact ho _ rfl
    · rw [upd_ne hb] at z; exact R.nf b ps z
theorem Ext.newF (R : Rel C G F ι h H) {p : Addr} (hp : H p = none) (o : HO) : Ext G F ι h.length (upd F p o) ι := by
  have np : ∀ b u, H b = some u → b ≠ p := fun b u e z => by rw [z, hp] at e; cases e
  refine ⟨fun b u e => by rw [upd_ne (np b u (R.f b u e))]; exact e, fun _ _ => rfl, fun b hb => upd_ne fun z => ?_⟩
  rw [z] at hb
  exact hb (R.freeG hp)
theorem get_set {α : Type} {l : List α} {k i : Nat} {a b : α} (e : (l.set k a)[i]? = some b) : (i ≠ k ∧ l[i]? = some b) ∨ (i = k ∧ a = b ∧ k < l.length) := by
  by_cases hi : i = k
  · subst hi
    have hl : i < l.length := by
      have := (List.getElem?_eq_some_iff.mp e).1
      simpa using this
    rw [List.getElem?_set_self hl] at e
    exact .inr ⟨rfl, by simpa using e, hl⟩
  · rw [List.getElem?_set_ne (Ne.symm hi)] at e
    exact .inl ⟨hi, e⟩
/-- a cell written -/
theorem Rel.setC (R : Rel C G F ι h H) {k : Nat} {c0 c : Cell} {o : HO} (e0 : h[k]? = some c0) (l0 : c0.live = true) (lv : c.live = true) (V : CellR C ι F h.length (ι k) (some o) c) : Rel C G F ι (h.set k c) (upd H (ι k) o) := by
  have lt : ∀ (i : Nat) (c1 : Cell), (h.set k c)[i]? = some c1 → c1.live = true → ∃ c2, h[i]? = some c2 ∧ c2.live = true := fun i c1 e l => by
    rcases get_set e with ⟨_, e⟩ | ⟨hi, e, _⟩
    · exact ⟨c1, e, l⟩
    · exact ⟨c0, by rw [hi]; exact e0, l0⟩
  refine ⟨fun b u e => ?_, fun b u e => ?_, fun i j c1 c2 e1 e2 l1 l2 z => ?_, fun i c1 e1 l1 => ?_, fun i c1 e1 l1 => ?_, fun i c1 e1 => ?_, fun x hx => ⟨(R.tb x hx).1, (R.tb x hx).2.1, tabS_put (R.tb x hx).2.2 (R.notTab e0 l0).1 (R.notTab e0 l0).2⟩, R.ng, R.nf⟩
  · rw [upd_ne fun z => by rw [z, R.gl k c0 e0 l0] at e; cases e]; exact R.g b u e
  · rw [upd_ne fun z => by rw [z, R.fl k c0 e0 l0] at e; cases e]; exact R.f b u e
  · obtain ⟨_, f1, m1⟩ := lt i c1 e1 l1
    obtain ⟨_, f2, m2⟩ := lt j c2 e2 l2
    exact R.inj i j _ _ f1 f2 m1 m2 z
  · obtain ⟨_, f1, m1⟩ := lt i c1 e1 l1
    exact R.gl i _ f1 m1
  · obtain ⟨_, f1, m1⟩ := lt i c1 e1 l1
    exact R.fl i _ f1 m1
  · rw [List.length_set]
    rcases get_set e1 with ⟨hi, e1⟩ | ⟨hi, e1, _⟩
    · refine CellR.at' (R.cell i c1 e1) fun l1 => upd_ne fun z => ?_
      exact hi (R.inj i k c1 c0 e1 e0 l1 l0 z)
    · rw [hi, ← e1, upd_same]; exact V
theorem Rel.setL (R : Rel C G F ι h H) {k : Nat} {us vs : List Val} {xs : List V} (e0 : h[k]? = some (.lst us)) (V : Paired (RV C ι F h.length) xs vs) : Rel C G F ι (h.set k (.lst vs)) (upd H (ι k) (.lst xs)) :=
  R.setC e0 rfl rfl ⟨xs, rfl, V⟩
end

/-! ### data out of values -/
def imsOf : List Val → Option (List PyData)
  | [] => some []
  | .im d :: r => (imsOf r).map (d :: ·)
  | .ref _ :: _ => none
/-- what a value reads as -/
def rdD (h : Hs) : Val → Option PyData
  | .im d => some d
  | .ref k => match h[k]? with
    | some (.lst vs) => (imsOf vs).map .list
    | some (.fz d) => some d
    | _ => none
/-- a list's or a tuple's items -/
def itemsOf (h : Hs) : Val → Option (List Val)
  | .im (.tuple ds) => some (ds.map .im)
  | .im (.list ds) => some (ds.map .im)
  | .ref k => match h[k]? with
    | some (.lst vs) => some vs
    | some (.fz (.list ds)) => some (ds.map .im)
    | _ => none
  | _ => none
section
variable {C : Cst} {W : WK} {G F F' : Hp} {ι ι' : Nat → Addr} {n n' q : Nat} {h h' : Hs} {H H' : Hp} {σ : L2.St} {ρ : En}
theorem ims_of : ∀ {vs : List Val} {ds : List PyData}, imsOf vs = some ds → vs = ds.map .im
  | [], ds, e => by cases e; rfl
  | .im d :: r, ds, e => by
    unfold imsOf at e
    cases e1 : imsOf r with
    | none => rw [e1] at e; cases e
    | some l => rw [e1] at e; cases e; rw [ims_of e1]; rfl
  | .ref _ :: _, _, e => by cases e
@[simp] theorem imsOf_map : ∀ ds : List PyData, imsOf (ds.map .im) = some ds
  | [] => rfl
  | d :: r => by simp [imsOf, imsOf_map r]
theorem dpAll_of {C : Cst} {ι : Nat → Addr} {F : Hp} {n : Nat} : ∀ {xs : List V} {ds : List PyData}, Paired (RV C ι F n) xs (ds.map .im) → DpAll C.K F xs ds
  | _, [], r => by cases r; exact .nil
  | _, d :: ds, r => by
    cases r with
    | cons a b => cases a with | im z => exact .cons z (dpAll_of b)
theorem rvs_of {C : Cst} {ι : Nat → Addr} {F : Hp} {n : Nat} : ∀ {xs : List V} {ds : List PyData}, DpAll C.K F xs ds → Paired (RV C ι F n) xs (ds.map .im)
  | _, [], r => by cases r; exact .nil
  | _, d :: ds, r => by
    cases r with
    | cons a b => exact .cons (.im a) (rvs_of b)
theorem dp_len {K : PySem.W.Frag} {F : Hp} : ∀ {xs : List V} {ds : List PyData}, DpAll K F xs ds → xs.length = ds.length
  | _, [], r => by cases r; rfl
  | _, d :: ds, r => by cases r with | cons a b => simp [dp_len b]
theorem Rel.dp (R : Rel C G F ι h H) {x : V} {d : PyData} (z : Dp C.K F x d) : Dp C.K H x d := Dp.le R.f _ _ z
/-- a read value stands as data in the heap -/
theorem Rel.rd (R : Rel C G F ι h H) {x : V} {v : Val} {d : PyData} (z : RV C ι F h.length x v) (e : rdD h v = some d) : Dp C.K H x d := by
  cases z with
  | im z => cases e; exact R.dp z
  | @ref k hk =>
    simp only [rdD] at e
    split at e
    · rename_i vs hc
      cases e1 : imsOf vs with
      | none => rw [e1] at e; cases e
      | some ds =>
        rw [e1] at e; cases e
        obtain ⟨xs, hH, p⟩ := R.cell k _ hc
        rw [ims_of e1] at p
        exact .lst (SqL.of hH) (Dp.leAll R.f _ _ (dpAll_of p))
    · rename_i d' hc
      cases e
      exact R.dp (R.cell k _ hc)
    · cases e
theorem seqF {K : PySem.W.Frag} {F H : Hp} (f : ∀ b o, F b = some o → H b = some o) {a : Addr} {xs : List V} (s : SqL K F a xs) : SqL K H a xs := by
  rcases s with (z | ⟨o, z⟩) | z
  · exact .inl (.inl (f _ _ z))
  · exact .inl (.inr ⟨o, f _ _ z⟩)
  · exact .inr z
theorem tupF {K : PySem.W.Frag} {F H : Hp} (f : ∀ b o, F b = some o → H b = some o) {a : Addr} {xs : List V} (s : SqT K F a xs) : SqT K H a xs := by
  rcases s with (z | ⟨o, z⟩) | z
  · exact .inl (.inl (f _ _ z))
  · exact .inl (.inr ⟨o, f _ _ z⟩)
  · exact .inr z
theorem Rel.items (R : Rel C G F ι h H) {x : V} {v : Val} {vs : List Val} (z : RV C ι F h.length x v) (e : itemsOf h v = some vs) : ∃ a xs, x = .ref a ∧ (SqL C.K H a xs ∨ SqT C.K H a xs) ∧ Paired (RV C ι F h.length) xs vs := by
  unfold itemsOf at e
  split at e
  · cases e
    cases z with
    | im z => cases z with | tup s p => exact ⟨_, _, rfl, .inr (tupF R.f s), rvs_of p⟩
  · cases e
    cases z with
    | im z => cases z with | lst s p => exact ⟨_, _, rfl, .inl (seqF R.f s), rvs_of p⟩
  · rename_i k
    cases z with
    | ref hk =>
      split at e
      · rename_i vs' hc
        cases e
        obtain ⟨xs, hH, p⟩ := R.cell k _ hc
        exact ⟨_, xs, rfl, .inl (SqL.of hH), p⟩
      · rename_i ds hc
        cases e
        have r := R.cell k _ hc
        cases r with | lst s p => exact ⟨_, _, rfl, .inl (seqF R.f s), rvs_of p⟩
      · cases e
  · cases e
end
end NT

set_option Elab.async false
set_option linter.all false
set_option maxRecDepth 100000
set_option autoImplicit false

namespace NT
open PySem PySem.Spec PyProof.Rows L2

/-! ### finishing -/
section
variable {X : Cx} {C : Cst} {W : WK} {G F F' : Hp} {ι ι' : Nat → Addr} {n n' q : Nat} {h h' : Hs} {H H' : Hp} {σ : L2.St} {ρ : En} {Q : VK}
theorem fin_newL (R : Rel C G F ι h H) {xs : List V} {vs : List Val} (D : Done (repV C) C W G F ι h.length (.ok (.ref h.length) (h ++ [.lst vs])) Q) (V : Paired (RV C ι F h.length) xs vs) (p : Addr) (hp : H p = none) : Q (.ref p) (upd H p (.lst xs)) := by
  refine D F _ _ _ (R.newL hp V) (Ext.newC R p (.lst xs)) (by simp) ?_
  have z : RV C (putI ι h.length p) F (h ++ [Cell.lst vs]).length (.ref (putI ι h.length p h.length)) (.ref h.length) := .ref (by simp)
  rw [putI_same] at z
  exact z
theorem fin_newT (R : Rel C G F ι h H) {xs : List V} {ds : List PyData} (D : Done (repV C) C W G F ι h.length (.ok (.im (.tuple ds)) h) Q) (V : DpAll C.K F xs ds) (p : Addr) (hp : H p = none) : Q (.ref p) (upd H p (.tup xs)) := by
  have E := Ext.newF R hp (.tup xs)
  refine D _ _ _ _ (R.newF hp (.tup xs)) E (Nat.le_refl _) (.im (.tup (SqT.of upd_same) (Dp.leAll E.le _ _ V)))
theorem fin_setL (R : Rel C G F ι h H) {k : Nat} {us vs : List Val} {xs : List V} {d : PyData} {x : V} (e0 : h[k]? = some (.lst us)) (D : Done (repV C) C W G F ι h.length (.ok (.im d) (h.set k (.lst vs))) Q) (V : Paired (RV C ι F h.length) xs vs) (z : Dp C.K F x d) : Q x (upd H (ι k) (.lst xs)) :=
  D F ι _ _ (R.setL e0 V) Ext.refl (by simp) (.im z)
theorem Rel.at_lst (R : Rel C G F ι h H) {k : Nat} {vs : List Val} (e : h[k]? = some (.lst vs)) : ∃ xs, H (ι k) = some (.lst xs) ∧ Paired (RV C ι F h.length) xs vs := R.cell k _ e
end
theorem SZ_eq : sizeLine = 16777216 := by rw [sizeLine_eq]

/-! ### numbers -/
def vInt2 (f : Int → Int → Int) (v u : Val) (h : Hs) : Res Val := match v, u with
  | .im (.int i), .im (.int j) => .ok (.im (.int (f i j))) h
  | _, _ => .no
def vInt2c (c : Int → Int → Bool) (f : Int → Int → Int) (v u : Val) (h : Hs) : Res Val := match v, u with
  | .im (.int i), .im (.int j) => if c i j then .ok (.im (.int (f i j))) h else .no
  | _, _ => .no
def vInt1 (f : Int → Int) (v : Val) (h : Hs) : Res Val := match v with
  | .im (.int i) => .ok (.im (.int (f i))) h
  | _ => .no
section
variable {X : Cx} {W : WK} {f : Value → Value → Sem Value}
theorem op_int2 {g : Int → Int → Int} (p : OpR X f (rI0 fun i j => .int (g i j))) : OpR X f (rOf2 (cst X W) W (vInt2 g)) := OpR.imp p fun x y H Q t => by
  obtain ⟨G, F, ι, h, v, u, R, V1, V2, D⟩ := t
  unfold vInt2 at D
  split at D
  · cases V1 with | im z1 => cases z1; cases V2 with | im z2 => cases z2; exact ⟨_, _, rfl, rfl, fin_im R D (.int _)⟩
  · exact D.elim
theorem op_int2c {g : Int → Int → Int} {c : Int → Int → Bool} {cc : Int → Int → Prop} (p : OpR X f (rI cc fun i j => .int (g i j))) (hc : ∀ i j, c i j = true → cc i j) : OpR X f (rOf2 (cst X W) W (vInt2c c g)) := OpR.imp p fun x y H Q t => by
  obtain ⟨G, F, ι, h, v, u, R, V1, V2, D⟩ := t
  unfold vInt2c at D
  split at D
  · split at D
    · rename_i hh
      cases V1 with | im z1 => cases z1; cases V2 with | im z2 => cases z2; exact ⟨_, _, rfl, rfl, hc _ _ hh, fin_im R D (.int _)⟩
    · exact D.elim
  · exact D.elim
theorem un_int1 {f : Value → Sem Value} {g : Int → Int} (p : UnR X f (rU fun i => .int (g i))) : UnR X f (rOf1 (cst X W) W (vInt1 g)) := UnR.imp p fun x H Q t => by
  obtain ⟨G, F, ι, h, v, R, V1, D⟩ := t
  unfold vInt1 at D
  split at D
  · cases V1 with | im z1 => cases z1; exact ⟨_, rfl, fin_im R D (.int _)⟩
  · exact D.elim
end
def cMul (i j : Int) : Bool := decide (-18446744073709551616 < i ∧ i < 18446744073709551616) || decide (-18446744073709551616 < j ∧ j < 18446744073709551616)
def cDiv (_ j : Int) : Bool := decide (0 < j ∧ j < 1073741824)
def cMod (_ j : Int) : Bool := decide (0 < j)
def cPow (i j : Int) : Bool := decide (0 ≤ j ∧ j ≤ 1000 ∧ -18446744073709551616 < i ∧ i < 18446744073709551616)
def cShr (_ j : Int) : Bool := decide (0 ≤ j)
theorem cPow_ok {i j : Int} (h : cPow i j = true) : CPow i j := by
  simp only [cPow, decide_eq_true_eq] at h
  exact ⟨h.1, by omega, by omega⟩
theorem cMul_ok {i j : Int} (h : cMul i j = true) : CMul i j := by
  simp only [cMul, Bool.or_eq_true, decide_eq_true_eq] at h
  exact h
def vSub := vInt2 (· - ·)
def vFdiv := vInt2c cDiv (· / ·)
def vMod := vInt2c cMod (· % ·)
def vPow := vInt2c cPow fun i j => i ^ j.toNat
def vShl := vInt2c cPow fun i j => i * 2 ^ j.toNat
def vShr := vInt2c cShr fun i j => i / 2 ^ j.toNat
def vXor := vInt2 Builtin.bitXor
def vNeg := vInt1 (- ·)
section
variable {X : Cx} {W : WK}
theorem o_sub : OpR X (binaryOp .Sub) (rOf2 (cst X W) W vSub) := op_int2 op_sub
theorem o_fdiv : OpR X (binaryOp .FloorDiv) (rOf2 (cst X W) W vFdiv) := op_int2c op_fdiv fun i j h => by simp only [cDiv, decide_eq_true_eq] at h; exact h
theorem o_mod : OpR X (binaryOp .Mod) (rOf2 (cst X W) W vMod) := op_int2c op_mod fun i j h => by simp only [cMod, decide_eq_true_eq] at h; exact h
theorem o_pow : OpR X (binaryOp .Pow) (rOf2 (cst X W) W vPow) := op_int2c op_pow fun i j h => cPow_ok h
theorem o_shl : OpR X (binaryOp .LShift) (rOf2 (cst X W) W vShl) := op_int2c op_shl fun i j h => cPow_ok h
theorem o_shr : OpR X (binaryOp .RShift) (rOf2 (cst X W) W vShr) := op_int2c op_shr fun i j h => by simp only [cShr, decide_eq_true_eq] at h; exact h
theorem o_xor : OpR X (binaryOp .BitXor) (rOf2 (cst X W) W vXor) := op_int2 op_xor
theorem u_neg : UnR X (unaryOp .USub) (rOf1 (cst X W) W vNeg) := un_int1 un_neg
end

/-! ### + and * of more than numbers -/
def vAdd (v u : Val) (h : Hs) : Res Val := match v, u with
  | .im (.int i), .im (.int j) => .ok (.im (.int (i + j))) h
  | .im (.str a), .im (.str b) => if a.length + b.length ≤ 16777216 then .ok (.im (.str (a ++ b))) h else .no
  | .im (.tuple a), .im (.tuple b) => if a.length + b.length ≤ 16777216 then .ok (.im (.tuple (a ++ b))) h else .no
  | .ref j, .ref k => match h[j]?, h[k]? with
    | some (.lst a), some (.lst b) => if a.length + b.length ≤ 16777216 then .ok (.ref h.length) (h ++ [.lst (a ++ b)]) else .no
    | _, _ => .no
  | _, _ => .no
theorem dpAll_app {K : PySem.W.Frag} {F : Hp} : ∀ {xs ys : List V} {as bs : List PyData}, DpAll K F xs as → DpAll K F ys bs → DpAll K F (xs ++ ys) (as ++ bs)
  | _, _, [], _, a, b => by cases a; exact b
  | _, _, _ :: _, _, a, b => by cases a with | cons p r => exact .cons p (dpAll_app r b)
theorem Paired.app {α β : Type} {R : α → β → Prop} : ∀ {xs ys : List α} {as bs : List β}, Paired R xs as → Paired R ys bs → Paired R (xs ++ ys) (as ++ bs)
  | _, _, _, _, .nil, b => b
  | _, _, _, _, .cons p r, b => .cons p (Paired.app r b)
theorem dpAll_nil {K : PySem.W.Frag} {F : Hp} {as : List PyData} (a : DpAll K F [] as) : as = [] := by cases a; rfl
section
variable {X : Cx} {W : WK}
theorem o_add : OpR X (binaryOp .Add) (rOf2 (cst X W) W vAdd) := OpR.imp ((op_add.or op_add_str).or (op_catA.or op_cat)) fun x y H Q t => by
  obtain ⟨G, F, ι, h, v, u, R, V1, V2, D⟩ := t
  unfold vAdd at D
  split at D
  · cases V1 with | im z1 => cases z1; cases V2 with | im z2 => cases z2; exact .inl (.inl ⟨_, _, rfl, rfl, fin_im R D (.int _)⟩)
  · split at D
    · rename_i hz
      cases V1 with | im z1 => cases z1; cases V2 with | im z2 => cases z2; exact .inl (.inr ⟨_, _, rfl, rfl, by rw [SZ_eq]; exact hz, fin_im R D (.str _)⟩)
    · exact D.elim
  · split at D
    · rename_i hz
      cases V1 with
      | im z1 =>
        cases z1 with
        | tup s1 p1 =>
          cases V2 with
          | im z2 =>
            cases z2 with
            | tup s2 p2 =>
              refine .inr (.inl ⟨_, _, _, _, rfl, rfl, tupF R.f s1, tupF R.f s2, by rw [dp_len p1, dp_len p2, SZ_eq]; exact hz, fun e => ?_, fun _ e => ?_, fun _ _ p hp => ?_⟩)
              · subst e
                rw [dpAll_nil p1] at D
                exact fin_im R D (.tup s2 p2)
              · subst e
                rw [dpAll_nil p2, List.append_nil] at D
                exact fin_im R D (.tup s1 p1)
              · exact fin_newT R D (dpAll_app p1 p2) p hp
    · exact D.elim
  · split at D
    · split at D
      · rename_i e1 e2 hz
        obtain ⟨xs, H1, p1⟩ := R.at_lst e1
        obtain ⟨ys, H2, p2⟩ := R.at_lst e2
        cases V1
        cases V2
        exact .inr (.inr ⟨_, _, xs, ys, rfl, rfl, H1, H2, by rw [Paired.length p1, Paired.length p2, SZ_eq]; exact hz, fun p hp => fin_newL R D (Paired.app p1 p2) p hp⟩)
      · exact D.elim
    · exact D.elim
  · exact D.elim
end
end NT

set_option Elab.async false
set_option linter.all false
set_option maxRecDepth 100000
set_option autoImplicit false

namespace NT
open PySem PySem.Spec PyProof.Rows L2 PySem.W

/-- data whose == and order are known, to a depth -/
def okD : Nat → PyData → Bool
  | _, .none => true
  | _, .bool _ => true
  | _, .int _ => true
  | _, .str x => PyData.canLay0 (.str x)
  | n + 1, .list xs => xs.all (okD n)
  | n + 1, .tuple xs => xs.all (okD n)
  | _, _ => false
theorem lay_all {P : PyData → Bool} : ∀ {xs : List PyData}, xs.all P = true → (∀ d, P d = true → d.canLay0 = true) → PyData.canLayAll0 xs = true
  | [], _, _ => rfl
  | x :: xs, e, k => by
    rw [List.all_cons, Bool.and_eq_true] at e
    rw [PyData.canLayAll0, k x e.1, lay_all e.2 k]
    rfl
theorem dep_all {P : PyData → Bool} {n : Nat} : ∀ {xs : List PyData}, xs.all P = true → (∀ d, P d = true → d.depth ≤ n) → PyData.depthAll xs ≤ n
  | [], _, _ => by rw [PyData.depthAll]; exact Nat.zero_le _
  | x :: xs, e, k => by
    rw [List.all_cons, Bool.and_eq_true] at e
    rw [PyData.depthAll]
    exact Nat.max_le.mpr ⟨k x e.1, dep_all e.2 k⟩
theorem okD_lay : ∀ (n : Nat) (d : PyData), okD n d = true → d.canLay0 = true ∧ d.depth ≤ n
  | n, .none, _ => ⟨by rw [PyData.canLay0], by rw [PyData.depth]; exact Nat.zero_le _⟩
  | n, .bool _, _ => ⟨by rw [PyData.canLay0], by rw [PyData.depth]; exact Nat.zero_le _⟩
  | n, .int _, _ => ⟨by rw [PyData.canLay0], by rw [PyData.depth]; exact Nat.zero_le _⟩
  | n, .str x, h => ⟨by simpa [okD] using h, by rw [PyData.depth]; exact Nat.zero_le _⟩
  | 0, .list xs, h => by simp [okD] at h
  | n + 1, .list xs, h => by
    have h' : xs.all (okD n) = true := by simpa [okD] using h
    refine ⟨by rw [PyData.canLay0]; exact lay_all h' fun d hd => (okD_lay n d hd).1, ?_⟩
    rw [PyData.depth]
    exact Nat.succ_le_succ (dep_all h' fun d hd => (okD_lay n d hd).2)
  | 0, .tuple xs, h => by simp [okD] at h
  | n + 1, .tuple xs, h => by
    have h' : xs.all (okD n) = true := by simpa [okD] using h
    refine ⟨by rw [PyData.canLay0]; exact lay_all h' fun d hd => (okD_lay n d hd).1, ?_⟩
    rw [PyData.depth]
    exact Nat.succ_le_succ (dep_all h' fun d hd => (okD_lay n d hd).2)
  | n, .dict _, h => by cases n <;> simp [okD] at h
theorem okD_shaped {d : PyData} {n : Nat} (hn : n ≤ 64) (h : okD n d = true) : SeqAt.shaped d = true := by
  obtain ⟨a, b⟩ := okD_lay n d h
  unfold SeqAt.shaped
  rw [a, Bool.true_and, decide_eq_true_eq]
  omega
theorem okD_dep {d : PyData} {n : Nat} (h : okD n d = true) : d.depth ≤ n := (okD_lay n d h).2

/-! ### comparisons -/
def isNoneD : PyData → Bool
  | .none => true
  | _ => false
def cmpD (f : PyData → PyData → Bool) (v u : Val) (h : Hs) : Res Val := match rdD h v, rdD h u with
  | some d, some e => if (alike d e && !isNoneD d && okD 8 d && okD 8 e) = true then .ok (.im (.bool (f d e))) h else .no
  | _, _ => .no
def cmpV (g : Int → Int → Bool) (f : PyData → PyData → Bool) (v u : Val) (h : Hs) : Res Val := match v, u with
  | .im (.int i), .im (.int j) => .ok (.im (.bool (g i j))) h
  | v, u => cmpD f v u h
def vLt := cmpV (fun i j => decide (i < j)) dataLt
def vLe := cmpV (fun i j => decide (i ≤ j)) fun d e => !dataLt e d
def vGt := cmpV (fun i j => decide (j < i)) fun d e => dataLt e d
def vGe := cmpV (fun i j => decide (j ≤ i)) fun d e => !dataLt d e
def eqD (neg : Bool) (v u : Val) (h : Hs) : Res Val := match rdD h v, rdD h u with
  | some d, some e => if (okD 8 d && okD 8 e) = true then .ok (.im (.bool (neg ^^ PyData.eqv d e))) h else .no
  | _, _ => .no
def eqVal (neg : Bool) (v u : Val) (h : Hs) : Res Val := match v, u with
  | .im (.int i), .im (.int j) => .ok (.im (.bool (neg ^^ decide (i = j)))) h
  | .im (.str x), .im (.str y) => .ok (.im (.bool (neg ^^ (x == y)))) h
  | v, u => eqD neg v u h
def vEq := eqVal false
def vNe := eqVal true
/-- x in a list or a tuple -/
def vInS (neg : Bool) (v u : Val) (h : Hs) : Res Val := match rdD h v, rdD h u with
  | some d, some (.list ds) => if (okD 8 d && okD 9 (.list ds)) = true then .ok (.im (.bool (neg ^^ ds.any fun z => PyData.eqv z d))) h else .no
  | some d, some (.tuple ds) => if (okD 8 d && okD 9 (.tuple ds)) = true then .ok (.im (.bool (neg ^^ ds.any fun z => PyData.eqv z d))) h else .no
  | _, _ => .no
/-- x is None, True, False -/
def vIs (neg : Bool) (v u : Val) (h : Hs) : Res Val := match v, u with
  | .im (.bool a), .im (.bool b) => .ok (.im (.bool (neg ^^ decide (a = b)))) h
  | .im d, .im .none => .ok (.im (.bool (neg ^^ isNoneD d))) h
  | .ref _, .im .none => .ok (.im (.bool neg)) h
  | _, _ => .no
section
variable {X : Cx} {W : WK}
theorem fin_bl {G F : Hp} {ι : Nat → Addr} {h : Hs} {H : Hp} {Q : VK} {pins : List (Addr × Obj)} {σ : L2.St} {s : Shared} {b : Bool} (I : Inv X pins σ H s) (R : Rel (cst X W) G F ι h H) (D : Done (repV (cst X W)) (cst X W) W G F ι h.length (.ok (.im (.bool b)) h) Q) : EP X pins σ Q (.bool b) s :=
  ⟨.bl b, H, I, rfl, fin_im R D (.bl b)⟩
theorem rd_reads {G F : Hp} {ι : Nat → Addr} {h : Hs} {H : Hp} {pins : List (Addr × Obj)} {σ : L2.St} {s : Shared} {x : V} {v : Val} {u : Value} {d : PyData} (I : Inv X pins σ H s) (R : Rel (cst X W) G F ι h H) (V : RV (cst X W) ι F h.length x v) (e : rdD h v = some d) (rx : RelV x u) : ∃ as, Reads s.heap u d as :=
  Dp.reads I d x u (R.rd V e) rx
theorem min8 {a b n : Nat} (h : a ≤ 8) (hu : n + 65 < cLine) : n + min a b < cLine := by
  have := Nat.min_le_left a b
  omega
theorem cmp_ok {op : CmpOp} {g : Int → Int → Bool} {f : PyData → PyData → Bool} (hu : X.A.units + 65 < cLine)
    (hi : ∀ (i j : Int) (t u : Tok) (Q : Value → Shared → Prop) (s : Shared), Q (.bool (g i j)) s → wpAny (model X.prog X.w) X.A (compareOp op (.int i t) (.int j u)) Q X.xe s)
    (hd : ∀ (s : Shared) (a b : Value) (da db : PyData) (as bs : List Addr) (Q : Value → Shared → Prop), Reads s.heap a da as → Reads s.heap b db bs → alike da db = true → da ≠ .none → X.A.units + min da.depth db.depth < cLine → Q (.bool (f da db)) s → wpAny (model X.prog X.w) X.A (compareOp op a b) Q X.xe s) :
    OpR X (compareOp op) (rOf2 (cst X W) W (cmpV g f)) := by
  intro pins s σ H x y v u Q I rx ry t
  obtain ⟨G, F, ι, h, v1, u1, R, V1, V2, D⟩ := t
  unfold cmpV at D
  split at D
  · cases V1 with
    | im z1 =>
      cases z1
      cases V2 with
      | im z2 =>
        cases z2
        obtain ⟨t1, rfl⟩ := rx
        obtain ⟨t2, rfl⟩ := ry
        exact hi _ _ _ _ _ _ (fin_bl I R D)
  · unfold cmpD at D
    split at D
    · rename_i d e e1 e2
      split at D
      · rename_i hh
        simp only [Bool.and_eq_true, Bool.not_eq_true'] at hh
        obtain ⟨⟨⟨h1, h2⟩, h3⟩, h4⟩ := hh
        obtain ⟨as, r1⟩ := rd_reads I R V1 e1 rx
        obtain ⟨bs, r2⟩ := rd_reads I R V2 e2 ry
        exact hd s v u d e as bs _ r1 r2 h1 (fun z => by subst z; exact absurd h2 (by decide)) (min8 (okD_dep h3) hu) (fin_bl I R D)
      · exact D.elim
    · exact D.elim
theorem c_lt (K : Ctx X W) : OpR X (compareOp .Lt) (rOf2 (cst X W) W vLt) := cmp_ok K.hu (fun _ _ _ _ _ _ q => lt_int q) fun _ _ _ _ _ _ _ _ r1 r2 h n hu q => lt_data r1 r2 h n hu q
theorem c_le (K : Ctx X W) : OpR X (compareOp .LtE) (rOf2 (cst X W) W vLe) := cmp_ok K.hu (fun _ _ _ _ _ _ q => le_int q) fun _ _ _ _ _ _ _ _ r1 r2 h n hu q => le_data r1 r2 h n hu q
theorem c_gt (K : Ctx X W) : OpR X (compareOp .Gt) (rOf2 (cst X W) W vGt) := cmp_ok K.hu (fun _ _ _ _ _ _ q => gt_int q) fun _ _ _ _ _ _ _ _ r1 r2 h n hu q => gt_data r1 r2 h n hu q
theorem c_ge (K : Ctx X W) : OpR X (compareOp .GtE) (rOf2 (cst X W) W vGe) := cmp_ok K.hu (fun _ _ _ _ _ _ q => ge_int q) fun _ _ _ _ _ _ _ _ r1 r2 h n hu q => ge_data r1 r2 h n hu q
theorem eq_ok {op : CmpOp} {neg : Bool} (K : Ctx X W) (ht : ∀ (x y : Str) (t u : Tok) (Q : Value → Shared → Prop) (s : Shared), Q (.bool (neg ^^ (x == y))) s → wpAny (model X.prog X.w) X.A (compareOp op (.str x t) (.str y u)) Q X.xe s)
    (hd : ∀ (s : Shared) (a b : Value) (da db : PyData) (as bs : List Addr) (Q : Value → Shared → Prop), Reads s.heap a da as → Reads s.heap b db bs → SeqAt.shaped da = true → SeqAt.shaped db = true → Q (.bool (neg ^^ PyData.eqv da db)) s → wpAny (model X.prog X.w) X.A (compareOp op a b) Q X.xe s) :
    OpR X (compareOp op) (rOf2 (cst X W) W (eqVal neg)) := by
  intro pins s σ H x y v u Q I rx ry t
  obtain ⟨G, F, ι, h, v1, u1, R, V1, V2, D⟩ := t
  have main : Done (repV (cst X W)) (cst X W) W G F ι h.length (eqD neg v1 u1 h) Q → wpAny (model X.prog X.w) X.A (compareOp op v u) (EP X pins σ Q) X.xe s := fun D => by
    unfold eqD at D
    split at D
    · rename_i d e e1 e2
      split at D
      · rename_i hh
        rw [Bool.and_eq_true] at hh
        obtain ⟨as, r1⟩ := rd_reads I R V1 e1 rx
        obtain ⟨bs, r2⟩ := rd_reads I R V2 e2 ry
        exact hd s v u d e as bs _ r1 r2 (okD_shaped (by decide) hh.1) (okD_shaped (by decide) hh.2) (fin_bl I R D)
      · exact D.elim
    · exact D.elim
  unfold eqVal at D
  split at D
  · rename_i i j
    refine main ?_
    have e : PyData.eqv (.int i) (.int j) = decide (i = j) := by
      rw [PyData.eqv]
      (rw [Bool.eq_iff_iff, beq_iff_eq, decide_eq_true_eq])
    unfold eqD
    simp only [rdD]
    rw [if_pos (show (okD 8 (.int i) && okD 8 (.int j)) = true from rfl), e]
    exact D
  · cases V1 with
    | im z1 =>
      cases z1
      cases V2 with
      | im z2 =>
        cases z2
        obtain ⟨t1, rfl⟩ := rx
        obtain ⟨t2, rfl⟩ := ry
        exact ht _ _ _ _ _ _ (fin_bl I R D)
  · exact main D
theorem c_eq (K : Ctx X W) : OpR X (compareOp .Eq) (rOf2 (cst X W) W vEq) := eq_ok K (fun _ _ _ _ _ _ q => PyProof.Rows.eq_str (by simpa using q)) fun _ _ _ _ _ _ _ _ r1 r2 h1 h2 q => SeqAt.compareEq_shaped r1 r2 h1 h2 (Nat.lt_trans (Nat.add_lt_add_left (by decide) _) K.hu) (by simpa using q)
theorem c_ne (K : Ctx X W) : OpR X (compareOp .NotEq) (rOf2 (cst X W) W vNe) := eq_ok K (fun _ _ _ _ _ _ q => PyProof.Rows.ne_str (by simpa [bne] using q)) fun _ _ _ _ _ _ _ _ r1 r2 h1 h2 q => SeqAt.compareNe_shaped r1 r2 h1 h2 (Nat.lt_trans (Nat.add_lt_add_left (by decide) _) K.hu) (by simpa using q)
theorem inS_ok {op : CmpOp} {neg : Bool} (K : Ctx X W)
    (hl : ∀ (s : Shared) (x c : Value) (d : PyData) (xs : List PyData) (as bs : List Addr) (Q : Value → Shared → Prop), Reads s.heap c (.list xs) as → Reads s.heap x d bs → PyData.canLayAll0 xs = true → d.canLay0 = true → X.A.units + 1 + min (PyData.depthAll xs) d.depth < cLine → Q (.bool (neg ^^ xs.any fun y => PyData.eqv y d)) s → wpAny (model X.prog X.w) X.A (compareOp op x c) Q X.xe s)
    (ht : ∀ (s : Shared) (x c : Value) (d : PyData) (xs : List PyData) (as bs : List Addr) (Q : Value → Shared → Prop), Reads s.heap c (.tuple xs) as → Reads s.heap x d bs → PyData.canLayAll0 xs = true → d.canLay0 = true → X.A.units + 1 + min (PyData.depthAll xs) d.depth < cLine → Q (.bool (neg ^^ xs.any fun y => PyData.eqv y d)) s → wpAny (model X.prog X.w) X.A (compareOp op x c) Q X.xe s) :
    OpR X (compareOp op) (rOf2 (cst X W) W (vInS neg)) := by
  intro pins s σ H x y v u Q I rx ry t
  obtain ⟨G, F, ι, h, v1, u1, R, V1, V2, D⟩ := t
  have room : ∀ {ds : List PyData} {d : PyData}, okD 8 d = true → X.A.units + 1 + min (PyData.depthAll ds) d.depth < cLine := fun {ds d} h => by
    have h1 := Nat.min_le_right (PyData.depthAll ds) d.depth
    have h2 := okD_dep h
    have := K.hu
    omega
  unfold vInS at D
  split at D
  · rename_i d ds e1 e2
    split at D
    · rename_i hh
      rw [Bool.and_eq_true] at hh
      obtain ⟨bs, r1⟩ := rd_reads I R V1 e1 rx
      obtain ⟨as, r2⟩ := rd_reads I R V2 e2 ry
      have l2 : PyData.canLayAll0 ds = true := by
        have := (okD_lay _ _ hh.2).1
        rwa [PyData.canLay0] at this
      exact hl s v u d ds as bs _ r2 r1 l2 (okD_lay _ _ hh.1).1 (room hh.1) (fin_bl I R D)
    · exact D.elim
  · rename_i d ds e1 e2
    split at D
    · rename_i hh
      rw [Bool.and_eq_true] at hh
      obtain ⟨bs, r1⟩ := rd_reads I R V1 e1 rx
      obtain ⟨as, r2⟩ := rd_reads I R V2 e2 ry
      have l2 : PyData.canLayAll0 ds = true := by
        have := (okD_lay _ _ hh.2).1
        rwa [PyData.canLay0] at this
      exact ht s v u d ds as bs _ r2 r1 l2 (okD_lay _ _ hh.1).1 (room hh.1) (fin_bl I R D)
    · exact D.elim
  · exact D.elim
theorem c_inS (K : Ctx X W) : OpR X (compareOp .In) (rOf2 (cst X W) W (vInS false)) :=
  inS_ok K (fun _ _ _ _ _ _ _ _ a b c d e q => SeqAt.in_list_reads a b c d e (by simpa using q)) fun _ _ _ _ _ _ _ _ a b c d e q => SeqAt.in_tuple_reads a b c d e (by simpa using q)
theorem c_notInS (K : Ctx X W) : OpR X (compareOp .NotIn) (rOf2 (cst X W) W (vInS true)) :=
  inS_ok K (fun _ _ _ _ _ _ _ _ a b c d e q => SeqAt.notIn_list_reads a b c d e (by simpa using q)) fun _ _ _ _ _ _ _ _ a b c d e q => SeqAt.notIn_tuple_reads a b c d e (by simpa using q)
theorem dpNone {K : PySem.W.Frag} {F : Hp} {x : V} {d : PyData} (z : Dp K F x d) : decide (x = .non) = isNoneD d := by
  cases z <;> first | rfl | (rw [decide_eq_false]; rfl; intro q; cases q)
theorem is_ok {op : CmpOp} {neg : Bool} (h1 : OpR X (compareOp op) (fun x y H Q => ∃ a b, x = .bl a ∧ y = .bl b ∧ Q (.bl (neg ^^ decide (a = b))) H))
    (h2 : OpR X (compareOp op) (fun x y H Q => y = .non ∧ Q (.bl (neg ^^ decide (x = .non))) H)) : OpR X (compareOp op) (rOf2 (cst X W) W (vIs neg)) := OpR.imp (h1.or h2) fun x y H Q t => by
  obtain ⟨G, F, ι, h, v1, u1, R, V1, V2, D⟩ := t
  unfold vIs at D
  split at D
  · cases V1 with | im z1 => cases z1; cases V2 with | im z2 => cases z2; exact .inl ⟨_, _, rfl, rfl, fin_im R D (.bl _)⟩
  · cases V1 with
    | im z1 =>
      cases V2 with
      | im z2 =>
        cases z2
        refine .inr ⟨rfl, ?_⟩
        rw [dpNone z1]
        exact fin_im R D (.bl _)
  · cases V1 with
    | ref z1 =>
      cases V2 with
      | im z2 =>
        cases z2
        refine .inr ⟨rfl, ?_⟩
        rw [decide_eq_false (fun q => nomatch q), Bool.xor_false]
        exact fin_im R D (.bl _)
  · exact D.elim
theorem c_is : OpR X (compareOp .Is) (rOf2 (cst X W) W (vIs false)) :=
  is_ok (OpR.imp op_is_bl fun _ _ _ _ ⟨a, b, e1, e2, q⟩ => ⟨a, b, e1, e2, by simpa using q⟩) (OpR.imp op_isN fun _ _ _ _ ⟨e1, q⟩ => ⟨e1, by simpa using q⟩)
theorem c_isnot : OpR X (compareOp .IsNot) (rOf2 (cst X W) W (vIs true)) :=
  is_ok (OpR.imp op_isnot_bl fun _ _ _ _ ⟨a, b, e1, e2, q⟩ => ⟨a, b, e1, e2, by simpa using q⟩) (OpR.imp op_notN fun _ _ _ _ ⟨e1, q⟩ => ⟨e1, by simpa using q⟩)
end
end NT

set_option Elab.async false
set_option linter.all false
set_option maxRecDepth 100000
set_option autoImplicit false

namespace NT
open PySem PySem.Spec PyProof.Rows L2

/-! ### and, or, not, if, chains -/
def mAnd (a b : M Bool) : M Bool := fun ρ h => (a ρ h).bind fun c h1 => if c = true then b ρ h1 else .ok false h1
def mOr (a b : M Bool) : M Bool := fun ρ h => (a ρ h).bind fun c h1 => if c = true then .ok true h1 else b ρ h1
def mNot (a : M Bool) : M Bool := fun ρ h => (a ρ h).bind fun c h1 => .ok (!c) h1
def eAnd (a b : Ev) : Ev := fun ρ h => (a ρ h).bind fun v h1 => match v with
  | .im (.bool true) => b ρ h1
  | .im (.bool false) => .ok (.im (.bool false)) h1
  | _ => .no
def eOr (a b : Ev) : Ev := fun ρ h => (a ρ h).bind fun v h1 => match v with
  | .im (.bool false) => b ρ h1
  | .im (.bool true) => .ok (.im (.bool true)) h1
  | _ => .no
def eNot (a : Ev) : Ev := fun ρ h => (a ρ h).bind fun v h1 => match v with
  | .im (.bool b) => .ok (.im (.bool (!b))) h1
  | _ => .no
def eIf (c : M Bool) (a b : Ev) : Ev := fun ρ h => (c ρ h).bind fun k h1 => if k = true then a ρ h1 else b ρ h1
def eChain (f f' : Val → Val → Hs → Res Val) (a b c : Ev) : Ev := fun ρ h => (a ρ h).bind fun x h1 => (b ρ h1).bind fun y h2 => (f x y h2).bind fun z h3 => match z with
  | .im (.bool true) => (c ρ h3).bind fun w h4 => f' y w h4
  | .im (.bool false) => .ok (.im (.bool false)) h3
  | _ => .no
section
variable {X : Cx} {W : WK} {a b c : Expr} {rest : List Expr} {ma mb mc : Ev} {ta tb tc : M Bool} {pos : Pos}
theorem fin_b {C : Cst} {G F : Hp} {ι : Nat → Addr} {h : Hs} {H : Hp} {b : Bool} {Q : Bool → Hp → Prop} (R : Rel C G F ι h H) (D : Done repB C W G F ι h.length (.ok b h) Q) : Q b H := D F ι H b R Ext.refl (Nat.le_refl _) rfl
theorem tOf.at {α β : Type} {A : Rp α β} {C : Cst} {m : M α} {G F : Hp} {ι : Nat → Addr} {h : Hs} {H : Hp} {σ : L2.St} {ρ : En} {Q : β → Hp → Prop} (R : Rel C G F ι h H) (S : SR C ι F h.length σ ρ) (D : Done A C W G F ι h.length (m ρ h) Q) : tOf A C W m σ H Q := ⟨G, F, ι, ρ, h, R, S, D⟩
theorem jw_and1 (ha : JT X W a ta) : JW X W (.BoolOp .And [a] pos) ta := pw_and1 ha
theorem jw_or1 (ha : JT X W a ta) : JW X W (.BoolOp .Or [a] pos) ta := pw_or1 ha
theorem jw_and (ha : JT X W a ta) (hb : JW X W (.BoolOp .And (b :: rest) pos) tb) : JW X W (.BoolOp .And (a :: b :: rest) pos) (mAnd ta tb) := by
  refine PW.imp (pw_and ha hb) fun σ H Q t => ?_
  obtain ⟨G, F, ι, ρ, h, R, S, D⟩ := t
  refine st1 R S D fun F1 ι1 h1 H1 x v R1 E1 l1 V1 D1 => ?_
  obtain rfl : x = v := V1
  cases x with
  | true => exact .at R1 (S.mono E1.le E1.ag l1) D1
  | false => exact fin_b R1 D1
theorem jw_or (ha : JT X W a ta) (hb : JW X W (.BoolOp .Or (b :: rest) pos) tb) : JW X W (.BoolOp .Or (a :: b :: rest) pos) (mOr ta tb) := by
  refine PW.imp (pw_or ha hb) fun σ H Q t => ?_
  obtain ⟨G, F, ι, ρ, h, R, S, D⟩ := t
  refine st1 R S D fun F1 ι1 h1 H1 x v R1 E1 l1 V1 D1 => ?_
  obtain rfl : x = v := V1
  cases x with
  | false => exact .at R1 (S.mono E1.le E1.ag l1) D1
  | true => exact fin_b R1 D1
theorem jt_w {e : Expr} (h : JW X W e ta) : JT X W e ta := PW.pt h
theorem jt_not (ha : JT X W a ta) : JT X W (.UnaryOp .Not a pos) (mNot ta) := by
  refine PT.imp (pt_not ha) fun σ H Q t => ?_
  obtain ⟨G, F, ι, ρ, h, R, S, D⟩ := t
  refine st1 R S D fun F1 ι1 h1 H1 x v R1 E1 l1 V1 D1 => ?_
  obtain rfl : x = v := V1
  exact fin_b R1 D1
theorem je_one {op : BoolOp} (h : JE X W a ma) : JE X W (.BoolOp op [a] pos) ma := pe_one h
theorem je_and (ha : JE X W a ma) (hb : JE X W (.BoolOp .And (b :: rest) pos) mb) : JE X W (.BoolOp .And (a :: b :: rest) pos) (eAnd ma mb) := by
  refine PE.imp (pe_and ha hb) fun σ H Q t => ?_
  obtain ⟨G, F, ι, ρ, h, R, S, D⟩ := t
  refine st1 R S D fun F1 ι1 h1 H1 x v R1 E1 l1 V1 D1 => ?_
  split at D1
  · cases V1 with | im z => cases z; exact ⟨true, rfl, .at R1 (S.mono E1.le E1.ag l1) D1⟩
  · cases V1 with | im z => cases z; exact ⟨false, rfl, fin_im R1 D1 (.bl _)⟩
  · exact D1.elim
theorem je_or (ha : JE X W a ma) (hb : JE X W (.BoolOp .Or (b :: rest) pos) mb) : JE X W (.BoolOp .Or (a :: b :: rest) pos) (eOr ma mb) := by
  refine PE.imp (pe_or ha hb) fun σ H Q t => ?_
  obtain ⟨G, F, ι, ρ, h, R, S, D⟩ := t
  refine st1 R S D fun F1 ι1 h1 H1 x v R1 E1 l1 V1 D1 => ?_
  split at D1
  · cases V1 with | im z => cases z; exact ⟨false, rfl, .at R1 (S.mono E1.le E1.ag l1) D1⟩
  · cases V1 with | im z => cases z; exact ⟨true, rfl, fin_im R1 D1 (.bl _)⟩
  · exact D1.elim
theorem je_not (ha : JE X W a ma) : JE X W (.UnaryOp .Not a pos) (eNot ma) := by
  refine PE.imp (pe_not ha) fun σ H Q t => ?_
  obtain ⟨G, F, ι, ρ, h, R, S, D⟩ := t
  refine st1 R S D fun F1 ι1 h1 H1 x v R1 E1 l1 V1 D1 => ?_
  split at D1
  · cases V1 with | im z => cases z; exact ⟨_, rfl, fin_im R1 D1 (.bl _)⟩
  · exact D1.elim
theorem je_if (hc : JT X W c tc) (ha : JE X W a ma) (hb : JE X W b mb) : JE X W (.IfExp c a b pos) (eIf tc ma mb) := by
  refine PE.imp (pe_ifExp hc ha hb) fun σ H Q t => ?_
  obtain ⟨G, F, ι, ρ, h, R, S, D⟩ := t
  refine st1 R S D fun F1 ι1 h1 H1 x v R1 E1 l1 V1 D1 => ?_
  obtain rfl : x = v := V1
  cases x with
  | true => exact .at R1 (S.mono E1.le E1.ag l1) D1
  | false => exact .at R1 (S.mono E1.le E1.ag l1) D1
theorem chain_r {C : Cst} {f f' : Val → Val → Hs → Res Val} {σ : L2.St} {H : Hp} {Q : VK} (t : tOf (repV C) C W (eChain f f' ma mb mc) σ H Q) :
    tChain (rOf2 C W f) (rOf2 C W f') (tOf (repV C) C W ma) (tOf (repV C) C W mb) (tOf (repV C) C W mc) σ H Q := by
  obtain ⟨G, F, ι, ρ, h, R, S, D⟩ := t
  refine st1 R S D fun F1 ι1 h1 H1 x v R1 E1 l1 V1 D1 => ?_
  refine st1 R1 (S.mono E1.le E1.ag l1) D1 fun F2 ι2 h2 H2 y u R2 E2 l2 V2 D2 => ?_
  have S2 := (S.mono E1.le E1.ag l1).mono E2.le E2.ag l2
  refine ⟨G, F2, ι2, h2, v, u, R2, RV.mono V1 E2.le E2.ag l2, V2, ?_⟩
  cases ef : f v u h2 with
  | no => rw [ef] at D2; exact D2
  | er c => rw [ef] at D2; exact D2
  | ok z h3 =>
    rw [ef] at D2
    intro F3 ι3 H3 x3 R3 E3 l3 V3
    have D3 := Done.mono D2 E3 l3
    have V2' : RV C ι3 F3 h3.length y u := RV.mono V2 E3.le E3.ag l3
    have S3 := S2.mono E3.le E3.ag l3
    simp only [bind_ok] at D3
    split at D3
    · cases V3 with
      | im z =>
        cases z
        refine ⟨true, rfl, ?_⟩
        rw [if_pos rfl]
        refine st1 R3 S3 D3 fun F4 ι4 h4 H4 w' w R4 E4 l4 V4 D4 => ?_
        exact ⟨G, F4, ι4, h4, u, w, R4, RV.mono V2' E4.le E4.ag l4, V4, D4⟩
    · cases V3 with
      | im z =>
        cases z
        refine ⟨false, rfl, ?_⟩
        rw [if_neg (by decide)]
        exact fin_im R3 D3 (.bl _)
    · exact D3.elim
theorem je_chain {op op' : CmpOp} {f f' : Val → Val → Hs → Res Val} (ho : OpR X (compareOp op) (rOf2 (cst X W) W f)) (ho' : OpR X (compareOp op') (rOf2 (cst X W) W f')) (ha : JE X W a ma) (hb : JE X W b mb) (hc : JE X W c mc)
    (hm : lastMarks [op, op'] [b, c] = false := by with_unfolding_all rfl) : JE X W (.Compare a [op, op'] [b, c] pos) (eChain f f' ma mb mc) := PE.imp (pe_chain ho ho' ha hb hc hm) fun _ _ _ t => chain_r t
theorem jt_chain {op op' : CmpOp} {f f' : Val → Val → Hs → Res Val} (ho : OpR X (compareOp op) (rOf2 (cst X W) W f)) (ho' : OpR X (compareOp op') (rOf2 (cst X W) W f')) (ha : JE X W a ma) (hb : JE X W b mb) (hc : JE X W c mc)
    (hm : lastMarks [op, op'] [b, c] = false := by with_unfolding_all rfl) : JT X W (.Compare a [op, op'] [b, c] pos) (tst (eChain f f' ma mb mc)) := PT.imp (pt_chain ho ho' ha hb hc hm) fun _ _ _ t => chain_r (tst_r t)
end

/-! ### argument lists, displays -/
def mNil : M (List Val) := fun _ h => .ok [] h
def mCons (a : Ev) (r : M (List Val)) : M (List Val) := fun ρ h => (a ρ h).bind fun v h1 => (r ρ h1).bind fun vs h2 => .ok (v :: vs) h2
/-- a list that changes no more -/
def frz (v : Val) (h : Hs) : Option (PyData × Hs) := match v with
  | .im d => some (d, h)
  | .ref k => match h[k]? with
    | some (.fz d) => some (d, h)
    | some (.lst vs) => (imsOf vs).map fun ds => (.list ds, h.set k (.fz (.list ds)))
    | _ => none
def frzL : List Val → Hs → Option (List PyData × Hs)
  | [], h => some ([], h)
  | v :: r, h => (frz v h).bind fun p => (frzL r p.2).map fun q => (p.1 :: q.1, q.2)
def eTup (m : M (List Val)) : Ev := fun ρ h => (m ρ h).bind fun vs h1 => match frzL vs h1 with
  | some (ds, h2) => if ds.length ≤ 16777216 then .ok (.im (.tuple ds)) h2 else .no
  | none => .no
def eLst (m : M (List Val)) : Ev := fun ρ h => (m ρ h).bind fun vs h1 => if vs.length ≤ 16777216 then .ok (.ref h1.length) (h1 ++ [.lst vs]) else .no
section
variable {C : Cst} {W : WK} {G F F' : Hp} {ι ι' : Nat → Addr} {n n' q : Nat} {h h' : Hs} {H H' : Hp} {σ : L2.St} {ρ : En} {Q : VK}
/-- freezing -/
theorem Rel.frz (R : Rel C G F ι h H) {k : Nat} {ds : List PyData} {vs : List Val} (e : h[k]? = some (.lst vs)) (ei : imsOf vs = some ds) : ∃ F', Rel C G F' ι (h.set k (.fz (.list ds))) H ∧ Ext G F ι h.length F' ι ∧ Dp C.K F' (.ref (ι k)) (.list ds) := by
  obtain ⟨xs, hH, p⟩ := R.at_lst e
  rw [ims_of ei] at p
  have hF := R.fl k _ e rfl
  have hG := R.gl k _ e rfl
  have le : ∀ b o, F b = some o → upd F (ι k) (.lst xs) b = some o := fun b o z => by
    rw [upd_ne fun q => by rw [q, hF] at z; cases z]; exact z
  have z0 : Dp C.K (upd F (ι k) (.lst xs)) (.ref (ι k)) (.list ds) := .lst (SqL.of upd_same) (Dp.leAll le _ _ (dpAll_of p))
  refine ⟨upd F (ι k) (.lst xs), ?_, ⟨le, fun _ _ => rfl, fun b hb => upd_ne fun z => ?_⟩, z0⟩
  · have lt : ∀ (i : Nat) (c1 : Cell), (h.set k (Cell.fz (.list ds)))[i]? = some c1 → c1.live = true → i ≠ k ∧ h[i]? = some c1 := fun i c1 e1 l1 => by
      rcases get_set e1 with ⟨h1, h2⟩ | ⟨_, h2, _⟩
      · exact ⟨h1, h2⟩
      · rw [← h2] at l1; cases l1
    refine ⟨R.g, fun b o z => ?_, fun i j c1 c2 e1 e2 l1 l2 z => R.inj i j c1 c2 (lt i c1 e1 l1).2 (lt j c2 e2 l2).2 l1 l2 z, fun i c1 e1 l1 => R.gl i c1 (lt i c1 e1 l1).2 l1, fun i c1 e1 l1 => ?_, fun i c1 e1 => ?_, fun x hx => ⟨(R.tb x hx).1, by rw [upd_ne (R.tabCell hx e rfl)]; exact (R.tb x hx).2.1, (R.tb x hx).2.2⟩, R.ng, fun b ps z => ?_⟩
    · by_cases hb : b = ι k
      · subst hb; rw [upd_same] at z; rw [hH]; exact z
      · rw [upd_ne hb] at z; exact R.f b o z
    · obtain ⟨h1, h2⟩ := lt i c1 e1 l1
      rw [upd_ne fun z => h1 (R.inj i k c1 _ h2 e l1 rfl z)]
      exact R.fl i c1 h2 l1
    · rw [List.length_set]
      rcases get_set e1 with ⟨h1, h2⟩ | ⟨h1, h2, _⟩
      · exact CellR.mono (R.cell i c1 h2) le (fun _ _ => rfl) (Nat.le_refl _)
      · subst h1; rw [← h2]; exact z0
    · by_cases hb : b = ι k
      · subst hb; rw [upd_same] at z; cases z
      · rw [upd_ne hb] at z; exact R.nf b ps z
  · rw [z] at hb; exact hb hG
theorem Rel.frzV (R : Rel C G F ι h H) {x : V} {v : Val} {d : PyData} (V : RV C ι F h.length x v) (e : NT.frz v h = some (d, h')) : ∃ F', Rel C G F' ι h' H ∧ Ext G F ι h.length F' ι ∧ h'.length = h.length ∧ Dp C.K F' x d := by
  cases V with
  | im z => cases e; exact ⟨F, R, Ext.refl, rfl, z⟩
  | @ref k hk =>
    simp only [NT.frz] at e
    split at e
    · rename_i d' hc
      cases e
      exact ⟨F, R, Ext.refl, rfl, R.cell k _ hc⟩
    · rename_i vs hc
      cases ei : imsOf vs with
      | none => rw [ei] at e; cases e
      | some ds =>
        rw [ei] at e; cases e
        obtain ⟨F', R', E', z⟩ := R.frz hc ei
        exact ⟨F', R', E', by simp, z⟩
    · cases e
theorem Rel.frzVs : ∀ {vs : List Val} {xs : List V} {ds : List PyData} {h h' : Hs} {F : Hp}, Rel C G F ι h H → Paired (RV C ι F h.length) xs vs → frzL vs h = some (ds, h') → ∃ F', Rel C G F' ι h' H ∧ Ext G F ι h.length F' ι ∧ h'.length = h.length ∧ DpAll C.K F' xs ds
  | [], _, _, _, _, F, R, V, e => by cases V; cases e; exact ⟨F, R, Ext.refl, rfl, .nil⟩
  | v :: vs, _, ds, h, h', F, R, V, e => by
    cases V with
    | cons V1 V2 =>
      unfold frzL at e
      cases e1 : NT.frz v h with
      | none => rw [e1] at e; cases e
      | some p =>
        obtain ⟨d, h1⟩ := p
        rw [e1] at e
        simp only [Option.bind_some] at e
        cases e2 : frzL vs h1 with
        | none => rw [e2] at e; cases e
        | some p2 =>
          obtain ⟨ds2, h2⟩ := p2
          rw [e2] at e
          cases e
          obtain ⟨F1, R1, E1, l1, z1⟩ := R.frzV V1 e1
          obtain ⟨F2, R2, E2, l2, z2⟩ := Rel.frzVs R1 (by rw [l1]; exact RVs.mono V2 E1.le (fun _ _ => rfl) (Nat.le_refl _)) e2
          exact ⟨F2, R2, E1.trans E2 (by rw [l1]; exact Nat.le_refl _), l2.trans l1, .cons (Dp.le E2.le _ _ z1) z2⟩
end
section
variable {X : Cx} {W : WK} {e : Expr} {es : List Expr} {me : Ev} {ms : M (List Val)} {pos : Pos}
theorem fin_l {C : Cst} {G F : Hp} {ι : Nat → Addr} {h : Hs} {H : Hp} {xs : List V} {vs : List Val} {Q : List V → Hp → Prop} (R : Rel C G F ι h H) (D : Done (repL C) C W G F ι h.length (.ok vs h) Q) (V : Paired (RV C ι F h.length) xs vs) : Q xs H := D F ι H xs R Ext.refl (Nat.le_refl _) V
theorem ja_nil : JA X W [] mNil := by
  refine PA.imp pa_nil fun σ H Q t => ?_
  obtain ⟨G, F, ι, ρ, h, R, S, D⟩ := t
  exact fin_l R D .nil
theorem ja_cons (ha : JE X W e me) (hr : JA X W es ms) (hs : starEach (e :: es) X.env = (false, eval e X.env) :: starEach es X.env := by rfl) : JA X W (e :: es) (mCons me ms) := by
  refine PA.imp (pa_cons ha hr hs) fun σ H Q t => ?_
  obtain ⟨G, F, ι, ρ, h, R, S, D⟩ := t
  refine st1 R S D fun F1 ι1 h1 H1 x v R1 E1 l1 V1 D1 => ?_
  refine st1 R1 (S.mono E1.le E1.ag l1) D1 fun F2 ι2 h2 H2 y u R2 E2 l2 V2 D2 => ?_
  exact fin_l R2 D2 (.cons (RV.mono V1 E2.le E2.ag l2) V2)
theorem je_tup {k : Nat} (ha : JA X W es ms) : JE X W (.Tuple es k pos) (eTup ms) := by
  refine PE.imp (pe_tup ha) fun σ H Q t => ?_
  obtain ⟨G, F, ι, ρ, h, R, S, D⟩ := t
  refine st1 R S D fun F1 ι1 h1 H1 x v R1 E1 l1 V1 D1 => ?_
  split at D1
  · rename_i ds h2 ef
    split at D1
    · rename_i hz
      obtain ⟨F2, R2, E2, l2, z2⟩ := Rel.frzVs R1 V1 ef
      have l2' : h1.length ≤ h2.length := by rw [l2]; exact Nat.le_refl _
      exact ⟨by rw [dp_len z2, SZ_eq]; exact hz, fun p hp => fin_newT R2 (Done.mono D1 E2 l2') z2 p hp⟩
    · exact D1.elim
  · exact D1.elim
theorem je_lst (ha : JA X W es ms) : JE X W (.List es pos) (eLst ms) := by
  refine PE.imp (pe_lst ha) fun σ H Q t => ?_
  obtain ⟨G, F, ι, ρ, h, R, S, D⟩ := t
  refine st1 R S D fun F1 ι1 h1 H1 x v R1 E1 l1 V1 D1 => ?_
  split at D1
  · rename_i hz
    exact ⟨by rw [Paired.length V1, SZ_eq]; exact hz, fun p hp => fin_newL R1 D1 V1 p hp⟩
  · exact D1.elim
end

/-! ### subscripts, slices -/
def vIdx (v i : Val) (h : Hs) : Res Val := match v, i with
  | .im (.str z), .im (.int k) => if z.length ≤ 16777216 then (match atI z.cps.toList k with
    | some c => .ok (.im (.str ⟨#[c]⟩)) h
    | none => .no) else .no
  | v, .im (.int k) => match itemsOf h v with
    | some vs => (match atI vs k with
      | some r => .ok r h
      | none => .no)
    | none => .no
  | _, _ => .no
theorem paired_get' {α β : Type} {R : α → β → Prop} : ∀ {xs : List α} {ys : List β} {i : Nat} {y : β}, Paired R xs ys → ys[i]? = some y → ∃ x, xs[i]? = some x ∧ R x y
  | _, _, _, _, .nil, e => by cases e
  | _, _, 0, _, .cons a _, e => by simp at e; subst e; exact ⟨_, rfl, a⟩
  | _, _, i + 1, y, .cons _ b, e => by
    obtain ⟨x, h1, h2⟩ := paired_get' (i := i) (y := y) b (by simpa using e)
    exact ⟨x, (by simpa using h1), h2⟩
theorem paired_atI {α β : Type} {R : α → β → Prop} {xs : List α} {ys : List β} {i : Int} {y : β} (p : Paired R xs ys) (e : atI ys i = some y) : ∃ x, atI xs i = some x ∧ R x y := by
  unfold atI at e ⊢
  rw [Paired.length p]
  cases h : ixN ys.length i with
  | none => rw [h] at e; cases e
  | some j => rw [h] at e; exact paired_get' p e
def cutG {α : Type} (xs : List α) (lo hi : Option Int) : List α := (xs.drop (HT.sIx xs.length 0 lo)).take (HT.sIx xs.length xs.length hi - HT.sIx xs.length 0 lo)
theorem paired_drop {α β : Type} {R : α → β → Prop} : ∀ {xs : List α} {ys : List β} (n : Nat), Paired R xs ys → Paired R (xs.drop n) (ys.drop n)
  | _, _, 0, p => p
  | _, _, _ + 1, .nil => .nil
  | _, _, n + 1, .cons _ b => paired_drop n b
theorem paired_take {α β : Type} {R : α → β → Prop} : ∀ {xs : List α} {ys : List β} (n : Nat), Paired R xs ys → Paired R (xs.take n) (ys.take n)
  | _, _, 0, _ => .nil
  | _, _, _ + 1, .nil => .nil
  | _, _, n + 1, .cons a b => .cons a (paired_take n b)
theorem paired_cut {α β : Type} {R : α → β → Prop} {xs : List α} {ys : List β} (p : Paired R xs ys) (lo hi : Option Int) : Paired R (cutG xs lo hi) (cutG ys lo hi) := by
  unfold cutG
  rw [Paired.length p]
  exact paired_take _ (paired_drop _ p)
def mNoPart : M (Option Int) := fun _ h => .ok none h
def mPart (a : Ev) : M (Option Int) := fun ρ h => (a ρ h).bind fun v h1 => match v with
  | .im (.int i) => .ok (some i) h1
  | _ => .no
def vSlice (v : Val) (lo hi : Option Int) (h : Hs) : Res Val := match v with
  | .im (.str z) => if z.length ≤ 16777216 then .ok (.im (.str (cutS z lo hi))) h else .no
  | .im (.tuple ds) => .ok (.im (.tuple (cutG ds lo hi))) h
  | v => match itemsOf h v with
    | some vs => .ok (.ref h.length) (h ++ [.lst (cutG vs lo hi)])
    | none => .no
def eSlice (a : Ev) (l u : M (Option Int)) : Ev := fun ρ h => (a ρ h).bind fun v h1 => (l ρ h1).bind fun lo h2 => (u ρ h2).bind fun hi h3 => vSlice v lo hi h3
section
variable {X : Cx} {W : WK} {a b : Expr} {ma mb : Ev} {pos p2 : Pos}
theorem IxR.imp {X : Cx} {r r' : R2} (p : IxR X r) (h : ∀ x y H Q, r' x y H Q → r x y H Q) : IxR X r' := fun va sl pins s σ H x y v u Q I rx ry q hs => p va sl pins s σ H x y v u Q I rx ry (h _ _ _ _ q) hs
theorem i_seq : IxR X (rOf2 (cst X W) W vIdx) := IxR.imp ix_seq fun x y H Q t => by
  obtain ⟨G, F, ι, h, v1, u1, R, V1, V2, D⟩ := t
  unfold vIdx at D
  split at D
  · split at D
    · rename_i hz
      split at D
      · rename_i c hc
        cases V1 with | im z1 => cases z1; cases V2 with | im z2 => cases z2; exact .inr (.inr ⟨_, _, c, rfl, rfl, by rw [SZ_eq]; exact hz, hc, fin_im R D (.str _)⟩)
      · exact D.elim
    · exact D.elim
  · rename_i k _
    split at D
    · rename_i vs ev
      split at D
      · rename_i r er
        cases V2 with
        | im z2 =>
          cases z2
          obtain ⟨p, xs, rfl, hs, P⟩ := R.items V1 ev
          obtain ⟨z, hz, Z⟩ := paired_atI P er
          have q : Q z H := D F ι H z R Ext.refl (Nat.le_refl _) Z
          rcases hs with hs | hs
          · exact .inl ⟨p, xs, k, z, rfl, rfl, hs, hz, q⟩
          · exact .inr (.inl ⟨p, xs, k, z, rfl, rfl, hs, hz, q⟩)
      · exact D.elim
    · exact D.elim
  · exact D.elim
theorem je_idx (ha : JE X W a ma) (hb : JE X W b mb) (hs : PlainIx b := by exact fun _ _ => rfl) : JE X W (.Subscript a b pos) (e2 ma mb vIdx) := PE.imp (pe_ix i_seq ha hb hs) fun _ _ _ t => two_r t
abbrev JO (X : Cx) (W : WK) (e : Option Expr) (m : M (Option Int)) : Prop := PO X e (tOf repO (cst X W) W m)
theorem jo_none : JO X W none mNoPart := ⟨fun pins s σ H Q I h => (po_none (X := X)).run pins s σ H Q I (by
  obtain ⟨G, F, ι, ρ, h, R, S, D⟩ := h
  exact D F ι H _ R Ext.refl (Nat.le_refl _) rfl)⟩
theorem jo_some (h : JE X W a ma) : JO X W (some a) (mPart ma) := ⟨fun pins s σ H Q I t => (po_some h).run pins s σ H Q I (by
  obtain ⟨G, F, ι, ρ, h, R, S, D⟩ := t
  refine st1 R S D fun F1 ι1 h1 H1 x v R1 E1 l1 V1 D1 => ?_
  split at D1
  · cases V1 with | im z1 => cases z1; exact ⟨_, rfl, D1 F1 ι1 H1 _ R1 Ext.refl (Nat.le_refl _) rfl⟩
  · exact D1.elim)⟩
theorem cutV_eq (xs : List V) (lo hi : Option Int) : cutV xs lo hi = cutG xs lo hi := rfl
theorem dp_take {K : PySem.W.Frag} {F : Hp} {xs : List V} {ds : List PyData} (p : DpAll K F xs ds) (lo hi : Option Int) : DpAll K F (cutG xs lo hi) (cutG ds lo hi) := by
  have q : Paired (fun x d => Dp K F x d) xs ds := by
    induction ds generalizing xs with
    | nil => cases p; exact .nil
    | cons d ds ih => cases p with | cons a b => exact .cons a (ih b)
  have q' := paired_cut q lo hi
  revert q'
  generalize cutG xs lo hi = as
  generalize cutG ds lo hi = bs
  intro q'
  induction q' with
  | nil => exact .nil
  | cons a _ ih => exact .cons a ih
theorem cut_whole {α : Type} {xs : List α} {lo hi : Option Int} (h1 : HT.sIx xs.length 0 lo = 0) (h2 : HT.sIx xs.length xs.length hi = xs.length) : cutG xs lo hi = xs := by
  unfold cutG
  rw [h1, h2]
  simp
theorem sl_all : SlR X (fun x lo hi H Q => ∃ G F ι h v, Rel (cst X W) G F ι h H ∧ RV (cst X W) ι F h.length x v ∧ Done (repV (cst X W)) (cst X W) W G F ι h.length (vSlice v lo hi h) Q) := by
  have base := (sl_list (X := X)).or (SlR.or sl_tupA sl_str)
  intro pins s σ H x v vl vu lo hi sl Q I rx hs pl pu t
  refine base pins s σ H x v vl vu lo hi sl Q I rx hs pl pu ?_
  obtain ⟨G, F, ι, h, v1, R, V1, D⟩ := t
  unfold vSlice at D
  split at D
  · split at D
    · rename_i hz
      cases V1 with | im z1 => cases z1; exact .inr (.inr ⟨_, rfl, by rw [SZ_eq]; exact hz, fin_im R D (.str _)⟩)
    · exact D.elim
  · cases V1 with
    | im z1 =>
      cases z1 with
      | tup s1 p1 =>
        rename_i ds a xs
        refine .inr (.inl ⟨_, _, rfl, tupF R.f s1, fun ⟨w1, w2⟩ => ?_, fun _ p hp => fin_newT R D (dp_take p1 lo hi) p hp⟩)
        rw [dp_len p1] at w1 w2
        rw [cut_whole w1 w2] at D
        exact fin_im R D (.tup s1 p1)
  · rename_i hn1 hn2
    split at D
    · rename_i vs ev
      obtain ⟨p, xs, e0, hs, P⟩ := R.items V1 ev
      rcases hs with hs | hs
      · exact .inl ⟨p, xs, e0, hs, fun p hp => fin_newL R D (paired_cut P lo hi) p hp⟩
      · exfalso
        unfold itemsOf at ev
        split at ev
        · exact hn2 _ rfl
        · subst e0
          cases V1 with
          | im z1 =>
            cases z1 with
            | lst s1 p1 =>
              have t1 := I.tuple hs
              have t2 := I.list (seqF R.f s1)
              obtain ⟨its, _, ⟨o, ho, hc, _⟩, _⟩ := t1
              obtain ⟨its', _, ⟨o', n', ho', hc', _⟩, _⟩ := t2
              rw [ho] at ho'; cases ho'
              exact absurd (Value.type.inj (hc.symm.trans hc')) (by decide)
        · subst e0
          rename_i k
          cases V1 with
          | ref hk =>
            have tt := I.tuple hs
            obtain ⟨its, _, ⟨o, ho, hc, _⟩, _⟩ := tt
            split at ev
            · rename_i vs' hcell
              obtain ⟨ys, hH, _⟩ := R.at_lst hcell
              obtain ⟨its', _, ⟨o', n', ho', hc', _⟩, _⟩ := I.list (SqL.of hH)
              rw [ho] at ho'; cases ho'
              exact absurd (Value.type.inj (hc.symm.trans hc')) (by decide)
            · rename_i ds hcell
              have r := R.cell _ _ hcell
              cases r with
              | lst s1 p1 =>
                obtain ⟨its', _, ⟨o', n', ho', hc', _⟩, _⟩ := I.list (seqF R.f s1)
                rw [ho] at ho'; cases ho'
                exact absurd (Value.type.inj (hc.symm.trans hc')) (by decide)
            · cases ev
        · cases ev
    · exact D.elim
theorem je_slice {lo hi : Option Expr} {ml mu : M (Option Int)} (ha : JE X W a ma) (hl : JO X W lo ml) (hu : JO X W hi mu) : JE X W (.Subscript a (.Slice lo hi none p2) pos) (eSlice ma ml mu) := by
  refine PE.imp (pe_slice (sl_all (W := W)) ha hl hu) fun σ H Q t => ?_
  obtain ⟨G, F, ι, ρ, h, R, S, D⟩ := t
  refine st1 R S D fun F1 ι1 h1 H1 x v R1 E1 l1 V1 D1 => ?_
  have S1 := S.mono E1.le E1.ag l1
  refine st1 R1 S1 D1 fun F2 ι2 h2 H2 y u R2 E2 l2 V2 D2 => ?_
  obtain rfl : y = u := V2
  refine st1 R2 (S1.mono E2.le E2.ag l2) D2 fun F3 ι3 h3 H3 z w R3 E3 l3 V3 D3 => ?_
  obtain rfl : z = w := V3
  exact ⟨G, F3, ι3, h3, v, R3, (V1.mono E2.le E2.ag l2).mono E3.le E3.ag l3, D3⟩
end
end NT

set_option Elab.async false
set_option linter.all false
set_option maxRecDepth 100000
set_option autoImplicit false

namespace NT
open PySem PySem.Spec PyProof.Rows L2

/-! ### renaming -/
def Val.ren (f : Nat → Nat) : Val → Val
  | .im d => .im d
  | .ref k => .ref (f k)
def Cell.ren (f : Nat → Nat) : Cell → Cell
  | .lst vs => .lst (vs.map (Val.ren f))
  | .fz d => .fz d
  | .dct kvs => .dct (kvs.map fun p => (p.1, p.2.ren f))
def Val.isIm : Val → Bool
  | .im _ => true
  | .ref _ => false
def Cell.flat : Cell → Bool
  | .lst vs => vs.all Val.isIm
  | .fz _ => true
  | .dct kvs => kvs.all fun p => p.2.isIm
theorem Cell.ren_live {f : Nat → Nat} {c : Cell} : (c.ren f).live = c.live := by cases c <;> rfl
abbrev Fn := List Val → Hs → Res Val
/-- the arguments' own cells, numbered from n -/
def isol (h : Hs) : List Val → Nat → Option (List Val × List Nat)
  | [], _ => some ([], [])
  | .im d :: r, n => (isol h r n).map fun p => (.im d :: p.1, p.2)
  | .ref k :: r, n => match h[k]? with
    | some (.fz d) => (isol h r n).map fun p => (.im d :: p.1, p.2)
    | some c => if c.flat = true then (isol h r (n + 1)).map fun p => (.ref n :: p.1, k :: p.2) else none
    | none => none
def wrs : List Nat → List Cell → Hs → Hs
  | k :: ks, c :: cs, h => wrs ks cs (h.set k c)
  | _, _, h => h
def backI (rs : List Nat) (n : Nat) (k : Nat) : Nat := if k < rs.length then rs.getD k 0 else n + (k - rs.length)
def cellsAt (h : Hs) (rs : List Nat) : Hs := rs.map fun k => h.getD k (.fz .none)
open Classical in
noncomputable def callFn (s : Fn) (vs : List Val) (h : Hs) : Res Val := match isol h vs 0 with
  | some (vs', rs) => if rs.Nodup then (s vs' (cellsAt h rs)).bind fun v h' =>
      .ok (v.ren (backI rs h.length)) (wrs rs ((h'.take rs.length).map (Cell.ren (backI rs h.length))) h ++ (h'.drop rs.length).map (Cell.ren (backI rs h.length))) else .no
  | none => .no

section
variable {C : Cst} {W : WK} {G F F' : Hp} {ι ι' ι2 : Nat → Addr} {n n' m q : Nat} {h h' : Hs} {H H' : Hp} {σ : L2.St} {ρ : En} {Q : VK}
theorem RV.ren {f : Nat → Nat} {x : V} {v : Val} (r : RV C ι F n x v) (hf : ∀ k, k < n → f k < n' ∧ ι' (f k) = ι k) : RV C ι' F n' x (v.ren f) := by
  cases r with
  | im z => exact .im z
  | @ref k hk =>
    obtain ⟨h1, h2⟩ := hf k hk
    rw [← h2]
    exact .ref h1
theorem Paired.mapR {α β γ : Type} {R : α → β → Prop} {S : α → γ → Prop} {g : β → γ} (hg : ∀ a b, R a b → S a (g b)) : ∀ {xs : List α} {ys : List β}, Paired R xs ys → Paired S xs (ys.map g)
  | _, _, .nil => .nil
  | _, _, .cons a b => .cons (hg _ _ a) (Paired.mapR hg b)
theorem CellR.ren {f : Nat → Nat} {a : Addr} {o : Option HO} {c : Cell} (r : CellR C ι F n a o c) (hf : ∀ k, k < n → f k < n' ∧ ι' (f k) = ι k) : CellR C ι' F n' a o (c.ren f) := by
  cases c with
  | lst vs => obtain ⟨xs, e, p⟩ := r; exact ⟨xs, e, Paired.mapR (fun _ _ z => z.ren hf) p⟩
  | fz d => exact r
  | dct kvs =>
    obtain ⟨L, e, z, p⟩ := r
    exact ⟨L, e, z, Paired.mapR (fun _ _ z => ⟨z.1, z.2.1.ren hf, z.2.2⟩) p⟩
theorem RV.flat {x : V} {v : Val} (r : RV C ι F n x v) (hv : v.isIm = true) : RV C ι' F n' x v := by
  cases r with
  | im z => exact .im z
  | ref _ => cases hv
theorem Paired.mem {α β : Type} {R S : α → β → Prop} : ∀ {xs : List α} {ys : List β}, Paired R xs ys → (∀ a b, b ∈ ys → R a b → S a b) → Paired S xs ys
  | _, _, .nil, _ => .nil
  | _, _, .cons a b, k => .cons (k _ _ List.mem_cons_self a) (Paired.mem b fun c d hd => k c d (List.mem_cons_of_mem _ hd))
theorem CellR.flat {a : Addr} {o : Option HO} {c : Cell} (r : CellR C ι F n a o c) (hc : c.flat = true) : CellR C ι' F n' a o c := by
  cases c with
  | lst vs =>
    obtain ⟨xs, e, p⟩ := r
    have hc' : vs.all Val.isIm = true := hc
    exact ⟨xs, e, Paired.mem p fun _ b hb z => z.flat (List.all_eq_true.mp hc' b hb)⟩
  | fz d => exact r
  | dct kvs =>
    obtain ⟨L, e, z, p⟩ := r
    have hc' : (kvs.all fun p => p.2.isIm) = true := hc
    exact ⟨L, e, z, Paired.mem p fun _ b hb z => ⟨z.1, z.2.1.flat (List.all_eq_true.mp hc' b hb), z.2.2⟩⟩
theorem isol_ok : ∀ {vs : List Val} {n : Nat} {vs' : List Val} {rs : List Nat}, isol h vs n = some (vs', rs) → ∀ k ∈ rs, ∃ c, h[k]? = some c ∧ c.flat = true ∧ c.live = true
  | [], n, vs', rs, e => by cases e; intro k hk; cases hk
  | .im d :: r, n, vs', rs, e => by
    simp only [isol] at e
    cases e1 : isol h r n with
    | none => rw [e1] at e; cases e
    | some p => rw [e1] at e; cases e; exact isol_ok (vs' := p.1) e1
  | .ref j :: r, n, vs', rs, e => by
    simp only [isol] at e
    split at e
    · cases e1 : isol h r n with
      | none => rw [e1] at e; cases e
      | some p => rw [e1] at e; cases e; exact isol_ok (vs' := p.1) e1
    · rename_i c hc hj
      split at e
      · rename_i hf
        cases e1 : isol h r (n + 1) with
        | none => rw [e1] at e; cases e
        | some p =>
          rw [e1] at e; cases e
          intro k hk
          rcases List.mem_cons.mp hk with rfl | hk
          · refine ⟨c, hj, hf, ?_⟩
            cases c with
            | fz d => exact (hc d rfl).elim
            | lst _ => rfl
            | dct _ => rfl
          · exact isol_ok (vs' := p.1) e1 k hk
      · cases e
    · cases e
theorem isol_vals {ι0 : Nat → Addr} {m : Nat} (R : Rel C G F ι h H) : ∀ {vs : List Val} {xs : List V} {n : Nat} {vs' : List Val} {rs : List Nat}, isol h vs n = some (vs', rs) → Paired (RV C ι F h.length) xs vs →
    (∀ i, i < rs.length → ι0 (n + i) = ι (rs.getD i 0)) → n + rs.length ≤ m → Paired (RV C ι0 F m) xs vs'
  | [], _, n, vs', rs, e, p, _, _ => by cases e; cases p; exact .nil
  | .im d :: r, _, n, vs', rs, e, p, hi, hm => by
    simp only [isol] at e
    cases e1 : isol h r n with
    | none => rw [e1] at e; cases e
    | some q =>
      rw [e1] at e; cases e
      cases p with
      | cons a b => exact .cons (a.flat rfl) (isol_vals R (vs' := q.1) (rs := q.2) e1 b hi hm)
  | .ref j :: r, _, n, vs', rs, e, p, hi, hm => by
    simp only [isol] at e
    cases p with
    | cons a b =>
      cases a with
      | ref hj =>
        split at e
        · rename_i d hc
          cases e1 : isol h r n with
          | none => rw [e1] at e; cases e
          | some q => rw [e1] at e; cases e; exact .cons (.im (R.cell j _ hc)) (isol_vals R (vs' := q.1) (rs := q.2) e1 b hi hm)
        · split at e
          · cases e1 : isol h r (n + 1) with
            | none => rw [e1] at e; cases e
            | some q =>
              rw [e1] at e; cases e
              have h0 := hi 0 (by simp)
              simp only [Nat.add_zero, List.getD_cons_zero] at h0
              refine .cons ?_ (isol_vals R (vs' := q.1) (rs := q.2) e1 b (fun i hl => ?_) ?_)
              · rw [← h0]; exact .ref (by simp only [List.length_cons] at hm; omega)
              · have := hi (i + 1) (by simp only [List.length_cons]; omega)
                simp only [List.getD_cons_succ] at this
                rw [show n + 1 + i = n + (i + 1) by omega]
                exact this
              · simp only [List.length_cons] at hm; omega
          · cases e
        · cases e
theorem wrs_length : ∀ (rs : List Nat) (cs : List Cell) (h : Hs), (wrs rs cs h).length = h.length
  | [], _, _ => rfl
  | _ :: _, [], _ => rfl
  | k :: ks, c :: cs, h => by rw [wrs, wrs_length ks cs, List.length_set]
theorem wrs_out : ∀ {rs : List Nat} {cs : List Cell} {h : Hs} {i : Nat}, i ∉ rs → (wrs rs cs h)[i]? = h[i]?
  | [], _, _, _, _ => rfl
  | _ :: _, [], _, _, _ => rfl
  | k :: ks, c :: cs, h, i, hi => by
    rw [wrs, wrs_out (fun z => hi (List.mem_cons_of_mem _ z)), List.getElem?_set_ne (fun z => hi (by rw [z]; exact List.mem_cons_self))]
theorem wrs_at : ∀ {rs : List Nat} {cs : List Cell} {h : Hs} {j : Nat} {k : Nat}, rs.Nodup → rs[j]? = some k → k < h.length → cs.length = rs.length → (wrs rs cs h)[k]? = cs[j]?
  | [], _, _, _, _, _, e, _, _ => by simp at e
  | _ :: _, [], _, _, _, _, _, _, e => by simp at e
  | a :: ks, c :: cs, h, 0, k, nd, e, hk, hl => by
    simp at e; subst e
    rw [wrs, wrs_out (List.nodup_cons.mp nd).1, List.getElem?_set_self hk]
    rfl
  | a :: ks, c :: cs, h, j + 1, k, nd, e, hk, hl => by
    rw [wrs, wrs_at (j := j) (List.nodup_cons.mp nd).2 (by simpa using e) (by simpa using hk) (by simpa using hl)]
    simp
theorem mem_get {rs : List Nat} {k : Nat} (h : k ∈ rs) : ∃ j, rs[j]? = some k ∧ j < rs.length := by
  obtain ⟨j, hj⟩ := List.mem_iff_getElem?.mp h
  exact ⟨j, hj, (List.getElem?_eq_some_iff.mp hj).1⟩
theorem getD_of {rs : List Nat} {j k : Nat} (h : rs[j]? = some k) : rs.getD j 0 = k := by simp [List.getD, h]
theorem get_getD {rs : List Nat} {j : Nat} (h : j < rs.length) : rs[j]? = some (rs.getD j 0) := by simp [List.getD, h]

/-- THE CALL -/
theorem call_rel {s : Fn} {xs : List V} {vs : List Val} (R : Rel C G F ι h H) (V : Paired (RV C ι F h.length) xs vs) (D : Done (repV C) C W G F ι h.length (callFn s vs h) Q) :
    ∃ G0 F0 ι0 h0 vs', Rel C G0 F0 ι0 h0 H ∧ Paired (RV C ι0 F0 h0.length) xs vs' ∧ Done (repV C) C W G0 F0 ι0 h0.length (s vs' h0) Q := by
  unfold callFn at D
  cases ei : isol h vs 0 with
  | none => rw [ei] at D; exact D.elim
  | some pr =>
  obtain ⟨vs', rs⟩ := pr
  rw [ei] at D
  by_cases nd : rs.Nodup
  case neg => simp only [if_neg nd] at D; exact D.elim
  simp only [if_pos nd] at D
  have hrs := isol_ok ei
  have hlt : ∀ k ∈ rs, k < h.length := fun k hk => let ⟨c, e, _⟩ := hrs k hk; (List.getElem?_eq_some_iff.mp e).1
  have hmem : ∀ {j : Nat}, j < rs.length → rs.getD j 0 ∈ rs := fun {j} hj => List.mem_of_getElem? (get_getD hj)
  -- the callee's side
  let G0 : Hp := fun b => open Classical in if (∃ k ∈ rs, b = ι k) ∨ (∃ x ∈ C.T, b = x.1) ∨ ∃ ps, H b = some (.tbl ps) then none else H b
  let ι0 : Nat → Addr := fun i => ι (rs.getD i 0)
  have G0in : ∀ {k}, k ∈ rs → G0 (ι k) = none := fun {k} hk => if_pos (.inl ⟨k, hk, rfl⟩)
  have G0T : ∀ x ∈ C.T, G0 x.1 = none := fun x hx => if_pos (.inr (.inl ⟨x, hx, rfl⟩))
  have G0out : ∀ {b}, ¬ ((∃ k ∈ rs, b = ι k) ∨ (∃ x ∈ C.T, b = x.1) ∨ ∃ ps, H b = some (.tbl ps)) → G0 b = H b := fun {b} hb => if_neg hb
  have G0le : ∀ b o, G0 b = some o → H b = some o := fun b o e => by
    by_cases hb : (∃ k ∈ rs, b = ι k) ∨ (∃ x ∈ C.T, b = x.1) ∨ ∃ ps, H b = some (.tbl ps)
    · have z : G0 b = none := if_pos hb
      rw [z] at e; cases e
    · rw [G0out hb] at e; exact e
  have GG0 : ∀ b o, G b = some o → G0 b = some o := fun b o e => by
    rw [G0out fun q => by
      rcases q with ⟨k, hk, z⟩ | ⟨x, hx, z⟩ | ⟨ps, z⟩
      · obtain ⟨c, e1, _, l1⟩ := hrs k hk
        rw [z, R.gl k c e1 l1] at e; cases e
      · rw [z, (R.tb x hx).1] at e; cases e
      · rw [R.g b o e] at z; cases z; exact R.ng b ps e]
    exact R.g b o e
  have cl : (cellsAt h rs).length = rs.length := by simp [cellsAt]
  have cget : ∀ {i : Nat} {c : Cell}, (cellsAt h rs)[i]? = some c → i < rs.length ∧ h[rs.getD i 0]? = some c ∧ c.flat = true := fun {i c} e => by
    have hi : i < rs.length := by rw [← cl]; exact (List.getElem?_eq_some_iff.mp e).1
    obtain ⟨c', e1, f1, _⟩ := hrs _ (hmem hi)
    have : (cellsAt h rs)[i]? = some (h.getD (rs.getD i 0) (.fz .none)) := by
      unfold cellsAt
      rw [List.getElem?_map, get_getD hi]
      rfl
    rw [this] at e
    have e2 : h.getD (rs.getD i 0) (.fz .none) = c' := by rw [List.getD_eq_getElem?_getD, e1]; rfl
    rw [e2] at e; cases e
    exact ⟨hi, e1, f1⟩
  have injR : ∀ {i j : Nat}, i < rs.length → j < rs.length → rs.getD i 0 = rs.getD j 0 → i = j := fun {i j} hi hj e => by
    have e1 := get_getD hi
    have e2 := get_getD hj
    rw [e, ← e2] at e1
    exact (List.getElem?_inj hi nd).mp e1
  have R0 : Rel C G0 F ι0 (cellsAt h rs) H := by
    refine ⟨G0le, R.f, fun i j c c' e1 e2 l1 l2 z => ?_, fun i c e l => ?_, fun i c e l => ?_, fun i c e => ?_, fun x hx => ⟨G0T x hx, (R.tb x hx).2⟩, fun b ps z => ?_, R.nf⟩
    · obtain ⟨h1, g1, _⟩ := cget e1
      obtain ⟨h2, g2, _⟩ := cget e2
      exact injR h1 h2 (R.inj _ _ c c' g1 g2 l1 l2 z)
    · exact G0in (hmem (cget e).1)
    · exact R.fl _ c (cget e).2.1 l
    · exact CellR.flat (R.cell _ c (cget e).2.1) (cget e).2.2
    · have z2 : G0 b = none := if_pos (.inr (.inr ⟨ps, G0le b _ z⟩))
      rw [z2] at z; cases z
  refine ⟨G0, F, ι0, cellsAt h rs, vs', R0, isol_vals R ei V (fun i hi => by rw [Nat.zero_add]) (by rw [cl]; omega), ?_⟩
  cases es : s vs' (cellsAt h rs) with
  | no => rw [es] at D; exact D
  | er c => rw [es] at D; exact fun H' k t => D H' (fun b o e => k b o (GG0 b o e)) t
  | ok v h' =>
    rw [es] at D
    intro F' ι' H' x R' E' l' V'
    rw [cl] at l' E'
    let ι2 : Nat → Addr := fun i => if i < h.length then ι i else ι' (i - h.length + rs.length)
    have ι2o : ∀ {i}, i < h.length → ι2 i = ι i := fun hi => if_pos hi
    have ι2n : ∀ {i}, ¬ i < h.length → ι2 i = ι' (i - h.length + rs.length) := fun hi => if_neg hi
    have l2 : (wrs rs ((h'.take rs.length).map (Cell.ren (backI rs h.length))) h ++ (h'.drop rs.length).map (Cell.ren (backI rs h.length))).length = h.length + (h'.length - rs.length) := by
      rw [List.length_append, wrs_length, List.length_map, List.length_drop]
    have bk : ∀ k, k < h'.length → backI rs h.length k < h.length + (h'.length - rs.length) ∧ ι2 (backI rs h.length k) = ι' k := fun k hk => by
      unfold backI
      by_cases hr : k < rs.length
      · rw [if_pos hr]
        have := hlt _ (hmem hr)
        refine ⟨by omega, ?_⟩
        rw [ι2o this, E'.ag k hr]
      · rw [if_neg hr]
        refine ⟨by omega, ?_⟩
        rw [ι2n (by omega)]
        congr 1
        omega
    have bki : ∀ {j k : Nat}, j < h'.length → k < h'.length → backI rs h.length j = backI rs h.length k → j = k := fun {j k} hj hk e => by
      unfold backI at e
      by_cases h1 : j < rs.length
      · rw [if_pos h1] at e
        by_cases h2 : k < rs.length
        · rw [if_pos h2] at e; exact injR h1 h2 e
        · rw [if_neg h2] at e
          have := hlt _ (hmem h1)
          omega
      · rw [if_neg h1] at e
        by_cases h2 : k < rs.length
        · rw [if_pos h2] at e
          have := hlt _ (hmem h2)
          omega
        · rw [if_neg h2] at e; omega
    -- every cell behind the call: the callee's, or an old one
    have cases' : ∀ {i : Nat} {c : Cell}, (wrs rs ((h'.take rs.length).map (Cell.ren (backI rs h.length))) h ++ (h'.drop rs.length).map (Cell.ren (backI rs h.length)))[i]? = some c →
        (∃ j c0, h'[j]? = some c0 ∧ c = c0.ren (backI rs h.length) ∧ i = backI rs h.length j) ∨ (i < h.length ∧ i ∉ rs ∧ h[i]? = some c) := fun {i c} e => by
      by_cases hi : i < h.length
      · rw [List.getElem?_append_left (by rw [wrs_length]; exact hi)] at e
        by_cases hm : i ∈ rs
        · obtain ⟨j, hj, hjl⟩ := mem_get hm
          rw [wrs_at nd hj hi (by rw [List.length_map, List.length_take]; omega), List.getElem?_map, List.getElem?_take_of_lt hjl] at e
          cases e1 : h'[j]? with
          | none => rw [e1] at e; cases e
          | some c0 =>
            rw [e1] at e
            cases e
            refine .inl ⟨j, c0, e1, rfl, ?_⟩
            unfold backI
            rw [if_pos hjl, getD_of hj]
        · rw [wrs_out hm] at e
          exact .inr ⟨hi, hm, e⟩
      · rw [List.getElem?_append_right (by rw [wrs_length]; omega), wrs_length, List.getElem?_map, List.getElem?_drop] at e
        cases e1 : h'[rs.length + (i - h.length)]? with
        | none => rw [e1] at e; cases e
        | some c0 =>
          rw [e1] at e
          cases e
          refine .inl ⟨_, c0, e1, rfl, ?_⟩
          unfold backI
          rw [if_neg (by omega)]
          omega
    have notIn : ∀ {i : Nat} {c : Cell}, i ∉ rs → h[i]? = some c → c.live = true → ¬ ((∃ k ∈ rs, ι i = ι k) ∨ (∃ x ∈ C.T, ι i = x.1) ∨ ∃ ps, H (ι i) = some (.tbl ps)) := fun {i c} hi e l q => by
      rcases q with ⟨k, hk, z⟩ | ⟨x, hx, z⟩ | ⟨ps, z⟩
      · obtain ⟨c', e1, _, l1⟩ := hrs k hk
        exact hi (by rw [R.inj i k c c' e e1 l l1 z]; exact hk)
      · exact R.tabCell hx e l z.symm
      · exact (R.notTab e l).1 ps z
    have oldG : ∀ {i : Nat} {c : Cell}, i ∉ rs → h[i]? = some c → c.live = true → ∃ o, H (ι i) = some o ∧ G0 (ι i) = some o := fun {i c} hi e l => by
      obtain ⟨o, ho⟩ := R.there e l
      exact ⟨o, ho, by rw [G0out (notIn hi e l)]; exact ho⟩
    refine D F' ι2 H' x ?_ ⟨E'.le, fun i hi => ι2o hi, fun b hb => E'.out b ?_⟩ (by rw [l2]; omega) (by rw [l2]; exact V'.ren bk)
    · refine ⟨fun b o e => R'.g b o (GG0 b o e), R'.f, fun i j c c' e1 e2 k1 k2 z => ?_, fun i c e k => ?_, fun i c e k => ?_, fun i c e => ?_, fun x hx => ⟨(R.tb x hx).1, (R'.tb x hx).2⟩, R.ng, R'.nf⟩
      · rcases cases' e1 with ⟨a, c0, f1, g1, b1⟩ | ⟨a1, a2, a3⟩
        · have ha := (List.getElem?_eq_some_iff.mp f1).1
          rw [g1, Cell.ren_live] at k1
          rcases cases' e2 with ⟨a', c0', f2, g2, b2⟩ | ⟨b1', b2', b3'⟩
          · have ha' := (List.getElem?_eq_some_iff.mp f2).1
            rw [g2, Cell.ren_live] at k2
            rw [b1, b2, (bk a ha).2, (bk a' ha').2] at z
            rw [b1, b2, R'.inj a a' c0 c0' f1 f2 k1 k2 z]
          · obtain ⟨o, _, ho⟩ := oldG b2' b3' k2
            rw [b1, (bk a ha).2, ι2o b1'] at z
            have := R'.gl a c0 f1 k1
            rw [z, ho] at this; cases this
        · rcases cases' e2 with ⟨a', c0', f2, g2, b2⟩ | ⟨b1', b2', b3'⟩
          · have ha' := (List.getElem?_eq_some_iff.mp f2).1
            rw [g2, Cell.ren_live] at k2
            obtain ⟨o, _, ho⟩ := oldG a2 a3 k1
            rw [b2, (bk a' ha').2, ι2o a1] at z
            have := R'.gl a' c0' f2 k2
            rw [← z, ho] at this; cases this
          · rw [ι2o a1, ι2o b1'] at z
            exact R.inj i j c c' a3 b3' k1 k2 z
      · rcases cases' e with ⟨a, c0, f1, g1, b1⟩ | ⟨a1, a2, a3⟩
        · have ha := (List.getElem?_eq_some_iff.mp f1).1
          rw [g1, Cell.ren_live] at k
          rw [b1, (bk a ha).2]
          cases eg : G (ι' a) with
          | none => rfl
          | some o =>
            have := R'.gl a c0 f1 k
            rw [GG0 _ o eg] at this; cases this
        · rw [ι2o a1]; exact R.gl i c a3 k
      · rcases cases' e with ⟨a, c0, f1, g1, b1⟩ | ⟨a1, a2, a3⟩
        · have ha := (List.getElem?_eq_some_iff.mp f1).1
          rw [g1, Cell.ren_live] at k
          rw [b1, (bk a ha).2]
          exact R'.fl a c0 f1 k
        · obtain ⟨o, _, ho⟩ := oldG a2 a3 k
          rw [ι2o a1, E'.out _ (by rw [ho]; exact fun z => nomatch z)]
          exact R.fl i c a3 k
      · rw [l2]
        rcases cases' e with ⟨a, c0, f1, g1, b1⟩ | ⟨a1, a2, a3⟩
        · have ha := (List.getElem?_eq_some_iff.mp f1).1
          rw [b1, g1, (bk a ha).2]
          exact CellR.ren (R'.cell a c0 f1) bk
        · rw [ι2o a1]
          refine CellR.at' (CellR.mono (R.cell i c a3) E'.le (fun j hj => ι2o hj) (Nat.le_add_right _ _)) fun k => ?_
          obtain ⟨o, h1, h2⟩ := oldG a2 a3 k
          rw [h1]
          exact R'.g _ o h2
    · cases eg : G b with
      | none => exact (hb eg).elim
      | some o => rw [GG0 b o eg]; exact fun z => nomatch z
end

/-! ### a def's promise -/
def wOf (T : TW) (mg : Str → Option Value) (E : XK) : WK := ⟨T, fun c H => ∀ Ca, mg c = some (.ref Ca) → E (.ref Ca) none H⟩
def spOf (n : Nat) (C : Cst) (mg : Str → Option Value) (s : Fn) : Sp := fun vs H Q E => vs.length = n ∧ ∃ G F ι h args, Rel C G F ι h H ∧ Paired (RV C ι F h.length) vs args ∧ Done (repV C) C (wOf ⟨C.T, true⟩ mg E) G F ι h.length (s args h) Q
noncomputable def eCall (n : Nat) (s : Fn) (m : M (List Val)) : Ev := fun ρ h => (m ρ h).bind fun vs h1 => if vs.length = n then callFn s vs h1 else .no
/-- a def keeps its promise wherever no repr is under way (the layer's FnOk with that one premise more) -/
structure Good (T : TW) (P : Program) (w : World) (K : PySem.W.Frag) (mg : Str → Option Value) (base : Heap) (k : Nat) (f : Addr) (fd : FuncData) (ps : List Str) (s : Fn) : Prop where
  run : ∀ (A : Around) (outer : List Env) (sh : Shared) (H : Hp) (args : Args) (us : List Value) (vs : List V) (Q : VK) (E : XK), Room k A → (T.g = true → A.guards = some []) → Env0 P w K mg base A outer sh H → BindsTo sh fd args (ps.zip us) → Vals vs us →
    spOf ps.length ⟨P, w, K, T.l⟩ mg s vs H Q E → codeAny (model P w) A (.call (.ref f) args) (CR (L2.CX P w) outer P w H sh Q E) sh
theorem Good.mono {T : TW} {P : Program} {w : World} {K : PySem.W.Frag} {mg : Str → Option Value} {base : Heap} {j k : Nat} {f : Addr} {fd : FuncData} {ps : List Str} {s : Fn} (F : Good T P w K mg base j f fd ps s) (h : j ≤ k) : Good T P w K mg base k f fd ps s :=
  ⟨fun A outer sh H args us vs Q E hr => F.run A outer sh H args us vs Q E (hr.mono h)⟩
section
variable {X : Cx} {W : WK} {k : Nat} {f : Addr} {fd : FuncData} {ps : List Str} {s : Fn} {x : Str} {p pos : Pos} {e : Expr} {es : List Expr} {ms : M (List Val)}
def exW (X : Cx) (W : WK) : XK := fun cls d H => ∃ c Ca, X.mg c = some (.ref Ca) ∧ cls = .ref Ca ∧ d = none ∧ W c H
theorem Ctx.passes (K : Ctx X W) : Passes (L2.CX X.prog X.w) X (exW X W) := passes_call K.tk fun _ _ _ _ h => h
theorem call_sp {mg : Str → Option Value} {n : Nat} {σ : L2.St} {H : Hp} {Q : VK} (hmg : X.mg = mg) (t : tOf (repV (cst X W)) (cst X W) W (eCall n s ms) σ H Q) :
    tOf (repL (cst X W)) (cst X W) W ms σ H fun vs H1 => spOf n (cst X W) mg s (vs ++ []) H1 Q (exW X W) := by
  obtain ⟨G, F, ι, ρ, h, R, S, D⟩ := t
  refine st1 R S D fun F1 ι1 h1 H1 xs vs R1 E1 l1 V1 D1 => ?_
  have V1' : Paired (RV (cst X W) ι1 F1 h1.length) xs vs := V1
  split at D1
  · rename_i hn
    obtain ⟨G0, F0, ι0, h00, vs', R0, P0, D0⟩ := call_rel R1 V1' D1
    refine ⟨by rw [List.append_nil, Paired.length V1', hn], G0, F0, ι0, h00, vs', R0, by rw [List.append_nil]; exact P0, ?_⟩
    cases es' : s vs' h00 with
    | no => rw [es'] at D0; exact D0
    | ok v h' => rw [es'] at D0; exact D0
    | er c => rw [es'] at D0; exact fun H' k tb Ca hc => ⟨c, Ca, by rw [hmg]; exact hc, rfl, rfl, D0 H' k tb⟩
  · exact D1.elim
theorem good_runs {pins : List (Addr × Obj)} {σ : L2.St} {H : Hp} {sh : Shared} {Q : VK} {us : List Value} {vs : List V} (K : Ctx X W) {q' : Bool} (F : Good ⟨W.T.l, q'⟩ X.prog X.w X.K X.mg X.base k f fd ps s) (hq : q' = true → W.T.g = true) (hr : Room k X.A) (hb : Binds X.K fd ps [])
    (I : Inv X pins σ H sh) (rv : Vals vs us) (q : spOf ps.length (cst X W) X.mg s vs H Q (exW X W)) : wpAny (model X.prog X.w) X.A (call (.ref f) us) (EP X pins σ Q) X.xe sh := by
  have many : (us ++ []).length = ps.length := by rw [List.append_nil, ← rv.length]; exact q.1
  have bind0 := hb sh us I.kIn many
  rw [List.append_nil] at bind0
  refine wpAny_call (codeAny_mono (F.run X.A X.stack sh H ⟨us, []⟩ us vs Q (exW X W) hr (fun z => K.gd (hq z)) I.env0 bind0 rv q) ?_)
  rintro (er | fl) s2 z
  · exact K.passes pins σ H sh er s2 I z
  · cases fl with
    | ret u => exact I.after z
    | next | brk | cont => exact z.elim
theorem je_call (K : Ctx X W) {q' : Bool} (F : Good ⟨W.T.l, q'⟩ X.prog X.w X.K X.mg X.base k f fd ps s) (hq : q' = true → W.T.g = true) (hr : Room k X.A) (hg : Gl X x) (hm : X.mg x = some (.ref f)) (hk : PySem.W.keepIn X.K (.ref f) = true) (hb : Binds X.K fd ps [])
    (ha : JA X W (e :: es) ms) (hdb : (x == ("__debug__" : Str)) = false := by decide) (he : starEach (e :: es) X.env = (false, eval e X.env) :: starEach es X.env := by rfl) (hpl : (backTo pos (starEach es X.env)).any (·.1) = false := by rfl) :
    JE X W (.Call (.Name x p) (e :: es) [] pos) (eCall ps.length s ms) := ⟨fun pins sh σ H Q I t => by
  have t' := call_sp (W := W) rfl t
  refine wpAny_Call_Name_kw (ld_glob I hg hm (PySem.W.callWith_K (h₀ := X.base) I.ok.mod.kin hk (thn (ha.run pos pins sh σ H _ I t') ?_) he hpl) hdb)
  rintro us s1 ⟨vs, H1, J, rv, q⟩
  rw [List.append_nil] at q
  exact ⟨J.kIn, good_runs K F hq hr hb J rv q⟩⟩
theorem je_call0 (K : Ctx X W) {q' : Bool} (F : Good ⟨W.T.l, q'⟩ X.prog X.w X.K X.mg X.base k f fd ps s) (hq : q' = true → W.T.g = true) (hr : Room k X.A) (hg : Gl X x) (hm : X.mg x = some (.ref f)) (hk : PySem.W.keepIn X.K (.ref f) = true) (hb : Binds X.K fd ps [])
    (hdb : (x == ("__debug__" : Str)) = false := by decide) : JE X W (.Call (.Name x p) [] [] pos) (eCall ps.length s mNil) := ⟨fun pins sh σ H Q I t => by
  obtain ⟨G, F1, ι, ρ, h, R, S, D⟩ := call_sp (W := W) rfl t
  have q : spOf ps.length (cst X W) X.mg s [] H Q (exW X W) := D F1 ι H [] R Ext.refl (Nat.le_refl _) .nil
  exact wpAny_Call_Name_kw (ld_glob I hg hm (PySem.W.callWith_K0 I.kIn hk (good_runs (us := []) K F hq hr hb I .nil q)) hdb)⟩
end
end NT

set_option Elab.async false
set_option linter.all false
set_option maxRecDepth 100000
set_option autoImplicit false

namespace NT
open PySem PySem.Spec PyProof.Rows L2

/-! ### statements -/
inductive RS where
  | nx (ρ : En) (h : Hs)
  | rt (v : Val) (h : Hs)
  | bk (ρ : En) (h : Hs)
  | ct (ρ : En) (h : Hs)
  | er (c : Str)
  | no
abbrev SM := Nat → En → Hs → RS
def After (C : Cst) (G F : Hp) (ι : Nat → Addr) (p : Nat) (ρ' : En) (h' : Hs) (Q : L2.St → Hp → Prop) : Prop :=
  ∀ F' ι' H' σ', Rel C G F' ι' h' H' → Ext G F ι p F' ι' → p ≤ h'.length → SR C ι' F' h'.length σ' ρ' → Q σ' H'
def DoneS (C : Cst) (W : WK) (G F : Hp) (ι : Nat → Addr) (p : Nat) (r : RS) (D : Ends) : Prop := match r with
  | .nx ρ' h' => After C G F ι p ρ' h' D.nx
  | .rt v h' => ∀ F' ι' H' x, Rel C G F' ι' h' H' → Ext G F ι p F' ι' → p ≤ h'.length → RV C ι' F' h'.length x v → D.rt x H'
  | .bk ρ' h' => After C G F ι p ρ' h' D.bk
  | .ct ρ' h' => After C G F ι p ρ' h' D.ct
  | .er c => ∀ H', (∀ b o, G b = some o → H' b = some o) → LamX.Tabs C.T H' → W c H'
  | .no => False
def tOfS (C : Cst) (W : WK) (m : SM) : TS := fun D σ H => ∃ G F ι p ρ h, Rel C G F ι h H ∧ SR C ι F h.length σ ρ ∧ p ≤ h.length ∧ DoneS C W G F ι p (m p ρ h) D
abbrev JS (X : Cx) (W : WK) (s : Stmt) (m : SM) : Prop := PS X s (tOfS (cst X W) W m)
abbrev JSs (X : Cx) (W : WK) (s : List Stmt) (m : SM) : Prop := PSs X s (tOfS (cst X W) W m)
def sNil : SM := fun _ ρ h => .nx ρ h
def sSeq (a b : SM) : SM := fun p ρ h => match a p ρ h with
  | .nx ρ' h' => b p ρ' h'
  | r => r
/-- cells from k on dropped, where nothing below asks for them -/
def trunc (k : Nat) (h : Hs) : Hs := if (h.take k).all (Cell.below k) = true then h.take k else h
def sExpr (a : Ev) : SM := fun _ ρ h => match a ρ h with
  | .ok _ h1 => .nx ρ (trunc h.length h1)
  | .er c => .er c
  | .no => .no
def sRet (a : Ev) : SM := fun _ ρ h => match a ρ h with
  | .ok v h1 => .rt v h1
  | .er c => .er c
  | .no => .no
def sRetN : SM := fun _ _ h => .rt (.im .none) h
def sIf (c : M Bool) (a b : SM) : SM := fun p ρ h => match c ρ h with
  | .ok k h1 => if k = true then a p ρ (trunc h.length h1) else b p ρ (trunc h.length h1)
  | .er c => .er c
  | .no => .no
def sPass : SM := sNil
def sBreak : SM := fun _ ρ h => .bk ρ h
def sCont : SM := fun _ ρ h => .ct ρ h
section
variable {α β : Type} {A : Rp α β} {C : Cst} {W : WK} {G F F' : Hp} {ι ι' : Nat → Addr} {n p q : Nat} {h h' : Hs} {H H' : Hp} {σ σ' : L2.St} {ρ ρ' : En}
theorem After.mono {Q : L2.St → Hp → Prop} (a : After C G F ι p ρ' h' Q) (e : Ext G F ι p F' ι') : After C G F' ι' p ρ' h' Q := fun F2 ι2 H2 σ2 R E l S => a F2 ι2 H2 σ2 R (e.trans E (Nat.le_refl _)) l S
theorem DoneS.mono {r : RS} {D : Ends} (d : DoneS C W G F ι p r D) (e : Ext G F ι p F' ι') : DoneS C W G F' ι' p r D := by
  cases r with
  | nx ρ' h' => exact After.mono d e
  | rt v h' => exact fun F2 ι2 H2 x R E l z => d F2 ι2 H2 x R (e.trans E (Nat.le_refl _)) l z
  | bk ρ' h' => exact After.mono d e
  | ct ρ' h' => exact After.mono d e
  | er c => exact d
  | no => exact d
theorem tOfS.at {m : SM} {D : Ends} (R : Rel C G F ι h H) (S : SR C ι F h.length σ ρ) (hp : p ≤ h.length) (d : DoneS C W G F ι p (m p ρ h) D) : tOfS C W m D σ H := ⟨G, F, ι, p, ρ, h, R, S, hp, d⟩
theorem RV.below {x : V} {v : Val} {k : Nat} (r : RV C ι F n x v) (b : v.below k = true) : RV C ι F k x v := by
  cases r with
  | im z => exact .im z
  | ref _ => exact .ref (of_decide_eq_true b)
theorem CellR.below {a : Addr} {o : Option HO} {c : Cell} {k : Nat} (r : CellR C ι F n a o c) (b : c.below k = true) : CellR C ι F k a o c := by
  cases c with
  | lst vs =>
    obtain ⟨xs, e, p⟩ := r
    have hb : vs.all (Val.below k) = true := b
    exact ⟨xs, e, Paired.mem p fun _ w hw z => z.below (List.all_eq_true.mp hb w hw)⟩
  | fz d => exact r
  | dct kvs =>
    obtain ⟨L, e, z, p⟩ := r
    have hb : (kvs.all fun p => p.2.below k) = true := b
    exact ⟨L, e, z, Paired.mem p fun _ w hw z => ⟨z.1, z.2.1.below (List.all_eq_true.mp hb w hw), z.2.2⟩⟩
theorem take_get {α : Type} {l : List α} {k i : Nat} {a : α} (e : (l.take k)[i]? = some a) : i < k ∧ l[i]? = some a := by
  by_cases hi : i < k
  · rw [List.getElem?_take_of_lt hi] at e; exact ⟨hi, e⟩
  · rw [List.getElem?_eq_none (by rw [List.length_take]; omega)] at e; cases e
theorem Rel.take {k : Nat} (R : Rel C G F ι h H) (hk : k ≤ h.length) (b : (h.take k).all (Cell.below k) = true) : Rel C G F ι (h.take k) H := by
  refine ⟨R.g, R.f, fun i j c c' e1 e2 l1 l2 z => R.inj i j c c' (take_get e1).2 (take_get e2).2 l1 l2 z, fun i c e l => R.gl i c (take_get e).2 l, fun i c e l => R.fl i c (take_get e).2 l, fun i c e => ?_, R.tb, R.ng, R.nf⟩
  rw [List.length_take, Nat.min_eq_left hk]
  exact CellR.below (R.cell i c (take_get e).2) (List.all_eq_true.mp b c (List.mem_of_getElem? e))
theorem trunc_len {k : Nat} (hk : k ≤ h.length) : k ≤ (trunc k h).length := by
  unfold trunc
  split
  · rw [List.length_take, Nat.min_eq_left hk]; exact Nat.le_refl _
  · exact hk
theorem Rel.trunc {k : Nat} (R : Rel C G F ι h H) (hk : k ≤ h.length) : Rel C G F ι (NT.trunc k h) H := by
  unfold NT.trunc
  split
  · rename_i b; exact R.take hk b
  · exact R
/-- a value's own reading ahead of a statement's end -/
theorem stS {a : M α} {T : β → Hp → Prop} (R : Rel C G F ι h H) (S : SR C ι F h.length σ ρ) (hp : p ≤ h.length)
    (k : ∀ v h1, a ρ h = .ok v h1 → ∀ F1 ι1 H1 x, Rel C G F1 ι1 h1 H1 → Ext G F ι p F1 ι1 → h.length ≤ h1.length → A.r ι1 F1 h1.length x v → SR C ι1 F1 h.length σ ρ → T x H1)
    (ke : ∀ c, a ρ h = .er c → ∀ H', (∀ b o, G b = some o → H' b = some o) → LamX.Tabs C.T H' → W c H') (kn : a ρ h = .no → False) : tOf A C W a σ H T := by
  refine ⟨G, F, ι, ρ, h, R, S, ?_⟩
  cases e : a ρ h with
  | ok v h1 => exact fun F1 ι1 H1 x R1 E1 l1 V1 => k v h1 e F1 ι1 H1 x R1 (E1.down hp) l1 V1 (S.mono E1.le E1.ag (Nat.le_refl _))
  | er c => exact ke c e
  | no => exact kn e
end
section
variable {X : Cx} {W : WK} {st : Stmt} {rest : List Stmt} {a b : SM} {e : Expr} {me : Ev} {mc : M Bool} {pos : Pos}
theorem jss_nil : JSs X W [] sNil := PSs.imp pss_nil fun D σ H t => by
  obtain ⟨G, F, ι, p, ρ, h, R, S, hp, d⟩ := t
  exact d F ι H σ R Ext.refl hp S
theorem jss_cons (h1 : JS X W st a) (h2 : JSs X W rest b) : JSs X W (st :: rest) (sSeq a b) := PSs.imp (pss_cons h1 h2) fun D σ H t => by
  obtain ⟨G, F, ι, p, ρ, h, R, S, hp, d⟩ := t
  refine ⟨G, F, ι, p, ρ, h, R, S, hp, ?_⟩
  unfold sSeq at d
  cases ea : a p ρ h with
  | nx ρ' h' =>
    rw [ea] at d
    exact fun F' ι' H' σ' R' E' l' S' => ⟨G, F', ι', p, ρ', h', R', S', l', DoneS.mono d E'⟩
  | rt v h' => rw [ea] at d; exact d
  | bk ρ' h' => rw [ea] at d; exact d
  | ct ρ' h' => rw [ea] at d; exact d
  | er c => rw [ea] at d; exact d
  | no => rw [ea] at d; exact d
theorem jss_one (h1 : JS X W st a) : JSs X W [st] a := pss_one h1
theorem js_pass : JS X W (.Pass pos) sPass := PS.imp ps_pass fun D σ H t => by
  obtain ⟨G, F, ι, p, ρ, h, R, S, hp, d⟩ := t
  exact d F ι H σ R Ext.refl hp S
theorem js_break : JS X W (.Break pos) sBreak := PS.imp ps_break fun D σ H t => by
  obtain ⟨G, F, ι, p, ρ, h, R, S, hp, d⟩ := t
  exact d F ι H σ R Ext.refl hp S
theorem js_cont : JS X W (.Continue pos) sCont := PS.imp ps_continue fun D σ H t => by
  obtain ⟨G, F, ι, p, ρ, h, R, S, hp, d⟩ := t
  exact d F ι H σ R Ext.refl hp S
theorem js_expr (he : JE X W e me) (hs : swapsWith e none pos.line X.env = pure false := by rfl) : JS X W (.Expr e pos) (sExpr me) := PS.imp (ps_expr he hs) fun D σ H t => by
  obtain ⟨G, F, ι, p, ρ, h, R, S, hp, d⟩ := t
  unfold sExpr at d
  refine stS R S hp (fun v h1 ee F1 ι1 H1 x R1 E1 l1 _ S1 => ?_) (fun c ee => by rw [ee] at d; exact d) fun ee => by rw [ee] at d; exact d
  rw [ee] at d
  have lt := trunc_len (h := h1) l1
  exact d F1 ι1 H1 σ (R1.trunc l1) E1 (Nat.le_trans hp lt) (S1.mono (fun _ _ z => z) (fun _ _ => rfl) lt)
theorem js_ret (he : JE X W e me) : JS X W (.Return (some e) pos) (sRet me) := PS.imp (ps_ret he) fun D σ H t => by
  obtain ⟨G, F, ι, p, ρ, h, R, S, hp, d⟩ := t
  unfold sRet at d
  refine stS R S hp (fun v h1 ee F1 ι1 H1 x R1 E1 l1 V1 S1 => ?_) (fun c ee => by rw [ee] at d; exact d) fun ee => by rw [ee] at d; exact d
  rw [ee] at d
  exact d F1 ι1 H1 x R1 E1 (Nat.le_trans hp l1) V1
theorem js_retN : JS X W (.Return none pos) sRetN := PS.imp ps_retN fun D σ H t => by
  obtain ⟨G, F, ι, p, ρ, h, R, S, hp, d⟩ := t
  exact d F ι H .non R Ext.refl hp (.im .non)
theorem js_if {c : Expr} {sa sb : List Stmt} (hc : JT X W c mc) (ha : JSs X W sa a) (hb : JSs X W sb b) : JS X W (.If c sa sb pos) (sIf mc a b) := PS.imp (ps_if hc ha hb) fun D σ H t => by
  obtain ⟨G, F, ι, p, ρ, h, R, S, hp, d⟩ := t
  unfold sIf at d
  refine stS R S hp (fun v h1 ee F1 ι1 H1 x R1 E1 l1 V1 S1 => ?_) (fun c ee => by rw [ee] at d; exact d) fun ee => by rw [ee] at d; exact d
  rw [ee] at d
  obtain rfl : x = v := V1
  have lt := trunc_len (h := h1) l1
  have R2 := R1.trunc l1
  have S2 := S1.mono (ι' := ι1) (n' := (trunc h.length h1).length) (fun _ _ z => z) (fun _ _ => rfl) lt
  cases x with
  | true => exact .at R2 S2 (Nat.le_trans hp lt) (DoneS.mono d E1)
  | false => exact .at R2 S2 (Nat.le_trans hp lt) (DoneS.mono d E1)
end

/-! ### name = value -/
def Cell.noRef (j : Nat) : Cell → Bool
  | .lst vs => vs.all fun v => match v with | .ref k => k != j | _ => true
  | .fz _ => true
  | .dct kvs => kvs.all fun p => match p.2 with | .ref k => k != j | _ => true
def noRefAt (j : Nat) (o : Option Val) : Bool := match o with
  | some (.ref k) => k != j
  | _ => true
/-- the old cell of a name, where nothing else asks for it -/
def reuse (p i : Nat) (ρ : En) (h : Hs) (c : Cell) : Option Nat := match ρ[i]? with
  | some (some (.ref j)) => if (decide (p ≤ j) && (ρ.set i none).all (noRefAt j) && h.all (Cell.noRef j) && c.noRef j) = true then some j else none
  | _ => none
def asgn (p i : Nat) (v : Val) (k : Nat) (ρ : En) (h1 : Hs) : RS := match v with
  | .im d => .nx (ρ.set i (some (.im d))) (trunc k h1)
  | .ref m => if m < k then .nx (ρ.set i (some (.ref m))) (trunc k h1) else match h1[m]? with
    | some c => if (c.live && c.below k && (h1.take k).all (Cell.below k)) = true then (match reuse p i ρ (h1.take k) c with
        | some j => .nx (ρ.set i (some (.ref j))) ((h1.take k).set j c)
        | none => .nx (ρ.set i (some (.ref k))) (h1.take k ++ [c]))
      else .nx (ρ.set i (some (.ref m))) h1
    | none => .no
def sSet (i : Nat) (a : Ev) : SM := fun p ρ h => match a ρ h with
  | .ok v h1 => asgn p i v h.length ρ h1
  | .er c => .er c
  | .no => .no
section
variable {C : Cst} {W : WK} {G F F' : Hp} {ι ι' : Nat → Addr} {n p q : Nat} {h h' : Hs} {H H' : Hp} {σ σ' : L2.St} {ρ ρ' : En}
theorem SR.set {i : Nat} {x : V} {v : Val} (S : SR C ι F n σ ρ) (V : RV C ι F n x v) : SR C ι F n (σ.set i (some x)) (ρ.set i (some v)) := by
  refine ⟨by simp [S.len], fun j u e => ?_⟩
  rcases get_set e with ⟨h1, h2⟩ | ⟨h1, h2, h3⟩
  · rw [List.getElem?_set_ne (Ne.symm h1)]
    exact S.at' j u h2
  · subst h1
    cases h2
    exact ⟨x, by rw [List.getElem?_set_self (by rw [← S.len]; exact h3)], V⟩
theorem noRef_ne {j : Nat} {vs : List Val} (b : (vs.all fun v => match v with | .ref k => k != j | _ => true) = true) {k : Nat} (hm : Val.ref k ∈ vs) : k ≠ j := by
  have := List.all_eq_true.mp b _ hm
  simpa using this
theorem RV.move {x : V} {v : Val} {j : Nat} {a : Addr} (r : RV C ι F n x v) (hv : ∀ k, v = .ref k → k ≠ j) : RV C (putI ι j a) F n x v := by
  cases r with
  | im z => exact .im z
  | @ref k hk =>
    rw [← putI_ne (ι := ι) (p := a) (hv k rfl)]
    exact .ref hk
theorem CellR.move {c : Cell} {j : Nat} {a b : Addr} {o : Option HO} (r : CellR C ι F n b o c) (hc : c.noRef j = true) : CellR C (putI ι j a) F n b o c := by
  cases c with
  | lst vs =>
    obtain ⟨xs, e, p⟩ := r
    exact ⟨xs, e, Paired.mem p fun _ w hw z => z.move fun k e => by subst e; exact noRef_ne hc hw⟩
  | fz d => exact r
  | dct kvs =>
    obtain ⟨L, e, z, p⟩ := r
    have hb : (kvs.all fun p => match p.2 with | .ref k => k != j | _ => true) = true := hc
    exact ⟨L, e, z, Paired.mem p fun _ w hw z => ⟨z.1, z.2.1.move fun k e => by
      have := List.all_eq_true.mp hb w hw
      rw [e] at this
      simpa using this, z.2.2⟩⟩
/-- the fresh cell at m becomes the cell at j (j = k: a new one behind the first k) -/
theorem Rel.relay {k m : Nat} {c : Cell} (R : Rel C G F ι h H) (hk : k ≤ h.length) (em : h[m]? = some c) (hm : k ≤ m) (lv : c.live = true) (cb : c.below k = true) (b : (h.take k).all (Cell.below k) = true) :
    Rel C G F (putI ι k (ι m)) (h.take k ++ [c]) H := by
  have R1 := R.take hk b
  have lk : (h.take k).length = k := by rw [List.length_take]; exact Nat.min_eq_left hk
  have old : ∀ {i : Nat} {c' : Cell}, (h.take k)[i]? = some c' → putI ι k (ι m) i = ι i ∧ i < k := fun e => ⟨putI_lt (take_get e).1, (take_get e).1⟩
  refine ⟨R.g, R.f, fun i j c1 c2 e1 e2 l1 l2 z => ?_, fun i c1 e1 l1 => ?_, fun i c1 e1 l1 => ?_, fun i c1 e1 => ?_, R.tb, R.ng, R.nf⟩
  · rcases get_snoc e1 with ⟨h1, e1⟩ | ⟨h1, e1⟩
    · rcases get_snoc e2 with ⟨h2, e2⟩ | ⟨h2, e2⟩
      · rw [(old e1).1, (old e2).1] at z
        exact R1.inj i j c1 c2 e1 e2 l1 l2 z
      · rw [(old e1).1, h2, lk, putI_same] at z
        have := R.inj i m c1 c (take_get e1).2 em l1 lv z
        rw [lk] at h1; omega
    · rcases get_snoc e2 with ⟨h2, e2⟩ | ⟨h2, e2⟩
      · rw [(old e2).1, h1, lk, putI_same] at z
        have := R.inj m j c c2 em (take_get e2).2 lv l2 z
        rw [lk] at h2; omega
      · rw [h1, h2]
  · rcases get_snoc e1 with ⟨h1, e1⟩ | ⟨h1, e1⟩
    · rw [(old e1).1]; exact R1.gl i c1 e1 l1
    · rw [h1, lk, putI_same]; exact R.gl m c em lv
  · rcases get_snoc e1 with ⟨h1, e1⟩ | ⟨h1, e1⟩
    · rw [(old e1).1]; exact R1.fl i c1 e1 l1
    · rw [h1, lk, putI_same]; exact R.fl m c em lv
  · rw [List.length_append, lk, List.length_singleton]
    rcases get_snoc e1 with ⟨h1, e1⟩ | ⟨h1, e1⟩
    · rw [(old e1).1]
      have := R1.cell i c1 e1
      rw [lk] at this
      exact CellR.mono this (fun _ _ z => z) (fun j hj => putI_lt hj) (Nat.le_succ _)
    · rw [h1, lk, putI_same, ← e1]
      exact CellR.mono (CellR.below (R.cell m c em) cb) (fun _ _ z => z) (fun j hj => putI_lt hj) (Nat.le_succ _)
theorem Rel.relayAt {k m j : Nat} {c : Cell} (R : Rel C G F ι h H) (hk : k ≤ h.length) (em : h[m]? = some c) (hm : k ≤ m) (lv : c.live = true) (cb : c.below k = true) (b : (h.take k).all (Cell.below k) = true)
    (hj : j < k) (nr : (h.take k).all (Cell.noRef j) = true) (nc : c.noRef j = true) : Rel C G F (putI ι j (ι m)) ((h.take k).set j c) H := by
  have R1 := R.take hk b
  have lk : (h.take k).length = k := by rw [List.length_take]; exact Nat.min_eq_left hk
  have mj : ∀ {i : Nat} {c1 : Cell}, (h.take k)[i]? = some c1 → i ≠ m := fun {i c1} e z => by have := (take_get e).1; omega
  refine ⟨R.g, R.f, fun i i' c1 c2 e1 e2 l1 l2 z => ?_, fun i c1 e1 l1 => ?_, fun i c1 e1 l1 => ?_, fun i c1 e1 => ?_, R.tb, R.ng, R.nf⟩
  · rcases get_set e1 with ⟨h1, e1⟩ | ⟨h1, e1, _⟩
    · rcases get_set e2 with ⟨h2, e2⟩ | ⟨h2, e2, _⟩
      · rw [putI_ne h1, putI_ne h2] at z
        exact R1.inj i i' c1 c2 e1 e2 l1 l2 z
      · rw [putI_ne h1, h2, putI_same] at z
        exact (mj e1 (R.inj i m c1 c (take_get e1).2 em l1 lv z)).elim
    · rcases get_set e2 with ⟨h2, e2⟩ | ⟨h2, e2, _⟩
      · rw [putI_ne h2, h1, putI_same] at z
        exact (mj e2 (R.inj i' m c2 c (take_get e2).2 em l2 lv z.symm)).elim
      · rw [h1, h2]
  · rcases get_set e1 with ⟨h1, e1⟩ | ⟨h1, e1, _⟩
    · rw [putI_ne h1]; exact R1.gl i c1 e1 l1
    · rw [h1, putI_same]; exact R.gl m c em lv
  · rcases get_set e1 with ⟨h1, e1⟩ | ⟨h1, e1, _⟩
    · rw [putI_ne h1]; exact R1.fl i c1 e1 l1
    · rw [h1, putI_same]; exact R.fl m c em lv
  · rw [List.length_set, lk]
    rcases get_set e1 with ⟨h1, e1⟩ | ⟨h1, e1, _⟩
    · rw [putI_ne h1]
      have := R1.cell i c1 e1
      rw [lk] at this
      exact this.move (List.all_eq_true.mp nr c1 (List.mem_of_getElem? e1))
    · rw [h1, putI_same, ← e1]
      exact (CellR.below (R.cell m c em) cb).move nc
theorem asgn_ok {D : L2.St → Hp → Prop} {DE : Ends} (hD : DE.nx = D) {i : Nat} {v : Val} {x : V} {h1 : Hs} (R : Rel C G F ι h1 H) (hk : h.length ≤ h1.length) (hp : p ≤ h.length) (V : RV C ι F h1.length x v) (S : SR C ι F h.length σ ρ)
    (d : DoneS C W G F ι p (asgn p i v h.length ρ h1) DE) : D (σ.set i (some x)) H := by
  subst hD
  have lt := trunc_len (h := h1) hk
  unfold asgn at d
  split at d
  · exact d F ι H _ (R.trunc hk) Ext.refl (Nat.le_trans hp lt) ((S.mono (fun _ _ z => z) (fun _ _ => rfl) lt).set (V.flat rfl))
  · rename_i m
    split at d
    · rename_i hm
      exact d F ι H _ (R.trunc hk) Ext.refl (Nat.le_trans hp lt) ((S.mono (fun _ _ z => z) (fun _ _ => rfl) lt).set (V.below (by simpa [Val.below] using Nat.lt_of_lt_of_le hm lt)))
    · rename_i hm
      have hm' : h.length ≤ m := Nat.le_of_not_lt hm
      split at d
      · rename_i c ec
        split at d
        · rename_i hh
          simp only [Bool.and_eq_true] at hh
          obtain ⟨⟨lv, cb⟩, b⟩ := hh
          have lk : (h1.take h.length).length = h.length := by rw [List.length_take]; exact Nat.min_eq_left hk
          cases V with
          | ref hv =>
            split at d
            · rename_i j ej
              unfold reuse at ej
              split at ej
              · rename_i j' er
                split at ej
                · rename_i hh
                  cases ej
                  simp only [Bool.and_eq_true, decide_eq_true_eq] at hh
                  obtain ⟨⟨⟨g1, g2⟩, g3⟩, g4⟩ := hh
                  have hj : j < h.length := by
                    obtain ⟨x', _, z⟩ := S.at' i _ er
                    cases z with | ref z => exact z
                  refine d F (putI ι j (ι m)) H _ (R.relayAt hk ec hm' lv cb b hj g3 g4) ⟨fun _ _ z => z, fun a ha => putI_ne (by omega), fun _ _ => rfl⟩ (by rw [List.length_set, lk]; exact hp) ?_
                  rw [List.length_set, lk]
                  refine ⟨by simp [S.len], fun a u e => ?_⟩
                  rcases get_set e with ⟨a1, a2⟩ | ⟨a1, a2, a3⟩
                  · obtain ⟨y, y1, y2⟩ := S.at' a u a2
                    refine ⟨y, by rw [List.getElem?_set_ne (Ne.symm a1)]; exact y1, y2.move fun k ek => ?_⟩
                    have : noRefAt j (some u) = true := by
                      refine List.all_eq_true.mp g2 _ (List.mem_of_getElem? (i := a) ?_)
                      rw [List.getElem?_set_ne (Ne.symm a1)]; exact a2
                    rw [ek] at this
                    simpa [noRefAt] using this
                  · subst a1
                    cases a2
                    refine ⟨_, List.getElem?_set_self (by rw [← S.len]; exact a3), ?_⟩
                    have : RV C (putI ι j (ι m)) F h.length (.ref (putI ι j (ι m) j)) (.ref j) := .ref hj
                    rw [putI_same] at this
                    exact this
                · cases ej
              · cases ej
            · refine d F (putI ι h.length (ι m)) H _ (R.relay hk ec hm' lv cb b) ⟨fun _ _ z => z, fun a ha => putI_lt (by omega), fun _ _ => rfl⟩ (by rw [List.length_append, lk]; omega) ?_
              rw [List.length_append, lk, List.length_singleton]
              refine (S.mono (fun _ _ z => z) (fun a ha => putI_lt ha) (Nat.le_succ _)).set ?_
              have : RV C (putI ι h.length (ι m)) F (h.length + 1) (.ref (putI ι h.length (ι m) h.length)) (.ref h.length) := .ref (Nat.lt_succ_self _)
              rw [putI_same] at this
              exact this
        · exact d F ι H _ R Ext.refl (Nat.le_trans hp hk) ((S.mono (fun _ _ z => z) (fun _ _ => rfl) hk).set V)
      · exact d.elim
end
section
variable {X : Cx} {W : WK} {i : Nat} {x : Str} {e : Expr} {me : Ev} {pos pos' : Pos}
theorem set_r {C : Cst} {D : Ends} {σ : L2.St} {H : Hp} (t : tOfS C W (sSet i me) D σ H) : tAsg (tOf (repV C) C W me) (gName i) D σ H := by
  obtain ⟨G, F, ι, p, ρ, h, R, S, hp, d⟩ := t
  unfold sSet at d
  refine stS R S hp (fun v h1 ee F1 ι1 H1 x R1 E1 l1 V1 S1 => ?_) (fun c ee => by rw [ee] at d; exact d) fun ee => by rw [ee] at d; exact d
  rw [ee] at d
  exact asgn_ok (h := h) rfl R1 l1 hp V1 S1 (DoneS.mono d E1)
theorem js_set (K : Ctx X W) (hi : X.N[i]? = some x) (hx : Loc X.env.scope x) (he : JE X W e me) (hs : swapsWith e (some (.Name x pos')) pos.line X.env = pure false := by rfl) (hf : X.fn x = true ∨ X.env.scope.names.lookup x = some .local := by first | exact .inl rfl | exact .inr rfl | assumption) :
    JS X W (.Assign [.Name x pos'] e pos) (sSet i me) := PS.imp (ps_set K.nd hi hx he hs hf) fun _ _ _ t => set_r t
end
end NT

set_option Elab.async false
set_option linter.all false
set_option maxRecDepth 100000
set_option autoImplicit false

namespace NT
open PySem PySem.Spec PyProof.Rows L2

/-! ### targets -/
inductive Tg where
  | nm (i : Nat)
  | tup (is : List Nat)
def setIs : List Nat → List PyData → En → En
  | i :: is, d :: ds, ρ => setIs is ds (ρ.set i (some (.im d)))
  | _, _, ρ => ρ
def Tg.asg : Tg → Val → En → Option En
  | .nm i, v, ρ => some (ρ.set i (some v))
  | .tup is, .im (.tuple ds), ρ => if ds.length = is.length then some (setIs is ds ρ) else none
  | _, _, _ => none
def Tg.slots : Tg → List Nat
  | .nm i => [i]
  | .tup is => is
def gNames : List Nat → TGs
  | [] => gNil
  | i :: is => gCons (gName i) (gNames is)
def Tg.g (K : PySem.W.Frag) : Tg → TG
  | .nm i => gName i
  | .tup is => gTup K is.length (gNames is)
abbrev JG (X : Cx) (tg : Expr) (T : Tg) : Prop := PG X tg (T.g X.K)
theorem wipe_set_out {σ : L2.St} {i : Nat} {y : Option V} : ∀ {vs : List Nat}, i ∉ vs → wipe (σ.set i y) vs = (wipe σ vs).set i y
  | [], _ => rfl
  | v :: vs, h => by
    rw [wipe, wipe, wipe_set_out fun z => h (List.mem_cons_of_mem _ z)]
    exact List.set_comm _ _ fun z => h (by rw [z]; exact List.mem_cons_self)
theorem wipe_set_in {σ : L2.St} {i : Nat} {y : Option V} : ∀ {vs : List Nat}, i ∈ vs → wipe (σ.set i y) vs = wipe σ vs
  | v :: vs, h => by
    rw [wipe, wipe]
    by_cases hi : i ∈ vs
    · rw [wipe_set_in hi]
    · rcases (List.mem_cons.mp h) with rfl | h
      · rw [wipe_set_out hi, List.set_set]
      · exact (hi h).elim
section
variable {C : Cst} {W : WK} {G F F' : Hp} {ι ι' : Nat → Addr} {n p q : Nat} {h h' : Hs} {H H' : Hp} {σ σ' : L2.St} {ρ ρ' : En}
theorem setIs_ok : ∀ {is : List Nat} {ds : List PyData} {xs : List V} {σ : L2.St} {ρ : En}, ds.length = is.length → SR C ι F n σ ρ → DpAll C.K F xs ds →
    ∃ σ', SR C ι F n σ' (setIs is ds ρ) ∧ (∀ Q : L2.St → Hp → Prop, Q σ' H → gNames is xs σ H Q) ∧ ∀ vs, (∀ i ∈ is, i ∈ vs) → wipe σ' vs = wipe σ vs
  | [], [], _, σ, ρ, _, S, z => by
    cases z
    exact ⟨σ, S, fun Q q => ⟨rfl, q⟩, fun _ _ => rfl⟩
  | i :: is, d :: ds, _, σ, ρ, hl, S, z => by
    cases z with
    | cons z1 z2 =>
      obtain ⟨σ', h1, h2, h3⟩ := setIs_ok (is := is) (ds := ds) (by simpa using hl) (S.set (i := i) (RV.im z1)) z2
      exact ⟨σ', h1, fun Q q => ⟨_, _, rfl, h2 Q q⟩, fun vs hv => (h3 vs fun j hj => hv j (List.mem_cons_of_mem _ hj)).trans (wipe_set_in (hv i List.mem_cons_self))⟩
  | [], _ :: _, _, _, _, hl, _, _ => by simp at hl
  | _ :: _, [], _, _, _, hl, _, _ => by simp at hl
theorem Tg.ok {T : Tg} {x : V} {v : Val} (R : Rel C G F ι h H) (V : RV C ι F h.length x v) (S : SR C ι F h.length σ ρ) (e : T.asg v ρ = some ρ') :
    ∃ σ', SR C ι F h.length σ' ρ' ∧ (∀ Q : L2.St → Hp → Prop, Q σ' H → T.g C.K x σ H Q) ∧ ∀ vs, (∀ i ∈ T.slots, i ∈ vs) → wipe σ' vs = wipe σ vs := by
  cases T with
  | nm i =>
    cases e
    exact ⟨_, S.set V, fun Q q => q, fun vs hv => wipe_set_in (hv i (by simp [Tg.slots]))⟩
  | tup is =>
    cases v with
    | ref k => simp [Tg.asg] at e
    | im d =>
      cases d with
      | tuple ds =>
        simp only [Tg.asg] at e
        split at e
        · rename_i hl
          cases e
          cases V with
          | im z =>
            cases z with
            | tup s p =>
              obtain ⟨σ', h1, h2, h3⟩ := setIs_ok (H := H) hl S p
              exact ⟨σ', h1, fun Q q => ⟨_, _, rfl, tupF R.f s, by rw [dp_len p, hl], h2 Q q⟩, fun vs hv => h3 vs hv⟩
        · cases e
      | _ => simp [Tg.asg] at e
end
section
variable {X : Cx} {W : WK} {pos : Pos}
theorem jg_name (K : Ctx X W) {i : Nat} {x : Str} (hi : X.N[i]? = some x) (hx : Loc X.env.scope x) (hf : X.fn x = true ∨ X.env.scope.names.lookup x = some .local := by first | exact .inl rfl | exact .inr rfl | assumption) : JG X (.Name x pos) (.nm i) := pg_name K.nd hi hx hf
end

/-! ### what is walked -/
structure Src where
  items : List Val
  watch : List (Nat × List Val)
def Src.okAt (s : Src) (h : Hs) : Prop := ∀ p ∈ s.watch, h[p.1]? = some (.lst p.2)
def Src.pin (s : Src) (n : Nat) : Nat := if (s.items.all Val.isIm && s.watch.isEmpty) = true then 0 else n
structure SrcOk (C : Cst) (G F : Hp) (ι : Nat → Addr) (k : Nat) (s : Src) (J : It) : Prop where
  below : ∀ v ∈ s.items, v.below k = true
  ex : ∃ Gd Y, Walk J s.items.length Gd Y ∧
    (∀ F2 ι2 h2 H2, Rel C G F2 ι2 h2 H2 → Ext G F ι (s.pin k) F2 ι2 → s.pin k ≤ h2.length → s.okAt h2 → Gd H2) ∧
    (∀ F2 ι2 h2 H2 i v x H3, Rel C G F2 ι2 h2 H2 → Ext G F ι (s.pin k) F2 ι2 → s.pin k ≤ h2.length → s.okAt h2 → s.items[i]? = some v → Y i H2 x H3 →
      ∃ F3, Rel C G F3 ι2 h2 H3 ∧ Ext G F2 ι2 h2.length F3 ι2 ∧ RV C ι2 F3 h2.length x v ∧ (∀ b o, H2 b = some o → H3 b = some o) ∧ ∀ b, H2 b ≠ none → F3 b = F2 b)
def DoneI (C : Cst) (W : WK) (G F : Hp) (ι : Nat → Addr) (q : Nat) (r : Res Src) (R : It → Hp → Prop) : Prop := match r with
  | .ok src h' => ∀ F' ι' H' J, Rel C G F' ι' h' H' → Ext G F ι q F' ι' → q ≤ h'.length → SrcOk C G F' ι' h'.length src J → R J H'
  | .er c => ∀ H', (∀ b o, G b = some o → H' b = some o) → LamX.Tabs C.T H' → W c H'
  | .no => False
def tOfI (C : Cst) (W : WK) (ms : M Src) : TI := fun σ H R => ∃ G F ι ρ h, Rel C G F ι h H ∧ SR C ι F h.length σ ρ ∧ DoneI C W G F ι h.length (ms ρ h) R
abbrev JI (X : Cx) (W : WK) (tg iter : Expr) (ms : M Src) : Prop := PI X tg iter (tOfI (cst X W) W ms)
theorem PI.imp {X : Cx} {tg iter : Expr} {t t' : TI} (p : PI X tg iter t) (h : ∀ σ H R, t' σ H R → t σ H R) : PI X tg iter t' := ⟨fun pins s σ H R I q => p.run pins s σ H R I (h σ H R q)⟩
open Classical in
noncomputable def forGo (b : SM) (T : Tg) (s : Src) (p : Nat) : List Val → En → Hs → RS
  | [], ρ, h => if s.okAt h then .nx ρ h else .no
  | v :: r, ρ, h => if s.okAt h then (match T.asg v ρ with
    | some ρ1 => (match b p ρ1 h with
      | .nx ρ2 h2 => forGo b T s p r ρ2 h2
      | .ct ρ2 h2 => forGo b T s p r ρ2 h2
      | .bk ρ2 h2 => .nx ρ2 h2
      | x => x)
    | none => .no) else .no
noncomputable def sFor (ms : M Src) (T : Tg) (b : SM) : SM := fun p ρ h => match ms ρ h with
  | .ok src h1 => forGo b T src (max p (src.pin h1.length)) src.items ρ h1
  | .er c => .er c
  | .no => .no
theorem drop_get {α : Type} {l : List α} {i : Nat} {v : α} (e : l[i]? = some v) : l.drop i = v :: l.drop (i + 1) := by
  obtain ⟨hi, rfl⟩ := List.getElem?_eq_some_iff.mp e
  exact List.drop_eq_getElem_cons hi
theorem Src.pin_le (s : Src) (n : Nat) : s.pin n ≤ n := by
  unfold Src.pin
  split <;> omega
section
variable {X : Cx} {W : WK} {tg iter : Expr} {body : List Stmt} {ms : M Src} {T : Tg} {mb : SM} {pos : Pos}
theorem js_for (K : Ctx X W) (hp : PassesOwn (model X.prog X.w) X.A X.env X.xe) (hi : JI X W tg iter ms) (hg : JG X tg T) (hb : JSs X W body mb) (hs : ∀ x, foldedSetIterable iter X.env x = pure x := by intro _; rfl) :
    JS X W (.For tg iter body [] pos) (sFor ms T mb) := PS.imp (ps_for hp K.calm hi hg hb hs) fun D σ H t => by
  obtain ⟨G, F, ι, p, ρ, h, R, S, hpl, d⟩ := t
  unfold sFor at d
  refine ⟨G, F, ι, ρ, h, R, S, ?_⟩
  cases em : ms ρ h with
  | no => rw [em] at d; exact d
  | er c => rw [em] at d; exact d
  | ok src h1 =>
    rw [em] at d
    intro F1 ι1 H1 J R1 E1 l1 ok
    obtain ⟨Gd, Y, wk, hG, hY⟩ := ok.ex
    have pl : max p (src.pin h1.length) ≤ h1.length := Nat.max_le.mpr ⟨Nat.le_trans hpl l1, Src.pin_le _ _⟩
    replace d : DoneS (cst X W) W G F ι p (forGo mb T src (max p (src.pin h1.length)) (src.items.drop 0) ρ h1) D := d
    generalize hp' : max p (src.pin h1.length) = p' at d pl
    have pp : p ≤ p' := by omega
    have sp : src.pin h1.length ≤ p' := by omega
    refine for_it wk (fun i σ H => ∃ F2 ι2 ρ2 h2, Rel (cst X W) G F2 ι2 h2 H ∧ SR (cst X W) ι2 F2 h2.length σ ρ2 ∧ p' ≤ h2.length ∧ Ext G F1 ι1 p' F2 ι2 ∧ DoneS (cst X W) W G F2 ι2 p (forGo mb T src p' (src.items.drop i) ρ2 h2) D) ?_ ?_ ?_ ?_
    · exact ⟨F1, ι1, ρ, h1, R1, S.mono E1.le E1.ag l1, pl, Ext.refl, DoneS.mono d (E1.down hpl)⟩
    · rintro i σ2 H2 hi ⟨F2, ι2, ρ2, h2, R2, S2, l2, E2, d2⟩
      refine hG F2 ι2 h2 H2 R2 (E2.down sp) (Nat.le_trans sp l2) ?_
      cases e : src.items.drop i with
      | nil =>
        rw [e] at d2
        unfold forGo at d2
        split at d2
        · assumption
        · exact d2.elim
      | cons v r =>
        rw [e] at d2
        unfold forGo at d2
        split at d2
        · assumption
        · exact d2.elim
    · rintro i x σ2 H2 H3 hi ⟨F2, ι2, ρ2, h2, R2, S2, l2, E2, d2⟩ y
      have ev : src.items[i]? = some src.items[i] := by simp [hi]
      rw [drop_get ev] at d2
      unfold forGo at d2
      split at d2
      · rename_i hok
        obtain ⟨F3, R3, E3, V3, _⟩ := hY F2 ι2 h2 H2 i _ x H3 R2 (E2.down sp) (Nat.le_trans sp l2) hok ev y
        split at d2
        · rename_i ρ1 et
          obtain ⟨σ1, S1, hgq, _⟩ := Tg.ok R3 V3 (S2.mono E3.le E3.ag (Nat.le_refl _)) et
          refine hgq _ ?_
          have E13 : Ext G F1 ι1 p' F3 ι2 := E2.trans E3 l2
          refine .at R3 S1 l2 ?_
          have d3 := DoneS.mono d2 (E3.down (Nat.le_trans pp l2))
          cases eb : mb p' ρ1 h2 with
          | nx ρ4 h4 =>
            rw [eb] at d3
            exact fun F4 ι4 H4 σ4 R4 E4 l4 S4 => ⟨F4, ι4, ρ4, h4, R4, S4, l4, E13.trans E4 (Nat.le_refl _), DoneS.mono d3 (E4.down pp)⟩
          | ct ρ4 h4 =>
            rw [eb] at d3
            exact fun F4 ι4 H4 σ4 R4 E4 l4 S4 => ⟨F4, ι4, ρ4, h4, R4, S4, l4, E13.trans E4 (Nat.le_refl _), DoneS.mono d3 (E4.down pp)⟩
          | bk ρ4 h4 =>
            rw [eb] at d3
            exact fun F4 ι4 H4 σ4 R4 E4 l4 S4 => d3 F4 ι4 H4 σ4 R4 (E4.down pp) (Nat.le_trans pp l4) S4
          | rt v h4 =>
            rw [eb] at d3
            exact fun F4 ι4 H4 x4 R4 E4 l4 V4 => d3 F4 ι4 H4 x4 R4 (E4.down pp) (Nat.le_trans pp l4) V4
          | er c => rw [eb] at d3; exact d3
          | no => rw [eb] at d3; exact d3
        · exact d2.elim
      · exact d2.elim
    · rintro σ2 H2 ⟨F2, ι2, ρ2, h2, R2, S2, l2, E2, d2⟩
      rw [List.drop_length] at d2
      unfold forGo at d2
      split at d2
      · exact d2 F2 ι2 H2 σ2 R2 Ext.refl (Nat.le_trans pp l2) S2
      · exact d2.elim
end

/-! ### while -/
def whileGo (c : M Bool) (b : SM) (p : Nat) : Nat → En → Hs → RS
  | 0, _, _ => .no
  | n + 1, ρ, h => match c ρ h with
    | .ok k h1 => if k = true then (match b p ρ (trunc h.length h1) with
        | .nx ρ2 h2 => whileGo c b p n ρ2 h2
        | .ct ρ2 h2 => whileGo c b p n ρ2 h2
        | .bk ρ2 h2 => .nx ρ2 h2
        | x => x) else .nx ρ (trunc h.length h1)
    | .er c => .er c
    | .no => .no
open Classical in
noncomputable def sWhile (c : M Bool) (b : SM) : SM := fun p ρ h => if hx : ∃ n, whileGo c b p n ρ h ≠ .no then whileGo c b p hx.choose ρ h else .no
theorem whileGo_more {c : M Bool} {b : SM} {p : Nat} : ∀ {n m : Nat} {ρ : En} {h : Hs}, n ≤ m → whileGo c b p n ρ h ≠ .no → whileGo c b p m ρ h = whileGo c b p n ρ h
  | 0, _, _, _, _, hn => (hn rfl).elim
  | n + 1, 0, _, _, hm, _ => by omega
  | n + 1, m + 1, ρ, h, hm, hn => by
    unfold whileGo at hn ⊢
    cases ec : c ρ h with
    | no => rfl
    | er c => rfl
    | ok k h1 =>
      simp only [ec] at hn ⊢
      cases k with
      | false => rfl
      | true =>
        simp only [if_true] at hn ⊢
        cases eb : b p ρ (trunc h.length h1) with
        | nx ρ2 h2 => simp only [eb] at hn ⊢; exact whileGo_more (by omega) hn
        | ct ρ2 h2 => simp only [eb] at hn ⊢; exact whileGo_more (by omega) hn
        | bk ρ2 h2 => rfl
        | rt v h2 => rfl
        | er c => rfl
        | no => rfl
theorem sWhile_eq {c : M Bool} {b : SM} {p n : Nat} {ρ : En} {h : Hs} (hn : whileGo c b p n ρ h ≠ .no) : sWhile c b p ρ h = whileGo c b p n ρ h := by
  unfold sWhile
  rw [dif_pos ⟨n, hn⟩]
  have h1 := Exists.choose_spec (p := fun n => whileGo c b p n ρ h ≠ .no) ⟨n, hn⟩
  generalize Exists.choose (p := fun n => whileGo c b p n ρ h ≠ .no) ⟨n, hn⟩ = m at h1
  by_cases hm : n ≤ m
  · exact whileGo_more hm hn
  · exact (whileGo_more (by omega) h1).symm
section
variable {X : Cx} {W : WK} {c : Expr} {body : List Stmt} {mc : M Bool} {mb : SM} {pos : Pos}
theorem js_while (hp : PassesOwn (model X.prog X.w) X.A X.env X.xe) (hc : JT X W c mc) (hb : JSs X W body mb) : JS X W (.While c body [] pos) (sWhile mc mb) := PS.imp (ps_while hp hc hb) fun D σ H t => by
  obtain ⟨G, F, ι, p, ρ, h, R, S, hpl, d⟩ := t
  obtain ⟨n, d⟩ : ∃ n, DoneS (cst X W) W G F ι p (whileGo mc mb p n ρ h) D := by
    unfold sWhile at d
    split at d
    · exact ⟨_, d⟩
    · exact d.elim
  refine ⟨fun m σ H => ∃ F2 ι2 ρ2 h2, Rel (cst X W) G F2 ι2 h2 H ∧ SR (cst X W) ι2 F2 h2.length σ ρ2 ∧ p ≤ h2.length ∧ DoneS (cst X W) W G F2 ι2 p (whileGo mc mb p m ρ2 h2) D, ⟨n, F, ι, ρ, h, R, S, hpl, d⟩, ?_⟩
  rintro m σ2 H2 ⟨F2, ι2, ρ2, h2, R2, S2, l2, d2⟩
  cases m with
  | zero => exact d2.elim
  | succ m =>
    unfold whileGo at d2
    refine stS R2 S2 l2 (fun v h3 ee F3 ι3 H3 x R3 E3 l3 V3 S3 => ?_) (fun c ee => by rw [ee] at d2; exact d2) fun ee => by rw [ee] at d2; exact d2
    rw [ee] at d2
    obtain rfl : x = v := V3
    have lt := trunc_len (h := h3) l3
    have R4 := R3.trunc l3
    have S4 := S3.mono (ι' := ι3) (n' := (trunc h2.length h3).length) (fun _ _ z => z) (fun _ _ => rfl) lt
    have l4 := Nat.le_trans l2 lt
    have d3 := DoneS.mono d2 E3
    cases x with
    | false => exact d3 F3 ι3 H3 σ2 R4 Ext.refl l4 S4
    | true =>
      simp only [if_true] at d3 ⊢
      refine ⟨fun σ' H' => ∃ F2 ι2 ρ2 h2, Rel (cst X W) G F2 ι2 h2 H' ∧ SR (cst X W) ι2 F2 h2.length σ' ρ2 ∧ p ≤ h2.length ∧ DoneS (cst X W) W G F2 ι2 p (whileGo mc mb p m ρ2 h2) D, fun σ' H' q => ⟨m, Nat.lt_succ_self _, q⟩, .at R4 S4 l4 ?_⟩
      cases eb : mb p ρ2 (trunc h2.length h3) with
      | nx ρ5 h5 => rw [eb] at d3; exact fun F5 ι5 H5 σ5 R5 E5 l5 S5 => ⟨F5, ι5, ρ5, h5, R5, S5, l5, DoneS.mono d3 E5⟩
      | ct ρ5 h5 => rw [eb] at d3; exact fun F5 ι5 H5 σ5 R5 E5 l5 S5 => ⟨F5, ι5, ρ5, h5, R5, S5, l5, DoneS.mono d3 E5⟩
      | bk ρ5 h5 => rw [eb] at d3; exact d3
      | rt v h5 => rw [eb] at d3; exact d3
      | er c => rw [eb] at d3; exact d3
      | no => rw [eb] at d3; exact d3
end

/-! ### a def -/
def fnFin (p : Nat) (v : Val) (h' : Hs) : Res Val := match v with
  | .im d => .ok (.im d) (trunc p h')
  | .ref m => if m < p then .ok (.ref m) (trunc p h') else match h'[m]? with
    | some c => if (c.live && c.below p && (h'.take p).all (Cell.below p)) = true then .ok (.ref p) (h'.take p ++ [c]) else .ok (.ref m) h'
    | none => .no
def fnEnd (p : Nat) (r : RS) : Res Val := match r with
  | .nx _ h' => fnFin p (.im .none) h'
  | .rt v h' => fnFin p v h'
  | .er c => .er c
  | _ => .no
def fnOf (n m : Nat) (body : SM) : Fn := fun args h => if args.length = n then fnEnd h.length (body h.length (args.map some ++ List.replicate (m - n) none) h) else .no
section
variable {C : Cst} {W : WK} {G F F' : Hp} {ι ι' : Nat → Addr} {n p q : Nat} {h h' : Hs} {H H' : Hp} {σ σ' : L2.St} {ρ ρ' : En}
theorem fnFin_ok {v : Val} {x : V} {Q : VK} (R : Rel C G F' ι' h' H) (E : Ext G F ι p F' ι') (hp : p ≤ h'.length) (V : RV C ι' F' h'.length x v) (d : Done (repV C) C W G F ι p (fnFin p v h') Q) : Q x H := by
  have lt := trunc_len (h := h') hp
  unfold fnFin at d
  split at d
  · exact d F' ι' H x (R.trunc hp) E lt (V.flat rfl)
  · rename_i m
    split at d
    · rename_i hm
      exact d F' ι' H x (R.trunc hp) E lt (V.below (by simpa [Val.below] using Nat.lt_of_lt_of_le hm lt))
    · rename_i hm
      split at d
      · rename_i c ec
        split at d
        · rename_i hh
          simp only [Bool.and_eq_true] at hh
          obtain ⟨⟨lv, cb⟩, b⟩ := hh
          have lk : (h'.take p).length = p := by rw [List.length_take]; exact Nat.min_eq_left hp
          cases V with
          | ref hv =>
            refine d F' (putI ι' p (ι' m)) H _ (R.relay hp ec (Nat.le_of_not_lt hm) lv cb b) ⟨E.le, fun i hi => by rw [putI_lt hi]; exact E.ag i hi, E.out⟩ (by rw [List.length_append, lk]; omega) ?_
            have z : RV C (putI ι' p (ι' m)) F' (h'.take p ++ [c]).length (.ref (putI ι' p (ι' m) p)) (.ref p) := .ref (by rw [List.length_append, lk]; exact Nat.lt_succ_self _)
            rw [putI_same] at z
            exact z
        · exact d F' ι' H x R E hp V
      · exact d.elim
theorem start_sr {N : List Str} {vs : List V} {args : List Val} {n : Nat} (P : Paired (RV C ι F n) vs args) : SR C ι F n (L2.start N vs) (args.map some ++ List.replicate (N.length - args.length) none) := by
  have hl := Paired.length P
  refine ⟨by unfold L2.start; simp [hl], fun i v e => ?_⟩
  have hi : i < args.length := by
    by_cases hi : i < args.length
    · exact hi
    · rw [List.getElem?_append_right (by simpa using hi), List.getElem?_replicate] at e
      split at e <;> cases e
  rw [List.getElem?_append_left (by simpa using hi), List.getElem?_map] at e
  cases ea : args[i]? with
  | none => rw [ea] at e; cases e
  | some a =>
    rw [ea] at e
    cases e
    obtain ⟨x, h1, h2⟩ := paired_get' P ea
    refine ⟨x, ?_, h2⟩
    unfold L2.start
    rw [List.getElem?_append_left (by rw [List.length_map, hl]; exact hi), List.getElem?_map, h1]
    rfl
end
/-- what stands at hand in a def's body -/
structure Bd (X : Cx) (W : WK) (k : Nat) : Prop where
  ctx : Ctx X W
  room : Room k X.A
  pass : PassesOwn (model X.prog X.w) X.A X.env X.xe
/-- what a frame's names come to, at the entry -/
theorem par_kind {N ps : List Str} {sc : Scope} (S : FnScope N ps sc) (us : List Value) (n : Nat) : ∀ y ∈ ps.zip us, sc.names.lookup y.1 = some .local ∨ (sc.names.lookup y.1 = some .cell ∧ ((cellsFrom n sc.names []).lookup y.1).isSome = true) := fun y hy =>
  (S.par y.1 (List.of_mem_zip hy).1).imp id fun z => ⟨z, PySem.W.cellsFrom_some _ _ _ (.inl z)⟩
theorem mk_good {T : TW} {P : Program} {w : World} {K : PySem.W.Frag} {mg : Str → Option Value} {base : Heap} {x qual : Str} {st : Stmt} {f : Addr} {fd : FuncData} {N ps : List Str} {k : Nat} {m : SM} (F : Fun K x qual st f fd) (S : FnScope N ps (defScope st))
    (hb : ∀ (cdv : Value) (A : Around) (outer : List Env) (s : Shared) (H : Hp) (E : XK), fd.code = cdv → Bd (cxOf (L2.CX P w) P w K mg base N qual (defScope st) f cdv A outer s H E) (wOf T mg E) k →
      JSs (cxOf (L2.CX P w) P w K mg base N qual (defScope st) f cdv A outer s H E) (wOf T mg E) (defBody st) m) : Good T P w K mg base (k + 1) f fd ps (fnOf ps.length N.length m) := by
  obtain ⟨_, _, kV, doc, pm, an, cdv, ct, _, rfl, lk, hcd⟩ := F.ex
  refine ⟨fun A outer s H args us vs Q E hr hgd e0 bnd rv h => ?_⟩
  obtain ⟨hl, G, F0, ι, h0, argv, R, Pd, D⟩ := h
  have kin : K.In s.heap := e0.mod.kin.keeps fun b o e => (e0.bs b o e).1
  have free : s.heap.NoLimit := e0.mod.nolimit.keeps fun b o e => (e0.bs b o e).1
  refine codeAny_call_function hr.depth (kin _ _ lk) rfl S.co S.gen rfl (PySem.W.codeRec_of kin hcd) (bnd _ _ _ _ (wpAny_newFunctionEnv_cells S.kind (par_kind S us _) ?_))
  rintro env rfl s1 fresh
  refine ⟨free.keeps fresh.toInCall.keep, codeAny_func ?_⟩
  have hr' : Room k (A.deeper (envOfC qual (defScope st) s.heap.objs.size f cdv)) := hr.deeper _
  have tk : Takes (cxOf (L2.CX P w) P w K mg base N qual (defScope st) f cdv A outer s H E) (fun cls d _ H => ∃ c Ca, mg c = some (.ref Ca) ∧ cls = .ref Ca ∧ d = none ∧ wOf T mg E c H) :=
    Takes.imp (takes_of (E₁ := fun e s' => L2.CX P w outer H s E e s') (E := E) rfl rfl rfl rfl) fun cls d σ H z => by
      obtain ⟨c, Ca, h1, rfl, rfl, h4⟩ := z
      exact h4 Ca h1
  have bd : Bd (cxOf (L2.CX P w) P w K mg base N qual (defScope st) f cdv A outer s H E) (wOf T mg E) k :=
    ⟨⟨rfl, S.nd, (show (A.deeper (envOfC qual (defScope st) s.heap.objs.size f cdv)).units + 65 < cLine by have := hr'.un; omega), hgd, tk⟩, hr', passes_of rfl⟩
  have I := inv_start (CX := L2.CX P w) (cd := cdv) (E := E) S hr.hd e0 hl rv fresh
  have ends : ∀ {σ2 : L2.St} {H2 : Hp} {v : V} {u : Value} {s2 : Shared}, Inv (cxOf (L2.CX P w) P w K mg base N qual (defScope st) f cdv A outer s H E) [] σ2 H2 s2 → RelV v u → Q v H2 → CR (L2.CX P w) outer P w H s Q E (.ok (.ret u)) s2 :=
    fun {σ2 H2 v u s2} J ru q => ⟨v, H2, J.os, J.bare, J.base, J.hok, ru, q⟩
  have hargs : argv.length = ps.length := by rw [← Paired.length Pd]; exact hl
  unfold fnOf at D
  rw [if_pos hargs, ← hargs] at D
  refine wpAny_mono ((hb cdv A outer s H E rfl bd).run [] s1 (L2.start N vs) H { nx := fun _ H' => Q .non H', rt := Q } I ⟨G, F0, ι, h0.length, argv.map some ++ List.replicate (N.length - argv.length) none, h0, R, start_sr Pd, Nat.le_refl _, ?_⟩) ?_ fun e s2 z => z
  · cases er : m h0.length (argv.map some ++ List.replicate (N.length - argv.length) none) h0 with
    | nx ρ' h' => rw [er] at D; exact fun F' ι' H' σ' R' E' l' S' => fnFin_ok R' E' l' (.im .non) D
    | rt v h' => rw [er] at D; exact fun F' ι' H' x R' E' l' V' => fnFin_ok R' E' l' V' D
    | bk ρ' h' => rw [er] at D; exact D.elim
    | ct ρ' h' => rw [er] at D; exact D.elim
    | er c => rw [er] at D; exact D
    | no => rw [er] at D; exact D
  · rintro (_ | _ | _ | u) s2 z
    · obtain ⟨σ2, H2, J, q⟩ := z; exact ends (v := .non) (u := .none) J rfl q
    · obtain ⟨_, _, _, q⟩ := z; exact q.elim
    · obtain ⟨_, _, _, q⟩ := z; exact q.elim
    · obtain ⟨v, σ2, H2, J, ru, q⟩ := z; exact ends J ru q
end NT

set_option Elab.async false
set_option linter.all false
set_option maxRecDepth 100000
set_option autoImplicit false

namespace NT
open PySem PySem.Spec PyProof.Rows L2

/-! ### comprehensions -/
abbrev W0 (T : TW) : WK := ⟨T, fun _ _ => False⟩
theorem Ctx.blk {X : Cx} {W : WK} (K : Ctx X W) {s : Shared} {H : Hp} {scope : Scope} {cenv : Env} {fp : List Addr} : Ctx (X.blk s H scope cenv fp) (W0 W.T) :=
  ⟨K.calm, K.nd, K.hu, K.gd, fun u s' x => by
    obtain ⟨_, _, _, _, _, _, _, _, _, _, _, _, _, _, _, _, _, _, _, _, _, z⟩ := x
    exact z.elim⟩
def wE (ρ : En) : List Nat → En
  | [] => ρ
  | v :: vs => (wE ρ vs).set v none
theorem wE_some {ρ : En} {i : Nat} {x : Val} : ∀ {vs : List Nat}, (wE ρ vs)[i]? = some (some x) → ρ[i]? = some (some x) ∧ i ∉ vs
  | [], q => ⟨q, List.not_mem_nil⟩
  | v :: vs, q => by
    have q' : ((wE ρ vs).set v none)[i]? = some (some x) := q
    rcases get_set q' with ⟨n1, q1⟩ | ⟨_, bad, _⟩
    · have ⟨r1, r2⟩ := wE_some q1
      exact ⟨r1, fun m => (List.mem_cons.mp m).elim n1 r2⟩
    · cases bad
theorem wE_len (ρ : En) : ∀ vs : List Nat, (wE ρ vs).length = ρ.length
  | [] => rfl
  | v :: vs => by rw [wE, List.length_set, wE_len ρ vs]
theorem SR.wipe {C : Cst} {ι : Nat → Addr} {F : Hp} {n : Nat} {σ : L2.St} {ρ : En} (S : SR C ι F n σ ρ) (vs : List Nat) : SR C ι F n (L2.wipe σ vs) (wE ρ vs) :=
  ⟨by rw [wE_len, wipe_length]; exact S.len, fun i v e => by
    obtain ⟨h1, h2⟩ := wE_some e
    obtain ⟨x, h3, h4⟩ := S.at' i v h1
    exact ⟨x, by rw [wipe_out h2]; exact h3, h4⟩⟩
def truncV (k : Nat) (u : Val) (h : Hs) : Hs := match u with
  | .im _ => trunc k h
  | .ref _ => h
def mTrue : M Bool := fun _ h => .ok true h
open Classical in
noncomputable def compGo (s : Src) (T : Tg) (c : M Bool) (e : Ev) (ρ : En) : List Val → List Val → Hs → Res (List Val)
  | [], acc, h => if s.okAt h then .ok acc h else .no
  | v :: r, acc, h => if s.okAt h then (match T.asg v ρ with
    | some ρ1 => (match c ρ1 h with
      | .ok k h1 => if k = true then (match e ρ1 (trunc h.length h1) with
          | .ok u h2 => if acc.length < 16777216 then compGo s T c e ρ r (acc ++ [u]) (truncV (trunc h.length h1).length u h2) else .no
          | _ => .no) else compGo s T c e ρ r acc (trunc h.length h1)
      | _ => .no)
    | none => .no) else .no
noncomputable def eComp (ms : M Src) (T : Tg) (c : M Bool) (e : Ev) (vs : List Nat) : Ev := fun ρ h => (ms ρ h).bind fun src h1 => (compGo src T c e (wE ρ vs) src.items [] h1).bind fun acc h2 => .ok (.ref h2.length) (h2 ++ [.lst acc])
section
variable {C : Cst} {W : WK} {G F F' : Hp} {ι ι' : Nat → Addr} {n p q : Nat} {h h' : Hs} {H H' : Hp} {σ σ' : L2.St} {ρ ρ' : En} {D : Addr} {o o' : HO}
/-- a thing apart -/
structure Apart (G F : Hp) (ι : Nat → Addr) (h : Hs) (D : Addr) : Prop where
  g : G D = none
  f : F D = none
  l : ∀ i c, h[i]? = some c → c.live = true → ι i ≠ D
theorem Rel.withD (R : Rel C G F ι h H) (a : Apart G F ι h D) (e : H D = some o) (hn : NoTab H D) : Rel C (upd G D o) F ι h H := by
  refine ⟨fun b u z => ?_, R.f, R.inj, fun i c e l => ?_, R.fl, R.cell, fun x hx => ⟨by rw [upd_ne fun z => (by obtain ⟨ps, q, _⟩ := (R.tb x hx).2.2; exact hn.1 ps (by rw [← z]; exact q))]; exact (R.tb x hx).1, (R.tb x hx).2⟩, fun b ps z => ?_, R.nf⟩
  · by_cases hb : b = D
    · subst hb; rw [upd_same] at z; cases z; exact e
    · rw [upd_ne hb] at z; exact R.g b u z
  · rw [upd_ne (a.l i c e l)]; exact R.gl i c e l
  · by_cases hb : b = D
    · subst hb; rw [upd_same] at z; cases z; exact hn.1 ps e
    · rw [upd_ne hb] at z; exact R.ng b ps z
theorem Rel.lessD (R : Rel C (upd G D o) F ι h H) (hg : G D = none) : Rel C G F ι h H := by
  refine ⟨fun b u z => R.g b u ?_, R.f, R.inj, fun i c e l => ?_, R.fl, R.cell, fun x hx => ⟨by
    have := (R.tb x hx).1
    by_cases hz : x.1 = D
    · rw [hz]; exact hg
    · rw [upd_ne hz] at this; exact this, (R.tb x hx).2⟩, fun b ps z => R.ng b ps (by
      rw [upd_ne fun q => by rw [q, hg] at z; cases z]; exact z), R.nf⟩
  · rw [upd_ne fun q => by rw [q, hg] at z; cases z]; exact z
  · have h1 := R.gl i c e l
    by_cases hb : ι i = D
    · rw [hb]; exact hg
    · rw [upd_ne hb] at h1; exact h1
theorem Rel.apartD (R : Rel C (upd G D o) F ι h H) : ∀ i c, h[i]? = some c → c.live = true → ι i ≠ D := fun i c e l z => by
  have h1 := R.gl i c e l
  rw [z, upd_same] at h1; cases h1
theorem Ext.lessD (E : Ext (upd G D o) F ι q F' ι') : Ext G F ι q F' ι' := ⟨E.le, E.ag, fun b hb => E.out b (by
  by_cases hz : b = D
  · subst hz; rw [upd_same]; exact fun z => nomatch z
  · rw [upd_ne hz]; exact hb)⟩
theorem Rel.updD (R : Rel C G F ι h H) (a : Apart G F ι h D) (hn : NoTab H D) : Rel C G F ι h (upd H D o) := by
  refine ⟨fun b u z => ?_, fun b u z => ?_, R.inj, R.gl, R.fl, fun i c e => ?_, fun x hx => ⟨(R.tb x hx).1, (R.tb x hx).2.1, tabS_put (R.tb x hx).2.2 hn.1 hn.2⟩, R.ng, R.nf⟩
  · rw [upd_ne fun q => by rw [q, a.g] at z; cases z]; exact R.g b u z
  · rw [upd_ne fun q => by rw [q, a.f] at z; cases z]; exact R.f b u z
  · exact CellR.at' (R.cell i c e) fun l => upd_ne (a.l i c e l)
theorem Rel.adopt (R : Rel C G F ι h H) (a : Apart G F ι h D) {xs : List V} {vs : List Val} (e : H D = some (.lst xs)) (V : Paired (RV C ι F h.length) xs vs) : Rel C G F (putI ι h.length D) (h ++ [.lst vs]) H := by
  have old : ∀ {i : Nat} {c' : Cell}, h[i]? = some c' → putI ι h.length D i = ι i := fun e => putI_lt (List.getElem?_eq_some_iff.mp e).1
  refine ⟨R.g, R.f, fun i j c1 c2 e1 e2 l1 l2 z => ?_, fun i c1 e1 l1 => ?_, fun i c1 e1 l1 => ?_, fun i c1 e1 => ?_, R.tb, R.ng, R.nf⟩
  · rcases get_snoc e1 with ⟨h1, e1⟩ | ⟨h1, e1⟩
    · rcases get_snoc e2 with ⟨h2, e2⟩ | ⟨h2, e2⟩
      · rw [old e1, old e2] at z
        exact R.inj i j c1 c2 e1 e2 l1 l2 z
      · rw [old e1, h2, putI_same] at z
        exact (a.l i c1 e1 l1 z).elim
    · rcases get_snoc e2 with ⟨h2, e2⟩ | ⟨h2, e2⟩
      · rw [old e2, h1, putI_same] at z
        exact (a.l j c2 e2 l2 z.symm).elim
      · rw [h1, h2]
  · rcases get_snoc e1 with ⟨h1, e1⟩ | ⟨h1, e1⟩
    · rw [old e1]; exact R.gl i c1 e1 l1
    · rw [h1, putI_same]; exact a.g
  · rcases get_snoc e1 with ⟨h1, e1⟩ | ⟨h1, e1⟩
    · rw [old e1]; exact R.fl i c1 e1 l1
    · rw [h1, putI_same]; exact a.f
  · rw [List.length_append, List.length_singleton]
    rcases get_snoc e1 with ⟨h1, e1⟩ | ⟨h1, e1⟩
    · rw [old e1]
      exact CellR.mono (R.cell i c1 e1) (fun _ _ z => z) (fun j hj => putI_lt hj) (Nat.le_succ _)
    · rw [h1, putI_same, ← e1]
      exact ⟨xs, e, RVs.mono V (fun _ _ z => z) (fun i hi => putI_lt hi) (Nat.le_succ _)⟩
theorem truncV_len {k : Nat} {u : Val} (hk : k ≤ h.length) : k ≤ (truncV k u h).length := by
  cases u with
  | im d => exact trunc_len hk
  | ref j => exact hk
theorem Rel.truncV {k : Nat} {u : Val} (R : Rel C G F ι h H) (hk : k ≤ h.length) : Rel C G F ι (NT.truncV k u h) H := by
  cases u with
  | im d => exact R.trunc hk
  | ref j => exact R
theorem RV.truncV {k : Nat} {u : Val} {x : V} (V : RV C ι F h.length x u) : RV C ι F (NT.truncV k u h).length x u := by
  cases u with
  | im d => exact V.flat rfl
  | ref j => exact V
end
theorem jtsTrue {X : Cx} {T : TW} : PTs X [] (tOf repB (cst X (W0 T)) (W0 T) mTrue) := ⟨fun pins s σ H Q I h => (pts_nil (X := X)).run pins s σ H Q I (by
  obtain ⟨G, F, ι, ρ, h, R, S, D⟩ := h
  exact D F ι H _ R Ext.refl (Nat.le_refl _) rfl)⟩
theorem jtsOne {X : Cx} {T : TW} {c : Expr} {mc : M Bool} (h : JT X (W0 T) c mc) : PTs X [c] (tOf repB (cst X (W0 T)) (W0 T) mc) := pts_one h
section
variable {X : Cx} {W : WK} {elt tg iter : Expr} {ifs : List Expr} {scope : Scope} {own : List (Str × Nat)} {ms : M Src} {T : Tg} {mc : M Bool} {me : Ev} {pos : Pos}
theorem comp_r (hv : ∀ i ∈ T.slots, i ∈ own.map (·.2)) {σ : L2.St} {H : Hp} {Q : VK} (t : tOf (repV (cst X W)) (cst X W) W (eComp ms T mc me (own.map (·.2))) σ H Q) :
    tLc (tOfI (cst X W) W ms) (T.g X.K) (tOf repB (cst X W) (W0 W.T) mc) (tOf (repV (cst X W)) (cst X W) (W0 W.T) me) (own.map (·.2)) σ H Q := by
  obtain ⟨G, F, ι, ρ, h, R, S, d⟩ := t
  unfold eComp at d
  refine ⟨G, F, ι, ρ, h, R, S, ?_⟩
  cases em : ms ρ h with
  | no => rw [em] at d; exact d
  | er c => rw [em] at d; exact d
  | ok src h1 =>
  rw [em] at d
  intro F1 ι1 H1 J R1 E1 l1 ok D hD
  have d := Done.mono d E1 l1
  obtain ⟨Gd, Y, wk, hG, hY⟩ := ok.ex
  have pl := Src.pin_le src h1.length
  have S1 : SR (cst X W) ι1 F1 h1.length (L2.wipe σ (own.map (·.2))) (wE ρ (own.map (·.2))) := (S.mono E1.le E1.ag l1).wipe _
  have a1 : Apart G F1 ι1 h1 D := ⟨R1.freeG hD, R1.freeF hD, fun i c e l => R1.ne e l hD⟩
  generalize hρw : wE ρ (own.map (·.2)) = ρw at d S1
  refine lc_it wk (fun i H => ∃ F2 ι2 h2 acc av, Rel (cst X W) G F2 ι2 h2 H ∧ Ext G F1 ι1 h1.length F2 ι2 ∧ h1.length ≤ h2.length ∧ Apart G F2 ι2 h2 D ∧ H D = some (.lst av) ∧ Paired (RV (cst X W) ι2 F2 h2.length) av acc ∧
    Done (repV (cst X W)) (cst X W) W G F2 ι2 h2.length ((compGo src T mc me ρw (src.items.drop i) acc h2).bind fun acc h2 => .ok (.ref h2.length) (h2 ++ [.lst acc])) Q) ?_ ?_ ?_ ?_
  · exact ⟨F1, ι1, h1, [], [], R1.updD a1 (.none hD), Ext.refl, Nat.le_refl _, a1, upd_same, .nil, d⟩
  · rintro i H2 hi ⟨F2, ι2, h2, acc, av, R2, E2, l2, a2, eD, P2, d2⟩
    refine hG F2 ι2 h2 H2 R2 (E2.down pl) (Nat.le_trans pl l2) ?_
    cases e : src.items.drop i with
    | nil =>
      rw [e] at d2
      unfold compGo at d2
      split at d2
      · assumption
      · exact d2.elim
    | cons v r =>
      rw [e] at d2
      unfold compGo at d2
      split at d2
      · assumption
      · exact d2.elim
  · rintro i x H2 H3 hi ⟨F2, ι2, h2, acc, av, R2, E2, l2, a2, eD, P2, d2⟩ y
    have ev : src.items[i]? = some src.items[i] := by simp [hi]
    rw [drop_get ev] at d2
    unfold compGo at d2
    split at d2
    case isFalse => exact d2.elim
    rename_i hok
    obtain ⟨F3, R3, E3, V3, keep, keepF⟩ := hY F2 ι2 h2 H2 i _ x H3 R2 (E2.down pl) (Nat.le_trans pl l2) hok ev y
    have eD3 := keep D _ eD
    have S2 := (S1.mono E2.le E2.ag l2).mono (ι' := ι2) (n' := h2.length) E3.le E3.ag (Nat.le_refl _)
    cases et : T.asg src.items[i] ρw with
    | none => rw [et] at d2; exact d2.elim
    | some ρ1 =>
    rw [et] at d2
    simp only at d2
    obtain ⟨σ1, S3, hgq, hwipe⟩ := Tg.ok R3 V3 S2 et
    refine hgq _ ⟨?_, ?_⟩
    · rw [hwipe _ hv]
      -- wiping twice is wiping once
      have : ∀ (vs us : List Nat), (∀ v ∈ vs, v ∈ us) → L2.wipe (L2.wipe σ us) vs = L2.wipe σ us := by
        intro vs
        induction vs with
        | nil => intro us _; rfl
        | cons v vs ih =>
          intro us hu
          rw [wipe, ih us fun w hw => hu w (List.mem_cons_of_mem _ hw)]
          apply List.ext_getElem?
          intro j
          by_cases hj : v = j
          · subst hj
            by_cases hl : v < (L2.wipe σ us).length
            · rw [List.getElem?_set_self hl]
              cases e : (L2.wipe σ us)[v]? with
              | none => rw [List.getElem?_eq_none_iff] at e; omega
              | some z =>
                cases z with
                | none => rfl
                | some w => exact absurd (hu v List.mem_cons_self) (wipe_some e).2
            · rw [List.getElem?_eq_none (by simpa using hl), List.getElem?_eq_none (by omega)]
          · rw [List.getElem?_set_ne hj]
      exact this _ _ fun _ z => z
    · have E23 : Ext G F1 ι1 h1.length F3 ι2 := E2.trans E3 l2
      have a3 : Apart G F3 ι2 h2 D := ⟨a2.g, by rw [keepF D (by rw [eD]; exact fun z => nomatch z)]; exact a2.f, a2.l⟩
      have P3 : Paired (RV (cst X W) ι2 F3 h2.length) av acc := RVs.mono P2 E3.le E3.ag (Nat.le_refl _)
      have d3 := Done.mono d2 E3 (Nat.le_refl _)
      have nD : ∀ {F4 : Hp} {ι4 : Nat → Addr} {q : Nat}, Ext (upd G D (.lst av)) F3 ι2 q F4 ι4 → F4 D = none := fun E => by
        rw [E.out D (by rw [upd_same]; exact fun z => nomatch z)]; exact a3.f
      refine ⟨upd G D (.lst av), F3, ι2, ρ1, h2, R3.withD a3 eD3 (.lst eD3), S3, ?_⟩
      cases ec : mc ρ1 h2 with
      | no => rw [ec] at d3; exact d3.elim
      | er c => rw [ec] at d3; exact d3.elim
      | ok k h4 =>
      rw [ec] at d3
      intro F4 ι4 H4 b R4 E4 l4 V4
      obtain rfl : b = k := V4
      have R4t := R4.trunc l4
      have lt4 := trunc_len (h := h4) l4
      have d4 := Done.mono d3 E4.lessD lt4
      have P4 : Paired (RV (cst X W) ι4 F4 (trunc h2.length h4).length) av acc := RVs.mono P3 E4.le E4.ag lt4
      cases b with
      | false => exact ⟨F4, ι4, _, acc, av, R4t.lessD a3.g, E23.trans E4.lessD l2, Nat.le_trans l2 lt4, ⟨a3.g, nD E4, R4t.apartD⟩, R4.g D _ upd_same, P4, d4⟩
      | true =>
      simp only [if_true] at d4 ⊢
      refine ⟨upd G D (.lst av), F4, ι4, ρ1, _, R4t, S3.mono E4.le E4.ag lt4, ?_⟩
      cases ee : me ρ1 (trunc h2.length h4) with
      | no => rw [ee] at d4; exact d4.elim
      | er c => rw [ee] at d4; exact d4.elim
      | ok u h5 =>
      rw [ee] at d4
      intro F5 ι5 H5 y R5 E5 l5 V5
      have R5t := R5.truncV (u := u) l5
      have lt5 := truncV_len (h := h5) (u := u) l5
      simp only at d4
      split at d4
      case isFalse => exact d4.elim
      rename_i hz
      have d5 := Done.mono d4 E5.lessD lt5
      have f5 : F5 D = none := by rw [E5.out D (by rw [upd_same]; exact fun z => nomatch z)]; exact nD E4
      have a5 : Apart G F5 ι5 (truncV (trunc h2.length h4).length u h5) D := ⟨a3.g, f5, R5t.apartD⟩
      refine ⟨av, R5.g D _ upd_same, by rw [Paired.length P4, SZ_eq]; exact hz, F5, ι5, _, acc ++ [u], av ++ [y], (R5t.lessD a3.g).updD a5 (.lst (R5.g D _ upd_same)), (E23.trans E4.lessD l2).trans E5.lessD (Nat.le_trans l2 lt4), Nat.le_trans (Nat.le_trans l2 lt4) lt5, a5, upd_same, ?_, d5⟩
      exact Paired.snoc (RVs.mono P4 E5.le E5.ag lt5) (RV.truncV V5)
  · rintro H2 ⟨F2, ι2, h2, acc, av, R2, E2, l2, a2, eD, P2, d2⟩
    rw [List.drop_length] at d2
    unfold compGo at d2
    split at d2
    · refine d2 F2 (putI ι2 h2.length D) H2 _ (R2.adopt a2 eD P2) ⟨fun _ _ z => z, fun i hi => putI_lt hi, fun _ _ => rfl⟩ (by simp) ?_
      have z : RV (cst X W) (putI ι2 h2.length D) F2 (h2 ++ [Cell.lst acc]).length (.ref (putI ι2 h2.length D h2.length)) (.ref h2.length) := .ref (by simp)
      rw [putI_same] at z
      exact z
    · exact d2.elim
theorem je_comp (K : Ctx X W) (hi : JI X W tg iter ms) (ok : BlkOk X.N X.env.scope scope own) (hv : ∀ i ∈ T.slots, i ∈ own.map (·.2)) (hg : ∀ (s : Shared) (H : Hp) (C : Addr) (cl : List (Str × Addr)) (fp : List Addr), JG (X.blk s H scope (compEnvC scope cl C X.env) fp) tg T)
    (ht : ∀ (s : Shared) (H : Hp) (C : Addr) (cl : List (Str × Addr)) (fp : List Addr), PTs (X.blk s H scope (compEnvC scope cl C X.env) fp) ifs (tOf repB (cst X W) (W0 W.T) mc)) (he : ∀ (s : Shared) (H : Hp) (C : Addr) (cl : List (Str × Addr)) (fp : List Addr), JE (X.blk s H scope (compEnvC scope cl C X.env) fp) (W0 W.T) elt me)
    (hs : ∀ x, foldedSetIterable iter X.env x = pure x := by intro _; rfl) : JE X W (.ListComp elt [⟨tg, iter, ifs, 0⟩] scope pos) (eComp ms T mc me (own.map (·.2))) :=
  PE.imp (pe_lc K.calm K.nd hi ok hg ht he hs) fun _ _ _ t => comp_r hv t
theorem js_setLc (K : Ctx X W) {i : Nat} {y : Str} {py spos : Pos} (hy : X.N[i]? = some y) (hyl : X.env.scope.names.lookup y = some .local) (hsw : swapsWith (.ListComp elt [⟨tg, iter, ifs, 0⟩] scope pos) (some (.Name y py)) spos.line X.env = pure true)
    (hi : JI X W tg iter ms) (ok : BlkOk X.N X.env.scope scope own) (hv : ∀ i ∈ T.slots, i ∈ own.map (·.2)) (hg : ∀ (s : Shared) (H : Hp) (C : Addr) (cl : List (Str × Addr)) (fp : List Addr), JG (X.blk s H scope (compEnvC scope cl C X.env) fp) tg T)
    (ht : ∀ (s : Shared) (H : Hp) (C : Addr) (cl : List (Str × Addr)) (fp : List Addr), PTs (X.blk s H scope (compEnvC scope cl C X.env) fp) ifs (tOf repB (cst X W) (W0 W.T) mc)) (he : ∀ (s : Shared) (H : Hp) (C : Addr) (cl : List (Str × Addr)) (fp : List Addr), JE (X.blk s H scope (compEnvC scope cl C X.env) fp) (W0 W.T) elt me)
    (hs : ∀ x, foldedSetIterable iter X.env x = pure x := by intro _; rfl) : JS X W (.Assign [.Name y py] (.ListComp elt [⟨tg, iter, ifs, 0⟩] scope pos) spos) (sSet i (eComp ms T mc me (own.map (·.2)))) :=
  PS.imp (ps_setLc K.calm K.nd hy hyl hsw hi ok hg ht he hs) fun D σ H t => by
    obtain ⟨G, F, ι, p, ρ, h, R, S, hp, d⟩ := t
    refine comp_r (me := me) (mc := mc) hv ?_
    unfold sSet at d
    refine stS R S hp (fun v h1 ee F1 ι1 H1 x R1 E1 l1 V1 S1 => ?_) (fun c ee => by rw [ee] at d; exact d) fun ee => by rw [ee] at d; exact d
    rw [ee] at d
    exact asgn_ok (h := h) rfl R1 l1 hp V1 S1 (DoneS.mono d E1)
end
end NT

set_option Elab.async false
set_option linter.all false
set_option maxRecDepth 100000
set_option autoImplicit false

namespace NT
open PySem PySem.Spec PyProof.Rows L2

/-! ### enumerate(tuple): over the library's account of an enumerate's own turns (WalksT), read in the layer -/
section
variable {K : PySem.W.Frag} {a : Addr} {n : Nat}
/-- pairs of the place and the item of the tuple at a, n of them -/
def IteT (K : PySem.W.Frag) (a : Addr) (n : Nat) : It where
  go i H := i < n ∧ ∃ zs, SqT K H a zs ∧ zs.length = n
  yld i H v H' := ∃ T z, v = .ref T ∧ H T = none ∧ H' = upd H T (.tup [.int (i : Nat), z]) ∧ ∀ zs, SqT K H a zs → zs[i]? = some z
  stop i H := i = n ∧ ∃ zs, SqT K H a zs ∧ zs.length = n
end
/-- the enumerate at en over the tuple's iterator at ti -/
def EnT (en ti a : Addr) (i : Nat) (h : Heap) : Prop := (∃ old, IsEnum h en ti ((i : Nat) : Int) old) ∧ h.IsTupleIter ti a i
theorem EnT.away {en ti a : Addr} {i : Nat} {h h' : Heap} (z : EnT en ti a i h) (k : ∀ b, b = en ∨ b = ti → ∀ o, h.get? b = some o → h'.get? b = some o) : EnT en ti a i h' := by
  obtain ⟨⟨old, z1⟩, z2⟩ := z
  exact ⟨⟨old, k _ (.inl rfl) _ z1⟩, z2.at fun o q => k _ (.inr rfl) o q⟩
theorem two_mem {x y b : Addr} : b ∈ [x, y] ↔ b = x ∨ b = y := by simp
theorem turn_enumT {P : Program} {w : World} {K : PySem.W.Frag} {elts : List Expr} {kk : Nat} {tpos : Pos} {a en ti : Addr} {n : Nat} (h1 : a ≠ ti) (h2 : en ≠ a) (h3 : en ≠ ti) :
    Turn P w K (.Tuple elts kk tpos) (IteT K a n) [en, ti] en (EnT en ti a) := by
  have walk : ∀ (A : Around) (its : Array Value), A.handled = none → WalksT P w A en [en, ti, a] [en, ti] its.size (fun i vals => ∃ t x, its[i]? = some x ∧ vals = #[.int i t, x])
      (fun i h => (∃ old, IsEnum h en ti i old) ∧ h.IsTupleIter ti a i ∧ h.IsTuple a its) (fun i T h => (∃ x, IsEnumOut h en ti ((i : Int) + 1) x T) ∧ (h.IsTupleIter ti a (i + 1) ∧ h.IsTuple a its) ∧ T ≠ en ∧ T ≠ ti) := fun A its hA =>
    WalksT.enumerateD (Draws.tuple (A := A.in1) hA ti a h1 its) en h3 (by rw [two_mem]; exact fun q => q.elim h3 h2) (by simp)
  constructor
  case mem => exact List.mem_cons_self
  case obj =>
    intro i h z b hb
    obtain ⟨⟨old, z1⟩, o, z2, _, z4⟩ := z
    rcases two_mem.mp hb with q | q
    · exact ⟨_, q ▸ z1, fun v => by intro bad; cases bad⟩
    · exact ⟨o, q ▸ z2, fun v bad => by rw [z4] at bad; cases bad⟩
  case keep => exact fun i h h' z k => z.away fun b hb o q => k b (two_mem.mpr hb) o q
  case self => exact fun A i s Q E z q => by obtain ⟨⟨_, z1⟩, _⟩ := z; exact wpAny_pyIter_enum z1 q
  case item =>
    rintro X rfl rfl rfl hc i pins s σ H E I hf ⟨⟨old, z1⟩, z2⟩ ⟨hi, zs, hz, hn⟩
    obtain ⟨us, vz, tp, _⟩ := I.tuple hz
    have hin : i < us.toArray.size := by
      have := vz.length
      rw [List.size_toArray]; omega
    have W := walk X.A us.toArray (I.ok.hd hc)
    refine W.item i s _ _ hin ⟨⟨old, z1⟩, z2, tp⟩ fun T vals g tk hv hT hTup mid kp => ⟨_, rfl, ?_⟩
    refine W.go elts kk tpos i T { s with heap := g, toks := tk } _ _ mid fun g2 st2 kp2 => ?_
    obtain ⟨t, u, hu, rfl⟩ := hv
    obtain ⟨z, hzi, ru⟩ : ∃ z, zs[i]? = some z ∧ RelV z u := by
      have hl : i < zs.length := by omega
      obtain ⟨u', e1, e2⟩ := vz.get (show zs[i]? = some zs[i] from by simp [hl])
      rw [show us.toArray[i]? = us[i]? from by simp, e1] at hu
      cases hu
      exact ⟨_, by simp [hl], e2⟩
    have both : ∀ b o, b ∉ [en, ti] → s.heap.get? b = some o → g2.get? b = some o := fun b o hb q => kp2 b o hb (kp b o hb q)
    obtain ⟨oT, g1, g2c, nn, g3⟩ := hTup
    have apart : T ∉ [en, ti] := W.apart i T g mid
    have obj : ObjOk X.prog X.w (upd H T (.tup [.int (i : Nat), z])) g2 T (.tup [.int (i : Nat), z]) :=
      ⟨(show 2 ≤ sizeLine by rw [SZ_eq]; decide), [.int i t, u], .cons (show RelV (.int (i : Nat)) (.int i t) from ⟨t, rfl⟩) (.cons ru .nil), oT, kp2 T oT apart g1, g2c, nn, g3⟩
    have J := I.turnedNew (t' := tk) (ch := [en, ti]) both hf hT obj
    refine ⟨.ref T, upd H T (.tup [.int (i : Nat), z]), J, rfl, ⟨T, z, rfl, I.hok.fresh hT, rfl, fun ws hw => by rw [I.tuple_inj hw hz]; exact hzi⟩, ⟨st2.1, st2.2.1⟩, fun b hb => ?_⟩
    rw [upd_ne fun q => apart (by rw [← q]; exact hb)]
    exact (hf b hb).1
  case done =>
    rintro X rfl rfl rfl hc i pins s σ H E I hf ⟨⟨old, z1⟩, z2⟩ ⟨hi, zs, hz, hn⟩
    obtain ⟨us, vz, tp, _⟩ := I.tuple hz
    have hs : us.toArray.size = i := by rw [List.size_toArray, ← vz.length, hn, hi]
    have W := walk X.A us.toArray (I.ok.hd hc)
    rw [hs] at W
    exact W.done s _ _ ⟨⟨old, z1⟩, z2, tp⟩ fun g tk kp => ⟨rfl, I.turnedL (t' := tk) (ch := [en, ti]) kp hf⟩
/-- enumerate's own making, over what iter() of its argument begins -/
theorem new_enum {v : Value} {o : Obj} {Hh : Heap → Prop} (B : Begins v o Hh) :
    Meets (Builtin.«enumerate.__new__» ⟨[.type "enumerate", v], []⟩) (fun _ R s => Hh s.heap ∧ R (.ok (.ret (.ref (s.heap.push o).objs.size)))
      { s with heap := (s.heap.push o).push { cls := .type "enumerate", data := .fields #[.none, .bool false, .ref s.heap.objs.size, rawInt 0, .none, .none] } }) := by
  refine .of_wp fun prog w A R sh hh => ?_
  obtain ⟨hp, gs, dr, tk, os⟩ := sh
  obtain ⟨hB, hR⟩ := hh
  have isub := sub_enumerate
  have it0 : ∀ {A' : Around} {E : Value → Shared → Prop} {Q : Value → Shared → Prop}, Q (.ref hp.objs.size) ⟨hp.push o, gs, dr, tk, os⟩ → wpAny (model prog w) A' (pyIter v) Q E ⟨hp, gs, dr, tk, os⟩ := fun q => B.iter prog w _ _ ⟨hp, gs, dr, tk, os⟩ _ hB q
  wp_walk using it0
  refine wpAny_stack_any fun stk => wpAny_pure ?_
  split
  · rename_i ty _ _ _ _ _
    cases (ty == Value.type "enumerate") <;> (wp_walk using it0; exact ⟨_, rfl, hR⟩)
  · wp_walk using it0
    exact ⟨_, rfl, hR⟩
theorem enum_of {prog : Program} {w : World} {A : Around} {E : Value → Shared → Prop} {s : Shared} {v : Value} {o : Obj} {Hh : Heap → Prop} {Q : Value → Shared → Prop} (B : Begins v o Hh) (hv : Hh s.heap)
    (k : Q (.ref (s.heap.push o).objs.size) { s with heap := (s.heap.push o).push { cls := .type "enumerate", data := .fields #[.none, .bool false, .ref s.heap.objs.size, rawInt 0, .none, .none] } }) :
    wpAny (model prog w) A (call (.type "enumerate") [v]) Q E s :=
  callType_new F.called_enumerate (by decide) (F.typeCall_enumerate_1 _) (F.newCall_enumerate_1 _) (fun ob => F.args_object_init_2 ob _) F.entry_enumerate_new (new_enum B)
    ⟨hv, ⟨_, Heap.get?_push_size _ rfl, rfl⟩, k⟩
def iEnumA (K : PySem.W.Frag) (ta : TA) : TI := fun σ H R => ta σ H fun vs H1 => ∃ a xs, vs = [.ref a] ∧ ((SqL K H1 a xs ∧ R (Ite K a) H1) ∨ (SqT K H1 a xs ∧ R (IteT K a xs.length) H1))
theorem pi_enumA {X : Cx} {e : Expr} {ta : TA} {p pos tpos : Pos} {elts : List Expr} {kk : Nat} (hg : Gl X "enumerate") (hm : X.mg "enumerate" = none) (ha : PA X [e] ta) (hs : starEach [e] X.env = [(false, eval e X.env)] := by rfl) :
    PI X (.Tuple elts kk tpos) (.Call (.Name "enumerate" p) [e] [] pos) (iEnumA X.K ta) := ⟨fun pins s σ H R I q0 =>
  Call_ (ld_blt I hg hm boot_enumerate (PyProof.Rows.callWith_type1 (thn (ha.run pos pins s σ H _ I q0) fun us s1 ⟨vs, H1, J, rv, q1⟩ => by
    obtain ⟨a, xs, rfl, q1⟩ := q1
    rw [Vals.ref1 rv]
    have fine : ∀ b ∈ [s1.heap.objs.size + 1, s1.heap.objs.size], FpOk X pins H1 b := fun b hb => by
      have big : s1.heap.objs.size ≤ b := by
        rcases two_mem.mp hb with rfl | rfl
        · exact Nat.le_succ _
        · exact Nat.le_refl _
      exact J.fpOk big (J.hok.fresh big)
    rcases q1 with ⟨hq, q⟩ | ⟨hq, q⟩
    · obtain ⟨_, _, pl, _⟩ := J.list hq
      exact call_enumerate_list pl.isList fun g he hit _ hk => wpAny_pyIter_enum he ⟨_, _, _, _, H1, rfl, J.kept (t' := s1.toks) hk, turn_enum a (s1.heap.objs.size + 1) s1.heap.objs.size, ⟨⟨.none, he⟩, hit, Nat.succ_ne_self _⟩, fine, q⟩
    · obtain ⟨us', vz, tp, _⟩ := J.tuple hq
      obtain ⟨oa, hoa, _⟩ := id tp
      have low := Heap.lt_size hoa
      refine enum_of (begins_tuple a us'.toArray) tp ?_
      have len1 : (s1.heap.push { cls := .type "tuple_iterator", data := .fields #[.ref a, .int 0 0] }).objs.size = s1.heap.objs.size + 1 := Heap.size_push _ _
      have he : IsEnum ((s1.heap.push { cls := .type "tuple_iterator", data := .fields #[.ref a, .int 0 0] }).push { cls := .type "enumerate", data := .fields #[.none, .bool false, .ref s1.heap.objs.size, rawInt 0, .none, .none] })
          (s1.heap.push { cls := .type "tuple_iterator", data := .fields #[.ref a, .int 0 0] }).objs.size s1.heap.objs.size 0 .none := Heap.get?_push_size _ rfl
      refine wpAny_pyIter_enum (i := 0) he ?_
      rw [len1] at he ⊢
      refine ⟨_, _, _, _, H1, rfl, J.kept (t' := s1.toks) fun b ob e => Heap.get?_push_of_some _ (Heap.get?_push_of_some _ e), turn_enumT (n := xs.length) (Nat.ne_of_lt low) (fun z => absurd low (by rw [← z]; exact Nat.not_lt.mpr (Nat.le_succ _))) (Nat.succ_ne_self _), ⟨⟨.none, he⟩, ?_⟩, fine, q⟩
      exact ⟨_, Heap.get?_push_of_some _ (Heap.get?_push_size _ rfl), rfl, rfl⟩) hs rfl))⟩

/-! ### a list, a tuple, a text walked -/
def iSeq (K : PySem.W.Frag) (tl : TE) : TI := fun σ H R => tl σ H fun x H1 => (∃ a, x = .ref a ∧ (∃ xs, SqL K H1 a xs) ∧ R (Itl K a) H1) ∨ (∃ a, x = .ref a ∧ (∃ xs, SqT K H1 a xs) ∧ R (Itt K a) H1) ∨ (∃ z, x = .str z ∧ R (Its z) H1)
theorem pi_seq {X : Cx} {tg l : Expr} {tl : TE} (hl : PE X l tl) : PI X tg l (iSeq X.K tl) := ⟨fun pins s σ H R I q0 =>
  thn (hl.run pins s σ H _ I q0) fun v s1 ⟨x, H1, J, rx, q1⟩ => by
    rcases q1 with ⟨a, rfl, ⟨xs, hq⟩, q⟩ | ⟨a, rfl, ⟨xs, hq⟩, q⟩ | ⟨z, rfl, q⟩
    · cases rx
      obtain ⟨_, _, pl, _⟩ := J.list hq
      exact wpAny_pyIter_list pl.isList (pi_one (tk := s1.toks) J _ (turn_list a _) ⟨_, Heap.get?_push_size _ rfl, rfl, rfl⟩ q)
    · cases rx
      obtain ⟨us, _, tp, _⟩ := J.tuple hq
      exact wpAny_pyIter_tuple (items := us.toArray) tp (pi_one (tk := s1.toks) J _ (turn_tuple a _) ⟨_, Heap.get?_push_size _ rfl, rfl, rfl⟩ q)
    · obtain ⟨t, rfl⟩ := rx
      cases small : z.cps.all (· < 128)
      · exact wpAny_pyIter_wide small (pi_one (tk := s1.toks) J _ (turn_str _ z t _ (.inr rfl)) ⟨_, Heap.get?_push_size _ rfl, rfl, rfl⟩ q)
      · exact wpAny_pyIter_ascii small (pi_one (tk := s1.toks) J _ (turn_str _ z t _ (.inl rfl)) ⟨_, Heap.get?_push_size _ rfl, rfl, rfl⟩ q)⟩

/-! ### sources -/
def seqSrc (k : Nat) (v : Val) (h1 : Hs) : Res Src := match v with
  | .im (.tuple ds) => .ok ⟨ds.map .im, []⟩ (trunc k h1)
  | .im (.list ds) => .ok ⟨ds.map .im, []⟩ (trunc k h1)
  | .im (.str z) => .ok ⟨z.cps.toList.map fun c => .im (.str ⟨#[c]⟩), []⟩ (trunc k h1)
  | .ref m => match h1[m]? with
    | some (.fz (.list ds)) => .ok ⟨ds.map .im, []⟩ (trunc k h1)
    | some (.lst vs) => (match imsOf vs with
      | some ds => if k ≤ m then .ok ⟨ds.map .im, []⟩ (trunc k (h1.set m (.fz (.list ds)))) else .ok ⟨vs, [(m, vs)]⟩ (trunc k h1)
      | none => .ok ⟨vs, [(m, vs)]⟩ h1)
    | _ => .no
  | _ => .no
def mSeq (a : Ev) : M Src := fun ρ h => (a ρ h).bind fun v h1 => seqSrc h.length v h1
def rangeI (lo : Int) (n : Nat) : List Val := (List.range n).map fun (i : Nat) => .im (.int (lo + (i : Int)))
def smallI (i : Int) : Bool := decide (-4611686018427387904 ≤ i ∧ i < 4611686018427387904)
def mRng1 (m : M (List Val)) : M Src := fun ρ h => (m ρ h).bind fun vs h1 => match vs with
  | [.im (.int j)] => if smallI j = true then .ok ⟨rangeI 0 j.toNat, []⟩ (trunc h.length h1) else .no
  | _ => .no
def mRng2 (m : M (List Val)) : M Src := fun ρ h => (m ρ h).bind fun vs h1 => match vs with
  | [.im (.int i), .im (.int j)] => if (smallI i && smallI j) = true then .ok ⟨rangeI i (j - i).toNat, []⟩ (trunc h.length h1) else .no
  | _ => .no
/-- items that are data, and what must stay -/
structure Dat where
  tup : Bool
  ds : List PyData
  watch : List (Nat × List Val)
def datOf (k : Nat) (v : Val) (h1 : Hs) : Option (Dat × Hs) := match v with
  | .im (.tuple ds) => some (⟨true, ds, []⟩, h1)
  | .im (.list ds) => some (⟨false, ds, []⟩, h1)
  | .ref m => match h1[m]? with
    | some (.fz (.list ds)) => some (⟨false, ds, []⟩, h1)
    | some (.lst vs) => (match imsOf vs with
      | some ds => if k ≤ m then some (⟨false, ds, []⟩, h1.set m (.fz (.list ds))) else some (⟨false, ds, [(m, vs)]⟩, h1)
      | none => none)
    | _ => none
  | _ => none
def enumD (i : Nat) : List PyData → List Val
  | [] => []
  | d :: r => .im (.tuple [.int (i : Int), d]) :: enumD (i + 1) r
def mEnum (m : M (List Val)) : M Src := fun ρ h => (m ρ h).bind fun vs h1 => match vs with
  | [v] => match datOf h.length v h1 with
    | some (d, h2) => .ok ⟨enumD 0 d.ds, d.watch⟩ (trunc h.length h2)
    | none => .no
  | _ => .no
def zipD : List PyData → List PyData → List Val
  | a :: as, b :: bs => .im (.tuple [a, b]) :: zipD as bs
  | _, _ => []
def mZip (m : M (List Val)) : M Src := fun ρ h => (m ρ h).bind fun vs h1 => match vs with
  | [v, u] => match datOf h.length v h1 with
    | some (d, h2) => (match datOf h.length u h2 with
      | some (e, h3) => if d.tup = e.tup then .ok ⟨zipD d.ds e.ds, d.watch ++ e.watch⟩ (trunc h.length h3) else .no
      | none => .no)
    | none => .no
  | _ => .no
section
variable {C : Cst} {W : WK} {G F F' : Hp} {ι ι' : Nat → Addr} {n p q k : Nat} {h h' : Hs} {H H' : Hp} {σ σ' : L2.St} {ρ ρ' : En}
theorem dpAll_get {K : PySem.W.Frag} {F : Hp} : ∀ {xs : List V} {ds : List PyData} {i : Nat} {d : PyData}, DpAll K F xs ds → ds[i]? = some d → ∃ x, xs[i]? = some x ∧ Dp K F x d
  | _, [], _, _, _, e => by cases e
  | _, d :: ds, 0, _, z, e => by cases z with | cons a b => simp at e; subst e; exact ⟨_, rfl, a⟩
  | _, d :: ds, i + 1, d', z, e => by
    cases z with
    | cons a b =>
      obtain ⟨x, h1, h2⟩ := dpAll_get (i := i) b (by simpa using e)
      exact ⟨x, (by simpa using h1), h2⟩
/-- the items stand as data: a list or a tuple that is read at each turn -/
def DatR (C : Cst) (G F : Hp) (ι : Nat → Addr) (a : Addr) (d : Dat) : Prop :=
  ∀ F2 ι2 h2 H2, Rel C G F2 ι2 h2 H2 → (∀ b o, F b = some o → F2 b = some o) → (∀ p ∈ d.watch, ι2 p.1 = ι p.1) → (∀ p ∈ d.watch, h2[p.1]? = some (.lst p.2)) →
    ∃ xs, (if d.tup = true then SqT C.K H2 a xs else SqL C.K H2 a xs) ∧ DpAll C.K F2 xs d.ds
theorem datOf_ok {x : V} {v : Val} {d : Dat} (R : Rel C G F ι h H) (V : RV C ι F h.length x v) (e : datOf k v h = some (d, h')) :
    ∃ a F', x = .ref a ∧ Rel C G F' ι h' H ∧ Ext G F ι h.length F' ι ∧ h'.length = h.length ∧ DatR C G F' ι a d ∧ (∀ p ∈ d.watch, p.1 < k) ∧ (∀ p ∈ d.watch, h'[p.1]? = some (.lst p.2)) ∧ ∀ j, j < k → h'[j]? = h[j]? := by
  unfold datOf at e
  split at e
  · cases e
    cases V with
    | im z =>
      cases z with
      | tup s p => exact ⟨_, F, rfl, R, Ext.refl, rfl, fun F2 ι2 h2 H2 R2 le _ _ => ⟨_, (if_pos rfl).mpr (tupF R2.f (tupF le s)), Dp.leAll le _ _ p⟩, (fun p hp => nomatch hp), (fun p hp => nomatch hp), fun _ _ => rfl⟩
  · cases e
    cases V with
    | im z =>
      cases z with
      | lst s p => exact ⟨_, F, rfl, R, Ext.refl, rfl, fun F2 ι2 h2 H2 R2 le _ _ => ⟨_, (if_neg Bool.false_ne_true).mpr (seqF R2.f (seqF le s)), Dp.leAll le _ _ p⟩, (fun p hp => nomatch hp), (fun p hp => nomatch hp), fun _ _ => rfl⟩
  · rename_i m
    cases V with
    | ref hm =>
      split at e
      · rename_i ds hc
        cases e
        have r := R.cell _ _ hc
        cases r with
        | lst s p => exact ⟨_, F, rfl, R, Ext.refl, rfl, fun F2 ι2 h2 H2 R2 le _ _ => ⟨_, (if_neg Bool.false_ne_true).mpr (seqF R2.f (seqF le s)), Dp.leAll le _ _ p⟩, (fun p hp => nomatch hp), (fun p hp => nomatch hp), fun _ _ => rfl⟩
      · rename_i vs hc
        cases ei : imsOf vs with
        | none => rw [ei] at e; cases e
        | some ds =>
          rw [ei] at e
          simp only at e
          split at e
          · cases e
            obtain ⟨F', R', E', z⟩ := R.frz hc ei
            refine ⟨_, F', rfl, R', E', by simp, ?_, (fun p hp => nomatch hp), (fun p hp => nomatch hp), fun j hj => List.getElem?_set_ne (by omega)⟩
            cases z with
            | lst s p => exact fun F2 ι2 h2 H2 R2 le _ _ => ⟨_, (if_neg Bool.false_ne_true).mpr (seqF R2.f (seqF le s)), Dp.leAll le _ _ p⟩
          · cases e
            refine ⟨_, F, rfl, R, Ext.refl, rfl, fun F2 ι2 h2 H2 R2 le ag ok => ?_, fun p hp => ?_, fun p hp => ?_, fun _ _ => rfl⟩
            · have hc2 := ok (m, vs) (by simp)
              obtain ⟨xs, hH, P⟩ := R2.at_lst hc2
              rw [ag (m, vs) (by simp)] at hH
              rw [ims_of ei] at P
              exact ⟨xs, (if_neg Bool.false_ne_true).mpr (SqL.of hH), dpAll_of P⟩
            · have : p = (m, vs) := by simpa using hp
              subst this
              rename_i hkm
              exact Nat.lt_of_not_le hkm
            · have : p = (m, vs) := by simpa using hp
              subst this
              exact hc
      · cases e
  · cases e
theorem pin_of {s : Src} (hi : s.items.all Val.isIm = true) {n : Nat} (hw : s.watch ≠ []) : s.pin n = n := by
  unfold Src.pin
  rw [if_neg]
  intro z
  rw [Bool.and_eq_true] at z
  exact hw (List.isEmpty_iff.mp z.2)
theorem all_im (ds : List PyData) : (ds.map Val.im).all Val.isIm = true := by
  rw [List.all_eq_true]
  intro v hv
  obtain ⟨d, _, rfl⟩ := List.mem_map.mp hv
  rfl
theorem below_im {ds : List PyData} {k : Nat} : ∀ v ∈ ds.map Val.im, v.below k = true := fun v hv => by
  obtain ⟨d, _, rfl⟩ := List.mem_map.mp hv
  rfl
def walkL {K : PySem.W.Frag} {a : Addr} {n : Nat} : Walk (Itl K a) n (fun H => ∃ xs, SqL K H a xs ∧ xs.length = n) (fun i H x H' => H' = H ∧ ∀ xs, SqL K H a xs → xs[i]? = some x) :=
  ⟨fun i _ hi ⟨xs, q, e⟩ => ⟨xs, xs[i]'(by omega), q, by simp [show i < xs.length by omega]⟩, fun _ ⟨xs, q, e⟩ => ⟨xs, q, by omega⟩, fun _ _ _ _ _ _ y => y⟩
def walkT {K : PySem.W.Frag} {a : Addr} {n : Nat} : Walk (Itt K a) n (fun H => ∃ xs, SqT K H a xs ∧ xs.length = n) (fun i H x H' => H' = H ∧ ∀ xs, SqT K H a xs → xs[i]? = some x) :=
  ⟨fun i _ hi ⟨xs, q, e⟩ => ⟨xs, xs[i]'(by omega), q, by simp [show i < xs.length by omega]⟩, fun _ ⟨xs, q, e⟩ => ⟨xs, q, by omega⟩, fun _ _ _ _ _ _ y => y⟩
theorem srcDat {a : Addr} {d : Dat} (dr : DatR C G F ι a d) (hw : ∀ p ∈ d.watch, p.1 < k) : SrcOk C G F ι k ⟨d.ds.map .im, d.watch⟩ (if d.tup = true then Itt C.K a else Itl C.K a) := by
  have hpin : d.watch ≠ [] → (Src.mk (d.ds.map Val.im) d.watch).pin k = k := fun hw => pin_of (s := ⟨d.ds.map .im, d.watch⟩) (all_im _) hw
  refine ⟨below_im, ?_⟩
  by_cases ht : d.tup = true
  · rw [if_pos ht]
    refine ⟨_, _, walkT (n := (d.ds.map Val.im).length), fun F2 ι2 h2 H2 R2 E2 l2 ok => ?_, fun F2 ι2 h2 H2 i v x H3 R2 E2 l2 ok ev y => ?_⟩
    · obtain ⟨xs, hs, z⟩ := dr F2 ι2 h2 H2 R2 E2.le (fun p hp => by have := E2.ag p.1; rw [hpin (List.ne_nil_of_mem hp)] at this; exact this (hw p hp)) ok
      rw [if_pos ht] at hs
      exact ⟨xs, hs, by rw [dp_len z, List.length_map]⟩
    · obtain ⟨xs, hs, z⟩ := dr F2 ι2 h2 H2 R2 E2.le (fun p hp => by have := E2.ag p.1; rw [hpin (List.ne_nil_of_mem hp)] at this; exact this (hw p hp)) ok
      rw [if_pos ht] at hs
      obtain ⟨rfl, y⟩ := y
      have hx := y xs hs
      simp only [List.getElem?_map] at ev
      cases ed : d.ds[i]? with
      | none => rw [ed] at ev; cases ev
      | some dd =>
        rw [ed] at ev; cases ev
        obtain ⟨x', hx', zd⟩ := dpAll_get z ed
        rw [hx] at hx'; cases hx'
        exact ⟨F2, R2, Ext.refl, .im zd, fun _ _ q => q, fun _ _ => rfl⟩
  · rw [if_neg ht]
    refine ⟨_, _, walkL (n := (d.ds.map Val.im).length), fun F2 ι2 h2 H2 R2 E2 l2 ok => ?_, fun F2 ι2 h2 H2 i v x H3 R2 E2 l2 ok ev y => ?_⟩
    · obtain ⟨xs, hs, z⟩ := dr F2 ι2 h2 H2 R2 E2.le (fun p hp => by have := E2.ag p.1; rw [hpin (List.ne_nil_of_mem hp)] at this; exact this (hw p hp)) ok
      rw [if_neg ht] at hs
      exact ⟨xs, hs, by rw [dp_len z, List.length_map]⟩
    · obtain ⟨xs, hs, z⟩ := dr F2 ι2 h2 H2 R2 E2.le (fun p hp => by have := E2.ag p.1; rw [hpin (List.ne_nil_of_mem hp)] at this; exact this (hw p hp)) ok
      rw [if_neg ht] at hs
      obtain ⟨rfl, y⟩ := y
      have hx := y xs hs
      simp only [List.getElem?_map] at ev
      cases ed : d.ds[i]? with
      | none => rw [ed] at ev; cases ev
      | some dd =>
        rw [ed] at ev; cases ev
        obtain ⟨x', hx', zd⟩ := dpAll_get z ed
        rw [hx] at hx'; cases hx'
        exact ⟨F2, R2, Ext.refl, .im zd, fun _ _ q => q, fun _ _ => rfl⟩
/-- a list of refs, as it stands at each turn -/
theorem srcCell {m : Nat} {vs : List Val} (R : Rel C G F ι h H) (hc : h[m]? = some (.lst vs)) : SrcOk C G F ι h.length ⟨vs, [(m, vs)]⟩ (Itl C.K (ι m)) := by
  have hpin : (Src.mk vs [(m, vs)]).pin h.length = h.length := by
    unfold Src.pin
    rw [if_neg]
    intro z
    rw [Bool.and_eq_true] at z
    exact absurd z.2 Bool.false_ne_true
  have hm : m < h.length := (List.getElem?_eq_some_iff.mp hc).1
  refine ⟨fun v hv => ?_, _, _, walkL (n := vs.length), fun F2 ι2 h2 H2 R2 E2 l2 ok => ?_, fun F2 ι2 h2 H2 i v x H3 R2 E2 l2 ok ev y => ?_⟩
  · obtain ⟨xs, hH, P⟩ := R.at_lst hc
    obtain ⟨i, hi⟩ := List.mem_iff_getElem?.mp hv
    obtain ⟨x, _, z⟩ := paired_get' P hi
    cases z with
    | im _ => rfl
    | ref hk => exact decide_eq_true hk
  · rw [hpin] at E2
    obtain ⟨xs, hH, P⟩ := R2.at_lst (ok (m, vs) (by simp))
    rw [E2.ag m hm] at hH
    exact ⟨xs, SqL.of hH, Paired.length P⟩
  · rw [hpin] at E2 l2
    obtain ⟨xs, hH, P⟩ := R2.at_lst (ok (m, vs) (by simp))
    rw [E2.ag m hm] at hH
    obtain ⟨rfl, y⟩ := y
    have hx := y xs (SqL.of hH)
    obtain ⟨x', h1, h2'⟩ := paired_get' P ev
    rw [hx] at h1; cases h1
    exact ⟨F2, R2, Ext.refl, h2', fun _ _ q => q, fun _ _ => rfl⟩
theorem srcStr {z : Str} : SrcOk C G F ι k ⟨z.cps.toList.map fun c => .im (.str ⟨#[c]⟩), []⟩ (Its z) := by
  refine ⟨fun v hv => by obtain ⟨c, _, rfl⟩ := List.mem_map.mp hv; rfl, _, _, (by
    have w := walk_str (z := z)
    rw [show z.cps.size = (Src.mk (z.cps.toList.map fun c => Val.im (.str ⟨#[c]⟩)) []).items.length by simp] at w
    exact w), fun F2 ι2 h2 H2 _ _ _ _ => trivial, fun F2 ι2 h2 H2 i v x H3 R2 E2 l2 ok ev y => ?_⟩
  obtain ⟨rfl, c, hc, rfl⟩ := y
  simp only [List.getElem?_map, Array.getElem?_toList] at ev
  rw [hc] at ev
  cases ev
  exact ⟨F2, R2, Ext.refl, .im (.str _), fun _ _ q => q, fun _ _ => rfl⟩
theorem srcRng {lo : Int} {m : Nat} : SrcOk C G F ι k ⟨rangeI lo m, []⟩ (Itr lo m) := by
  refine ⟨fun v hv => by obtain ⟨c, _, rfl⟩ := List.mem_map.mp hv; rfl, _, _, (by
    have w := walk_range (lo := lo) (n := m)
    rw [show m = (Src.mk (rangeI lo m) []).items.length by simp [rangeI]] at w
    simpa [rangeI] using w), fun F2 ι2 h2 H2 _ _ _ _ => trivial, fun F2 ι2 h2 H2 i v x H3 R2 E2 l2 ok ev y => ?_⟩
  obtain ⟨rfl, rfl⟩ := y
  have ev' : ((List.range m).map fun (i : Nat) => Val.im (.int (lo + (i : Int))))[i]? = some v := ev
  rw [List.getElem?_map] at ev'
  by_cases hi : i < m
  · rw [List.getElem?_range hi] at ev'
    cases ev'
    exact ⟨F2, R2, Ext.refl, .im (.int _), fun _ _ q => q, fun _ _ => rfl⟩
  · rw [List.getElem?_eq_none (by simpa using hi)] at ev'; cases ev'
theorem enumD_len : ∀ {ds : List PyData} {i : Nat}, (enumD i ds).length = ds.length
  | [], _ => rfl
  | _ :: r, i => by rw [enumD, List.length_cons, enumD_len (ds := r), List.length_cons]
theorem enumD_get : ∀ {ds : List PyData} {i j : Nat} {v : Val}, (enumD i ds)[j]? = some v → ∃ d, ds[j]? = some d ∧ v = .im (.tuple [.int ((i + j : Nat) : Int), d])
  | [], _, _, _, e => by simp [enumD] at e
  | d :: r, i, 0, v, e => by simp [enumD] at e; exact ⟨d, rfl, e.symm⟩
  | d :: r, i, j + 1, v, e => by
    obtain ⟨d', h1, h2⟩ := enumD_get (ds := r) (i := i + 1) (j := j) (v := v) (by simpa [enumD] using e)
    exact ⟨d', by simpa using h1, by rw [h2, show i + 1 + j = i + (j + 1) by omega]⟩
theorem enumD_im : ∀ {ds : List PyData} {i : Nat}, (enumD i ds).all Val.isIm = true
  | [], _ => rfl
  | _ :: r, i => by rw [enumD, List.all_cons, enumD_im (ds := r)]; rfl
theorem im_below {vs : List Val} (h : vs.all Val.isIm = true) {k : Nat} : ∀ v ∈ vs, v.below k = true := fun v hv => by
  have := List.all_eq_true.mp h v hv
  cases v with
  | im _ => rfl
  | ref _ => cases this
theorem newPair (R : Rel C G F ι h H) {T : Addr} (hT : H T = none) {x y : V} {a b : PyData} (zx : Dp C.K F x a) (zy : Dp C.K F y b) :
    ∃ F3, Rel C G F3 ι h (upd H T (.tup [x, y])) ∧ Ext G F ι h.length F3 ι ∧ RV C ι F3 h.length (.ref T) (.im (.tuple [a, b])) ∧ (∀ c o, H c = some o → upd H T (.tup [x, y]) c = some o) ∧ ∀ c, H c ≠ none → F3 c = F c := by
  have E := Ext.newF R hT (.tup [x, y])
  refine ⟨upd F T (.tup [x, y]), R.newF hT _, E, .im (.tup (SqT.of upd_same) (.cons (Dp.le E.le _ _ zx) (.cons (Dp.le E.le _ _ zy) .nil))), fun c o e => ?_, fun c hc => upd_ne fun z => ?_⟩
  · rw [upd_ne fun z => by rw [z, hT] at e; cases e]; exact e
  · rw [z] at hc; exact hc hT
theorem srcEnum {a : Addr} {d : Dat} (dr : DatR C G F ι a d) (hw : ∀ p ∈ d.watch, p.1 < k) : SrcOk C G F ι k ⟨enumD 0 d.ds, d.watch⟩ (if d.tup = true then IteT C.K a d.ds.length else Ite C.K a) := by
  have hpin : d.watch ≠ [] → (Src.mk (enumD 0 d.ds) d.watch).pin k = k := fun hw => pin_of (s := ⟨enumD 0 d.ds, d.watch⟩) enumD_im hw
  refine ⟨im_below enumD_im, ?_⟩
  by_cases ht : d.tup = true
  · rw [if_pos ht]
    refine ⟨fun H => ∃ xs, SqT C.K H a xs ∧ xs.length = d.ds.length, fun i H v H' => ∃ T x, v = .ref T ∧ H T = none ∧ H' = upd H T (.tup [.int (i : Nat), x]) ∧ ∀ xs, SqT C.K H a xs → xs[i]? = some x, ?_, fun F2 ι2 h2 H2 R2 E2 l2 ok => ?_, fun F2 ι2 h2 H2 i v x H3 R2 E2 l2 ok ev y => ?_⟩
    · show Walk _ (enumD 0 d.ds).length _ _
      rw [enumD_len]
      exact ⟨fun i _ hi q => ⟨hi, q⟩, fun _ q => ⟨rfl, q⟩, fun _ _ _ _ _ _ y => y⟩
    · obtain ⟨xs, hs, z⟩ := dr F2 ι2 h2 H2 R2 E2.le (fun p hp => by have := E2.ag p.1; rw [hpin (List.ne_nil_of_mem hp)] at this; exact this (hw p hp)) ok
      rw [if_pos ht] at hs
      exact ⟨xs, hs, dp_len z⟩
    · obtain ⟨xs, hs, z⟩ := dr F2 ι2 h2 H2 R2 E2.le (fun p hp => by have := E2.ag p.1; rw [hpin (List.ne_nil_of_mem hp)] at this; exact this (hw p hp)) ok
      rw [if_pos ht] at hs
      obtain ⟨T, x', rfl, hT, rfl, y⟩ := y
      obtain ⟨dd, h1, rfl⟩ := enumD_get ev
      obtain ⟨x2, hx2, zd⟩ := dpAll_get z h1
      rw [y xs hs] at hx2; cases hx2
      rw [Nat.zero_add]
      exact newPair R2 hT (.int _) zd
  · rw [if_neg ht]
    refine ⟨fun H => ∃ xs, SqL C.K H a xs ∧ xs.length = d.ds.length, fun i H v H' => ∃ T x, v = .ref T ∧ H T = none ∧ H' = upd H T (.tup [.int (i : Nat), x]) ∧ ∀ xs, SqL C.K H a xs → xs[i]? = some x, ?_, fun F2 ι2 h2 H2 R2 E2 l2 ok => ?_, fun F2 ι2 h2 H2 i v x H3 R2 E2 l2 ok ev y => ?_⟩
    · show Walk _ (enumD 0 d.ds).length _ _
      rw [enumD_len]
      exact ⟨fun i _ hi ⟨xs, q, e⟩ => ⟨xs, xs[i]'(by omega), q, by simp [show i < xs.length by omega]⟩, fun _ ⟨xs, q, e⟩ => ⟨xs, q, by omega⟩, fun _ _ _ _ _ _ y => y⟩
    · obtain ⟨xs, hs, z⟩ := dr F2 ι2 h2 H2 R2 E2.le (fun p hp => by have := E2.ag p.1; rw [hpin (List.ne_nil_of_mem hp)] at this; exact this (hw p hp)) ok
      rw [if_neg ht] at hs
      exact ⟨xs, hs, dp_len z⟩
    · obtain ⟨xs, hs, z⟩ := dr F2 ι2 h2 H2 R2 E2.le (fun p hp => by have := E2.ag p.1; rw [hpin (List.ne_nil_of_mem hp)] at this; exact this (hw p hp)) ok
      rw [if_neg ht] at hs
      obtain ⟨T, x', rfl, hT, rfl, y⟩ := y
      obtain ⟨dd, h1, rfl⟩ := enumD_get ev
      obtain ⟨x2, hx2, zd⟩ := dpAll_get z h1
      rw [y xs hs] at hx2; cases hx2
      rw [Nat.zero_add]
      exact newPair R2 hT (.int _) zd
theorem zipD_im : ∀ {as bs : List PyData}, (zipD as bs).all Val.isIm = true
  | [], _ => by simp [zipD]
  | _ :: _, [] => by simp [zipD]
  | a :: as, b :: bs => by rw [zipD, List.all_cons, zipD_im (as := as)]; rfl
theorem zipD_len : ∀ {as bs : List PyData}, (zipD as bs).length = min as.length bs.length
  | [], _ => by simp [zipD]
  | _ :: _, [] => by simp [zipD]
  | a :: as, b :: bs => by rw [zipD, List.length_cons, zipD_len (as := as), List.length_cons, List.length_cons]; omega
theorem zipD_get : ∀ {as bs : List PyData} {j : Nat} {v : Val}, (zipD as bs)[j]? = some v → ∃ a b, as[j]? = some a ∧ bs[j]? = some b ∧ v = .im (.tuple [a, b])
  | [], _, _, _, e => by simp [zipD] at e
  | _ :: _, [], _, _, e => by simp [zipD] at e
  | a :: as, b :: bs, 0, v, e => by simp [zipD] at e; exact ⟨a, b, rfl, rfl, e.symm⟩
  | a :: as, b :: bs, j + 1, v, e => by
    obtain ⟨a', b', h1, h2, h3⟩ := zipD_get (as := as) (bs := bs) (j := j) (v := v) (by simpa [zipD] using e)
    exact ⟨a', b', by simpa using h1, by simpa using h2, h3⟩
theorem srcZip {a b : Addr} {d e : Dat} (dr : DatR C G F ι a d) (er : DatR C G F ι b e) (hwd : ∀ p ∈ d.watch, p.1 < k) (hwe : ∀ p ∈ e.watch, p.1 < k) (hte : d.tup = e.tup) : SrcOk C G F ι k ⟨zipD d.ds e.ds, d.watch ++ e.watch⟩ (if d.tup = true then RZ.ItzT C.K a b else Itz C.K a b) := by
  have hpin : d.watch ++ e.watch ≠ [] → (Src.mk (zipD d.ds e.ds) (d.watch ++ e.watch)).pin k = k := fun hw => pin_of (s := ⟨zipD d.ds e.ds, d.watch ++ e.watch⟩) zipD_im hw
  have both : ∀ F2 ι2 h2 H2, Rel C G F2 ι2 h2 H2 → Ext G F ι ((Src.mk (zipD d.ds e.ds) (d.watch ++ e.watch)).pin k) F2 ι2 → (Src.mk (zipD d.ds e.ds) (d.watch ++ e.watch)).okAt h2 →
      (∃ xs, (if d.tup = true then SqT C.K H2 a xs else SqL C.K H2 a xs) ∧ DpAll C.K F2 xs d.ds) ∧ ∃ ys, (if e.tup = true then SqT C.K H2 b ys else SqL C.K H2 b ys) ∧ DpAll C.K F2 ys e.ds := fun F2 ι2 h2 H2 R2 E2 ok =>
    ⟨dr F2 ι2 h2 H2 R2 E2.le (fun p hp => by have := E2.ag p.1; rw [hpin (List.ne_nil_of_mem (List.mem_append_left _ hp))] at this; exact this (hwd p hp)) fun p hp => ok p (List.mem_append_left _ hp),
      er F2 ι2 h2 H2 R2 E2.le (fun p hp => by have := E2.ag p.1; rw [hpin (List.ne_nil_of_mem (List.mem_append_right _ hp))] at this; exact this (hwe p hp)) fun p hp => ok p (List.mem_append_right _ hp)⟩
  refine ⟨im_below zipD_im, ?_⟩
  by_cases ht : d.tup = true
  · rw [if_pos ht]
    refine ⟨fun H => ∃ xs ys, SqT C.K H a xs ∧ SqT C.K H b ys ∧ xs.length = d.ds.length ∧ ys.length = e.ds.length,
      fun i H v H' => ∃ T x y, v = .ref T ∧ H T = none ∧ H' = upd H T (.tup [x, y]) ∧ (∀ xs, SqT C.K H a xs → xs[i]? = some x) ∧ ∀ ys, SqT C.K H b ys → ys[i]? = some y, ?_, fun F2 ι2 h2 H2 R2 E2 l2 ok => ?_, fun F2 ι2 h2 H2 i v x H3 R2 E2 l2 ok ev y => ?_⟩
    · show Walk _ (zipD d.ds e.ds).length _ _
      rw [zipD_len]
      exact ⟨fun i _ hi ⟨xs, ys, q, r, l1, l2⟩ => ⟨xs, ys, xs[i]'(by omega), ys[i]'(by omega), q, r, by simp [show i < xs.length by omega], by simp [show i < ys.length by omega]⟩, fun _ ⟨xs, ys, q, r, l1, l2⟩ => ⟨xs, ys, q, r, by omega⟩, fun _ _ _ _ _ _ y => y⟩
    · obtain ⟨⟨xs, hs, z⟩, ys, hs', z'⟩ := both F2 ι2 h2 H2 R2 E2 ok
      rw [if_pos ht] at hs
      rw [if_pos (hte ▸ ht)] at hs'
      exact ⟨xs, ys, hs, hs', dp_len z, dp_len z'⟩
    · obtain ⟨⟨xs, hs, z⟩, ys, hs', z'⟩ := both F2 ι2 h2 H2 R2 E2 ok
      rw [if_pos ht] at hs
      rw [if_pos (hte ▸ ht)] at hs'
      obtain ⟨T, x', y', rfl, hT, rfl, y1, y2⟩ := y
      obtain ⟨da, db, e1, e2, rfl⟩ := zipD_get ev
      obtain ⟨x2, hx2, zd⟩ := dpAll_get z e1
      obtain ⟨x3, hx3, zd3⟩ := dpAll_get z' e2
      rw [y1 xs hs] at hx2; cases hx2
      rw [y2 ys hs'] at hx3; cases hx3
      exact newPair R2 hT zd zd3
  · rw [if_neg ht]
    have ht' : ¬ e.tup = true := fun z => ht (hte ▸ z)
    refine ⟨fun H => ∃ xs ys, SqL C.K H a xs ∧ SqL C.K H b ys ∧ xs.length = d.ds.length ∧ ys.length = e.ds.length,
      fun i H v H' => ∃ T x y, v = .ref T ∧ H T = none ∧ H' = upd H T (.tup [x, y]) ∧ (∀ xs, SqL C.K H a xs → xs[i]? = some x) ∧ ∀ ys, SqL C.K H b ys → ys[i]? = some y, ?_, fun F2 ι2 h2 H2 R2 E2 l2 ok => ?_, fun F2 ι2 h2 H2 i v x H3 R2 E2 l2 ok ev y => ?_⟩
    · show Walk _ (zipD d.ds e.ds).length _ _
      rw [zipD_len]
      refine ⟨fun i _ hi ⟨xs, ys, q, r, l1, l2⟩ => ?_, fun _ ⟨xs, ys, q, r, l1, l2⟩ => ?_, fun i H v H' _ _ y => ?_⟩
      · exact ⟨xs, ys, xs[i]'(by omega), ys[i]'(by omega), q, r, by simp [show i < xs.length by omega], by simp [show i < ys.length by omega]⟩
      · exact ⟨xs, ys, q, r, by omega⟩
      · exact y
    · obtain ⟨⟨xs, hs, z⟩, ys, hs', z'⟩ := both F2 ι2 h2 H2 R2 E2 ok
      rw [if_neg ht] at hs
      rw [if_neg ht'] at hs'
      exact ⟨xs, ys, hs, hs', dp_len z, dp_len z'⟩
    · obtain ⟨⟨xs, hs, z⟩, ys, hs', z'⟩ := both F2 ι2 h2 H2 R2 E2 ok
      rw [if_neg ht] at hs
      rw [if_neg ht'] at hs'
      obtain ⟨T, x', y', rfl, hT, rfl, y1, y2⟩ := y
      obtain ⟨da, db, e1, e2, rfl⟩ := zipD_get ev
      obtain ⟨x2, hx2, zd⟩ := dpAll_get z e1
      obtain ⟨x3, hx3, zd3⟩ := dpAll_get z' e2
      rw [y1 xs hs] at hx2; cases hx2
      rw [y2 ys hs'] at hx3; cases hx3
      exact newPair R2 hT zd zd3
end

/-! ### the rules of walking -/
section
variable {X : Cx} {W : WK} {tg e e' : Expr} {me : Ev} {ms : M (List Val)} {p pos tpos : Pos} {elts : List Expr} {kk : Nat}
/-- an iterator's source at the end of its own reading -/
theorem fin_src {C : Cst} {G F F' : Hp} {ι ι' : Nat → Addr} {h h1 : Hs} {H : Hp} {src : Src} {J : It} {R : It → Hp → Prop}
    {W : WK} (D : DoneI C W G F ι h.length (.ok src (trunc h.length h1)) R) (R1 : Rel C G F' ι' h1 H) (E1 : Ext G F ι h.length F' ι') (l1 : h.length ≤ h1.length) (ok : SrcOk C G F' ι' (trunc h.length h1).length src J) : R J H :=
  D F' ι' H J (R1.trunc l1) E1 (trunc_len l1) ok
theorem ji_seq (he : JE X W e me) : JI X W tg e (mSeq me) := by
  refine PI.imp (pi_seq he) fun σ H Q t => ?_
  obtain ⟨G, F, ι, ρ, h, R, S, D⟩ := t
  refine ⟨G, F, ι, ρ, h, R, S, ?_⟩
  unfold mSeq at D
  cases ea : me ρ h with
  | no => rw [ea] at D; exact D
  | er c => rw [ea] at D; exact D
  | ok v h1 =>
    rw [ea] at D
    intro F1 ι1 H1 x R1 E1 l1 V1
    have V1' : RV (cst X W) ι1 F1 h1.length x v := V1
    simp only [bind_ok] at D
    unfold seqSrc at D
    split at D
    · rename_i ds
      cases V1' with
      | im z =>
        cases z with
        | tup s p =>
          refine .inr (.inl ⟨_, rfl, ⟨_, tupF R1.f s⟩, fin_src D R1 E1 l1 ?_⟩)
          have := srcDat (C := cst X W) (G := G) (F := F1) (ι := ι1) (k := (trunc h.length h1).length) (d := ⟨true, ds, []⟩) (fun F2 ι2 h2 H2 R2 le _ _ => ⟨_, (if_pos rfl).mpr (tupF R2.f (tupF le s)), Dp.leAll le _ _ p⟩) (fun p hp => nomatch hp)
          exact this
    · rename_i ds
      cases V1' with
      | im z =>
        cases z with
        | lst s p =>
          refine .inl ⟨_, rfl, ⟨_, seqF R1.f s⟩, fin_src D R1 E1 l1 ?_⟩
          have := srcDat (C := cst X W) (G := G) (F := F1) (ι := ι1) (k := (trunc h.length h1).length) (d := ⟨false, ds, []⟩) (fun F2 ι2 h2 H2 R2 le _ _ => ⟨_, (if_neg Bool.false_ne_true).mpr (seqF R2.f (seqF le s)), Dp.leAll le _ _ p⟩) (fun p hp => nomatch hp)
          exact this
    · cases V1' with
      | im z => cases z; exact .inr (.inr ⟨_, rfl, fin_src D R1 E1 l1 srcStr⟩)
    · rename_i m
      cases V1' with
      | ref hm =>
        split at D
        · rename_i ds hc
          have r := R1.cell _ _ hc
          cases r with
          | lst s p =>
            refine .inl ⟨_, rfl, ⟨_, seqF R1.f s⟩, fin_src D R1 E1 l1 ?_⟩
            have := srcDat (C := cst X W) (G := G) (F := F1) (ι := ι1) (k := (trunc h.length h1).length) (d := ⟨false, ds, []⟩) (fun F2 ι2 h2 H2 R2 le _ _ => ⟨_, (if_neg Bool.false_ne_true).mpr (seqF R2.f (seqF le s)), Dp.leAll le _ _ p⟩) (fun p hp => nomatch hp)
            exact this
        · rename_i vs hc
          obtain ⟨xs, hH, P⟩ := R1.at_lst hc
          cases ei : imsOf vs with
          | none =>
            rw [ei] at D
            exact .inl ⟨_, rfl, ⟨_, SqL.of hH⟩, D F1 ι1 H1 _ R1 E1 l1 (srcCell R1 hc)⟩
          | some ds =>
            rw [ei] at D
            simp only at D
            split at D
            · obtain ⟨F', R', E', z⟩ := R1.frz hc ei
              cases z with
              | lst s p =>
                have l2 : h.length ≤ (h1.set m (.fz (.list ds))).length := by rw [List.length_set]; exact l1
                refine .inl ⟨_, rfl, ⟨_, SqL.of hH⟩, fin_src D R' (E1.trans E' l1) l2 ?_⟩
                have := srcDat (C := cst X W) (G := G) (F := F') (ι := ι1) (k := (trunc h.length (h1.set m (.fz (.list ds)))).length) (d := ⟨false, ds, []⟩) (fun F2 ι2 h2 H2 R2 le _ _ => ⟨_, (if_neg Bool.false_ne_true).mpr (seqF R2.f (seqF le s)), Dp.leAll le _ _ p⟩) (fun p hp => nomatch hp)
                exact this
            · rename_i hkm
              refine .inl ⟨_, rfl, ⟨_, SqL.of hH⟩, fin_src D R1 E1 l1 ?_⟩
              have := srcDat (C := cst X W) (G := G) (F := F1) (ι := ι1) (k := (trunc h.length h1).length) (a := ι1 m) (d := ⟨false, ds, [(m, vs)]⟩) (fun F2 ι2 h2 H2 R2 le ag ok => by
                obtain ⟨ys, hY, Py⟩ := R2.at_lst (ok (m, vs) (by simp))
                rw [ag (m, vs) (by simp)] at hY
                rw [ims_of ei] at Py
                exact ⟨ys, (if_neg Bool.false_ne_true).mpr (SqL.of hY), dpAll_of Py⟩) (fun p hp => by
                have : p = (m, vs) := by simpa using hp
                subst this
                exact Nat.lt_of_lt_of_le (Nat.lt_of_not_le hkm) (trunc_len l1))
              rw [← ims_of ei] at this
              exact this
        · exact D.elim
    · exact D.elim
theorem smallI_ok {i : Int} (h : smallI i = true) : -(2 ^ 62) ≤ i ∧ i < 2 ^ 62 := by
  simp only [smallI, decide_eq_true_eq] at h
  exact ⟨by omega, by omega⟩
theorem ji_rng1 {a : Expr} (hg : Gl X "range") (hm : X.mg "range" = none) (ha : JA X W [a] ms) (hs : starEach [a] X.env = [(false, eval a X.env)] := by rfl) : JI X W tg (.Call (.Name "range" p) [a] [] pos) (mRng1 ms) := by
  refine PI.imp (pi_range1 hg hm ha hs) fun σ H Q t => ?_
  obtain ⟨G, F, ι, ρ, h, R, S, D⟩ := t
  refine ⟨G, F, ι, ρ, h, R, S, ?_⟩
  unfold mRng1 at D
  cases ea : ms ρ h with
  | no => rw [ea] at D; exact D
  | er c => rw [ea] at D; exact D
  | ok v h1 =>
    rw [ea] at D
    intro F1 ι1 H1 x R1 E1 l1 V1
    have V1' : Paired (RV (cst X W) ι1 F1 h1.length) x v := V1
    simp only [bind_ok] at D
    split at D
    · split at D
      · rename_i hh
        obtain ⟨b1, b2⟩ := smallI_ok hh
        cases V1' with
        | cons z r =>
          cases r
          cases z with
          | im z => cases z; exact ⟨_, rfl, b1, b2, fin_src D R1 E1 l1 srcRng⟩
      · exact D.elim
    · exact D.elim
theorem ji_rng2 {a b : Expr} (hg : Gl X "range") (hm : X.mg "range" = none) (ha : JA X W [a, b] ms) (hs : starEach [a, b] X.env = [(false, eval a X.env), (false, eval b X.env)] := by rfl) (hs2 : starEach [b] X.env = [(false, eval b X.env)] := by rfl) :
    JI X W tg (.Call (.Name "range" p) [a, b] [] pos) (mRng2 ms) := by
  refine PI.imp (pi_range2 hg hm ha hs hs2) fun σ H Q t => ?_
  obtain ⟨G, F, ι, ρ, h, R, S, D⟩ := t
  refine ⟨G, F, ι, ρ, h, R, S, ?_⟩
  unfold mRng2 at D
  cases ea : ms ρ h with
  | no => rw [ea] at D; exact D
  | er c => rw [ea] at D; exact D
  | ok v h1 =>
    rw [ea] at D
    intro F1 ι1 H1 x R1 E1 l1 V1
    have V1' : Paired (RV (cst X W) ι1 F1 h1.length) x v := V1
    simp only [bind_ok] at D
    split at D
    · split at D
      · rename_i hh
        rw [Bool.and_eq_true] at hh
        obtain ⟨b1, b2⟩ := smallI_ok hh.1
        obtain ⟨b3, b4⟩ := smallI_ok hh.2
        cases V1' with
        | cons z r =>
          cases r with
          | cons z2 r =>
            cases r
            cases z with
            | im z =>
              cases z
              cases z2 with
              | im z2 => cases z2; exact ⟨_, _, rfl, ⟨b1, b2, b3, b4⟩, fin_src D R1 E1 l1 srcRng⟩
      · exact D.elim
    · exact D.elim
theorem ji_enum (hg : Gl X "enumerate") (hm : X.mg "enumerate" = none) (ha : JA X W [e] ms) (hs : starEach [e] X.env = [(false, eval e X.env)] := by rfl) : JI X W (.Tuple elts kk tpos) (.Call (.Name "enumerate" p) [e] [] pos) (mEnum ms) := by
  refine PI.imp (pi_enumA hg hm ha hs) fun σ H Q t => ?_
  obtain ⟨G, F, ι, ρ, h, R, S, D⟩ := t
  refine ⟨G, F, ι, ρ, h, R, S, ?_⟩
  unfold mEnum at D
  cases ea : ms ρ h with
  | no => rw [ea] at D; exact D
  | er c => rw [ea] at D; exact D
  | ok v h1 =>
    rw [ea] at D
    intro F1 ι1 H1 x R1 E1 l1 V1
    have V1' : Paired (RV (cst X W) ι1 F1 h1.length) x v := V1
    simp only [bind_ok] at D
    split at D
    · rename_i v
      cases ed : datOf h.length v h1 with
      | none => rw [ed] at D; exact D.elim
      | some q =>
        obtain ⟨d, h2⟩ := q
        rw [ed] at D
        cases V1' with
        | cons z r =>
          cases r
          obtain ⟨a, F', rfl, R', E', l', dr, hw, hst, _⟩ := datOf_ok R1 z ed
          have l2 : h.length ≤ h2.length := by rw [l']; exact l1
          have hk := trunc_len (h := h2) l2
          obtain ⟨xs, hs', hds⟩ := dr F' ι1 h2 H1 R' (fun _ _ q => q) (fun _ _ => rfl) hst
          have ok := srcEnum (k := (trunc h.length h2).length) dr fun p hp => Nat.lt_of_lt_of_le (hw p hp) hk
          have fin := fin_src D R' (E1.trans E' l1) l2 ok
          refine ⟨a, xs, rfl, ?_⟩
          by_cases ht : d.tup = true
          · rw [if_pos ht] at hs' fin; rw [← dp_len hds] at fin; exact .inr ⟨hs', fin⟩
          · rw [if_neg ht] at hs' fin; exact .inl ⟨hs', fin⟩
    · exact D.elim
theorem ji_zip (hg : Gl X "zip") (hm : X.mg "zip" = none) (ha : JA X W [e, e'] ms) (hs : starEach [e, e'] X.env = (false, eval e X.env) :: starEach [e'] X.env := by rfl) (hpl : (backTo pos (starEach [e'] X.env)).any (·.1) = false := by rfl) :
    JI X W (.Tuple elts kk tpos) (.Call (.Name "zip" p) [e, e'] [] pos) (mZip ms) := by
  refine PI.imp (RZ.pi_zipA hg hm ha hs hpl) fun σ H Q t => ?_
  obtain ⟨G, F, ι, ρ, h, R, S, D⟩ := t
  refine ⟨G, F, ι, ρ, h, R, S, ?_⟩
  unfold mZip at D
  cases ea : ms ρ h with
  | no => rw [ea] at D; exact D
  | er c => rw [ea] at D; exact D
  | ok v h1 =>
    rw [ea] at D
    intro F1 ι1 H1 x R1 E1 l1 V1
    have V1' : Paired (RV (cst X W) ι1 F1 h1.length) x v := V1
    simp only [bind_ok] at D
    split at D
    · rename_i v u
      cases ed : datOf h.length v h1 with
      | none => rw [ed] at D; exact D.elim
      | some q =>
        obtain ⟨d, h2⟩ := q
        rw [ed] at D
        simp only at D
        cases ee : datOf h.length u h2 with
        | none => rw [ee] at D; exact D.elim
        | some q2 =>
          obtain ⟨e2, h3⟩ := q2
          rw [ee] at D
          simp only at D
          split at D
          · rename_i hte
            cases V1' with
            | cons z r =>
              cases r with
              | cons z2 r =>
                cases r
                obtain ⟨a, F', rfl, R', E', l', dr, hw, hst, _⟩ := datOf_ok R1 z ed
                obtain ⟨b, F3, rfl, R3, E3, l3, dr3, hw3, hst3, hk3⟩ := datOf_ok R' (by rw [l']; exact z2.mono E'.le (fun _ _ => rfl) (Nat.le_refl _)) ee
                have l4 : h.length ≤ h3.length := by rw [l3, l']; exact l1
                have hk := trunc_len (h := h3) l4
                have dr' : DatR (cst X W) G F3 ι1 a d := fun F5 ι5 h5 H5 R5 le ag ok => dr F5 ι5 h5 H5 R5 (fun b o q => le b o (E3.le b o q)) ag ok
                obtain ⟨xs, hs', _⟩ := dr' F3 ι1 h3 H1 R3 (fun _ _ q => q) (fun _ _ => rfl) (fun p hp => by rw [hk3 _ (hw p hp)]; exact hst p hp)
                obtain ⟨ys, hs'', _⟩ := dr3 F3 ι1 h3 H1 R3 (fun _ _ q => q) (fun _ _ => rfl) hst3
                have ok := srcZip (k := (trunc h.length h3).length) dr' dr3 (fun p hp => Nat.lt_of_lt_of_le (hw p hp) hk) (fun p hp => Nat.lt_of_lt_of_le (hw3 p hp) hk) hte
                have fin := fin_src D R3 ((E1.trans E' l1).trans E3 (by rw [l']; exact l1)) l4 ok
                refine ⟨a, b, xs, ys, rfl, ?_⟩
                by_cases ht : d.tup = true
                · rw [if_pos ht] at hs' fin; rw [if_pos (hte ▸ ht)] at hs''; exact .inr ⟨hs', hs'', fin⟩
                · rw [if_neg ht] at hs' fin; rw [if_neg (hte ▸ ht)] at hs''; exact .inl ⟨hs', hs'', fin⟩
          · exact D.elim
    · exact D.elim
end
end NT

set_option Elab.async false
set_option linter.all false
set_option maxRecDepth 100000
set_option autoImplicit false

namespace NT
open PySem PySem.Spec PyProof.Rows L2 PySem.W

/-! ### calls of what is built in, by values -/
def eB (ms : M (List Val)) (f : List Val → Hs → Res Val) : Ev := fun ρ h => (ms ρ h).bind f
def eM (ty : Val → Hs → Bool) (mo : Ev) (ms : M (List Val)) (f : Val → List Val → Hs → Res Val) : Ev := fun ρ h => (mo ρ h).bind fun v h1 => if ty v h1 = true then (ms ρ h1).bind fun vs h2 => f v vs h2 else .no
def lstOf (h : Hs) : Val → Option (List Val)
  | .im (.list ds) => some (ds.map .im)
  | .ref k => match h[k]? with
    | some (.lst vs) => some vs
    | some (.fz (.list ds)) => some (ds.map .im)
    | _ => none
  | _ => none
def isL (v : Val) (h : Hs) : Bool := (lstOf h v).isSome
def isS (v : Val) (_ : Hs) : Bool := match v with
  | .im (.str _) => true
  | _ => false
section
variable {X : Cx} {W : WK} {G F : Hp} {ι : Nat → Addr} {h : Hs} {H : Hp} {x : Str} {p pos : Pos} {e o : Expr} {es : List Expr} {ms : M (List Val)} {mo : Ev} {id T : String} {f : List Val → Hs → Res Val} {g : Val → List Val → Hs → Res Val}
theorem Rel.lsts {C : Cst} {F : Hp} (R : Rel C G F ι h H) {x : V} {v : Val} {vs : List Val} (z : RV C ι F h.length x v) (e : lstOf h v = some vs) : ∃ a xs, x = .ref a ∧ SqL C.K H a xs ∧ Paired (RV C ι F h.length) xs vs := by
  unfold lstOf at e
  split at e
  · cases e
    cases z with
    | im z => cases z with | lst s p => exact ⟨_, _, rfl, seqF R.f s, rvs_of p⟩
  · rename_i k
    cases z with
    | ref hk =>
      split at e
      · rename_i vs' hc
        cases e
        obtain ⟨xs, hH, p⟩ := R.cell k _ hc
        exact ⟨_, xs, rfl, SqL.of hH, p⟩
      · rename_i ds hc
        cases e
        have r := R.cell k _ hc
        cases r with | lst s p => exact ⟨_, _, rfl, seqF R.f s, rvs_of p⟩
      · cases e
  · cases e
theorem call_r {C : Cst} {σ : L2.St} {Q : VK} (t : tOf (repV C) C W (eB ms f) σ H Q) : tCB (rOfL C W f) (tOf (repL C) C W ms) σ H Q := by
  obtain ⟨G, F, ι, ρ, h, R, S, D⟩ := t
  exact st1 R S D fun F1 ι1 h1 H1 x v R1 E1 l1 V1 D1 => ⟨G, F1, ι1, h1, v, R1, V1, D1⟩
theorem je_callB (hc : CallR X (.builtin id) (rOfL (cst X W) W f)) (hg : Gl X x) (hm : X.mg x = none) (ha : JA X W (e :: es) ms) (hv : bootBuiltins x = some (.builtin id) := by decide +kernel) (hn : x ≠ "__name__" := by decide) (hdb : (x == ("__debug__" : Str)) = false := by decide)
    (he : starEach (e :: es) X.env = (false, eval e X.env) :: starEach es X.env := by rfl) (hpl : (backTo pos (starEach es X.env)).any (·.1) = false := by rfl) : JE X W (.Call (.Name x p) (e :: es) [] pos) (eB ms f) :=
  PE.imp (pe_callB hc hg hm hv ha hn hdb he hpl) fun _ _ _ t => call_r t
theorem je_callTy (hc : CallR X (.type T) (rOfL (cst X W) W f)) (hg : Gl X x) (hm : X.mg x = none) (ha : JA X W (e :: es) ms) (hv : bootBuiltins x = some (.type T) := by decide +kernel) (hn : x ≠ "__name__" := by decide) (hdb : (x == ("__debug__" : Str)) = false := by decide)
    (he : starEach (e :: es) X.env = (false, eval e X.env) :: starEach es X.env := by rfl) (hpl : (backTo pos (starEach es X.env)).any (·.1) = false := by rfl) : JE X W (.Call (.Name x p) (e :: es) [] pos) (eB ms f) :=
  PE.imp (pe_callTy hc hg hm hv ha hn hdb he hpl) fun _ _ _ t => call_r t
theorem isL_ty {C : Cst} {F : Hp} (R : Rel C G F ι h H) {y : V} {v : Val} (V : RV C ι F h.length y v) (e : isL v h = true) : tyV C.K "list" y H := by
  obtain ⟨vs, e⟩ := Option.isSome_iff_exists.mp e
  obtain ⟨a, xs, rfl, s, _⟩ := R.lsts V e
  exact .inl ⟨rfl, xs, s⟩
theorem isS_ty {C : Cst} {F : Hp} (R : Rel C G F ι h H) {y : V} {v : Val} (V : RV C ι F h.length y v) (e : isS v h = true) : tyV C.K "str" y H := by
  unfold isS at e
  split at e
  · cases V with | im z => cases z; exact rfl
  · cases e
theorem meth_r {C : Cst} {σ : L2.St} {Q : VK} {ty : Val → Hs → Bool} (hty : ∀ {F : Hp} {ι : Nat → Addr} {h : Hs} {H : Hp} {y : V} {v : Val}, Rel C G F ι h H → RV C ι F h.length y v → ty v h = true → tyV C.K T y H) {F : Hp} {ρ : En} {h : Hs} (R : Rel C G F ι h H) (S : SR C ι F h.length σ ρ)
    (D : Done (repV C) C W G F ι h.length (eM ty mo ms g ρ h) Q) : tBM C.K T (rOfM C W g) (tOf (repV C) C W mo) (tOf (repL C) C W ms) σ H Q := by
  refine st1 R S D fun F1 ι1 h1 H1 y v R1 E1 l1 V1 D1 => ?_
  split at D1
  · rename_i hh
    refine ⟨hty R1 V1 hh, ?_⟩
    refine st1 R1 (S.mono E1.le E1.ag l1) D1 fun F2 ι2 h2 H2 xs vs R2 E2 l2 V2 D2 => ⟨G, F2, ι2, h2, v, vs, R2, V1.mono E2.le E2.ag l2, V2, D2⟩
  · exact D1.elim
theorem meth_r0 {C : Cst} {σ : L2.St} {Q : VK} {ty : Val → Hs → Bool} (hty : ∀ {F : Hp} {ι : Nat → Addr} {h : Hs} {H : Hp} {y : V} {v : Val}, Rel C G F ι h H → RV C ι F h.length y v → ty v h = true → tyV C.K T y H) {F : Hp} {ρ : En} {h : Hs} (R : Rel C G F ι h H) (S : SR C ι F h.length σ ρ)
    (D : Done (repV C) C W G F ι h.length (eM ty mo mNil g ρ h) Q) : tBM0 C.K T (rOfM C W g) (tOf (repV C) C W mo) σ H Q := by
  refine st1 R S D fun F1 ι1 h1 H1 y v R1 E1 l1 V1 D1 => ?_
  split at D1
  · rename_i hh
    exact ⟨hty R1 V1 hh, G, F1, ι1, h1, v, [], R1, V1, .nil, D1⟩
  · exact D1.elim
section
variable {name : Str} {apos cpos : Pos}
theorem je_meth {ty : Val → Hs → Bool} (hty : ∀ {G F : Hp} {ι : Nat → Addr} {h : Hs} {H : Hp} {y : V} {v : Val}, Rel (cst X W) G F ι h H → RV (cst X W) ι F h.length y v → ty v h = true → tyV X.K T y H)
    (hp : PE X (.Call (.Attribute o name apos) (e :: es) [] cpos) (tBM X.K T (rOfM (cst X W) W g) (tOf (repV (cst X W)) (cst X W) W mo) (tOf (repL (cst X W)) (cst X W) W ms))) :
    JE X W (.Call (.Attribute o name apos) (e :: es) [] cpos) (eM ty mo ms g) :=
  PE.imp hp fun σ H Q ⟨G, F, ι, ρ, h, R, S, D⟩ => meth_r hty R S D
theorem je_meth0 {ty : Val → Hs → Bool} (hty : ∀ {G F : Hp} {ι : Nat → Addr} {h : Hs} {H : Hp} {y : V} {v : Val}, Rel (cst X W) G F ι h H → RV (cst X W) ι F h.length y v → ty v h = true → tyV X.K T y H)
    (hp : PE X (.Call (.Attribute o name apos) [] [] cpos) (tBM0 X.K T (rOfM (cst X W) W g) (tOf (repV (cst X W)) (cst X W) W mo))) :
    JE X W (.Call (.Attribute o name apos) [] [] cpos) (eM ty mo mNil g) :=
  PE.imp hp fun σ H Q ⟨G, F, ι, ρ, h, R, S, D⟩ => meth_r0 hty R S D
end
theorem MtR.imp {r r' : V → List V → Hp → VK → Prop} (p : MtR X id r) (k : ∀ x xs H Q, r' x xs H Q → r x xs H Q) : MtR X id r' := fun pins s σ H x xs v us Q I rx rs q => p pins s σ H x xs v us Q I rx rs (k _ _ _ _ q)
end

/-! ### list's methods -/
def mAppend (v : Val) (us : List Val) (h : Hs) : Res Val := match v, us with
  | .ref k, [u] => match h[k]? with
    | some (.lst vs) => if vs.length < 16777216 then .ok (.im .none) (h.set k (.lst (vs ++ [u]))) else .no
    | _ => .no
  | _, _ => .no
def mExtend (v : Val) (us : List Val) (h : Hs) : Res Val := match v, us with
  | .ref k, [.ref j] => match h[k]?, h[j]? with
    | some (.lst vs), some (.lst ws) => if vs.length + ws.length ≤ 16777216 then .ok (.im .none) (h.set k (.lst (vs ++ ws))) else .no
    | _, _ => .no
  | _, _ => .no
def mPop (v : Val) (us : List Val) (h : Hs) : Res Val := match v, us with
  | .ref k, [] => match h[k]? with
    | some (.lst vs) => match vs[vs.length - 1]? with
      | some u => .ok u (h.set k (.lst vs.dropLast))
      | none => .no
    | _ => .no
  | _, _ => .no
def mPopAt (v : Val) (us : List Val) (h : Hs) : Res Val := match v, us with
  | .ref k, [.im (.int i)] => match h[k]? with
    | some (.lst vs) => if 0 ≤ i ∧ i < 16777216 then (match vs[i.toNat]? with
      | some u => .ok u (h.set k (.lst (vs.eraseIdx i.toNat)))
      | none => .no) else .no
    | _ => .no
  | _, _ => .no
def mClear (v : Val) (us : List Val) (h : Hs) : Res Val := match v, us with
  | .ref k, [] => match h[k]? with
    | some (.lst _) => .ok (.im .none) (h.set k (.lst []))
    | _ => .no
  | _, _ => .no
def mInsert (v : Val) (us : List Val) (h : Hs) : Res Val := match v, us with
  | .ref k, [.im (.int i), u] => match h[k]? with
    | some (.lst vs) => if vs.length < 16777216 ∧ 0 ≤ i ∧ i < 16777216 then .ok (.im .none) (h.set k (.lst (vs.take i.toNat ++ [u] ++ vs.drop i.toNat))) else .no
    | _ => .no
  | _, _ => .no
def intsOf : List Val → Option (List Int)
  | [] => some []
  | .im (.int i) :: r => (intsOf r).map (i :: ·)
  | _ :: _ => none
def mRemove (v : Val) (us : List Val) (h : Hs) : Res Val := match v, us with
  | .ref k, [.im (.int i)] => match h[k]? with
    | some (.lst vs) => match intsOf vs with
      | some ns => if i ∈ ns then .ok (.im .none) (h.set k (.lst ((ns.erase i).map fun i => .im (.int i)))) else .no
      | none => .no
    | _ => .no
  | _, _ => .no
section
variable {X : Cx} {W : WK}
theorem ints_of : ∀ {vs : List Val} {ns : List Int}, intsOf vs = some ns → vs = ns.map fun i => .im (.int i)
  | [], _, e => by cases e; rfl
  | .im (.int i) :: r, ns, e => by
    unfold intsOf at e
    cases e1 : intsOf r with
    | none => rw [e1] at e; cases e
    | some l => rw [e1] at e; cases e; rw [ints_of e1]; rfl
  | .im .none :: _, _, e => by cases e
  | .im (.bool _) :: _, _, e => by cases e
  | .im (.str _) :: _, _, e => by cases e
  | .im (.list _) :: _, _, e => by cases e
  | .im (.tuple _) :: _, _, e => by cases e
  | .im (.dict _) :: _, _, e => by cases e
  | .ref _ :: _, _, e => by cases e
@[simp] theorem intsOf_map : ∀ ns : List Int, intsOf (ns.map fun i => .im (.int i)) = some ns
  | [] => rfl
  | n :: ns => by simp [intsOf, intsOf_map ns]
theorem int_vs {C : Cst} {ι : Nat → Addr} {F : Hp} {n : Nat} : ∀ {xs : List V} {ns : List Int}, Paired (RV C ι F n) xs (ns.map fun i => .im (.int i)) → xs = ns.map V.int
  | _, [], r => by cases r; rfl
  | _, i :: ns, r => by
    cases r with
    | cons a b => cases a with | im z => cases z; rw [int_vs b]; rfl
theorem vs_int {C : Cst} {ι : Nat → Addr} {F : Hp} {n : Nat} : ∀ (ns : List Int), Paired (RV C ι F n) (ns.map V.int) (ns.map fun i => .im (.int i))
  | [] => .nil
  | i :: ns => .cons (.im (.int i)) (vs_int ns)
theorem Paired.dropLast' {α β : Type} {R : α → β → Prop} : ∀ {xs : List α} {ys : List β}, Paired R xs ys → Paired R xs.dropLast ys.dropLast
  | _, _, .nil => .nil
  | _, _, .cons _ .nil => .nil
  | _, _, .cons a (.cons b c) => .cons a (Paired.dropLast' (.cons b c))
theorem Paired.erase' {α β : Type} {R : α → β → Prop} : ∀ {xs : List α} {ys : List β} (i : Nat), Paired R xs ys → Paired R (xs.eraseIdx i) (ys.eraseIdx i)
  | _, _, _, .nil => .nil
  | _, _, 0, .cons _ t => t
  | _, _, i + 1, .cons a t => .cons a (Paired.erase' i t)
theorem o_append : MtR X "list.append" (rOfM (cst X W) W mAppend) := MtR.imp mt_append fun x xs H Q t => by
  obtain ⟨G, F, ι, h, u, v, R, V1, V2, D⟩ := t
  unfold mAppend at D
  split at D
  · split at D
    · rename_i k w vs hc
      split at D
      · rename_i hz
        obtain ⟨ys, hH, P⟩ := R.at_lst hc
        cases V1 with
        | ref hk =>
          cases V2 with
          | cons a b =>
            cases b
            exact ⟨_, ys, _, rfl, rfl, hH, by rw [SZ_eq, Paired.length P]; exact hz, fin_setL R hc D (Paired.app P (.cons a .nil)) .non⟩
      · exact D.elim
    · exact D.elim
  · exact D.elim
theorem o_extend : MtR X "list.extend" (rOfM (cst X W) W mExtend) := MtR.imp mt_extend fun x xs H Q t => by
  obtain ⟨G, F, ι, h, u, v, R, V1, V2, D⟩ := t
  unfold mExtend at D
  split at D
  · split at D
    · rename_i k j vs ws hc hd
      split at D
      · rename_i hz
        obtain ⟨ys, hH, P⟩ := R.at_lst hc
        obtain ⟨zs, hH2, P2⟩ := R.at_lst hd
        cases V1 with
        | ref hk =>
          cases V2 with
          | cons a b =>
            cases b
            cases a with
            | ref hj => exact ⟨_, _, ys, zs, rfl, rfl, hH, hH2, by rw [SZ_eq, Paired.length P, Paired.length P2]; exact hz, fin_setL R hc D (Paired.app P P2) .non⟩
      · exact D.elim
    · exact D.elim
  · exact D.elim
theorem fin_setV {C : Cst} {G F : Hp} {ι : Nat → Addr} {h : Hs} {H : Hp} {Q : VK} (R : Rel C G F ι h H) {k : Nat} {us vs : List Val} {xs : List V} {w : Val} {x : V} (e0 : h[k]? = some (.lst us)) (D : Done (repV C) C W G F ι h.length (.ok w (h.set k (.lst vs))) Q) (V : Paired (RV C ι F h.length) xs vs) (z : RV C ι F h.length x w) : Q x (upd H (ι k) (.lst xs)) :=
  D F ι _ _ (R.setL e0 V) Ext.refl (by simp) (by rw [List.length_set]; exact z)
theorem o_pop : MtR X "list.pop" (rOfM (cst X W) W mPop) := MtR.imp mt_pop fun x xs H Q t => by
  obtain ⟨G, F, ι, h, u, v, R, V1, V2, D⟩ := t
  unfold mPop at D
  split at D
  · split at D
    · rename_i k vs hc
      split at D
      · rename_i u hu
        obtain ⟨ys, hH, P⟩ := R.at_lst hc
        obtain ⟨y, hy, ry⟩ := paired_get' P hu
        cases V1 with
        | ref hk =>
          cases V2
          exact ⟨_, ys, y, rfl, rfl, hH, by rw [Paired.length P]; exact hy, fin_setV R hc D (Paired.dropLast' P) ry⟩
      · exact D.elim
    · exact D.elim
  · exact D.elim
theorem o_popAt : MtR X "list.pop" (rOfM (cst X W) W mPopAt) := MtR.imp mt_popAt fun x xs H Q t => by
  obtain ⟨G, F, ι, h, u, v, R, V1, V2, D⟩ := t
  unfold mPopAt at D
  split at D
  · rename_i k i
    split at D
    · rename_i w vs hc
      split at D
      · rename_i hi
        split at D
        · rename_i u hu
          obtain ⟨ys, hH, P⟩ := R.at_lst hc
          obtain ⟨y, hy, ry⟩ := paired_get' P hu
          cases V1 with
          | ref hk =>
            cases V2 with
            | cons a b =>
              cases b
              cases a with
              | im z =>
                cases z
                have hl := (List.getElem?_eq_some_iff.mp hy).1
                exact ⟨_, ys, i, i.toNat, y, rfl, rfl, hH, by omega, by omega, seqIndex_of hi.1 (by omega), hy, fin_setV R hc D (Paired.erase' _ P) ry⟩
        · exact D.elim
      · exact D.elim
    · exact D.elim
  · exact D.elim
theorem o_clear : MtR X "list.clear" (rOfM (cst X W) W mClear) := MtR.imp mt_clear fun x xs H Q t => by
  obtain ⟨G, F, ι, h, u, v, R, V1, V2, D⟩ := t
  unfold mClear at D
  split at D
  · split at D
    · rename_i k vs hc
      obtain ⟨ys, hH, P⟩ := R.at_lst hc
      cases V1 with
      | ref hk =>
        cases V2
        exact ⟨_, ys, rfl, rfl, hH, fin_setL R hc D .nil .non⟩
    · exact D.elim
  · exact D.elim
theorem o_insert : MtR X "list.insert" (rOfM (cst X W) W mInsert) := MtR.imp mt_insert fun x xs H Q t => by
  obtain ⟨G, F, ι, h, u, v, R, V1, V2, D⟩ := t
  unfold mInsert at D
  split at D
  · rename_i k i u'
    split at D
    · rename_i w vs hc
      split at D
      · rename_i hi
        obtain ⟨ys, hH, P⟩ := R.at_lst hc
        cases V1 with
        | ref hk =>
          cases V2 with
          | cons a b =>
            cases a with
            | im z =>
              cases z
              cases b with
              | cons a b =>
                cases b
                exact ⟨_, ys, i, _, rfl, rfl, hH, by rw [SZ_eq, Paired.length P]; exact hi.1, hi.2.1, by omega, fin_setL R hc D (Paired.app (Paired.app (paired_take _ P) (.cons a .nil)) (paired_drop _ P)) .non⟩
      · exact D.elim
    · exact D.elim
  · exact D.elim
theorem erase_at : ∀ (ns : List Int) (i : Int), i ∈ ns → ∃ j, ns[j]? = some i ∧ (∀ m, m < j → ns[m]? ≠ some i) ∧ ns.erase i = ns.eraseIdx j
  | [], _, h => by cases h
  | n :: ns, i, h => by
    by_cases e : n = i
    · exact ⟨0, by simp [e], fun m hm => by omega, by simp [e]⟩
    · obtain ⟨j, h1, h2, h3⟩ := erase_at ns i ((List.mem_cons.mp h).resolve_left fun z => e z.symm)
      refine ⟨j + 1, by simpa using h1, fun m hm => ?_, ?_⟩
      · cases m with
        | zero => simpa using e
        | succ m => simpa using h2 m (by omega)
      · rw [List.erase_cons_tail (by simpa using e), h3]; rfl
theorem o_remove : MtR X "list.remove" (rOfM (cst X W) W mRemove) := MtR.imp mt_remove fun x xs H Q t => by
  obtain ⟨G, F, ι, h, u, v, R, V1, V2, D⟩ := t
  unfold mRemove at D
  split at D
  · rename_i k i
    split at D
    · rename_i w vs hc
      split at D
      · rename_i ns hn
        split at D
        · rename_i hi
          obtain ⟨ys, hH, P⟩ := R.at_lst hc
          rw [ints_of hn] at P
          rw [int_vs P] at hH
          obtain ⟨j, j1, j2, j3⟩ := erase_at ns i hi
          cases V1 with
          | ref hk =>
            cases V2 with
            | cons a b =>
              cases b
              cases a with
              | im z =>
                cases z
                rw [j3] at D
                exact ⟨_, ns, i, j, rfl, rfl, hH, j1, j2, fin_setL R hc D (vs_int _) .non⟩
        · exact D.elim
      · exact D.elim
    · exact D.elim
  · exact D.elim
variable {o a : Expr} {mo ma : Ev} {es : List Expr} {ms : M (List Val)}
end
end NT

set_option Elab.async false
set_option linter.all false
set_option maxRecDepth 100000
set_option autoImplicit false

namespace NT
open PySem PySem.Spec PyProof.Rows L2 PySem.W

/-! ### functions that are built in -/
def fLen (us : List Val) (h : Hs) : Res Val := match us with
  | [.im (.str x)] => if x.length ≤ 16777216 then .ok (.im (.int x.length)) h else .no
  | [v] => match itemsOf h v with
    | some vs => .ok (.im (.int vs.length)) h
    | none => .no
  | _ => .no
def fMax2 (us : List Val) (h : Hs) : Res Val := match us with
  | [.im (.int i), .im (.int j)] => .ok (.im (.int (if j > i then j else i))) h
  | _ => .no
def fMin2 (us : List Val) (h : Hs) : Res Val := match us with
  | [.im (.int i), .im (.int j)] => .ok (.im (.int (if j < i then j else i))) h
  | _ => .no
def fAbs (us : List Val) (h : Hs) : Res Val := match us with
  | [.im (.int i)] => .ok (.im (.int (if i < 0 then -i else i))) h
  | _ => .no
def fInt (us : List Val) (h : Hs) : Res Val := match us with
  | [.im (.int i)] => .ok (.im (.int i)) h
  | [.im (.bool k)] => .ok (.im (.int (if k then 1 else 0))) h
  | _ => .no
def fTuple (us : List Val) (h : Hs) : Res Val := match us with
  | [.im (.tuple ds)] => .ok (.im (.tuple ds)) h
  | [v] => match lstOf h v with
    | some vs => match frzL vs h with
      | some (ds, h1) => .ok (.im (.tuple ds)) h1
      | none => .no
    | none => .no
  | _ => .no
def alikeB (ds : List PyData) : Bool := ds.all fun d => ds.all fun e => alike d e
def sortB (ds : List PyData) : Bool := (ds.all fun d => match d with | .tuple (_ :: _) => true | _ => false) || ds.all fun d => match d with | .none => false | .tuple _ => false | _ => true
def srt (ds : List PyData) : List PyData := ds.mergeSort (dataLe false id)
def fSorted (us : List Val) (h : Hs) : Res Val := match us with
  | [v] => match lstOf h v with
    | some vs => match imsOf vs with
      | some ds => if (alikeB ds && sortB ds && ds.all (okD 8)) = true then .ok (.ref h.length) (h ++ [.lst ((srt ds).map .im)]) else .no
      | none => .no
    | none => .no
  | _ => .no
def fRepr (us : List Val) (h : Hs) : Res Val := match us with
  | [v] => match rdD h v with
    | some d => if (okD 8 d && d.showable && decide (d.shown.length ≤ 16777216)) = true then .ok (.im (.str d.shown)) h else .no
    | none => .no
  | _ => .no
def fSum (us : List Val) (h : Hs) : Res Val := match us with
  | [v] => match lstOf h v with
    | some vs => match intsOf vs with
      | some ns => .ok (.im (.int ns.sum)) h
      | none => .no
    | none => .no
  | _ => .no
def boolsOf : List Val → Option (List Bool)
  | [] => some []
  | .im (.bool i) :: r => (boolsOf r).map (i :: ·)
  | _ :: _ => none
def fAll (us : List Val) (h : Hs) : Res Val := match us with
  | [v] => match lstOf h v with
    | some vs => match boolsOf vs with
      | some ns => .ok (.im (.bool (ns.all id))) h
      | none => .no
    | none => .no
  | _ => .no
def vRg1 (v : Val) (h : Hs) : Res Val := match v with
  | .im (.int n) => if n ≤ 16777216 then (if -16777216 ≤ n then .ok (.ref h.length) (h ++ [.lst ((List.range n.toNat).map fun i => .im (.int (i : Nat)))]) else .no) else .no
  | _ => .no
def vMul (v u : Val) (h : Hs) : Res Val := match v, u with
  | .im (.int i), .im (.int j) => if cMul i j = true then .ok (.im (.int (i * j))) h else .no
  | .ref k, .im (.int n) => match h[k]? with
    | some (.lst vs) => if 0 ≤ n ∧ n ≤ 16777216 ∧ vs.length * n.toNat ≤ 16777216 then .ok (.ref h.length) (h ++ [.lst (List.replicate n.toNat vs).flatten]) else .no
    | _ => .no
  | _, _ => .no
section
variable {X : Cx} {W : WK}
theorem o_len : CallR X (.builtin "len") (rOfL (cst X W) W fLen) := CallR.imp call_len fun xs H Q t => by
  obtain ⟨G, F, ι, h, v, R, V, D⟩ := t
  unfold fLen at D
  split at D
  · split at D
    · rename_i hz
      cases V with
      | cons a b =>
        cases b
        cases a with
        | im z => cases z; exact ⟨_, _, rfl, ⟨by rw [SZ_eq]; exact hz, rfl⟩, fin_im R D (.int _)⟩
    · exact D.elim
  · split at D
    · rename_i v _ vs e
      cases V with
      | cons a b =>
        cases b
        obtain ⟨p, ys, rfl, s, P⟩ := R.items a e
        refine ⟨_, ys.length, rfl, ?_, by rw [Paired.length P]; exact fin_im R D (.int _)⟩
        rcases s with s | s
        · exact .inl ⟨ys, s, rfl⟩
        · exact .inr ⟨ys, s, rfl⟩
    · exact D.elim
  · exact D.elim
theorem o_max2 (K : Ctx X W) : CallR X (.builtin "max") (rOfL (cst X W) W fMax2) := CallR.imp (call_max2 K.calm) fun xs H Q t => by
  obtain ⟨G, F, ι, h, v, R, V, D⟩ := t
  unfold fMax2 at D
  split at D
  · cases V with
    | cons a b =>
      cases b with
      | cons b c =>
        cases c
        cases a with
        | im z =>
          cases b with
          | im y => cases z; cases y; exact ⟨_, _, rfl, fin_im R D (.int _)⟩
  · exact D.elim
theorem o_min2 (K : Ctx X W) : CallR X (.builtin "min") (rOfL (cst X W) W fMin2) := CallR.imp (call_min2 K.calm) fun xs H Q t => by
  obtain ⟨G, F, ι, h, v, R, V, D⟩ := t
  unfold fMin2 at D
  split at D
  · cases V with
    | cons a b =>
      cases b with
      | cons b c =>
        cases c
        cases a with
        | im z =>
          cases b with
          | im y => cases z; cases y; exact ⟨_, _, rfl, fin_im R D (.int _)⟩
  · exact D.elim
theorem o_abs : CallR X (.builtin "abs") (rOfL (cst X W) W fAbs) := CallR.imp call_abs fun xs H Q t => by
  obtain ⟨G, F, ι, h, v, R, V, D⟩ := t
  unfold fAbs at D
  split at D
  · cases V with
    | cons a b =>
      cases b
      cases a with
      | im z => cases z; exact ⟨_, rfl, fin_im R D (.int _)⟩
  · exact D.elim
theorem o_int : CallR X (.type "int") (rOfL (cst X W) W fInt) := CallR.imp call_int1 fun xs H Q t => by
  obtain ⟨G, F, ι, h, v, R, V, D⟩ := t
  unfold fInt at D
  split at D
  · cases V with
    | cons a b =>
      cases b
      cases a with
      | im z => cases z; exact .inl ⟨_, rfl, fin_im R D (.int _)⟩
  · cases V with
    | cons a b =>
      cases b
      cases a with
      | im z => cases z; exact .inr ⟨_, rfl, fin_im R D (.int _)⟩
  · exact D.elim
theorem c_tuple : CallR X (.type "tuple") (fun xs H Q => ∃ x, xs = [x] ∧ kTup X.K x H Q) := fun pins s σ H xs us Q I r ⟨x, e, h⟩ => by
  subst e
  obtain ⟨u, rfl, rx⟩ := vals1 r
  exact rl_tuple pins s σ H x u Q I rx h
theorem o_tuple : CallR X (.type "tuple") (rOfL (cst X W) W fTuple) := CallR.imp c_tuple fun xs H Q t => by
  obtain ⟨G, F, ι, h, v, R, V, D⟩ := t
  unfold fTuple at D
  split at D
  · cases V with
    | cons a b =>
      cases b
      cases a with
      | im z =>
        have z' := z
        cases z with
        | tup s p => exact ⟨_, rfl, .inr ⟨_, _, rfl, tupF R.f s, fin_im R D z'⟩⟩
  · split at D
    · rename_i v _ vs e
      split at D
      · rename_i ds h1 ef
        cases V with
        | cons a b =>
          cases b
          obtain ⟨p, ys, rfl, s, P⟩ := R.lsts a e
          obtain ⟨F', R', E', l', Z⟩ := R.frzVs P ef
          refine ⟨_, rfl, .inl ⟨_, ys, rfl, s, fun q hq => ?_⟩⟩
          exact fin_newT R' (l' ▸ Done.mono D E' (Nat.le_refl _)) Z q hq
      · exact D.elim
    · exact D.elim
  · exact D.elim
theorem dp_zip {K : PySem.W.Frag} {F : Hp} : ∀ {xs : List V} {ds : List PyData}, DpAll K F xs ds → ∃ bs : List (V × PyData), xs = bs.map (·.1) ∧ ds = bs.map (·.2) ∧ ∀ b ∈ bs, Dp K F b.1 b.2
  | _, [], r => by cases r; exact ⟨[], rfl, rfl, fun _ h => by cases h⟩
  | _, d :: ds, r => by
    cases r with
    | cons a b =>
      obtain ⟨bs, h1, h2, h3⟩ := dp_zip b
      refine ⟨(_, d) :: bs, by rw [h1]; rfl, by rw [h2]; rfl, fun b hb => ?_⟩
      rcases List.mem_cons.mp hb with rfl | hb
      · exact a
      · exact h3 b hb
theorem dp_unzip {K : PySem.W.Frag} {F : Hp} : ∀ {bs : List (V × PyData)}, (∀ b ∈ bs, Dp K F b.1 b.2) → DpAll K F (bs.map (·.1)) (bs.map (·.2))
  | [], _ => .nil
  | b :: bs, h => .cons (h b List.mem_cons_self) (dp_unzip fun c hc => h c (List.mem_cons_of_mem _ hc))
theorem each_v : ∀ {bs : List (V × PyData)} {us : List Value}, Vals (bs.map (·.1)) us → EachIs (fun u (b : V × PyData) => RelV b.1 u) us bs
  | [], _, r => by cases r; exact .nil
  | b :: bs, _, r => by cases r with | cons a c => exact .cons a (each_v c)
theorem v_each : ∀ {bs : List (V × PyData)} {us : List Value}, EachIs (fun u (b : V × PyData) => RelV b.1 u) us bs → Vals (bs.map (·.1)) us
  | _, _, .nil => .nil
  | _, _, .cons a c => .cons a (v_each c)
theorem each_r {h : Heap} {H : Hp} {K : PySem.W.Frag} (k : ∀ (d : PyData) (v : V) (u : Value), Dp K H v d → RelV v u → ∃ as, Reads h u d as) : ∀ {bs : List (V × PyData)} {us : List Value}, (∀ b ∈ bs, Dp K H b.1 b.2) → EachIs (fun u (b : V × PyData) => RelV b.1 u) us bs → EachIs (fun u b => ∃ as, Reads h u b.2 as) us bs
  | _, _, _, .nil => .nil
  | _, _, z, .cons a c => .cons (k _ _ _ (z _ List.mem_cons_self) a) (each_r k (fun b hb => z b (List.mem_cons_of_mem _ hb)) c)
theorem alike_ok {ds : List PyData} (h : alikeB ds = true) : AllAlike ds := fun d hd e he => List.all_eq_true.mp (List.all_eq_true.mp h d hd) e he
theorem sort_ok {ds : List PyData} (h : sortB ds = true) : PySem.W.Sortable ds := by
  unfold sortB at h
  rw [Bool.or_eq_true] at h
  rcases h with h | h
  · refine .inl fun d hd => ?_
    have := List.all_eq_true.mp h d hd
    split at this
    · exact ⟨_, _, rfl⟩
    · cases this
  · refine .inr fun d hd => ?_
    have := List.all_eq_true.mp h d hd
    constructor
    · rintro rfl; cases this
    · rintro xs rfl; cases this
theorem o_sorted (K : Ctx X W) : CallR X (.builtin "sorted") (rOfL (cst X W) W fSorted) := by
  intro pins s σ H xs us Q I r t
  obtain ⟨G, F, ι, h, v, R, V, D⟩ := t
  unfold fSorted at D
  split at D
  · split at D
    · rename_i v vs e
      split at D
      · rename_i ds ei
        split at D
        · rename_i hh
          simp only [Bool.and_eq_true] at hh
          obtain ⟨⟨h1, h2⟩, h3⟩ := hh
          cases V with
          | cons a b =>
            cases b
            obtain ⟨p, ys, rfl, s', P⟩ := R.lsts a e
            obtain ⟨its, rv, hl, hz⟩ := I.list s'
            rw [ims_of ei] at P
            obtain ⟨bs, rfl, rfl, hb⟩ := dp_zip (dpAll_of P)
            rw [Vals.ref1 r]
            have ev := each_v rv
            refine sorted_data (enc := fun b : V × PyData => b.2) hl.isList ev (each_r (fun d v u => Dp.reads I d v u) (fun b hb' => R.dp (hb b hb')) ev) (alike_ok h1) (sort_ok h2) (by rw [List.length_map] at hz; exact hz) (fun b hb' => ?_) fun out _ eo => ?_
            · have := okD_dep (List.all_eq_true.mp h3 _ (List.mem_map_of_mem hb'))
              have hu := K.hu
              omega
            · have hmap : (bs.mergeSort (dataLe false fun b : V × PyData => b.2)).map (·.2) = srt (bs.map (·.2)) := List.map_mergeSort fun a _ b _ => rfl
              obtain ⟨ep, he'⟩ := PyProof.Rows.sortedAll_at s.heap its out.toArray
              have hlen : ((bs.mergeSort (dataLe false fun b : V × PyData => b.2)).map (·.1)).length ≤ sizeLine := by
                rw [List.length_map, List.length_mergeSort]; rw [List.length_map] at hz; exact hz
              refine ⟨.ref _, upd H (s.heap.objs.size + 1) (.lst ((bs.mergeSort (dataLe false fun b : V × PyData => b.2)).map (·.1))), I.laid (t' := s.toks) (fun _ _ => PyProof.Rows.sortedAll_old) (Nat.le_succ _) ⟨hlen, out, ep, v_each eo, he'⟩, rfl, fin_newL R D ?_ _ (I.hok.fresh (Nat.le_succ _))⟩
              rw [← hmap]
              exact rvs_of (dp_unzip fun b hb' => hb b (List.mem_mergeSort.mp hb'))
        · exact D.elim
      · exact D.elim
    · exact D.elim
  · exact D.elim
theorem o_repr (K : Ctx X W) (hT : W.T.g = true) : CallR X (.builtin "repr") (rOfL (cst X W) W fRepr) := by
  intro pins s σ H xs us Q I r t
  obtain ⟨G, F, ι, h, v, R, V, D⟩ := t
  unfold fRepr at D
  split at D
  · split at D
    · rename_i v d e
      split at D
      · rename_i hh
        simp only [Bool.and_eq_true, decide_eq_true_eq] at hh
        obtain ⟨⟨h1, h2⟩, h3⟩ := hh
        cases V with
        | cons a b =>
          cases b
          obtain ⟨u, rfl, rx⟩ := vals1 r
          have hz : d.shown.length ≤ sizeLine := by rw [SZ_eq]; exact h3
          have fin : ∀ h' t tk, (∀ b o, s.heap.get? b = some o → h'.get? b = some o) → EP X pins σ Q (.str d.shown t) { s with heap := h', toks := tk } := fun h' t tk k => ⟨.str d.shown, H, I.kept k, ⟨t, rfl⟩, fin_im R D (.str _)⟩
          have z := R.rd a e
          obtain ⟨as, rd⟩ := Dp.reads I d _ u z rx
          have hu := K.hu
          have hd := okD_dep h1
          cases u with
          | ref p => exact repr_of_reads' rd h2 (PyData.noDict_hsm (PyData.hasDict_of_canLay d (okD_lay _ _ h1).1)) (K.gd hT) (by omega) (fun _ _ z => z) fin hz
          | int i t =>
            cases rd
            refine PySem.P.repr_of_int (by simpa [PyData.showable] using h2) ?_
            have := fin s.heap s.toks (s.toks + 1) fun _ _ z => z
            simpa only [PyData.shown] using this
          | str x t =>
            cases rd
            simp only [PyData.shown] at hz
            refine PySem.P.repr_of_str ?_ hz
            have := fin s.heap s.toks (s.toks + 1) fun _ _ z => z
            simpa only [PyData.shown] using this
          | bool b =>
            cases rd
            refine PySem.P.repr_of_bool ?_
            have := fin s.heap s.toks (s.toks + 1) fun _ _ z => z
            simpa only [PyData.shown] using this
          | none =>
            cases rd
            refine PySem.P.repr_of_none ?_
            have := fin s.heap s.toks (s.toks + 1) fun _ _ z => z
            simpa only [PyData.shown] using this
          | _ => cases rd
      · exact D.elim
    · exact D.elim
  · exact D.elim
theorem o_sum (K : Ctx X W) : CallR X (.builtin "sum") (rOfL (cst X W) W fSum) := CallR.imp (cr_sum K.calm) fun xs H Q t => by
  obtain ⟨G, F, ι, h, v, R, V, D⟩ := t
  unfold fSum at D
  split at D
  · split at D
    · rename_i v vs e
      split at D
      · rename_i ns ei
        cases V with
        | cons a b =>
          cases b
          obtain ⟨p, ys, rfl, s', P⟩ := R.lsts a e
          rw [ints_of ei] at P
          rw [int_vs P] at s'
          exact ⟨p, ns, rfl, s', fin_im R D (.int _)⟩
      · exact D.elim
    · exact D.elim
  · exact D.elim
theorem bools_of : ∀ {vs : List Val} {ns : List Bool}, boolsOf vs = some ns → vs = ns.map fun i => .im (.bool i)
  | [], _, e => by cases e; rfl
  | .im (.bool i) :: r, ns, e => by
    unfold boolsOf at e
    cases e1 : boolsOf r with
    | none => rw [e1] at e; cases e
    | some l => rw [e1] at e; cases e; rw [bools_of e1]; rfl
  | .im .none :: _, _, e => by cases e
  | .im (.int _) :: _, _, e => by cases e
  | .im (.str _) :: _, _, e => by cases e
  | .im (.list _) :: _, _, e => by cases e
  | .im (.tuple _) :: _, _, e => by cases e
  | .im (.dict _) :: _, _, e => by cases e
  | .ref _ :: _, _, e => by cases e
theorem bool_vs {C : Cst} {ι : Nat → Addr} {F : Hp} {n : Nat} : ∀ {xs : List V} {ns : List Bool}, Paired (RV C ι F n) xs (ns.map fun i => .im (.bool i)) → xs = ns.map V.bl
  | _, [], r => by cases r; rfl
  | _, i :: ns, r => by
    cases r with
    | cons a b => cases a with | im z => cases z; rw [bool_vs b]; rfl
theorem o_all (K : Ctx X W) : CallR X (.builtin "all") (rOfL (cst X W) W fAll) := CallR.imp (cr_all K.calm) fun xs H Q t => by
  obtain ⟨G, F, ι, h, v, R, V, D⟩ := t
  unfold fAll at D
  split at D
  · split at D
    · rename_i v vs e
      split at D
      · rename_i ns ei
        cases V with
        | cons a b =>
          cases b
          obtain ⟨p, ys, rfl, s', P⟩ := R.lsts a e
          rw [bools_of ei] at P
          rw [bool_vs P] at s'
          exact ⟨p, ns, rfl, s', fin_im R D (.bl _)⟩
      · exact D.elim
    · exact D.elim
  · exact D.elim
theorem rg_vs {C : Cst} {ι : Nat → Addr} {F : Hp} {n : Int} {m : Nat} : Paired (RV C ι F m) (rgV 0 n) ((List.range n.toNat).map fun i => .im (.int (i : Nat))) := by
  unfold rgV
  rw [Int.sub_zero]
  generalize List.range n.toNat = l
  induction l with
  | nil => exact .nil
  | cons a l ih =>
    refine .cons ?_ ih
    show RV C ι F m (V.int (0 + (a : Int))) (.im (.int (a : Int)))
    rw [Int.zero_add]
    exact .im (.int _)
theorem je_listRg1 {a : Expr} {ma : Ev} {p p2 pos pos2 : Pos} (K : Ctx X W) (hg : Gl X "list") (hm : X.mg "list" = none) (hg2 : Gl X "range") (hm2 : X.mg "range" = none) (ha : JE X W a ma)
    (na : starEach [a] X.env = (false, eval a X.env) :: starEach [] X.env := by rfl) (na2 : starEach [Expr.Call (.Name "range" p2) [a] [] pos2] X.env = (false, eval (.Call (.Name "range" p2) [a] [] pos2) X.env) :: starEach [] X.env := by rfl) :
    JE X W (.Call (.Name "list" p) [.Call (.Name "range" p2) [a] [] pos2] [] pos) (e1 ma vRg1) := PE.imp (pe_listRg K.calm hg hm (prg_1 hg2 hm2 ha na) na2) fun σ H Q t => by
  obtain ⟨G, F, ι, ρ, h, R, S, D⟩ := t
  refine st1 R S D fun F1 ι1 h1 H1 x v R1 E1 l1 V1 D1 => ?_
  unfold vRg1 at D1
  split at D1
  · split at D1
    · split at D1
      · rename_i n h1 h2
        cases V1 with
        | im z =>
          cases z
          refine ⟨n, rfl, ⟨by omega, by omega, by omega, by omega, by omega⟩, fun q hq => fin_newL R1 D1 rg_vs q hq⟩
      · exact D1.elim
    · exact D1.elim
  · exact D1.elim
theorem paired_rep {α β : Type} {P : α → β → Prop} {xs : List α} {ys : List β} (r : Paired P xs ys) : ∀ n : Nat, Paired P (List.replicate n xs).flatten (List.replicate n ys).flatten
  | 0 => .nil
  | n + 1 => by
    rw [List.replicate_succ, List.replicate_succ, List.flatten_cons, List.flatten_cons]
    exact Paired.app r (paired_rep r n)
theorem OpR.or' {f : Value → Value → Sem Value} {r r' : R2} (h1 : OpR X f r) (h2 : OpR X f r') : OpR X f (fun x y H Q => r x y H Q ∨ r' x y H Q) := fun pins s σ H x y v u Q I rx ry q => q.elim (h1 pins s σ H x y v u Q I rx ry) (h2 pins s σ H x y v u Q I rx ry)
theorem o_mul : OpR X (binaryOp .Mult) (rOf2 (cst X W) W vMul) := OpR.imp (OpR.or' op_mul op_rep) fun x y H Q t => by
  obtain ⟨G, F, ι, h, v, u, R, V1, V2, D⟩ := t
  unfold vMul at D
  split at D
  · split at D
    · rename_i hc
      cases V1 with
      | im z =>
        cases V2 with
        | im y => cases z; cases y; exact .inl ⟨_, _, rfl, rfl, cMul_ok hc, fin_im R D (.int _)⟩
    · exact D.elim
  · rename_i k n
    split at D
    · rename_i w vs hc
      split at D
      · rename_i hh
        obtain ⟨b1, b2, b3⟩ := hh
        obtain ⟨ys, hH, P⟩ := R.at_lst hc
        cases V1 with
        | ref hk =>
          cases V2 with
          | im y =>
            cases y
            exact .inr ⟨_, n, ys, rfl, rfl, hH, by omega, by omega, by rw [SZ_eq, Paired.length P]; exact b3, fun q hq => fin_newL R D (paired_rep P _) q hq⟩
      · exact D.elim
    · exact D.elim
  · exact D.elim
end
end NT

set_option Elab.async false
set_option linter.all false
set_option maxRecDepth 100000
set_option autoImplicit false

namespace NT
open PySem PySem.Spec PyProof.Rows L2 PySem.W

/-! ### sorted(set(xs)), xs a list of pairs of small ints -/
abbrev PI2 := Int × Int
def pairsOf : List Val → Option (List PI2)
  | [] => some []
  | .im (.tuple [.int x, .int y]) :: r => (pairsOf r).map ((x, y) :: ·)
  | _ :: _ => none
def pD (p : PI2) : PyData := .tuple [.int p.1, .int p.2]
def cP (p : PI2) : Int := p.1 * 64 + p.2
def insP (p : PI2) : List PI2 → List PI2
  | [] => [p]
  | q :: r => if cP p < cP q then p :: q :: r else if cP p = cP q then q :: r else q :: insP p r
def sortPs (l : List PI2) : List PI2 := l.foldr insP []
def okP (p : PI2) : Bool := decide (0 ≤ p.1 ∧ p.1 < 64 ∧ 0 ≤ p.2 ∧ p.2 < 64)
def fSortSet (us : List Val) (h : Hs) : Res Val := match us with
  | [v] => match lstOf h v with
    | some vs => match pairsOf vs with
      | some ps => if (decide (ps.length < 64) && ps.all okP) = true then .ok (.ref h.length) (h ++ [.lst ((sortPs ps).map fun p => .im (pD p))]) else .no
      | none => .no
    | none => .no
  | _ => .no
theorem okP_inj {p q : PI2} (hp : okP p = true) (hq : okP q = true) (e : cP p = cP q) : p = q := by
  simp only [okP, decide_eq_true_eq] at hp hq
  unfold cP at e
  refine Prod.ext ?_ ?_ <;> omega
theorem insP_mem {p : PI2} (hp : okP p = true) : ∀ {l : List PI2}, (∀ q ∈ l, okP q = true) → ∀ z, z ∈ insP p l ↔ z = p ∨ z ∈ l
  | [], _, z => by simp [insP]
  | q :: r, h, z => by
    unfold insP
    split
    · simp
    · split
      · rename_i e
        have := okP_inj hp (h q List.mem_cons_self) e
        subst this
        simp
      · rw [List.mem_cons, insP_mem hp (fun q hq => h q (List.mem_cons_of_mem _ hq)) z, List.mem_cons]
        constructor
        · rintro (a | a | a) <;> simp [a]
        · rintro (a | a | a) <;> simp [a]
def Str2 (l : List PI2) : Prop := l.Pairwise fun a b => cP a < cP b
theorem insP_str {p : PI2} (hp : okP p = true) : ∀ {l : List PI2}, (∀ q ∈ l, okP q = true) → Str2 l → Str2 (insP p l)
  | [], _, _ => by simp [insP, Str2]
  | q :: r, h, s => by
    unfold insP
    obtain ⟨s1, s2⟩ := List.pairwise_cons.mp s
    split
    · rename_i hc
      refine List.pairwise_cons.mpr ⟨fun z hz => ?_, s⟩
      rcases List.mem_cons.mp hz with rfl | hz
      · exact hc
      · exact Int.lt_trans hc (s1 z hz)
    · split
      · exact s
      · rename_i h1 h2
        refine List.pairwise_cons.mpr ⟨fun z hz => ?_, insP_str hp (fun q hq => h q (List.mem_cons_of_mem _ hq)) s2⟩
        rcases (insP_mem hp (fun q hq => h q (List.mem_cons_of_mem _ hq)) z).mp hz with rfl | hz
        · omega
        · exact s1 z hz
theorem sortPs_ok : ∀ {l : List PI2}, (∀ q ∈ l, okP q = true) → (∀ z, z ∈ sortPs l ↔ z ∈ l) ∧ Str2 (sortPs l)
  | [], _ => ⟨fun z => Iff.rfl, .nil⟩
  | p :: r, h => by
    obtain ⟨h1, h2⟩ := sortPs_ok (l := r) fun q hq => h q (List.mem_cons_of_mem _ hq)
    have h3 : ∀ q ∈ sortPs r, okP q = true := fun q hq => h q (List.mem_cons_of_mem _ ((h1 q).mp hq))
    refine ⟨fun z => ?_, insP_str (h p List.mem_cons_self) h3 h2⟩
    show z ∈ insP p (sortPs r) ↔ _
    rw [insP_mem (h p List.mem_cons_self) h3, h1, List.mem_cons]
theorem str_eq : ∀ {l m : List PI2}, Str2 l → Str2 m → (∀ z, z ∈ l ↔ z ∈ m) → l = m
  | [], [], _, _, _ => rfl
  | [], b :: m, _, _, h => by have := (h b).mpr List.mem_cons_self; cases this
  | a :: l, [], _, _, h => by have := (h a).mp List.mem_cons_self; cases this
  | a :: l, b :: m, s, t, h => by
    obtain ⟨s1, s2⟩ := List.pairwise_cons.mp s
    obtain ⟨t1, t2⟩ := List.pairwise_cons.mp t
    have e : a = b := by
      rcases List.mem_cons.mp ((h a).mp List.mem_cons_self) with e | e
      · exact e
      · rcases List.mem_cons.mp ((h b).mpr List.mem_cons_self) with e2 | e2
        · exact e2.symm
        · have := t1 a e
          have := s1 b e2
          omega
    subst e
    congr 1
    refine str_eq s2 t2 fun z => ⟨fun hz => ?_, fun hz => ?_⟩
    · rcases List.mem_cons.mp ((h z).mp (List.mem_cons_of_mem _ hz)) with e | e
      · have := s1 z hz; rw [e] at this; omega
      · exact e
    · rcases List.mem_cons.mp ((h z).mpr (List.mem_cons_of_mem _ hz)) with e | e
      · have := t1 z hz; rw [e] at this; omega
      · exact e
section
variable {X : Cx} {W : WK}
theorem pairs_of : ∀ {vs : List Val} {ps : List PI2}, pairsOf vs = some ps → vs = ps.map fun p => .im (pD p)
  | [], _, e => by cases e; rfl
  | v :: r, ps, e => by
    unfold pairsOf at e
    split at e
    · cases e; rename_i h; cases h
    · rename_i x y r' h
      cases h
      cases e1 : pairsOf r with
      | none => rw [e1] at e; cases e
      | some l => rw [e1] at e; cases e; rw [pairs_of e1]; rfl
    · cases e
@[simp] theorem pairsOf_map : ∀ ns : List PI2, pairsOf (ns.map fun p => .im (pD p)) = some ns
  | [] => rfl
  | n :: ns => by simp [pairsOf, pD, pairsOf_map ns] <;> exact pairsOf_map ns
def pL (p : PI2) : List Int := [p.1, p.2]
theorem pairs_ks {C : Cst} {ι : Nat → Addr} {F : Hp} {n : Nat} : ∀ {ps : List PI2} {xs : List V}, Paired (RV C ι F n) xs (ps.map fun p => .im (pD p)) → ∃ ks : List (Addr × List Int), xs = ks.map (fun k => V.ref k.1) ∧ ks.map (·.2) = ps.map pL ∧ ∀ k ∈ ks, SqT C.K F k.1 (k.2.map V.int)
  | [], _, r => by cases r; exact ⟨[], rfl, rfl, fun _ h => by cases h⟩
  | p :: ps, _, r => by
    cases r with
    | cons a b =>
      obtain ⟨ks, h1, h2, h3⟩ := pairs_ks b
      cases a with
      | im z =>
        unfold pD at z
        cases z with
        | @tup ad xs _ s t =>
          cases t with
          | cons t1 t2 =>
            cases t1
            cases t2 with
            | cons t2 t3 =>
              cases t2
              cases t3
              refine ⟨(ad, pL p) :: ks, by rw [h1]; rfl, by simp only [List.map_cons]; rw [h2], fun k hk => ?_⟩
              rcases List.mem_cons.mp hk with rfl | hk
              · exact s
              · exact h3 k hk
theorem dp_ints {K : PySem.W.Frag} {F : Hp} : ∀ ns : List Int, DpAll K F (ns.map V.int) (ns.map PyData.int)
  | [] => .nil
  | n :: ns => .cons (.int n) (dp_ints ns)
theorem dp_ks {K : PySem.W.Frag} {F : Hp} : ∀ {ks : List (Addr × List Int)}, (∀ k ∈ ks, SqT K F k.1 (k.2.map V.int)) → DpAll K F (ks.map fun k => V.ref k.1) (ks.map fun k => .tuple (k.2.map .int))
  | [], _ => .nil
  | k :: ks, h => .cons (.tup (h k List.mem_cons_self) (dp_ints k.2)) (dp_ks fun c hc => h c (List.mem_cons_of_mem _ hc))
theorem pull_ps : ∀ {ls : List (List Int)} {ps : List PI2}, (∀ l ∈ ls, l ∈ ps.map pL) → ∃ qs : List PI2, ls = qs.map pL ∧ ∀ q ∈ qs, q ∈ ps
  | [], _, _ => ⟨[], rfl, fun _ h => by cases h⟩
  | l :: ls, ps, h => by
    obtain ⟨qs, h1, h2⟩ := pull_ps (ls := ls) (ps := ps) fun z hz => h z (List.mem_cons_of_mem _ hz)
    obtain ⟨p, hp, e⟩ := List.mem_map.mp (h l List.mem_cons_self)
    refine ⟨p :: qs, by rw [h1, ← e]; rfl, fun q hq => ?_⟩
    rcases List.mem_cons.mp hq with rfl | hq
    · exact hp
    · exact h2 q hq
theorem pL_inj {p q : PI2} (e : pL p = pL q) : p = q := by
  unfold pL at e
  injection e with e1 e2
  injection e2 with e2
  exact Prod.ext e1 e2
theorem code_pL (p : PI2) : TS.code 64 (pL p) = cP p := L2.code_pair p.1 p.2
theorem je_sortSet {a : Expr} {ms : M (List Val)} {p p2 pos pos2 : Pos} (K : Ctx X W) (hg : Gl X "sorted") (hm : X.mg "sorted" = none) (hg2 : Gl X "set") (hm2 : X.mg "set" = none) (ha : JA X W [a] ms)
    (na : starEach [a] X.env = (false, eval a X.env) :: starEach [] X.env := by rfl) (na2 : starEach [Expr.Call (.Name "set" p2) [a] [] pos2] X.env = (false, eval (.Call (.Name "set" p2) [a] [] pos2) X.env) :: starEach [] X.env := by rfl) :
    JE X W (.Call (.Name "sorted" p) [.Call (.Name "set" p2) [a] [] pos2] [] pos) (eB ms fSortSet) := by
  have hu := K.hu
  refine PE.imp (pe_callB (cr_sortedT K.calm) hg hm (by decide +kernel) (pa_cons (pe_callTy (cr_setOfT K.calm (by omega)) hg2 hm2 (by decide +kernel) ha (he := na)) pa_nil na2) (he := na2)) fun σ H Q t => ?_
  obtain ⟨G, F, ι, ρ, h, R, S, D⟩ := t
  refine st1 R S D fun F1 ι1 h1 H1 xs v R1 E1 l1 V1 D1 => ?_
  have V1' : Paired (RV (cst X W) ι1 F1 h1.length) xs v := V1
  unfold fSortSet at D1
  split at D1
  · split at D1
    · rename_i v vs e
      split at D1
      · rename_i ps ep
        split at D1
        · rename_i hh
          rw [Bool.and_eq_true, decide_eq_true_eq] at hh
          obtain ⟨h64, hok⟩ := hh
          have hok' : ∀ q ∈ ps, okP q = true := List.all_eq_true.mp hok
          cases V1' with
          | cons va vb =>
            cases vb
            obtain ⟨l, ys, rfl, s', P⟩ := R1.lsts va e
            rw [pairs_of ep] at P
            obtain ⟨ks, rfl, k2, k3⟩ := pairs_ks P
            have kl : ks.length = ps.length := by have := congrArg List.length k2; simpa using this
            refine ⟨l, ks, rfl, s', fun k hk => tupF R1.f (k3 k hk), by omega, fun a L ha hL1 hL2 => ?_⟩
            have up : ∀ b o, H1 b = some o → upd H1 a (SetTO X.prog X.w a L) b = some o := fun b o e => by
              rw [upd_ne fun z => by rw [z, ha] at e; cases e]; exact e
            refine ⟨a, L, 2, 64, rfl, upd_same, fun k hk => tupF (fun b o e => up b o (R1.f b o e)) (k3 k (hL1 k hk)), by decide, fun k hk => ?_, fun L' q pm nd l64 pw hq => ?_⟩
            · have : k.2 ∈ ps.map pL := by rw [← k2]; exact List.mem_map_of_mem (hL1 k hk)
              obtain ⟨w, hw, e⟩ := List.mem_map.mp this
              have := hok' w hw
              simp only [okP, decide_eq_true_eq] at this
              rw [← e]
              refine ⟨rfl, fun m hm => ?_⟩
              unfold pL at hm
              rcases List.mem_cons.mp hm with rfl | hm
              · omega
              · rcases List.mem_cons.mp hm with rfl | hm
                · omega
                · cases hm
            · have R2 := R1.newF ha (SetTO X.prog X.w a L) (fun ps z => by unfold SetTO at z; cases z)
              have E2 := Ext.newF R1 ha (SetTO X.prog X.w a L)
              have D2 := Done.mono D1 E2 (Nat.le_refl _)
              have hk' : ∀ k ∈ L', k ∈ ks := fun k hk => hL1 k (pm.mem_iff.mp hk)
              obtain ⟨qs, q1, q2⟩ := pull_ps (ls := L'.map (·.2)) (ps := ps) fun z hz => by
                obtain ⟨k, hk, rfl⟩ := List.mem_map.mp hz
                rw [← k2]; exact List.mem_map_of_mem (hk' k hk)
              have qe : qs = sortPs ps := by
                obtain ⟨s1, s2⟩ := sortPs_ok hok'
                refine str_eq ?_ s2 fun z => ?_
                · have pw' : (L'.map (·.2)).Pairwise fun a b => TS.code 64 a ≤ TS.code 64 b := List.pairwise_map.mpr pw
                  rw [q1] at pw' nd
                  have pw2 := List.pairwise_map.mp pw'
                  have nd2 := List.pairwise_map.mp nd
                  refine (pw2.and nd2).imp_of_mem fun {x y} hx hy z => ?_
                  obtain ⟨z1, z2⟩ := z
                  rw [code_pL, code_pL] at z1
                  rcases Int.lt_or_eq_of_le z1 with z1 | z1
                  · exact z1
                  · exact absurd (congrArg pL (okP_inj (hok' x (q2 x hx)) (hok' y (q2 y hy)) z1)) z2
                · rw [s1]
                  refine ⟨q2 z, fun hz => ?_⟩
                  have : pL z ∈ ks.map (·.2) := by rw [k2]; exact List.mem_map_of_mem hz
                  obtain ⟨k, hk, e⟩ := List.mem_map.mp this
                  have := hL2 k hk
                  rw [e] at this
                  have : pL z ∈ L'.map (·.2) := (pm.map _).mem_iff.mpr this
                  rw [q1] at this
                  obtain ⟨w, hw, e⟩ := List.mem_map.mp this
                  rw [← pL_inj e]; exact hw
              refine fin_newL R2 D2 ?_ q hq
              have z := rvs_of (C := cst X W) (ι := ι1) (n := h1.length) (dp_ks (K := X.K) (F := upd F1 a (SetTO X.prog X.w a L)) (ks := L') fun k hk => tupF E2.le (k3 k (hk' k hk)))
              have e3 : (L'.map fun k => PyData.tuple (k.2.map .int)) = (sortPs ps).map pD := by
                rw [← qe]
                have : (L'.map fun k => PyData.tuple (k.2.map .int)) = (L'.map (·.2)).map fun l => PyData.tuple (l.map .int) := by rw [List.map_map]; rfl
                rw [this, q1, List.map_map]
                rfl
              rw [e3, List.map_map] at z
              exact z
        · exact D1.elim
      · exact D1.elim
    · exact D1.elim
  · exact D1.elim
end

/-! ### stores -/
def sPut (mo mi me : Ev) : SM := fun _ ρ h => match me ρ h with
  | .ok v h1 => (match mo ρ h1 with
    | .ok o h2 => (match mi ρ h2 with
      | .ok i h3 => (match o, i with
        | .ref k, .im (.int i) => (match h3[k]? with
          | some (.lst vs) => (match ixN vs.length i with
            | some j => .nx ρ (trunc h.length (h3.set k (.lst (vs.set j v))))
            | none => .no)
          | _ => .no)
        | _, _ => .no)
      | .er c => .er c
      | .no => .no)
    | .er c => .er c
    | .no => .no)
  | .er c => .er c
  | .no => .no
section
variable {X : Cx} {W : WK} {o i e : Expr} {mo mi me : Ev} {pos pos2 : Pos}
theorem paired_set {α β : Type} {P : α → β → Prop} : ∀ {xs : List α} {ys : List β} {x : α} {y : β} (i : Nat), Paired P xs ys → P x y → Paired P (xs.set i x) (ys.set i y)
  | _, _, _, _, _, .nil, _ => .nil
  | _, _, _, _, 0, .cons a b, z => .cons z b
  | _, _, _, _, i + 1, .cons a b, z => .cons a (paired_set i b z)
theorem js_put (hg : PG X (.Subscript o i pos2) (gSub (tOf (repV (cst X W)) (cst X W) W mo) (tOf (repV (cst X W)) (cst X W) W mi) rSetL)) (he : JE X W e me)
    (hs : swapsWithSole [.Subscript o i pos2] e pos.line X.env = pure false := by rfl) (hw : swappedStores [.Subscript o i pos2] e X.env = pure none := by rfl)
    (h1 : (assignEach [.Subscript o i pos2] X.env).map (·.2) = [assign (.Subscript o i pos2) X.env] := by rfl) : JS X W (.Assign [.Subscript o i pos2] e pos) (sPut mo mi me) := PS.imp (ps_asg he hg hs hw h1) fun D σ H t => by
  obtain ⟨G, F, ι, p, ρ, h, R, S, hp, d⟩ := t
  unfold sPut at d
  refine ⟨G, F, ι, ρ, h, R, S, ?_⟩
  cases e1 : me ρ h with
  | no => rw [e1] at d; exact d
  | er c => rw [e1] at d; exact d
  | ok v h1 =>
    rw [e1] at d
    intro F1 ι1 H1 x R1 E1 l1 V1
    have S1 := S.mono E1.le E1.ag l1
    refine ⟨G, F1, ι1, ρ, h1, R1, S1, ?_⟩
    simp only at d
    cases e2 : mo ρ h1 with
    | no => rw [e2] at d; exact d
    | er c => rw [e2] at d; exact d
    | ok ov h2 =>
      rw [e2] at d
      intro F2 ι2 H2 y R2 E2 l2 V2
      have S2 := S1.mono E2.le E2.ag l2
      refine ⟨G, F2, ι2, ρ, h2, R2, S2, ?_⟩
      simp only at d
      cases e3 : mi ρ h2 with
      | no => rw [e3] at d; exact d
      | er c => rw [e3] at d; exact d
      | ok iv h3 =>
        rw [e3] at d
        intro F3 ι3 H3 z R3 E3 l3 V3
        have S3 := S2.mono E3.le E3.ag l3
        simp only at d
        split at d
        · rename_i k i'
          split at d
          · rename_i vs hc
            split at d
            · rename_i j hj
              obtain ⟨ys, hH, P⟩ := R3.at_lst hc
              have V2' : RV (cst X W) ι2 F2 h2.length y (.ref k) := V2
              have V3' : RV (cst X W) ι3 F3 h3.length z (.im (.int i')) := V3
              have W1 := RV.mono (RV.mono V1 E2.le E2.ag l2) E3.le E3.ag l3
              have W2 := RV.mono V2' E3.le E3.ag l3
              cases W2 with
              | ref hk =>
                cases V3' with
                | im z3 =>
                  cases z3
                  refine ⟨_, ys, i', j, rfl, rfl, hH, by rw [Paired.length P]; exact hj, ?_⟩
                  have R4 := R3.setL (xs := ys.set j x) hc (paired_set j P W1)
                  have ll : h.length ≤ (h3.set k (.lst (vs.set j v))).length := by rw [List.length_set]; omega
                  refine d F3 ι3 _ σ (R4.trunc ll) ((E1.trans (E2.trans E3 l2) l1).down hp) (Nat.le_trans hp (trunc_len ll)) ?_
                  exact S.mono (fun b o e => E3.le _ _ (E2.le _ _ (E1.le _ _ e))) (fun i hi => by rw [E3.ag i (by omega), E2.ag i (by omega), E1.ag i hi]) (trunc_len ll)
            · exact d.elim
          · exact d.elim
        · exact d.elim
end

section
variable {X : Cx}
/-- (a, b, ..) as a target -/
theorem gs_nil : PGs X [] (gNames []) := pgs_nil
theorem gs_cons {e : Expr} {es : List Expr} {i : Nat} {is : List Nat} (h1 : JG X e (.nm i)) (h2 : PGs X es (gNames is)) (hs : (assignEach (e :: es) X.env).map (·.2) = assign e X.env :: (assignEach es X.env).map (·.2) := by rfl) : PGs X (e :: es) (gNames (i :: is)) := pgs_cons h1 h2 hs
theorem jg_tup {W : WK} {es : List Expr} {k : Nat} {is : List Nat} {pos : Pos} (K : Ctx X W) (h : PGs X es (gNames is)) (hn : (assignEach es X.env).length = is.length := by rfl) (hst : (assignEach es X.env).findIdx? (·.1) = none := by rfl) : JG X (.Tuple es k pos) (.tup is) := pg_tup K.calm h hn hst
end
end NT

set_option Elab.async false
set_option linter.all false
set_option maxRecDepth 100000
set_option autoImplicit false

namespace NT
open PySem PySem.Spec PyProof.Rows L2 PySem.W

/-! ### the end: the law's def is called with the script alone -/
structure Scr (P : Program) (w : World) (K : PySem.W.Frag) (h : Heap) (a : Addr) (ns : List Int) (H : Hp) : Prop where
  only : Only H
  seq : SqL K H a (ns.map V.int)
  ok : HOk P w H h
  just : ∀ b, H b ≠ none → b = a
  out : H a ≠ none → K.lookup a = none
open Classical in
theorem scr_of {P : Program} {w : World} {K : PySem.W.Frag} {h : Heap} {a : Addr} {vs : List Value} {ns : List Int} (kin : K.In h) (e : h.get? a = some { cls := .type "list", data := .seq vs.toArray }) (is : IntsAre vs ns) (few : ns.length ≤ sizeLine) : ∃ H, Scr P w K h a ns H := by
  have vals := vals_ints is
  have few' : (ns.map V.int).length ≤ sizeLine := by rw [List.length_map]; exact few
  rcases Option.eq_none_or_eq_some (K.lookup a) with hk | ⟨o, hk⟩
  · let ob : Obj := { cls := .type "list", data := .seq vs.toArray }
    let H : Hp := fun b => if b = a then some (.frz ob (.lst (ns.map V.int))) else none
    have Ha : H a = some (.frz ob (.lst (ns.map V.int))) := if_pos rfl
    have Hb : ∀ {b}, b ≠ a → H b = none := fun hb => if_neg hb
    refine ⟨H, fun b => ?_, .inl (.inr ⟨ob, Ha⟩), fun b u z => ?_, fun b z => ?_, fun _ => hk⟩
    · rcases Classical.em (b = a) with rfl | hb
      · exact .inr ⟨_, _, Ha⟩
      · exact .inl (Hb hb)
    · rcases Classical.em (b = a) with rfl | hb
      · rw [Ha] at z
        cases z
        exact ⟨e, few', vs, _, vals, e⟩
      · rw [Hb hb] at z; cases z
    · rcases Classical.em (b = a) with hb | hb
      · exact hb
      · exact (z (Hb hb)).elim
  · have e' := kin a o hk
    rw [e] at e'
    cases e'
    refine ⟨fun _ => none, fun _ => .inl rfl, .inr ⟨_, vs.toArray, _, hk, rfl, rfl, rfl, ?_, by simpa using vals⟩, (fun _ _ z => by cases z), fun _ z => (z rfl).elim, fun z => (z rfl).elim⟩
    rw [List.size_toArray, is.length]
    exact few
theorem top_call {P : Program} {w : World} {K : PySem.W.Frag} {mg mb : Str → Option Value} {k : Nat} {fa a : Addr} {fd : FuncData} {x : Str} {f : Fn} {s : Shared} {vs : List Value} {ns : List Int}
    (kin : K.In s.heap) (nm : s.heap.Ns mainGlobals mg) (nb : s.heap.Ns builtinsNs mb) (boot : ∀ x : Str, x ≠ "__name__" → mb x = bootBuiltins x) (free : s.heap.NoLimit) (gens : s.gens = #[])
    (e : s.heap.get? a = some { cls := .type "list", data := .seq vs.toArray }) (is : IntsAre vs ns) (few : ns.length ≤ sizeLine) (room : Room k callerA)
    (F : ∀ base : Heap, K.In base → base.Ns mainGlobals mg → Good ⟨[], true⟩ P w K mg base k fa fd [x] f) (bd : ∀ (s : Shared) (u : Value), BindsTo s fd ⟨[u], []⟩ [(x, u)])
    (L : ∃ h', f [.im (.list (ns.map .int))] [] = .ok (.im (.bool true)) h') :
    codeAny (model P w) callerA (.call (.ref fa) ⟨[.ref a], []⟩) (fun r s' => r = .ok (.ret (.bool true)) ∧ OldK s.heap s'.heap ∧ s'.os = s.os ∧ AllBare s'.gens) s := by
  obtain ⟨H, S⟩ := scr_of (P := P) (w := w) kin e is few
  have keepB : ∀ {b : Addr} {o : Obj}, s.heap.get? b = some o → b ≠ a → (hidT s.heap H).get? b = some o := fun {b o} z hb => hidT_get z (by
    rcases Option.eq_none_or_eq_some (H b) with q | ⟨u, q⟩
    · exact q
    · exact (hb (S.just b (by rw [q]; exact fun z => nomatch z))).elim)
  have nsB : ∀ {b : Addr} {m : Str → Option Value}, s.heap.Ns b m → (hidT s.heap H).Ns b m := fun {b m} ⟨o, es, ep, z, d, r⟩ => by
    refine ⟨o, es, ep, keepB z ?_, d, r⟩
    rintro rfl
    rw [e] at z
    cases z
    exact Data.noConfusion d
  have kinB : K.In (hidT s.heap H) := fun b o z => by
    rcases Classical.em (b = a) with rfl | hb
    · refine hidT_get (kin b o z) ?_
      rcases Option.eq_none_or_eq_some (H b) with q | ⟨u, q⟩
      · exact q
      · rw [S.out (by rw [q]; exact fun z => nomatch z)] at z; cases z
    · exact keepB (kin b o z) hb
  have md : Mod K mg (hidT s.heap H) := ⟨kinB, nsB nm, ⟨mb, nsB nb, boot⟩, let ⟨mc, h1, h2⟩ := free; ⟨mc, nsB h1, h2⟩⟩
  have ev : Env0 P w K mg (hidT s.heap H) callerA [] s H := ⟨rfl, md, fun _ _ z => of_hidT z, Nat.le_of_eq (hidT_size _ _), trivial, fun b hb => absurd (show b ∈ ([] : List Addr) from hb) (by simp), S.ok, AllBare.of_eq gens⟩
  obtain ⟨h', eL⟩ := L
  have R : Rel ⟨P, w, K, []⟩ H H (fun _ => 0) [] H := ⟨fun _ _ z => z, fun _ _ z => z, fun _ _ _ _ z => by simp at z, fun _ _ z => by simp at z, fun _ _ z => by simp at z, fun _ _ z => by simp at z, fun _ z => (by cases z), fun b ps z => (by rcases S.only b with q | ⟨_, _, q⟩ <;> rw [q] at z <;> cases z), fun b ps z => (by rcases S.only b with q | ⟨_, _, q⟩ <;> rw [q] at z <;> cases z)⟩
  have sp : spOf 1 ⟨P, w, K, []⟩ mg f [.ref a] H (fun v _ => v = .bl true) (fun _ _ _ => False) := ⟨rfl, H, H, fun _ => 0, [], _, R, .cons (.im (.lst S.seq (dp_ints ns))) .nil, by
    rw [eL]
    intro F' ι' H' y _ _ _ V
    cases V with
    | im z => cases z; rfl⟩
  refine codeAny_mono ((F _ kinB (nsB nm)).run callerA [] s H ⟨[.ref a], []⟩ [.ref a] [.ref a] _ _ room (fun _ => rfl) ev (bd s (.ref a)) (.cons rfl .nil) sp) ?_
  rintro (er | fl) s' z
  · obtain ⟨_, _, _, _, _, _, _, _, _, _, _, _, q⟩ := z
    exact q.elim
  · cases fl with
    | next | brk | cont => exact z.elim
    | ret u =>
      obtain ⟨v, H', os, bare, un, hok', rv, q⟩ := z
      obtain rfl : v = .bl true := q
      obtain rfl : u = .bool true := rv
      refine ⟨rfl, OldK.of_keep fun b o z => ?_, os, bare⟩
      rcases S.only b with q | ⟨ob, xs, q⟩
      · exact un.keep b o z q (fun z => by cases z) (by simp)
      · have o1 := (S.ok b _ q).1
        have o2 := (hok' b _ (un.frzs b ob _ q)).1
        rw [o1] at z
        cases z
        exact o2
theorem walk_good {l : PySem.W.OpenLaw} {n k : Nat} {q : Program} {loose : List Str} {XP : (Str → Option Value) → Heap → Prop} {YP : World → Heap → Prop} {d : DefRec} {K : Params → PySem.W.Frag} {f : Fn} {x : Str}
    (hn : l.most = some n) (hn2 : n ≤ sizeLine) (hdf : d.params.defaults = []) (room : Room k callerA)
    (inn : ∀ (w : World) (h : Heap), YP w h → (K w.params).In h)
    (F : ∀ (w : World) (m : Str → Option Value) (fa : Addr) (h : Heap), (K w.params).In h → h.Ns mainGlobals m → m d.name = some (.ref fa) →
      ∃ fd : FuncData, (∀ (s : Shared) (u : Value), BindsTo s fd ⟨[u], []⟩ [(x, u)]) ∧ ∀ base : Heap, (K w.params).In base → base.Ns mainGlobals m → Good ⟨[], true⟩ l.prog w (K w.params) m base k fa fd [x] f)
    (L : ∀ ns : List Int, ns.length ≤ n → ∃ h', f [.im (.list (ns.map .int))] [] = .ok (.im (.bool true)) h') :
    PySem.W.WalkO q loose XP YP l.row.toRowW d [] (fun f vs => PySem.call f vs) := by
  refine Att.attach_call hn hdf fun w s₀ s₁ mg mb fa o pm cd doc a vs ns G Y _ _ _ hmg hob is hl gens => ?_
  obtain ⟨fd, bd, FF⟩ := F w mg fa _ (inn w _ Y) G.T.g hmg
  exact top_call (inn w _ Y) G.T.g G.T.b G.T.builtins G.T.nolimit gens hob is (Nat.le_trans hl hn2) room FF bd (L ns hl)
end NT

set_option Elab.async false
set_option linter.all false
set_option maxRecDepth 100000
set_option autoImplicit false

namespace NT
open PySem PySem.Spec PyProof.Rows L2 PySem.W

/-! ### a def as its callers use it -/
structure Use (T : TW) (P : Program) (w : World) (K : PySem.W.Frag) (mg : Str → Option Value) (base : Heap) (x : Str) (k : Nat) (ps : List Str) (s : Fn) (f : Addr) (fd : FuncData) : Prop where
  good : Good T P w K mg base k f fd ps s
  glob : mg x = some (.ref f)
  keep : PySem.W.keepIn K (.ref f) = true
  bind : Binds K fd ps []
section
variable {X : Cx} {W : WK} {k j : Nat} {f : Addr} {fd : FuncData} {ps : List Str} {s : Fn} {x : Str} {p pos : Pos} {e : Expr} {es : List Expr} {ms : M (List Val)}
theorem je_use (K : Ctx X W) {q' : Bool} (U : Use ⟨W.T.l, q'⟩ X.prog X.w X.K X.mg X.base x j ps s f fd) (hr : Room k X.A) (hj : j ≤ k) (hg : Gl X x)
    (ha : JA X W (e :: es) ms) (hdb : (x == ("__debug__" : Str)) = false := by decide) (he : starEach (e :: es) X.env = (false, eval e X.env) :: starEach es X.env := by rfl) (hpl : (backTo pos (starEach es X.env)).any (·.1) = false := by rfl) (hq : q' = true → W.T.g = true := by first | exact fun _ => rfl | exact fun h => nomatch h) :
    JE X W (.Call (.Name x p) (e :: es) [] pos) (eCall ps.length s ms) := je_call K U.good hq (hr.mono hj) hg U.glob U.keep U.bind ha hdb he hpl
theorem je_use0 (K : Ctx X W) {q' : Bool} (U : Use ⟨W.T.l, q'⟩ X.prog X.w X.K X.mg X.base x j ps s f fd) (hr : Room k X.A) (hj : j ≤ k) (hg : Gl X x) (hdb : (x == ("__debug__" : Str)) = false := by decide) (hq : q' = true → W.T.g = true := by first | exact fun _ => rfl | exact fun h => nomatch h) :
    JE X W (.Call (.Name x p) [] [] pos) (eCall ps.length s mNil) := je_call0 K U.good hq (hr.mono hj) hg U.glob U.keep U.bind hdb
end
end NT

set_option Elab.async false
set_option linter.all false
set_option maxRecDepth 100000
set_option autoImplicit false

namespace NT
open PySem PySem.Spec PyProof.Rows L2 PySem.W

/-! ### a, b = x, y -/
def trunc2 (k : Nat) (v w : Val) (h : Hs) : Hs := if (v.isIm && w.isIm) = true then trunc k h else h
def sPar (i j : Nat) (m : M (List Val)) : SM := fun _ ρ h => match m ρ h with
  | .ok [v, w] h1 => .nx ((ρ.set i (some v)).set j (some w)) (trunc2 h.length v w h1)
  | .er c => .er c
  | _ => .no
section
variable {X : Cx} {W : WK} {a b : Expr} {ms : M (List Val)} {i j : Nat} {x y : Str} {px py pt pos : Pos} {kt k2 : Nat} {pt2 : Pos}
theorem js_par (K : Ctx X W) (hi : X.N[i]? = some x) (hj : X.N[j]? = some y) (hij : i ≠ j) (hx : X.env.scope.names.lookup x = some .local) (hy : X.env.scope.names.lookup y = some .local) (ha : JA X W [a, b] ms)
    (hw : swappedStores [.Tuple [.Name x px, .Name y py] kt pt] (.Tuple [a, b] k2 pt2) X.env = pure (some [x, y])) (hs : swapsWithSole [.Tuple [.Name x px, .Name y py] kt pt] (.Tuple [a, b] k2 pt2) pos.line X.env = pure false := by rfl) :
    JS X W (.Assign [.Tuple [.Name x px, .Name y py] kt pt] (.Tuple [a, b] k2 pt2) pos) (sPar i j ms) := PS.imp (ps_par K.calm K.nd hi hj hij hx hy ha hw hs) fun D σ H t => by
  obtain ⟨G, F, ι, p, ρ, h, R, S, hp, d⟩ := t
  unfold sPar at d
  refine ⟨G, F, ι, ρ, h, R, S, ?_⟩
  cases e : ms ρ h with
  | no => rw [e] at d; exact d
  | er c => rw [e] at d; exact d
  | ok vs h1 =>
    rw [e] at d
    intro F1 ι1 H1 xs R1 E1 l1 V1
    have S1 := S.mono E1.le E1.ag l1
    have V1' : Paired (RV (cst X W) ι1 F1 h1.length) xs vs := V1
    match vs, V1', d with
    | [], _, d => exact d.elim
    | [_], _, d => exact d.elim
    | _ :: _ :: _ :: _, _, d => exact d.elim
    | [v, w], .cons r1 (.cons r2 .nil), d =>
      refine ⟨_, _, rfl, ?_⟩
      simp only [trunc2] at d
      split at d
      · rename_i hh
        rw [Bool.and_eq_true] at hh
        have lt := trunc_len (h := h1) l1
        exact d F1 ι1 H1 _ (R1.trunc l1) (E1.down hp) (Nat.le_trans hp lt) (((S.mono E1.le E1.ag lt).set (r1.flat hh.1)).set (r2.flat hh.2))
      · exact d F1 ι1 H1 _ R1 (E1.down hp) (Nat.le_trans hp l1) ((S1.set r1).set r2)
end
end NT

set_option Elab.async false
set_option linter.all false
set_option maxRecDepth 100000
set_option autoImplicit false

namespace NT
open PySem PySem.Spec PyProof.Rows L2 PySem.W

/-! ### dicts whose keys are tuples -/
def isKeyB (d : PyData) : Bool := match d with
  | .tuple _ => (match nkOf d with
    | some k => decide (k.depth ≤ 8)
    | none => false)
  | _ => false
def keysB (kvs : List (PyData × Val)) : Bool := (kvs.all fun p => isKeyB p.1) && decide ((kvs.map fun p => nkOf p.1).Nodup) && decide (kvs.length < 16777216)
def dlook (kvs : List (PyData × Val)) (d : PyData) : Option Val := (kvs.find? fun p => decide (nkOf p.1 = nkOf d)).map (·.2)
def dput (kvs : List (PyData × Val)) (d : PyData) (v : Val) : List (PyData × Val) := if (dlook kvs d).isSome = true then kvs.map (fun p => if nkOf p.1 = nkOf d then (p.1, v) else p) else kvs ++ [(d, v)]
def dwithout (kvs : List (PyData × Val)) (d : PyData) : List (PyData × Val) := kvs.filter fun p => decide (nkOf p.1 ≠ nkOf d)
section
variable {X : Cx} {W : WK} {G F : Hp} {ι : Nat → Addr} {h : Hs} {H : Hp} {pins : List (Addr × Obj)} {σ : L2.St} {s : Shared}
mutual
theorem nested_of {hp : Heap} : ∀ (d : PyData) (k : NestedKey) (u : Value) (as : List Addr), nkOf d = some k → Reads hp u d as → NestedIs hp k u
  | .none, _, _, _, e, r => by cases e; cases r; exact .none
  | .bool b, _, _, _, e, r => by cases e; cases r; exact .bool rfl
  | .int i, _, _, _, e, r => by cases e; cases r; exact .int _ _
  | .str x, _, _, _, e, r => by cases e; cases r; exact .text _ _
  | .tuple ds, k, _, _, e, r => by
    simp only [nkOf] at e
    cases e1 : nksOf ds with
    | none => rw [e1] at e; cases e
    | some ks =>
      rw [e1] at e
      cases e
      cases r with
      | tuple h1 h2 h3 h4 => exact .tup h1 h2 h3 (nested_all ds ks _ _ e1 h4)
  | .list _, _, _, _, e, _ => by cases e
  | .dict _, _, _, _, e, _ => by cases e
theorem nested_all {hp : Heap} : ∀ (ds : List PyData) (ks : List NestedKey) (us : List Value) (as : List Addr), nksOf ds = some ks → ReadsAll hp us ds as → NestedAll hp ks us
  | [], _, _, _, e, r => by cases e; cases r; exact .nil
  | d :: ds, ks, _, _, e, r => by
    simp only [nksOf] at e
    cases e1 : nkOf d with
    | none => rw [e1] at e; cases e
    | some k =>
      rw [e1] at e
      simp only [Option.bind_some] at e
      cases e2 : nksOf ds with
      | none => rw [e2] at e; cases e
      | some ks' =>
        rw [e2] at e
        cases e
        cases r with
        | cons a b => exact .cons (nested_of d k _ _ e1 a) (nested_all ds ks' _ _ e2 b)
end
theorem key_ref {C : Cst} {d : PyData} {x : V} {F : Hp} (z : Dp C.K F x d) (kb : isKeyB d = true) : ∃ a k, x = .ref a ∧ nkOf d = some k ∧ k.depth ≤ 8 := by
  unfold isKeyB at kb
  split at kb
  · rename_i ds
    split at kb
    · rename_i k e
      cases z with
      | tup s p => exact ⟨_, k, rfl, e, of_decide_eq_true kb⟩
    · cases kb
  · cases kb
/-- how an entry stands for a key and a value -/
def EnR (X : Cx) (W : WK) (ι : Nat → Addr) (F : Hp) (n : Nat) (x : NestedKey × Addr × Value) (p : PyData × Val) : Prop := nkOf p.1 = some x.1 ∧ Dp X.K F (.ref x.2.1) p.1 ∧ ∃ v, RV (cst X W) ι F n v p.2 ∧ RelV v x.2.2
theorem ents_of (I : Inv X pins σ H s) (R : Rel (cst X W) G F ι h H) : ∀ {L : List (V × V × Int)} {es : List DictEntry} {kvs : List (PyData × Val)}, Paired (fun (x : V × V × Int) (e : DictEntry) => e.hash = x.2.2 ∧ RelV x.1 e.key ∧ RelV x.2.1 e.val) L es →
    Paired (fun (x : V × V × Int) (p : PyData × Val) => Dp X.K F x.1 p.1 ∧ RV (cst X W) ι F h.length x.2.1 p.2 ∧ ∀ k, nkOf p.1 = some k → x.2.2 = k.hash X.w) L kvs → (kvs.all fun p => isKeyB p.1) = true →
    ∃ xs : List (NestedKey × Addr × Value), es = xs.map (entryOfKey (nestedKind X.prog X.w)) ∧ (∀ x ∈ xs, (nestedKind X.prog X.w).is s.heap x.1 x.2.1) ∧ Paired (EnR X W ι F h.length) xs kvs
  | _, _, _, .nil, .nil, _ => ⟨[], rfl, (fun _ z => by cases z), .nil⟩
  | _, _, _, .cons (a := x) (b := e) a as, .cons (b := p) b bs, kb => by
    rw [List.all_cons, Bool.and_eq_true] at kb
    obtain ⟨xs, h1, h2, h3⟩ := ents_of I R as bs kb.2
    obtain ⟨a1, a2, a3⟩ := a
    obtain ⟨b1, b2, b3⟩ := b
    obtain ⟨ad, k, e1, e2, e3⟩ := key_ref (C := cst X W) b1 kb.1
    obtain ⟨x1, x2, x3⟩ := x
    simp only at a1 a2 a3 b1 b2 b3 e1
    subst e1
    obtain ⟨as', rd⟩ := Dp.reads I p.1 _ _ (R.dp b1) a2
    have ek : e.key = .ref ad := a2
    have nis := nested_of p.1 k _ _ e2 rd
    rw [ek] at nis
    refine ⟨(k, ad, e.val) :: xs, ?_, fun y hy => ?_, .cons ⟨e2, b1, x2, b2, a3⟩ h3⟩
    · rw [List.map_cons, ← h1]
      congr 1
      obtain ⟨eh, ekk, ev⟩ := e
      simp only at a1 ek
      rw [ek, a1, b3 k e2]
      rfl
    · rcases List.mem_cons.mp hy with rfl | hy
      · exact ⟨nis, e3⟩
      · exact h2 y hy
theorem keys_of {n : Nat} : ∀ {xs : List (NestedKey × Addr × Value)} {kvs : List (PyData × Val)}, Paired (EnR X W ι F n) xs kvs → (kvs.map fun p => nkOf p.1) = xs.map fun x => some x.1
  | _, _, .nil => rfl
  | _, _, .cons a b => by rw [List.map_cons, List.map_cons, keys_of b, a.1]
/-- the dict behind a cell -/
theorem Rel.dict (I : Inv X pins σ H s) (R : Rel (cst X W) G F ι h H) {j : Nat} {kvs : List (PyData × Val)} (e : h[j]? = some (.dct kvs)) (kb : keysB kvs = true) :
    ∃ xs : List (NestedKey × Addr × Value), (ι j == sysModules) = false ∧ s.heap.DictOfH (nestedKind X.prog X.w) (ι j) xs ∧ xs.length < 16777216 ∧ Paired (EnR X W ι F h.length) xs kvs := by
  unfold keysB at kb
  rw [Bool.and_eq_true, Bool.and_eq_true, decide_eq_true_eq, decide_eq_true_eq] at kb
  obtain ⟨L, hH, hz, P⟩ := R.cell j _ e
  obtain ⟨⟨low, o, es, ep, ho, hx, hd, PE⟩, _⟩ := I.hok _ _ hH
  obtain ⟨xs, h1, h2, h3⟩ := ents_of I R PE P kb.1.1
  refine ⟨xs, low, ⟨o, es, ep, ho, hx, hd, h1, h2, ?_⟩, by rw [Paired.length h3]; exact kb.2, h3⟩
  have nd := kb.1.2
  rw [keys_of h3] at nd
  have : (xs.map fun x => some x.1) = (xs.map (·.1)).map some := by rw [List.map_map]; rfl
  rw [this] at nd
  exact (List.pairwise_map.mp nd).imp fun h e => h (congrArg some e)
theorem look_of {n : Nat} {d : PyData} {k : NestedKey} (ek : nkOf d = some k) : ∀ {xs : List (NestedKey × Addr × Value)} {kvs : List (PyData × Val)}, Paired (EnR X W ι F n) xs kvs →
    (dlook kvs d = none ∧ atKey xs k = none) ∨ ∃ p v w, atKey xs k = some p ∧ dlook kvs d = some w ∧ RV (cst X W) ι F n v w ∧ RelV v p.2
  | _, _, .nil => .inl ⟨rfl, rfl⟩
  | _, _, .cons (a := x) (b := q) a b => by
    obtain ⟨a1, a2, v, a3, a4⟩ := a
    by_cases hk : x.1 = k
    · right
      refine ⟨x.2, v, q.2, ?_, ?_, a3, a4⟩
      · simp [atKey, List.find?_cons, hk]
      · have : nkOf q.1 = nkOf d := by rw [a1, hk, ek]
        simp [dlook, List.find?_cons, this]
    · have h1 : ¬ nkOf q.1 = nkOf d := by rw [a1, ek]; exact fun z => hk (Option.some.inj z)
      rcases look_of ek b with ⟨l1, l2⟩ | ⟨p, v', w', l1, l2, l3, l4⟩
      · left
        constructor
        · simp only [dlook, List.find?_cons, h1, decide_false]; exact l1
        · simp only [atKey, List.find?_cons, hk, decide_false]; exact l2
      · right
        refine ⟨p, v', w', ?_, ?_, l3, l4⟩
        · simp only [atKey, List.find?_cons, hk, decide_false]; exact l1
        · simp only [dlook, List.find?_cons, h1, decide_false]; exact l2
end
end NT

set_option Elab.async false
set_option linter.all false
set_option maxRecDepth 100000
set_option autoImplicit false

namespace NT
open PySem PySem.Spec PyProof.Rows L2 PySem.W

/-! ### asking a dict, writing it -/
def vInD (neg : Bool) (v u : Val) (h : Hs) : Res Val := match v, u with
  | .im d, .ref j => match h[j]? with
    | some (.dct kvs) => if (keysB kvs && isKeyB d) = true then .ok (.im (.bool (neg ^^ (dlook kvs d).isSome))) h else .no
    | _ => .no
  | _, _ => .no
def vGetD (v u : Val) (h : Hs) : Res Val := match v, u with
  | .ref j, .im d => match h[j]? with
    | some (.dct kvs) => if (keysB kvs && isKeyB d) = true then (match dlook kvs d with
      | some w => .ok w h
      | none => .no) else .no
    | _ => .no
  | _, _ => .no
def mPopD (v : Val) (us : List Val) (h : Hs) : Res Val := match v, us with
  | .ref j, [.im d] => match h[j]? with
    | some (.dct kvs) => if (keysB kvs && isKeyB d) = true then (match dlook kvs d with
      | some w => .ok w (h.set j (.dct (dwithout kvs d)))
      | none => .no) else .no
    | _ => .no
  | _, _ => .no
def isDct (v : Val) (h : Hs) : Bool := match v with
  | .ref j => (match h[j]? with
    | some (.dct kvs) => true
    | _ => false)
  | _ => false
def sPutD (mo mi me : Ev) : SM := fun _ ρ h => match me ρ h with
  | .ok v h1 => (match mo ρ h1 with
    | .ok o h2 => (match mi ρ h2 with
      | .ok i h3 => (match o, i with
        | .ref k, .im d => (match h3[k]? with
          | some (.dct kvs) => if (keysB kvs && isKeyB d) = true then .nx ρ (trunc h.length (h3.set k (.dct (dput kvs d v)))) else .no
          | _ => .no)
        | _, _ => .no)
      | .er c => .er c
      | .no => .no)
    | .er c => .er c
    | .no => .no)
  | .er c => .er c
  | .no => .no
section
variable {X : Cx} {W : WK} {G F : Hp} {ι : Nat → Addr} {h : Hs} {H : Hp} {pins : List (Addr × Obj)} {σ : L2.St} {s : Shared}
theorem dictP_stays {a : Addr} {L : List (V × V × Int)} {h1 h2 : Heap} (p : dictP a L h1) (k : ∀ o, h1.get? a = some o → h2.get? a = some o) : dictP a L h2 := by
  obtain ⟨low, o, es, ep, e, r⟩ := p
  exact ⟨low, o, es, ep, k o e, r⟩
theorem lay_ents {n : Nat} : ∀ {xs : List (NestedKey × Addr × Value)} {kvs : List (PyData × Val)}, Paired (EnR X W ι F n) xs kvs →
    ∃ L : List (V × V × Int), L.length = xs.length ∧ Paired (fun (x : V × V × Int) (e : DictEntry) => e.hash = x.2.2 ∧ RelV x.1 e.key ∧ RelV x.2.1 e.val) L (xs.map (entryOfKey (nestedKind X.prog X.w))) ∧
      Paired (fun (x : V × V × Int) (p : PyData × Val) => Dp X.K F x.1 p.1 ∧ RV (cst X W) ι F n x.2.1 p.2 ∧ ∀ k, nkOf p.1 = some k → x.2.2 = k.hash X.w) L kvs
  | _, _, .nil => ⟨[], rfl, .nil, .nil⟩
  | _, _, .cons (a := x) (b := p) a b => by
    obtain ⟨L, h1, h2, h3⟩ := lay_ents b
    obtain ⟨a1, a2, v, a3, a4⟩ := a
    refine ⟨(.ref x.2.1, v, x.1.hash X.w) :: L, by simp [h1], .cons ⟨rfl, rfl, a4⟩ h2, .cons ⟨a2, a3, fun k e => ?_⟩ h3⟩
    rw [a1] at e
    cases e
    rfl
/-- the dict's object is another one: the cell with it -/
theorem Rel.rewrite (I : Inv X pins σ H s) (R : Rel (cst X W) G F ι h H) {j : Nat} {kvs kvs' : List (PyData × Val)} {xs' : List (NestedKey × Addr × Value)} {h' : Heap} {tk : Nat} (e : h[j]? = some (.dct kvs)) (low : (ι j == sysModules) = false)
    (dd : h'.DictOfH (nestedKind X.prog X.w) (ι j) xs') (sb : Heap.SameBut (ι j) s.heap h') (hz : xs'.length ≤ sizeLine) (P : Paired (EnR X W ι F h.length) xs' kvs') :
    ∃ H', Inv X pins σ H' { s with heap := h', toks := tk } ∧ Rel (cst X W) G F ι (h.set j (.dct kvs')) H' := by
  obtain ⟨L, l1, l2, l3⟩ := lay_ents P
  obtain ⟨o, es, ep, ho, hx, hd, he, _, _⟩ := dd
  obtain ⟨L0, hH, _, _⟩ := R.cell j _ e
  have dp : dictP (ι j) L h' := ⟨low, o, es, ep, ho, hx, hd, by rw [he]; exact l2⟩
  refine ⟨upd H (ι j) (.ext (dictP (ι j) L)), I.write (e := ι j) (t' := tk) (by rw [hH]; trivial) (.inl rfl) (fun b u hb q => (sb.2 b hb).trans q) ⟨o, ho⟩ ⟨dp, ⟨o, ho⟩, fun h1 h2 p k => dictP_stays p k⟩, ?_⟩
  exact R.setC e rfl rfl ⟨L, rfl, by rw [l1]; exact hz, l3⟩
theorem key_is (I : Inv X pins σ H s) (R : Rel (cst X W) G F ι h H) {x : V} {u : Value} {d : PyData} (z : RV (cst X W) ι F h.length x (.im d)) (rx : RelV x u) (kb : isKeyB d = true) :
    ∃ a k, u = .ref a ∧ nkOf d = some k ∧ (nestedKind X.prog X.w).is s.heap k a ∧ Dp X.K F (.ref a) d := by
  cases z with
  | im z =>
    obtain ⟨a, k, rfl, e, dk⟩ := key_ref (C := cst X W) z kb
    obtain ⟨as, rd⟩ := Dp.reads I d _ u (R.dp z) rx
    obtain rfl : u = .ref a := rx
    exact ⟨a, k, rfl, e, ⟨nested_of d k _ _ e rd, dk⟩, z⟩
theorem o_inD (K : Ctx X W) : OpR X (compareOp .In) (rOf2 (cst X W) W (vInD false)) := by
  intro pins s σ H x y v u Q I rx ry t
  obtain ⟨G, F, ι, h, v1, u1, R, V1, V2, D⟩ := t
  unfold vInD at D
  split at D
  · rename_i d j
    split at D
    · rename_i w kvs hc
      split at D
      · rename_i hh
        rw [Bool.and_eq_true] at hh
        obtain ⟨a, k, rfl, ek, ki, _⟩ := key_is I R V1 rx hh.2
        obtain ⟨xs, low, dd, hz, P⟩ := R.dict I hc hh.1
        cases V2 with
        | ref hj =>
          obtain rfl : u = .ref (ι j) := ry
          have hu := K.hu
          refine wpAny_in_heap (knd := nestedKind X.prog X.w) (show X.A.units + 1 + 8 < cLine by omega) ki low dd ?_
          have e2 : (atKey xs k).isSome = (dlook kvs d).isSome := by
            rcases look_of ek P with ⟨l1, l2⟩ | ⟨p, v, w, l1, l2, _, _⟩
            · rw [l1, l2]; rfl
            · rw [l1, l2]; rfl
          rw [e2]
          rw [Bool.false_xor] at D
          exact ⟨.bl _, H, I.tok _, rfl, fin_im R D (.bl _)⟩
      · exact D.elim
    · exact D.elim
  · exact D.elim
theorem i_dct (K : Ctx X W) : IxR X (rOf2 (cst X W) W vGetD) := by
  intro va sl pins s σ H x y v u Q I rx ry t hs
  obtain ⟨G, F, ι, h, v1, u1, R, V1, V2, D⟩ := t
  unfold vGetD at D
  split at D
  · rename_i j d
    split at D
    · rename_i w kvs hc
      split at D
      · rename_i hh
        rw [Bool.and_eq_true] at hh
        split at D
        · rename_i w' hl
          obtain ⟨a, k, rfl, ek, ki, _⟩ := key_is I R V2 ry hh.2
          obtain ⟨xs, low, dd, hz, P⟩ := R.dict I hc hh.1
          cases V1 with
          | ref hj =>
            obtain rfl : v = .ref (ι j) := rx
            have hu := K.hu
            rcases look_of ek P with ⟨l1, l2⟩ | ⟨p, v', w2, l1, l2, l3, l4⟩
            · rw [l1] at hl; cases hl
            · rw [l2] at hl
              cases hl
              have goal := wpAny_getItem_heap (A := X.A) (E := X.xe) (knd := nestedKind X.prog X.w) (Q := EP X pins σ Q) (show X.A.units + 1 + 8 < cLine by omega) ki dd l1 ⟨v', H, I.tok _, l4, D F ι H v' R Ext.refl (Nat.le_refl _) l3⟩
              exact tail_any dd.typeIs slot_dict_getitem.lookup goal hs
        · exact D.elim
      · exact D.elim
    · exact D.elim
  · exact D.elim
theorem EnR.mapPut {n : Nat} {k : NestedKey} {d : PyData} {w : Val} {v : V} {u : Value} (ek : nkOf d = some k) (rv : RV (cst X W) ι F n v w) (ru : RelV v u) : ∀ {xs : List (NestedKey × Addr × Value)} {kvs : List (PyData × Val)}, Paired (EnR X W ι F n) xs kvs →
    Paired (EnR X W ι F n) (xs.map (putAt k u)) (kvs.map fun p => if nkOf p.1 = nkOf d then (p.1, w) else p)
  | _, _, .nil => .nil
  | _, _, .cons (a := x) (b := q) a b => by
    refine .cons ?_ (EnR.mapPut ek rv ru b)
    have a' := a
    obtain ⟨a1, a2, v', a3, a4⟩ := a
    show EnR X W ι F n (putAt k u x) (if nkOf q.1 = nkOf d then (q.1, w) else q)
    by_cases hk : x.1 = k
    · have h1 : nkOf q.1 = nkOf d := by rw [a1, hk, ek]
      unfold putAt
      rw [if_pos hk, if_pos h1]
      exact ⟨a1, a2, v, rv, ru⟩
    · have h1 : ¬ nkOf q.1 = nkOf d := by rw [a1, ek]; exact fun z => hk (Option.some.inj z)
      unfold putAt
      rw [if_neg hk, if_neg h1]
      exact a'
theorem EnR.without {n : Nat} {k : NestedKey} {d : PyData} (ek : nkOf d = some k) : ∀ {xs : List (NestedKey × Addr × Value)} {kvs : List (PyData × Val)}, Paired (EnR X W ι F n) xs kvs → Paired (EnR X W ι F n) (withoutH xs k) (dwithout kvs d)
  | _, _, .nil => .nil
  | _, _, .cons (a := x) (b := q) a b => by
    have ih := EnR.without ek b
    unfold withoutH dwithout at ih ⊢
    by_cases hk : x.1 = k
    · have h1 : nkOf q.1 = nkOf d := by rw [a.1, hk, ek]
      rw [List.filter_cons, List.filter_cons, if_neg (by simp [hk]), if_neg (by simp [h1])]
      exact ih
    · have h1 : ¬ nkOf q.1 = nkOf d := by rw [a.1, ek]; exact fun z => hk (Option.some.inj z)
      rw [List.filter_cons, List.filter_cons, if_pos (by simp [hk]), if_pos (by simp [h1])]
      exact .cons a ih
theorem EnR.put {n : Nat} {k : NestedKey} {d : PyData} {w : Val} {v : V} {u : Value} {ad : Addr} (ek : nkOf d = some k) (z : Dp X.K F (.ref ad) d) (rv : RV (cst X W) ι F n v w) (ru : RelV v u) {xs : List (NestedKey × Addr × Value)} {kvs : List (PyData × Val)} (P : Paired (EnR X W ι F n) xs kvs) :
    Paired (EnR X W ι F n) (storedH xs k ad u) (dput kvs d w) := by
  unfold storedH dput
  rcases look_of ek P with ⟨l1, l2⟩ | ⟨p, v', w', l1, l2, _, _⟩
  · rw [l1, l2]
    exact Paired.app P (.cons ⟨ek, z, v, rv, ru⟩ .nil)
  · rw [l1, l2]
    exact EnR.mapPut ek rv ru P
theorem stored_len {xs : List (NestedKey × Addr × Value)} {k : NestedKey} {a : Addr} {u : Value} : (storedH xs k a u).length ≤ xs.length + 1 := by
  unfold storedH
  split <;> simp
/-- d.pop(k) -/
theorem o_popD (K : Ctx X W) : MtR X "dict.pop" (rOfM (cst X W) W mPopD) := by
  intro pins s σ H x xs v us Q I rx rxs t
  obtain ⟨G, F, ι, h, u1, v1, R, V1, V2, D⟩ := t
  unfold mPopD at D
  split at D
  · rename_i j d
    split at D
    · rename_i w kvs hc
      split at D
      · rename_i hh
        rw [Bool.and_eq_true] at hh
        split at D
        · rename_i w' hl
          cases V2 with
          | cons va vb =>
            cases vb
            obtain ⟨u, rfl, ru⟩ := vals1 rxs
            obtain ⟨a, k, rfl, ek, ki, _⟩ := key_is I R va ru hh.2
            obtain ⟨es, low, dd, hz, P⟩ := R.dict I hc hh.1
            cases V1 with
            | ref hj =>
              obtain rfl : v = .ref (ι j) := rx
              have hu := K.hu
              rcases look_of ek P with ⟨l1, l2⟩ | ⟨p, v', w2, l1, l2, l3, l4⟩
              · rw [l1] at hl; cases hl
              · rw [l2] at hl
                cases hl
                refine call_pop_heap (knd := nestedKind X.prog X.w) (.inl rfl) (PySem.F.args_dict_pop_2 _ _) (show X.A.units + 1 + 8 < cLine by omega) ki low dd l1 (fun h' dd' sb => ?_) (by rw [SZ_eq]; omega)
                obtain ⟨H', I', R'⟩ := R.rewrite I hc low dd' sb (by have := withoutH_length es k; rw [SZ_eq]; omega) (EnR.without ek P)
                exact ⟨v', H', I', l4, D F ι H' v' R' Ext.refl (by simp) (by rw [List.length_set]; exact l3)⟩
        · exact D.elim
      · exact D.elim
    · exact D.elim
  · exact D.elim
/-- d[k] = v -/
def rPutD (X : Cx) (W : WK) : TSet := fun o i v H Q => ∃ G F ι h j kvs d w, Rel (cst X W) G F ι h H ∧ o = .ref (ι j) ∧ h[j]? = some (.dct kvs) ∧ RV (cst X W) ι F h.length i (.im d) ∧ RV (cst X W) ι F h.length v w ∧ keysB kvs = true ∧ isKeyB d = true ∧ ∀ H', Rel (cst X W) G F ι (h.set j (.dct (dput kvs d w))) H' → Q H'
theorem set_dct (K : Ctx X W) : PSet X (rPutD X W) := by
  intro pins s σ H o i v ov iv u Q I ro ri rv t
  obtain ⟨G, F, ι, h, j, kvs, d, w, R, rfl, hc, V1, V2, kb, ki', q⟩ := t
  obtain rfl : ov = .ref (ι j) := ro
  obtain ⟨a, k, rfl, ek, ki, z⟩ := key_is I R V1 ri ki'
  obtain ⟨xs, low, dd, hz, P⟩ := R.dict I hc kb
  have hu := K.hu
  refine wpAny_setItem_heap (knd := nestedKind X.prog X.w) (show X.A.units + 1 + 8 < cLine by omega) ki dd (fun h' dd' sb => ?_) (by rw [SZ_eq]; omega)
  obtain ⟨H', I', R'⟩ := R.rewrite I hc low dd' sb (by have := stored_len (xs := xs) (k := k) (a := a) (u := u); rw [SZ_eq]; omega) (EnR.put ek z V2 rv P)
  exact ⟨H', I', q H' R'⟩
/-! ### the expressions -/
variable {a b o i e : Expr} {es : List Expr} {ma mb mo mi me : Ev} {ms : M (List Val)} {pos pos2 : Pos}
theorem je_getD (K : Ctx X W) (ha : JE X W a ma) (hb : JE X W b mb) (hs : PlainIx b := by exact fun _ _ => rfl) : JE X W (.Subscript a b pos) (e2 ma mb vGetD) := PE.imp (pe_ix (i_dct K) ha hb hs) fun _ _ _ t => two_r t
def tyD : V → Hp → Prop := fun x H => ∃ a L, x = .ref a ∧ H a = some (.ext (dictP a L))
theorem ty_dct : TyOk X "dict" tyD := by
  intro pins σ H s x v I r ty
  obtain ⟨a, L, rfl, hH⟩ := ty
  obtain rfl : v = .ref a := r
  obtain ⟨⟨low, o, es, ep, ho, hx, _⟩, _⟩ := I.hok _ _ hH
  refine ⟨⟨o, ho, hx.1⟩, fun b e => ?_⟩
  cases e
  exact ⟨o, ho, hx.2.1⟩
theorem isDct_ty {C : Cst} {y : V} {v : Val} (R : Rel C G F ι h H) (V : RV C ι F h.length y v) (e : isDct v h = true) : tyD y H := by
  unfold isDct at e
  split at e
  · rename_i j
    split at e
    · rename_i kvs hc
      cases V with
      | ref hj =>
        obtain ⟨L, hH, _⟩ := R.cell j _ hc
        exact ⟨_, L, rfl, hH⟩
    · cases e
  · cases e
theorem je_methD {name : Str} {apos cpos : Pos} {g : Val → List Val → Hs → Res Val} (hp : PE X (.Call (.Attribute o name apos) (e :: es) [] cpos) (tMG tyD (rOfM (cst X W) W g) (tOf (repV (cst X W)) (cst X W) W mo) (tOf (repL (cst X W)) (cst X W) W ms))) :
    JE X W (.Call (.Attribute o name apos) (e :: es) [] cpos) (eM isDct mo ms g) := PE.imp hp fun σ H Q t => by
  obtain ⟨G, F, ι, ρ, h, R, S, D⟩ := t
  refine st1 R S D fun F1 ι1 h1 H1 y v R1 E1 l1 V1 D1 => ?_
  split at D1
  · rename_i hh
    refine ⟨isDct_ty R1 V1 hh, ?_⟩
    refine st1 R1 (S.mono E1.le E1.ag l1) D1 fun F2 ι2 h2 H2 xs vs R2 E2 l2 V2 D2 => ⟨G, F2, ι2, h2, v, vs, R2, V1.mono E2.le E2.ag l2, V2, D2⟩
  · exact D1.elim
theorem js_putD (hg : PG X (.Subscript o i pos2) (gSub (tOf (repV (cst X W)) (cst X W) W mo) (tOf (repV (cst X W)) (cst X W) W mi) (rPutD X W))) (he : JE X W e me)
    (hs : swapsWithSole [.Subscript o i pos2] e pos.line X.env = pure false := by rfl) (hw : swappedStores [.Subscript o i pos2] e X.env = pure none := by rfl)
    (h1 : (assignEach [.Subscript o i pos2] X.env).map (·.2) = [assign (.Subscript o i pos2) X.env] := by rfl) : JS X W (.Assign [.Subscript o i pos2] e pos) (sPutD mo mi me) := PS.imp (ps_asg he hg hs hw h1) fun D σ H t => by
  obtain ⟨G, F, ι, p, ρ, h, R, S, hp, d⟩ := t
  unfold sPutD at d
  refine ⟨G, F, ι, ρ, h, R, S, ?_⟩
  cases e1 : me ρ h with
  | no => rw [e1] at d; exact d
  | er c => rw [e1] at d; exact d
  | ok v h1 =>
    rw [e1] at d
    intro F1 ι1 H1 x R1 E1 l1 V1
    have S1 := S.mono E1.le E1.ag l1
    refine ⟨G, F1, ι1, ρ, h1, R1, S1, ?_⟩
    simp only at d
    cases e2 : mo ρ h1 with
    | no => rw [e2] at d; exact d
    | er c => rw [e2] at d; exact d
    | ok ov h2 =>
      rw [e2] at d
      intro F2 ι2 H2 y R2 E2 l2 V2
      have S2 := S1.mono E2.le E2.ag l2
      refine ⟨G, F2, ι2, ρ, h2, R2, S2, ?_⟩
      simp only at d
      cases e3 : mi ρ h2 with
      | no => rw [e3] at d; exact d
      | er c => rw [e3] at d; exact d
      | ok iv h3 =>
        rw [e3] at d
        intro F3 ι3 H3 z R3 E3 l3 V3
        simp only at d
        split at d
        · rename_i k dk
          split at d
          · rename_i kvs hc
            split at d
            · rename_i hh
              rw [Bool.and_eq_true] at hh
              have V2' : RV (cst X W) ι2 F2 h2.length y (.ref k) := V2
              have W1 := RV.mono (RV.mono V1 E2.le E2.ag l2) E3.le E3.ag l3
              have W2 := RV.mono V2' E3.le E3.ag l3
              cases W2 with
              | ref hk =>
                refine ⟨G, F3, ι3, h3, k, kvs, dk, v, R3, rfl, hc, V3, W1, hh.1, hh.2, fun H4 R4 => ?_⟩
                have ll : h.length ≤ (h3.set k (.dct (dput kvs dk v))).length := by rw [List.length_set]; omega
                refine d F3 ι3 _ σ (R4.trunc ll) ((E1.trans (E2.trans E3 l2) l1).down hp) (Nat.le_trans hp (trunc_len ll)) ?_
                exact S.mono (fun b o e => E3.le _ _ (E2.le _ _ (E1.le _ _ e))) (fun i hi => by rw [E3.ag i (by omega), E2.ag i (by omega), E1.ag i hi]) (trunc_len ll)
            · exact d.elim
          · exact d.elim
        · exact d.elim
end
end NT

set_option Elab.async false
set_option linter.all false
set_option maxRecDepth 100000
set_option autoImplicit false

namespace NT
open PySem PySem.Spec PyProof.Rows L2 PySem.W

/-! ### dict(xs), xs a list of pairs -/
def pairOf : PyData → Option (PyData × PyData)
  | .tuple [k, v] => some (k, v)
  | _ => none
def pairsOfD : List PyData → Option (List (PyData × PyData))
  | [] => some []
  | d :: r => match pairOf d with
    | some p => (pairsOfD r).map (p :: ·)
    | none => none
def dputs (acc : List (PyData × Val)) (ps : List (PyData × PyData)) : List (PyData × Val) := ps.foldl (fun acc p => dput acc p.1 (.im p.2)) acc
def fDict (us : List Val) (h : Hs) : Res Val := match us with
  | [v] => match lstOf h v with
    | some vs => match imsOf vs with
      | some ds => match pairsOfD ds with
        | some ps => if ((ps.all fun p => isKeyB p.1) && decide (ps.length < 16777216)) = true then .ok (.ref h.length) (h ++ [.dct (dputs [] ps)]) else .no
        | none => .no
      | none => .no
    | none => .no
  | _ => .no
section
variable {X : Cx} {W : WK} {G F : Hp} {ι : Nat → Addr} {h : Hs} {H : Hp} {pins : List (Addr × Obj)} {σ : L2.St} {s : Shared}
/-- the pairs' keys and values, where they stand -/
theorem pairs_at (I : Inv X pins σ H s) (R : Rel (cst X W) G F ι h H) : ∀ {ds : List PyData} {ps : List (PyData × PyData)} {xs : List V} {its : List Value}, pairsOfD ds = some ps → (ps.all fun p => isKeyB p.1) = true → DpAll X.K F xs ds → Vals xs its →
    ∃ (es : List (NestedKey × Addr × Value)) (Ts : List Addr), its = Ts.map Value.ref ∧ Ts.length = es.length ∧ (∀ (j : Nat) (T : Addr) (e : NestedKey × Addr × Value), Ts[j]? = some T → es[j]? = some e → s.heap.IsTuple T #[.ref e.2.1, e.2.2]) ∧ (∀ e ∈ es, (nestedKind X.prog X.w).is s.heap e.1 e.2.1) ∧
      Paired (fun (e : NestedKey × Addr × Value) (p : PyData × PyData) => nkOf p.1 = some e.1 ∧ Dp X.K F (.ref e.2.1) p.1 ∧ ∃ v, Dp X.K F v p.2 ∧ RelV v e.2.2) es ps
  | [], ps, _, _, e, _, a, r => by
    cases e
    cases a
    cases r
    exact ⟨[], [], rfl, rfl, fun j T e z => by simp at z, (fun _ z => by cases z), .nil⟩
  | d :: ds, ps, _, _, e, kb, a, r => by
    unfold pairsOfD at e
    split at e
    · rename_i p hp
      cases e2 : pairsOfD ds with
      | none => rw [e2] at e; cases e
      | some ps' =>
        rw [e2] at e
        cases e
        rw [List.all_cons, Bool.and_eq_true] at kb
        cases a with
        | cons a1 a2 =>
          cases r with
          | cons r1 r2 =>
            obtain ⟨es, Ts, h1, h2, h3, h4, h5⟩ := pairs_at I R e2 kb.2 a2 r2
            unfold pairOf at hp
            split at hp
            · rename_i kd vd
              cases hp
              cases a1 with
              | @tup T ys _ st da =>
                cases da with
                | cons dk da =>
                  cases da with
                  | cons dv da =>
                    cases da
                    obtain ⟨its', rv, tp, _⟩ := I.tuple (tupF R.f st)
                    obtain ⟨uk, uv, rfl, rk, rw'⟩ := vals2 rv
                    obtain ⟨ad, k, ek, nk, dk8⟩ := key_ref (C := cst X W) dk kb.1
                    subst ek
                    obtain rfl : uk = .ref ad := rk
                    obtain ⟨as, rd⟩ := Dp.reads I kd _ (.ref ad) (R.dp dk) rfl
                    refine ⟨(k, ad, uv) :: es, T :: Ts, ?_, by simp [h2], ?_, ?_, .cons ⟨nk, dk, _, dv, rw'⟩ h5⟩
                    · rw [List.map_cons, ← h1]
                      congr 1
                    · intro j T' e' z1 z2
                      cases j with
                      | zero =>
                        simp at z1 z2
                        subst z1 z2
                        exact tp
                      | succ j => exact h3 j T' e' (by simpa using z1) (by simpa using z2)
                    · intro e' he
                      rcases List.mem_cons.mp he with rfl | he
                      · exact ⟨nested_of kd k _ _ nk rd, dk8⟩
                      · exact h4 e' he
            · cases hp
    · cases e
theorem puts_of {n : Nat} : ∀ {es : List (NestedKey × Addr × Value)} {ps : List (PyData × PyData)}, Paired (fun (e : NestedKey × Addr × Value) (p : PyData × PyData) => nkOf p.1 = some e.1 ∧ Dp X.K F (.ref e.2.1) p.1 ∧ ∃ v, Dp X.K F v p.2 ∧ RelV v e.2.2) es ps →
    ∀ {xs : List (NestedKey × Addr × Value)} {kvs : List (PyData × Val)}, Paired (EnR X W ι F n) xs kvs → Paired (EnR X W ι F n) (storedAllH xs es) (dputs kvs ps)
  | _, _, .nil, _, _, P => P
  | _, _, .cons a b, _, _, P => by
    obtain ⟨a1, a2, v, a3, a4⟩ := a
    exact puts_of b (EnR.put a1 a2 (.im a3) a4 P)
theorem fin_newD {C : Cst} {Q : VK} {a : Addr} {kvs : List (PyData × Val)} {L : List (V × V × Int)} (R : Rel C G F ι h H) (D : Done (repV C) C W G F ι h.length (.ok (.ref h.length) (h ++ [.dct kvs])) Q) (hp : H a = none) (hz : L.length ≤ sizeLine)
    (P : Paired (fun (x : V × V × Int) (p : PyData × Val) => Dp C.K F x.1 p.1 ∧ RV C ι F h.length x.2.1 p.2 ∧ ∀ k, nkOf p.1 = some k → x.2.2 = k.hash C.w) L kvs) : Q (.ref a) (upd H a (.ext (dictP a L))) := by
  refine D F _ _ _ (R.newC hp rfl ⟨L, rfl, hz, Paired.mapP P fun _ _ z => ⟨z.1, z.2.1.mono (fun _ _ q => q) (fun i hi => putI_lt hi) (Nat.le_succ _), z.2.2⟩⟩) (Ext.newC R a (.ext (dictP a L))) (by simp) ?_
  have z : RV C (putI ι h.length a) F (h ++ [Cell.dct kvs]).length (.ref (putI ι h.length a h.length)) (.ref h.length) := .ref (by simp)
  rw [putI_same] at z
  exact z
theorem o_dict (K : Ctx X W) : CallR X (.type "dict") (rOfL (cst X W) W fDict) := by
  intro pins s σ H xs us Q I r t
  obtain ⟨G, F, ι, h, v, R, V, D⟩ := t
  unfold fDict at D
  split at D
  · split at D
    · rename_i v vs e
      split at D
      · rename_i ds ei
        split at D
        · rename_i ps ep
          split at D
          · rename_i hh
            rw [Bool.and_eq_true, decide_eq_true_eq] at hh
            cases V with
            | cons a b =>
              cases b
              obtain ⟨p, ys, rfl, s', P⟩ := R.lsts a e
              obtain ⟨its, rv, pl, hz⟩ := I.list s'
              rw [ims_of ei] at P
              obtain ⟨es, Ts, h1, h2, h3, h4, h5⟩ := pairs_at I R ep hh.1 (dpAll_of P) rv
              rw [Vals.ref1 r]
              have el : es.length = ps.length := Paired.length h5
              have hu := K.hu
              have ok : PlainSeq "list" s.heap p its.toArray ∧ PairItems s.heap its.toArray (fun j => Ts.getD j 0) (es.map fun e => (Value.ref e.2.1, e.2.2)) := by
                refine ⟨?_, ?_, fun j k v hj => ?_⟩
                · obtain ⟨o, n, q1, q2, q3, q4⟩ := pl
                  exact ⟨o, n, q1, q2, q3, q4⟩
                · rw [List.size_toArray, List.length_map, h1, List.length_map, h2]
                · rw [List.getElem?_map] at hj
                  cases ej : es[j]? with
                  | none => rw [ej] at hj; cases hj
                  | some e' =>
                    rw [ej] at hj
                    cases hj
                    have lj := (List.getElem?_eq_some_iff.mp ej).1
                    have tj : Ts[j]? = some (Ts.getD j 0) := by rw [List.getD_eq_getElem?_getD, List.getElem?_eq_getElem (by omega)]; rfl
                    refine ⟨?_, .inl (h3 j _ e' tj ej)⟩
                    rw [List.getElem?_toArray, h1, List.getElem?_map, tj]
                    rfl
              refine call_dict_pairsH (knd := nestedKind X.prog X.w) (ps := es) (PairArg.list p its.toArray (fun j => Ts.getD j 0) (es.map fun e => (Value.ref e.2.1, e.2.2))) (I.ok.hd K.calm) (show X.A.units + 1 + 1 + 8 < cLine by omega) ok ⟨by rw [List.length_map], fun i key v hr => ?_⟩ (fun h' hk x hx => ?_) (by rw [List.length_map, el, SZ_eq]; omega) fun h' tk dd hk => ?_
              · have hr' : (es.map fun e => (Value.ref e.2.1, e.2.2))[i]? = some (key, v) := hr
                rw [List.getElem?_map] at hr'
                cases ej : es[i]? with
                | none => rw [ej] at hr'; cases hr'
                | some e' =>
                  rw [ej] at hr'
                  cases hr'
                  exact ⟨e'.1, e'.2.1, rfl, rfl⟩
              · exact nestedKind_stays.stays (fun b o vs n e1 e2 => hk b o (Nat.ne_of_lt (Heap.lt_size e1)) (fun z => by cases z) e1) (h4 x hx)
              · have PP := puts_of (W := W) (ι := ι) (n := h.length) h5 (xs := []) (kvs := []) .nil
                obtain ⟨L, l1, l2, l3⟩ := lay_ents PP
                obtain ⟨o, es', ep', ho, hx, hd, he, _, _⟩ := dd
                have hlen : L.length ≤ sizeLine := by
                  rw [l1, SZ_eq]
                  have := storedAllH_length es []
                  simp only [List.length_nil] at this
                  omega
                have hfr := I.hok.fresh (Nat.le_refl s.heap.objs.size)
                have low : (s.heap.objs.size == sysModules) = false := beq_eq_false_iff_ne.mpr (Nat.ne_of_gt I.big)
                have dp : dictP s.heap.objs.size L h' := ⟨low, o, es', ep', ho, hx, hd, by rw [he]; exact l2⟩
                have hk' : ∀ b u, s.heap.get? b = some u → h'.get? b = some u := fun b u q => hk b u (fun z => by cases z) q
                exact ⟨.ref s.heap.objs.size, upd H s.heap.objs.size (.ext (dictP s.heap.objs.size L)), I.laid (t' := tk) hk' (Nat.le_refl _) ⟨dp, ⟨o, ho⟩, fun h1 h2 p k => dictP_stays p k⟩, rfl, fin_newD R D hfr hlen l3⟩
          · exact D.elim
        · exact D.elim
      · exact D.elim
    · exact D.elim
  · exact D.elim
end
end NT

set_option Elab.async false
set_option linter.all false
set_option maxRecDepth 100000
set_option autoImplicit false

namespace NT
open PySem PySem.Spec PyProof.Rows L2 PySem.W

/-! ### sorted(d), list(d) -/
def fSortedD (us : List Val) (h : Hs) : Res Val := match us with
  | [.ref j] => match h[j]? with
    | some (.dct kvs) => if (keysB kvs && alikeB (kvs.map (·.1)) && sortB (kvs.map (·.1)) && (kvs.map (·.1)).all (okD 8)) = true then .ok (.ref h.length) (h ++ [.lst ((srt (kvs.map (·.1))).map .im)]) else .no
    | _ => .no
  | _ => .no
section
variable {X : Cx} {W : WK} {G F : Hp} {ι : Nat → Addr} {h : Hs} {H : Hp} {pins : List (Addr × Obj)} {σ : L2.St} {s : Shared}
mutual
theorem key_flat {hp : Heap} : ∀ (d : PyData) (k : NestedKey) (u : Value) (as : List Addr), nkOf d = some k → Reads hp u d as → as = []
  | .none, _, _, _, _, r => by cases r; rfl
  | .bool _, _, _, _, _, r => by cases r; rfl
  | .int _, _, _, _, _, r => by cases r; rfl
  | .str _, _, _, _, _, r => by cases r; rfl
  | .tuple ds, k, _, _, e, r => by
    simp only [nkOf] at e
    cases e1 : nksOf ds with
    | none => rw [e1] at e; cases e
    | some ks => cases r with | tuple _ _ _ h4 => exact keys_flat ds ks _ _ e1 h4
  | .list _, _, _, _, e, _ => by cases e
  | .dict _, _, _, _, e, _ => by cases e
theorem keys_flat {hp : Heap} : ∀ (ds : List PyData) (ks : List NestedKey) (us : List Value) (as : List Addr), nksOf ds = some ks → ReadsAll hp us ds as → as = []
  | [], _, _, _, _, r => by cases r; rfl
  | d :: ds, ks, _, _, e, r => by
    simp only [nksOf] at e
    cases e1 : nkOf d with
    | none => rw [e1] at e; cases e
    | some k =>
      rw [e1] at e
      simp only [Option.bind_some] at e
      cases e2 : nksOf ds with
      | none => rw [e2] at e; cases e
      | some ks' =>
        cases r with
        | cons a b => rw [key_flat d k _ _ e1 a, keys_flat ds ks' _ _ e2 b]; rfl
end
theorem ents_dp {n : Nat} : ∀ {xs : List (NestedKey × Addr × Value)} {kvs : List (PyData × Val)}, Paired (EnR X W ι F n) xs kvs → DpAll X.K F (xs.map fun x => V.ref x.2.1) (kvs.map (·.1)) ∧ ∀ d ∈ kvs.map (·.1), ∃ k, nkOf d = some k
  | _, _, .nil => ⟨.nil, fun _ z => by cases z⟩
  | _, _, .cons a b => by
    obtain ⟨h1, h2⟩ := ents_dp b
    refine ⟨.cons a.2.1 h1, fun d hd => ?_⟩
    rcases List.mem_cons.mp hd with rfl | hd
    · exact ⟨_, a.1⟩
    · exact h2 d hd
theorem refs_vals : ∀ (xs : List (NestedKey × Addr × Value)), Vals (xs.map fun x => V.ref x.2.1) (xs.map fun x => Value.ref x.2.1)
  | [] => .nil
  | x :: xs => .cons rfl (refs_vals xs)
theorem each_mem' {α β : Type} {P Q : α → β → Prop} : ∀ {as : List α} {bs : List β}, EachIs P as bs → (∀ a b, b ∈ bs → P a b → Q a b) → EachIs Q as bs
  | _, _, .nil, _ => .nil
  | _, _, .cons a b, k => .cons (k _ _ List.mem_cons_self a) (each_mem' b fun c d hd => k c d (List.mem_cons_of_mem _ hd))
theorem o_sortedD (K : Ctx X W) : CallR X (.builtin "sorted") (rOfL (cst X W) W fSortedD) := by
  intro pins s σ H xs us Q I r t
  obtain ⟨G, F, ι, h, v, R, V, D⟩ := t
  unfold fSortedD at D
  split at D
  · rename_i j
    split at D
    · rename_i w kvs hc
      split at D
      · rename_i hh
        rw [Bool.and_eq_true, Bool.and_eq_true, Bool.and_eq_true] at hh
        obtain ⟨⟨⟨kb, h1⟩, h2⟩, h3⟩ := hh
        cases V with
        | cons va vb =>
          cases vb
          cases va with
          | ref hj =>
            rw [Vals.ref1 r]
            obtain ⟨es, low, dd, hz, P⟩ := R.dict I hc kb
            obtain ⟨raw, ep, dr, rs, rk⟩ := dd.raw
            obtain ⟨dp, nk⟩ := ents_dp P
            have hu := K.hu
            have hz' : es.length ≤ sizeLine := by rw [SZ_eq]; omega
            refine Calls.call_function_entry kind_sorted plain_sorted entry_sorted (args_sorted1 _) ?_
            unfold Builtin.«sorted»
            refine wpAny_bind (m := checkCount "sorted" 1 1 _) (wpAny_pure ?_)
            refine wpAny_bind (kdu_collect (A := X.A.in1) (KdlSrc.rawDict (es := raw) (ep := ep) low) (I.ok.hd K.calm) dr (by rw [rs]; exact hz') fun h' tk acc hk hacc => ?_)
            have eacc : acc.toList = es.map fun x => Value.ref x.2.1 := by
              refine List.ext_getElem? fun i => ?_
              rw [List.getElem?_map]
              by_cases hi : i < es.length
              · have hi2 : i < acc.size := by rw [hacc.1, rs]; exact hi
                have e1 : acc.toList[i]? = some (acc[i]) := by rw [Array.getElem?_toList, Array.getElem?_eq_getElem hi2]
                obtain ⟨hi3, e2⟩ := hacc.2 i acc[i] (Array.getElem?_eq_getElem hi2)
                obtain ⟨y, y1, y2, _, _⟩ := rk i hi3
                rw [e1, e2, y1, y2]
                rfl
              · rw [List.getElem?_eq_none (by rw [Array.length_toList, hacc.1, rs]; omega), List.getElem?_eq_none (by omega)]
                rfl
            rw [eacc]
            have I1 : L2.Inv X pins σ H { s with heap := h', toks := tk } := I.kept hk
            obtain ⟨bs, hb1, hb2, hb3⟩ := dp_zip dp
            have ev : EachIs (fun u (b : V × PyData) => RelV b.1 u) (es.map fun x => Value.ref x.2.1) bs := each_v (by rw [← hb1]; exact refs_vals es)
            have bl : bs.length = es.length := by have := congrArg List.length hb1; simpa using this.symm
            refine wpAny_bind (wpAny_newList ?_ (by rw [List.length_map]; exact hz'))
            have hoL : (h'.push (seqObj "list" (es.map fun x => Value.ref x.2.1).toArray 0)).get? h'.objs.size = some (seqObj "list" (es.map fun x => Value.ref x.2.1).toArray 0) := Heap.get?_push_size _ rfl
            have kp : ∀ b o, h'.get? b = some o → (h'.push (seqObj "list" (es.map fun x => Value.ref x.2.1).toArray 0)).get? b = some o := fun b o q => Heap.get?_push_of_some _ q
            have er : EachIs (fun u b => ∃ as, Reads (h'.push (seqObj "list" (es.map fun x => Value.ref x.2.1).toArray 0)) u (b : V × PyData).2 as ∧ h'.objs.size ∉ as) (es.map fun x => Value.ref x.2.1) bs := each_mem' ev fun u b hb ru => by
              obtain ⟨as, rd⟩ := Dp.reads I1 b.2 b.1 u (R.dp (hb3 b hb)) ru
              obtain ⟨k, ek⟩ := nk b.2 (by rw [hb2]; exact List.mem_map_of_mem hb)
              refine ⟨as, PyProof.Rows.Reads.keeps kp rd, ?_⟩
              rw [key_flat b.2 k u as ek rd]
              exact fun z => by cases z
            show wpAny _ _ _ _ _ { s with heap := h'.push (seqObj "list" (es.map fun x => Value.ref x.2.1).toArray 0), toks := tk }
            refine wpAny_bind (wpAny_holding (list_sort_data (A := X.A.in1) (s := { s with heap := h'.push (seqObj "list" (es.map fun x => Value.ref x.2.1).toArray 0), toks := tk }) (enc := fun b : V × PyData => b.2) hoL ev er (by rw [← hb2]; exact alike_ok h1) (by rw [← hb2]; exact sort_ok h2) (by rw [bl]; exact hz') (fun b hb => ?_) fun out _ eo => ?_))
            · have := okD_dep (List.all_eq_true.mp h3 b.2 (by rw [hb2]; exact List.mem_map_of_mem hb))
              show X.A.units + 1 + 1 + b.2.depth < cLine
              omega
            · have hmap : (bs.mergeSort (dataLe false fun b : V × PyData => b.2)).map (·.2) = srt (bs.map (·.2)) := List.map_mergeSort fun a _ b _ => rfl
              obtain ⟨e', he'⟩ := sortedHeap_at (vs := es.map fun x => Value.ref x.2.1) (out := out.toArray) hoL
              have hlen : ((bs.mergeSort (dataLe false fun b : V × PyData => b.2)).map (·.1)).length ≤ sizeLine := by rw [List.length_map, List.length_mergeSort, bl]; exact hz'
              refine wpAny_pure ⟨_, rfl, .ref h'.objs.size, upd H h'.objs.size (.lst ((bs.mergeSort (dataLe false fun b : V × PyData => b.2)).map (·.1))), I1.laid (t' := tk) (fun b u q => ?_) (Nat.le_refl _) ⟨hlen, out, e', v_each eo, he'⟩, rfl, fin_newL R D ?_ _ (I1.hok.fresh (Nat.le_refl _))⟩
              · have hb : b < h'.objs.size := Heap.lt_size q
                rw [sortedHeap_old (Nat.ne_of_lt hb) (by rw [size_push']; exact Nat.lt_succ_of_lt hb)]
                exact kp b u q
              · rw [hb2, ← hmap]
                exact rvs_of (dp_unzip fun b hb => hb3 b (List.mem_mergeSort.mp hb))
      · exact D.elim
    · exact D.elim
  · exact D.elim
end
end NT

set_option Elab.async false
set_option linter.all false
set_option maxRecDepth 100000
set_option autoImplicit false

namespace NT
open PySem PySem.Spec PyProof.Rows L2 PySem.W

/-! ### isinstance(x, T), T one built-in type -/
def tyD' : PyData → Option String
  | .none => some "NoneType"
  | .bool _ => some "bool"
  | .int _ => some "int"
  | .str _ => some "str"
  | .list _ => some "list"
  | .tuple _ => some "tuple"
  | .dict _ => some "dict"
def tyN (v : Val) (h : Hs) : Option String := match v with
  | .im d => tyD' d
  | .ref j => match h[j]? with
    | some (.lst _) => some "list"
    | some (.fz d) => tyD' d
    | _ => none
def vIsi (T : String) (v : Val) (h : Hs) : Res Val := match tyN v h with
  | some S => (match kitB S T with
    | some b => .ok (.im (.bool b)) h
    | none => .no)
  | none => .no
section
variable {X : Cx} {W : WK} {G F : Hp} {ι : Nat → Addr} {h : Hs} {H : Hp}
theorem tyx_dp {K : PySem.W.Frag} {x : V} {d : PyData} {S : String} (z : Dp K H x d) (e : tyD' d = some S) : TyX K H x (.type S) := by
  cases z with
  | non => cases e; exact .base .non
  | bl b => cases e; exact .base (.bl b)
  | int i => cases e; exact .base (.int i)
  | str y => cases e; exact .base (.str y)
  | lst s _ =>
    cases e
    rcases s with (q | ⟨o, q⟩) | ⟨o, its, n, hk, hc, _⟩
    · exact .base (.lst q)
    · exact .base (.frz q)
    · exact .kList hk hc
  | dic _ q => cases e; exact .base (.dK q)
  | tup s _ =>
    cases e
    rcases s with (q | ⟨o, q⟩) | ⟨o, its, n, hk, hc, _⟩
    · exact .base (.tup q)
    · exact .fTuple q
    · exact .kTuple hk hc
theorem tyx_of {x : V} {v : Val} {S : String} (R : Rel (cst X W) G F ι h H) (V : RV (cst X W) ι F h.length x v) (e : tyN v h = some S) : TyX X.K H x (.type S) := by
  cases V with
  | im z => exact tyx_dp (R.dp z) e
  | @ref j hj =>
    unfold tyN at e
    simp only at e
    split at e
    · rename_i vs hc
      cases e
      obtain ⟨xs, hH, _⟩ := R.at_lst hc
      exact .base (.lst hH)
    · rename_i d hc
      exact tyx_dp (R.dp (R.cell j _ hc)) e
    · cases e
variable {a : Expr} {ma : Ev} {p p2 pos : Pos} {T : Str} {Ts : String}
theorem je_isi (hg : Gl X "isinstance") (hm : X.mg "isinstance" = none) (hgT : Gl X T) (hmT : X.mg T = none) (ha : JE X W a ma) (hT : bootBuiltins T = some (.type Ts) := by decide +kernel) (hnT : T ≠ "__name__" := by decide) (hdT : (T == ("__debug__" : Str)) = false := by decide)
    (na : starEach [a, .Name T p2] X.env = (false, eval a X.env) :: starEach [.Name T p2] X.env := by rfl) (nb : starEach [Expr.Name T p2] X.env = (false, eval (.Name T p2) X.env) :: starEach [] X.env := by rfl) (hpl : (backTo pos (starEach [Expr.Name T p2] X.env)).any (·.1) = false := by rfl) :
    JE X W (.Call (.Name "isinstance" p) [a, .Name T p2] [] pos) (e1 ma (vIsi Ts)) :=
  PE.imp (pe_callB call_isi hg hm PyProof.Rows.boot_isinstance (pa_cons ha (pa_cons (pe_bltn hgT hmT hT (v := .ty Ts) rfl hnT hdT) pa_nil nb) na) (he := na) (hpl := hpl)) fun σ H Q t => by
    obtain ⟨G, F, ι, ρ, h, R, S, D⟩ := t
    refine st1 R S D fun F1 ι1 h1 H1 x v R1 E1 l1 V1 D1 => ?_
    unfold vIsi at D1
    split at D1
    · rename_i S' e
      split at D1
      · rename_i b kb
        exact ⟨x, .ty Ts, .type S', .type Ts, b, rfl, .ty Ts, tyx_of R1 V1 e, kit_ty kb, fin_im R1 D1 (.bl b)⟩
      · exact D1.elim
    · exact D1.elim
end
end NT

set_option Elab.async false
set_option linter.all false
set_option maxRecDepth 100000
set_option autoImplicit false

namespace NT
open PySem PySem.Spec PyProof.Rows L2 PySem.W

/-! ### lists and dicts as values: each is one name's own -/
inductive VV where
  | im (d : PyData)
  | lst (l : List PyData)
  | dct (l : List (PyData × PyData))
def VV.mu : VV → Bool
  | .im _ => false
  | _ => true
abbrev VE := List (Option VV)
inductive VR (α : Type) where
  | ok (a : α) (σ : VE)
  | er (c : Str)
  | no
def VR.bind {α β : Type} (r : VR α) (f : α → VE → VR β) : VR β := match r with
  | .ok a h => f a h
  | .er c => .er c
  | .no => .no
@[simp] theorem vbind_ok {α β : Type} (a : α) (σ : VE) (f : α → VE → VR β) : (VR.ok a σ).bind f = f a σ := rfl
@[simp] theorem vbind_er {α β : Type} (c : Str) (f : α → VE → VR β) : (VR.er c : VR α).bind f = .er c := rfl
@[simp] theorem vbind_no {α β : Type} (f : α → VE → VR β) : (VR.no : VR α).bind f = .no := rfl
abbrev VM (α : Type) := VE → VR α
def dval (p : PyData × PyData) : PyData × Val := (p.1, .im p.2)
def VV.cell : VV → Cell
  | .im d => .fz d
  | .lst l => .lst (l.map .im)
  | .dct l => .dct (l.map dval)
theorem VV.cell_live {d : VV} (h : d.mu = true) : d.cell.live = true := by cases d <;> first | rfl | cases h
theorem VV.cell_below {d : VV} (n : Nat) : d.cell.below n = true := by
  cases d with
  | im _ => rfl
  | lst l => simp [VV.cell, Cell.below, Val.below]
  | dct l => simp [VV.cell, Cell.below, Val.below, dval]
theorem VV.cell_flat {d : VV} : d.cell.flat = true := by
  cases d with
  | im _ => rfl
  | lst l => simp [VV.cell, Cell.flat, Val.isIm]
  | dct l => simp [VV.cell, Cell.flat, Val.isIm, dval]
theorem VV.cell_ren {d : VV} (f : Nat → Nat) : d.cell.ren f = d.cell := by
  cases d with
  | im _ => rfl
  | lst l => simp [VV.cell, Cell.ren, Val.ren]
  | dct l => simp [VV.cell, Cell.ren, Val.ren, dval]
theorem VV.cell_noRef {d : VV} (j : Nat) : d.cell.noRef j = true := by
  cases d with
  | im _ => rfl
  | lst l => simp [VV.cell, Cell.noRef]
  | dct l => simp [VV.cell, Cell.noRef, dval]
theorem im_inj : ∀ {l r : List PyData}, l.map Val.im = r.map Val.im → l = r
  | [], [], _ => rfl
  | [], _ :: _, h => by cases h
  | _ :: _, [], h => by cases h
  | a :: l, b :: r, h => by
    rw [List.map_cons, List.map_cons] at h
    injection h with h1 h2
    injection h1 with h1
    rw [h1, im_inj h2]
theorem dval_inj : ∀ {l r : List (PyData × PyData)}, l.map dval = r.map dval → l = r
  | [], [], _ => rfl
  | [], _ :: _, h => by cases h
  | _ :: _, [], h => by cases h
  | (a, c) :: l, (b, d) :: r, h => by
    rw [List.map_cons, List.map_cons] at h
    injection h with h1 h2
    simp only [dval, Prod.mk.injEq, Val.im.injEq] at h1
    rw [h1.1, h1.2, dval_inj h2]
theorem VV.cell_inj {d e : VV} (h : d.cell = e.cell) : d = e := by
  cases d <;> cases e <;> simp only [VV.cell] at h <;> first
    | (injection h with h; rw [h])
    | (injection h with h; rw [im_inj h])
    | (injection h with h; rw [dval_inj h])
    | cases h
abbrev Fr := List (Nat × Cell)
/-- how names and cells stand for values -/
structure St (fr : Fr) (ρ : En) (h : Hs) (σ : VE) : Prop where
  len : ρ.length = σ.length
  im : ∀ (i : Nat) (d : PyData), σ[i]? = some (some (VV.im d)) → ρ[i]? = some (some (Val.im d))
  mu : ∀ (i : Nat) (d : VV), σ[i]? = some (some d) → d.mu = true → ∃ k : Nat, ρ[i]? = some (some (.ref k)) ∧ h[k]? = some d.cell ∧ ∀ p ∈ fr, p.1 ≠ k
  sep : ∀ (i j : Nat) (d e : VV) (k : Nat), σ[i]? = some (some d) → σ[j]? = some (some e) → d.mu = true → e.mu = true → ρ[i]? = some (some (.ref k)) → ρ[j]? = some (some (.ref k)) → i = j
  bl : ∀ (i k : Nat), ρ[i]? = some (some (.ref k)) → k < h.length
  fr : ∀ p ∈ fr, h[p.1]? = some p.2
section
variable {fr fr' : Fr} {ρ ρ' : En} {h h' : Hs} {σ σ' : VE} {n k i : Nat} {d : VV}
theorem St.frl (S : St fr ρ h σ) : ∀ p ∈ fr, p.1 < h.length := fun p hp => (List.getElem?_eq_some_iff.mp (S.fr p hp)).1
/-- a cell more that must stay -/
theorem St.push (S : St fr ρ h σ) {c : Cell} (hn : ∀ (i k : Nat), ρ[i]? = some (some (.ref k)) → k < n) (hk : n ≤ k) (e : h[k]? = some c) : St ((k, c) :: fr) ρ h σ :=
  ⟨S.len, S.im, fun i d e1 m => by
    obtain ⟨k', a, b, z⟩ := S.mu i d e1 m
    refine ⟨k', a, b, fun p hp => ?_⟩
    rcases List.mem_cons.mp hp with rfl | hp
    · have := hn i k' a
      simp only; omega
    · exact z p hp, S.sep, S.bl, fun p hp => by
    rcases List.mem_cons.mp hp with rfl | hp
    · exact e
    · exact S.fr p hp⟩
theorem St.pop {p : Nat × Cell} (S : St (p :: fr) ρ h σ) : St fr ρ h σ :=
  ⟨S.len, S.im, fun i d e1 m => by
    obtain ⟨k', a, b, z⟩ := S.mu i d e1 m
    exact ⟨k', a, b, fun p hp => z p (List.mem_cons_of_mem _ hp)⟩, S.sep, S.bl, fun p hp => S.fr p (List.mem_cons_of_mem _ hp)⟩
theorem St.less (S : St fr ρ h σ) (hf : ∀ p ∈ fr', p ∈ fr) : St fr' ρ h σ :=
  ⟨S.len, S.im, fun i d e1 m => by
    obtain ⟨k', a, b, z⟩ := S.mu i d e1 m
    exact ⟨k', a, b, fun p hp => z p (hf p hp)⟩, S.sep, S.bl, fun p hp => S.fr p (hf p hp)⟩
/-- the heap has more, or other things that nobody asks for -/
theorem St.heap (S : St fr ρ h σ) (hb : ∀ (i k : Nat), ρ[i]? = some (some (.ref k)) → k < h'.length) (hc : ∀ (i : Nat) (d : VV) (k : Nat), σ[i]? = some (some d) → d.mu = true → ρ[i]? = some (some (.ref k)) → h'[k]? = h[k]?) (hf : ∀ p ∈ fr, h'[p.1]? = h[p.1]?) : St fr ρ h' σ :=
  ⟨S.len, S.im, fun i d e m => by
    obtain ⟨k, a, b, z⟩ := S.mu i d e m
    exact ⟨k, a, by rw [hc i d k e m a]; exact b, z⟩, S.sep, hb, fun p hp => by rw [hf p hp]; exact S.fr p hp⟩
theorem St.grow (S : St fr ρ h σ) (x : Hs) : St fr ρ (h ++ x) σ :=
  S.heap (fun i k e => by have := S.bl i k e; rw [List.length_append]; omega) (fun i d k _ _ e => List.getElem?_append_left (S.bl i k e)) fun p hp => List.getElem?_append_left (S.frl p hp)
/-- a cell that is nobody's is written -/
theorem St.other (S : St fr ρ h σ) {c : Cell} (hn : ∀ (i k : Nat), ρ[i]? = some (some (.ref k)) → k < n) (hf : ∀ p ∈ fr, p.1 < n) (hk : n ≤ k) : St fr ρ (h.set k c) σ :=
  S.heap (fun i k e => by rw [List.length_set]; exact S.bl i k e) (fun i d j _ _ e => List.getElem?_set_ne (by have := hn i j e; omega)) fun p hp => List.getElem?_set_ne (by have := hf p hp; omega)
/-- behind an expression: what it laid is dropped -/
theorem St.cut (S : St fr ρ h' σ) (hn : ∀ (i k : Nat), ρ[i]? = some (some (.ref k)) → k < n) (hf : ∀ p ∈ fr, p.1 < n) (hl : n ≤ h'.length) : St fr ρ (trunc n h') σ := by
  unfold trunc
  split
  · refine S.heap (fun i k e => ?_) (fun i d k _ _ e => List.getElem?_take_of_lt (hn i k e)) fun p hp => List.getElem?_take_of_lt (hf p hp)
    have := hn i k e
    rw [List.length_take]; omega
  · exact S
theorem trunc_get {k n : Nat} {h : Hs} (hk : k < n) : (trunc n h)[k]? = h[k]? := by
  unfold trunc
  split
  · exact List.getElem?_take_of_lt hk
  · rfl
/-- a name is forgotten -/
theorem St.forget (S : St fr ρ h σ) (i : Nat) : St fr ρ h (σ.set i none) := by
  have key : ∀ {j : Nat} {d : VV}, (σ.set i none)[j]? = some (some d) → σ[j]? = some (some d) := fun {j d} e => by
    rcases get_set e with ⟨_, e⟩ | ⟨_, e, _⟩
    · exact e
    · cases e
  exact ⟨by rw [List.length_set]; exact S.len, fun j d e => S.im j d (key e), fun j d e m => S.mu j d (key e) m, fun a b d e k e1 e2 => S.sep a b d e k (key e1) (key e2), S.bl, S.fr⟩
/-- a name's new value: data -/
theorem St.setIm (S : St fr ρ h σ) (i : Nat) (d : PyData) : St fr (ρ.set i (some (.im d))) h (σ.set i (some (.im d))) := by
  have key : ∀ {j : Nat} {e : VV}, e.mu = true → (σ.set i (some (.im d)))[j]? = some (some e) → j ≠ i ∧ σ[j]? = some (some e) := fun {j e} m z => by
    rcases get_set z with ⟨a, e⟩ | ⟨_, e, _⟩
    · exact ⟨a, e⟩
    · injection e with e
      rw [← e] at m; cases m
  have key2 : ∀ {j k : Nat}, (ρ.set i (some (.im d)))[j]? = some (some (.ref k)) → j ≠ i ∧ ρ[j]? = some (some (.ref k)) := fun {j k} z => by
    rcases get_set z with ⟨a, e⟩ | ⟨_, e, _⟩
    · exact ⟨a, e⟩
    · cases e
  refine ⟨by rw [List.length_set, List.length_set]; exact S.len, fun j e z => ?_, fun j e z m => ?_, fun a b u v k e1 e2 m1 m2 e3 e4 => ?_, fun j k e => S.bl j k (key2 e).2, S.fr⟩
  · rcases get_set z with ⟨a, z⟩ | ⟨rfl, z, hl⟩
    · rw [List.getElem?_set_ne (Ne.symm a)]; exact S.im j e z
    · injection z with z
      injection z with z
      rw [z, List.getElem?_set_self (by rw [S.len]; exact hl)]
  · obtain ⟨a, z⟩ := key m z
    obtain ⟨k, b, c⟩ := S.mu j e z m
    exact ⟨k, by rw [List.getElem?_set_ne (Ne.symm a)]; exact b, c⟩
  · exact S.sep a b u v k (key m1 e1).2 (key m2 e2).2 m1 m2 (key2 e3).2 (key2 e4).2
/-- a name's new value: a cell that is nobody's -/
theorem St.setRef (S : St fr ρ h σ) (i : Nat) {d : VV} {k : Nat} (m : d.mu = true) (e : h[k]? = some d.cell) (hk : ∀ (j : Nat) (e : VV), j ≠ i → σ[j]? = some (some e) → e.mu = true → ρ[j]? ≠ some (some (.ref k))) (hf : ∀ p ∈ fr, p.1 ≠ k) : St fr (ρ.set i (some (.ref k))) h (σ.set i (some d)) := by
  have key : ∀ {j : Nat} {e : VV}, (σ.set i (some d))[j]? = some (some e) → (j ≠ i ∧ σ[j]? = some (some e)) ∨ (j = i ∧ e = d ∧ i < σ.length) := fun {j e} z => by
    rcases get_set z with ⟨a, e⟩ | ⟨a, e, hl⟩
    · exact .inl ⟨a, e⟩
    · injection e with e
      exact .inr ⟨a, e.symm, hl⟩
  have key2 : ∀ {j k' : Nat}, (ρ.set i (some (.ref k)))[j]? = some (some (.ref k')) → (j ≠ i ∧ ρ[j]? = some (some (.ref k'))) ∨ (j = i ∧ k' = k) := fun {j k'} z => by
    rcases get_set z with ⟨a, e⟩ | ⟨a, e, _⟩
    · exact .inl ⟨a, e⟩
    · injection e with e
      injection e with e
      exact .inr ⟨a, e.symm⟩
  refine ⟨by rw [List.length_set, List.length_set]; exact S.len, fun j e z => ?_, fun j e' z m' => ?_, fun a b u v k' e1 e2 m1 m2 g3 g4 => ?_, fun j k' z => ?_, S.fr⟩
  · rcases key z with ⟨a, z⟩ | ⟨_, z, _⟩
    · rw [List.getElem?_set_ne (Ne.symm a)]; exact S.im j e z
    · rw [← z] at m; cases m
  · rcases key z with ⟨a, z⟩ | ⟨rfl, rfl, hl⟩
    · obtain ⟨k', b, c⟩ := S.mu j e' z m'
      exact ⟨k', by rw [List.getElem?_set_ne (Ne.symm a)]; exact b, c⟩
    · exact ⟨k, List.getElem?_set_self (by rw [S.len]; exact hl), e, hf⟩
  · rcases key2 g3 with ⟨a3, e3⟩ | ⟨a3, rfl⟩
    · rcases key2 g4 with ⟨a4, e4⟩ | ⟨a4, rfl⟩
      · rcases key e1 with ⟨_, e1⟩ | ⟨b1, _⟩
        · rcases key e2 with ⟨_, e2⟩ | ⟨b2, _⟩
          · exact S.sep a b u v k' e1 e2 m1 m2 e3 e4
          · exact absurd b2 a4
        · exact absurd b1 a3
      · rcases key e1 with ⟨_, e1⟩ | ⟨b1, _⟩
        · exact absurd e3 (hk a u a3 e1 m1)
        · exact absurd b1 a3
    · rcases key2 g4 with ⟨a4, e4⟩ | ⟨a4, _⟩
      · rcases key e2 with ⟨_, e2⟩ | ⟨b2, _⟩
        · exact absurd e4 (hk b v a4 e2 m2)
        · exact absurd b2 a4
      · rw [a3, a4]
  · rcases key2 z with ⟨_, z⟩ | ⟨_, rfl⟩
    · exact S.bl j k' z
    · exact (List.getElem?_eq_some_iff.mp e).1
/-- a name's cell is written -/
theorem St.write (S : St fr ρ h σ) {i k : Nat} {d e : VV} (z : σ[i]? = some (some d)) (m : d.mu = true) (r : ρ[i]? = some (some (.ref k))) (m' : e.mu = true) : St fr ρ (h.set k e.cell) (σ.set i (some e)) := by
  obtain ⟨k', r', hk, hf⟩ := S.mu i d z m
  rw [r] at r'
  injection r' with r'
  injection r' with r'
  injection r' with r'
  subst r'
  have S1 : St fr ρ (h.set k e.cell) (σ.set i none) := (S.forget i).heap (fun i k e => by rw [List.length_set]; exact S.bl i k e) (fun j d' k' z' m'' r'' => by
    rcases get_set z' with ⟨a, z'⟩ | ⟨_, z', _⟩
    · exact List.getElem?_set_ne fun q => a (S.sep j i d' d k z' z m'' m (by rw [q]; exact r'') r)
    · cases z') fun p hp => List.getElem?_set_ne (Ne.symm (hf p hp))
  have kl := (List.getElem?_eq_some_iff.mp hk).1
  have S2 := S1.setRef i (d := e) (k := k) m' (List.getElem?_set_self kl) (fun j e' a z' m'' r'' => by
    rw [List.getElem?_set_ne (Ne.symm a)] at z'
    exact a (S.sep j i e' d k z' z m'' m r'' r)) hf
  rw [List.set_set] at S2
  have e1 : ρ.set i (some (.ref k)) = ρ := by
    apply List.ext_getElem?
    intro j
    by_cases hj : j = i
    · subst hj
      rw [List.getElem?_set_self (List.getElem?_eq_some_iff.mp r).1, r]
    · rw [List.getElem?_set_ne (Ne.symm hj)]
  rw [e1] at S2
  exact S2
end
end NT

set_option Elab.async false
set_option linter.all false
set_option maxRecDepth 100000
set_option autoImplicit false

namespace NT
open PySem PySem.Spec PyProof.Rows L2 PySem.W

/-! ### what an expression comes to -/
inductive ResV (b : Bool) (ρ : En) (n : Nat) (h : Hs) (σ : VE) : Val → VV → Prop where
  | im (e : PyData) : ResV b ρ n h σ (.im e) (.im e)
  | new {k : Nat} {d : VV} : d.mu = true → h[k]? = some d.cell → n ≤ k → ResV b ρ n h σ (.ref k) d
  | old {j k : Nat} {d : VV} : b = false → d.mu = true → h[k]? = some d.cell → ρ[j]? = some (some (.ref k)) → σ[j]? = some (some d) → ResV b ρ n h σ (.ref k) d
inductive Rd (h : Hs) : Val → VV → Prop where
  | im (e : PyData) : Rd h (.im e) (.im e)
  | ref {k : Nat} {d : VV} : d.mu = true → h[k]? = some d.cell → Rd h (.ref k) d
def Out {α β : Type} (R : En → Nat → Hs → VE → α → β → Prop) (fr : Fr) (ρ : En) (n : Nat) (q : Res α) (v : VR β) : Prop := match v with
  | .ok d σ' => ∃ x h', q = .ok x h' ∧ n ≤ h'.length ∧ St fr ρ h' σ' ∧ R ρ n h' σ' x d
  | .er c => q = .er c
  | .no => True
abbrev SimM {α β : Type} (R : En → Nat → Hs → VE → α → β → Prop) (m : M α) (v : VM β) : Prop := ∀ (fr : Fr) (ρ : En) (h : Hs) (σ : VE), St fr ρ h σ → Out R fr ρ h.length (m ρ h) (v σ)
abbrev SimE (b : Bool) (m : Ev) (v : VM VV) : Prop := SimM (ResV b) m v
abbrev SimA (b : Bool) (m : M (List Val)) (v : VM (List VV)) : Prop := SimM (fun ρ n h σ => Paired (ResV b ρ n h σ)) m v
abbrev SimT (m : M Bool) (v : VM Bool) : Prop := SimM (fun _ _ _ _ x d => x = d) m v
abbrev SimO (m : M (Option Int)) (v : VM (Option Int)) : Prop := SimM (fun _ _ _ _ x d => x = d) m v
section
variable {fr fr' : Fr} {ρ ρ' : En} {h h' h1 h2 : Hs} {σ σ' σ1 σ2 : VE} {n n' k i : Nat} {d : VV} {b : Bool} {x : Val}
theorem ResV.rd (r : ResV b ρ n h σ x d) : Rd h x d := by
  cases r with
  | im e => exact .im e
  | new m e _ => exact .ref m e
  | old _ m e _ _ => exact .ref m e
theorem ResV.le (r : ResV b ρ n h σ x d) (hn : n' ≤ n) : ResV b ρ n' h σ x d := by
  cases r with
  | im e => exact .im e
  | new m e l => exact .new m e (Nat.le_trans hn l)
  | old q m e a c => exact .old q m e a c
theorem ResV.any (r : ResV true ρ n h σ x d) : ResV b ρ n h σ x d := by
  cases r with
  | im e => exact .im e
  | new m e l => exact .new m e l
  | old q m e a c => cases q
theorem ResV.down (r : ResV b ρ n h σ x d) : ResV false ρ n h σ x d := by
  cases r with
  | im e => exact .im e
  | new m e l => exact .new m e l
  | old q m e a c => exact .old rfl m e a c
theorem Out.mp {α β : Type} {R T : En → Nat → Hs → VE → α → β → Prop} {q : Res α} {v : VR β} {n' : Nat} (o : Out R fr' ρ n q v) (hf : ∀ p ∈ fr, p ∈ fr') (hn : n' ≤ n) (hR : ∀ h σ x d, R ρ n h σ x d → T ρ n' h σ x d) : Out T fr ρ n' q v := by
  cases v with
  | ok d σ' => obtain ⟨x, h', a1, a2, a3, a4⟩ := o; exact ⟨x, h', a1, Nat.le_trans hn a2, a3.less hf, hR _ _ _ _ a4⟩
  | er c => exact o
  | no => trivial
theorem SimE.down {m : Ev} {v : VM VV} (s : SimE b m v) : SimE false m v := fun fr ρ h σ S => (s fr ρ h σ S).mp (fun _ z => z) (Nat.le_refl _) fun _ _ _ _ r => r.down
/-- a value kept while the next is read -/
theorem keepV (S1 : St fr ρ h1 σ1) (bl : ∀ (i k : Nat), ρ[i]? = some (some (.ref k)) → k < n) (r : ResV b ρ n h1 σ1 x d) :
    ∃ fr' : Fr, (∀ p ∈ fr, p ∈ fr') ∧ St fr' ρ h1 σ1 ∧ ∀ h2 σ2, St fr' ρ h2 σ2 → (d.mu = false ∨ σ2 = σ1) → ResV b ρ n h2 σ2 x d := by
  cases r with
  | im e => exact ⟨fr, fun _ z => z, S1, fun _ _ _ _ => .im e⟩
  | @new k d m e l => exact ⟨(k, d.cell) :: fr, fun _ z => List.mem_cons_of_mem _ z, S1.push bl l e, fun h2 σ2 S2 _ => .new m (S2.fr _ List.mem_cons_self) l⟩
  | old q m e a c =>
    refine ⟨fr, fun _ z => z, S1, fun h2 σ2 S2 z => ?_⟩
    rcases z with z | rfl
    · rw [m] at z; cases z
    · obtain ⟨k', a', e', _⟩ := S2.mu _ _ c m
      rw [a] at a'
      injection a' with a'
      injection a' with a'
      injection a' with a'
      subst a'
      exact .old q m e' a c
end

/-! ### names, constants, operators -/
inductive WO where
  | ok (d : VV)
  | er (c : Str)
  | no
def WO.at (o : WO) (σ : VE) : VR VV := match o with
  | .ok d => .ok d σ
  | .er c => .er c
  | .no => .no
@[simp] theorem at_ok (d : VV) (σ : VE) : (WO.ok d).at σ = .ok d σ := rfl
@[simp] theorem at_er (c : Str) (σ : VE) : (WO.er c).at σ = .er c := rfl
@[simp] theorem at_no (σ : VE) : (WO.no).at σ = .no := rfl
def NewV (h h' : Hs) (z : Val) (r : VV) : Prop := (∃ t, h' = h ++ t) ∧ ((∃ e, r = .im e ∧ z = .im e) ∨ (r.mu = true ∧ ∃ k, z = .ref k ∧ h.length ≤ k ∧ h'[k]? = some r.cell))
def OpS (o : WO) (r : Res Val) (h : Hs) : Prop := match o with
  | .ok d => ∃ z h', r = .ok z h' ∧ NewV h h' z d
  | .er c => r = .er c
  | .no => True
abbrev Op1 (f : Val → Hs → Res Val) (g : VV → WO) : Prop := ∀ h x d, Rd h x d → OpS (g d) (f x h) h
abbrev Op2 (f : Val → Val → Hs → Res Val) (g : VV → VV → WO) : Prop := ∀ h x y d e, Rd h x d → Rd h y e → OpS (g d e) (f x y h) h
abbrev OpL (f : List Val → Hs → Res Val) (g : List VV → WO) : Prop := ∀ h xs ds, Paired (Rd h) xs ds → OpS (g ds) (f xs h) h
def wVar (i : Nat) : VM VV := fun σ => match σ[i]? with
  | some (some d) => .ok d σ
  | _ => .no
/-- a name that stands for data -/
def wVarI (i : Nat) : VM VV := fun σ => match σ[i]? with
  | some (some (.im d)) => .ok (.im d) σ
  | _ => .no
def wC (d : PyData) : VM VV := fun σ => .ok (.im d) σ
def w1 (a : VM VV) (g : VV → WO) : VM VV := fun σ => (a σ).bind fun d σ1 => (g d).at σ1
open Classical in
noncomputable def w2 (a b : VM VV) (g : VV → VV → WO) : VM VV := fun σ => (a σ).bind fun d σ1 => (b σ1).bind fun e σ2 => if d.mu = false ∨ σ2 = σ1 then (g d e).at σ2 else .no
def wNil : VM (List VV) := fun σ => .ok [] σ
open Classical in
noncomputable def wCons (a : VM VV) (r : VM (List VV)) : VM (List VV) := fun σ => (a σ).bind fun d σ1 => (r σ1).bind fun ds σ2 => if d.mu = false ∨ σ2 = σ1 then .ok (d :: ds) σ2 else .no
def wB (r : VM (List VV)) (g : List VV → WO) : VM VV := fun σ => (r σ).bind fun ds σ1 => (g ds).at σ1
def wT (a : VM VV) : VM Bool := fun σ => (a σ).bind fun d σ1 => match d with
  | .im (.bool k) => .ok k σ1
  | _ => .no
def wIf (c : VM Bool) (a b : VM VV) : VM VV := fun σ => (c σ).bind fun k σ1 => if k = true then a σ1 else b σ1
def wmAnd (a b : VM Bool) : VM Bool := fun σ => (a σ).bind fun k σ1 => if k = true then b σ1 else .ok false σ1
def wmOr (a b : VM Bool) : VM Bool := fun σ => (a σ).bind fun k σ1 => if k = true then .ok true σ1 else b σ1
def wmNot (a : VM Bool) : VM Bool := fun σ => (a σ).bind fun k σ1 => .ok (!k) σ1
def wTrue : VM Bool := fun σ => .ok true σ
def weAnd (a b : VM VV) : VM VV := fun σ => (a σ).bind fun d σ1 => match d with
  | .im (.bool true) => b σ1
  | .im (.bool false) => .ok (.im (.bool false)) σ1
  | _ => .no
def weOr (a b : VM VV) : VM VV := fun σ => (a σ).bind fun d σ1 => match d with
  | .im (.bool false) => b σ1
  | .im (.bool true) => .ok (.im (.bool true)) σ1
  | _ => .no
def weNot (a : VM VV) : VM VV := fun σ => (a σ).bind fun d σ1 => match d with
  | .im (.bool k) => .ok (.im (.bool (!k))) σ1
  | _ => .no
open Classical in
noncomputable def wChain (g g' : VV → VV → WO) (a b c : VM VV) : VM VV := fun σ => (a σ).bind fun d σ1 => (b σ1).bind fun e σ2 => if d.mu = false ∨ σ2 = σ1 then ((g d e).at σ2).bind fun z σ3 => match z with
  | .im (.bool true) => (c σ3).bind fun w σ4 => if e.mu = false ∨ σ4 = σ2 then (g' e w).at σ4 else .no
  | .im (.bool false) => .ok (.im (.bool false)) σ3
  | _ => .no else .no
def datas : List VV → Option (List PyData)
  | [] => some []
  | .im d :: r => (datas r).map (d :: ·)
  | .lst l :: r => (datas r).map (.list l :: ·)
  | .dct _ :: _ => none
def ims : List VV → Option (List PyData)
  | [] => some []
  | .im d :: r => (ims r).map (d :: ·)
  | _ :: _ => none
def wTup (r : VM (List VV)) : VM VV := fun σ => (r σ).bind fun ds σ1 => match datas ds with
  | some l => if l.length ≤ 16777216 then .ok (.im (.tuple l)) σ1 else .no
  | none => .no
def wLst (r : VM (List VV)) : VM VV := fun σ => (r σ).bind fun ds σ1 => match ims ds with
  | some l => if l.length ≤ 16777216 then .ok (.lst l) σ1 else .no
  | none => .no
def wNoPart : VM (Option Int) := fun σ => .ok none σ
def wPart (a : VM VV) : VM (Option Int) := fun σ => (a σ).bind fun d σ1 => match d with
  | .im (.int i) => .ok (some i) σ1
  | _ => .no
open Classical in
noncomputable def wSlice (g : VV → Option Int → Option Int → WO) (a : VM VV) (l u : VM (Option Int)) : VM VV := fun σ => (a σ).bind fun d σ1 => (l σ1).bind fun lo σ2 => (u σ2).bind fun hi σ3 => if d.mu = false ∨ σ3 = σ1 then (g d lo hi).at σ3 else .no
section
variable {b b' c' : Bool} {a c e : Ev} {va vc ve : VM VV} {m r : M (List Val)} {vr : VM (List VV)} {s t : M Bool} {vs vt : VM Bool} {i : Nat}
theorem sv_var : SimE false (eVar i) (wVar i) := fun fr ρ h σ S => by
  cases e : σ[i]? with
  | none => simp only [wVar, e]; trivial
  | some o =>
    cases o with
    | none => simp only [wVar, e]; trivial
    | some d =>
      simp only [wVar, e]
      cases d with
      | im d => exact ⟨.im d, h, by simp only [eVar, S.im i d e], Nat.le_refl _, S, .im d⟩
      | lst l => obtain ⟨k, e1, e2, _⟩ := S.mu i _ e rfl; exact ⟨.ref k, h, by simp only [eVar, e1], Nat.le_refl _, S, .old rfl rfl e2 e1 e⟩
      | dct l => obtain ⟨k, e1, e2, _⟩ := S.mu i _ e rfl; exact ⟨.ref k, h, by simp only [eVar, e1], Nat.le_refl _, S, .old rfl rfl e2 e1 e⟩
theorem sv_varI : SimE true (eVar i) (wVarI i) := fun fr ρ h σ S => by
  cases e : σ[i]? with
  | none => simp only [wVarI, e]; trivial
  | some o =>
    cases o with
    | none => simp only [wVarI, e]; trivial
    | some d =>
      simp only [wVarI, e]
      cases d with
      | im d => exact ⟨.im d, h, by simp only [eVar, S.im i d e], Nat.le_refl _, S, .im d⟩
      | lst l => trivial
      | dct l => trivial
theorem sv_c {d : PyData} : SimE true (eC d) (wC d) := fun fr ρ h σ S => ⟨_, h, rfl, Nat.le_refl _, S, .im d⟩
/-- one reading ahead of another -/
theorem sv_bind {α β γ δ : Type} {R : En → Nat → Hs → VE → α → β → Prop} {T : En → Nat → Hs → VE → γ → δ → Prop} {m : M α} {v : VM β} {f : α → Hs → Res γ} {g : β → VE → VR δ} (s : SimM R m v) {fr : Fr} {ρ : En} {h : Hs} {σ : VE} (S : St fr ρ h σ)
    (k : ∀ x d h1 σ1, h.length ≤ h1.length → St fr ρ h1 σ1 → R ρ h.length h1 σ1 x d → Out T fr ρ h.length (f x h1) (g d σ1)) : Out T fr ρ h.length ((m ρ h).bind f) ((v σ).bind g) := by
  have z := s fr ρ h σ S
  cases e : v σ with
  | ok d σ' =>
    rw [e] at z
    obtain ⟨x, h', e1, l1, S1, r⟩ := z
    rw [e1]
    exact k x d h' σ' l1 S1 r
  | er c => rw [e] at z; rw [show m ρ h = .er c from z]; rfl
  | no => trivial
theorem st_new {fr : Fr} {ρ : En} {h h' : Hs} {σ : VE} {z : Val} {r : VV} {n : Nat} (S : St fr ρ h σ) (l : n ≤ h.length) (N : NewV h h' z r) : n ≤ h'.length ∧ St fr ρ h' σ ∧ ResV true ρ n h' σ z r := by
  obtain ⟨⟨t, rfl⟩, N⟩ := N
  refine ⟨by rw [List.length_append]; omega, S.grow t, ?_⟩
  rcases N with ⟨e, rfl, rfl⟩ | ⟨m, k, rfl, hk, e⟩
  · exact .im e
  · exact .new m e (Nat.le_trans l hk)
theorem op_fin {fr : Fr} {ρ : En} {h1 : Hs} {n : Nat} {σ : VE} {o : WO} {q : Res Val} (S : St fr ρ h1 σ) (l : n ≤ h1.length) (z : OpS o q h1) : Out (ResV true) fr ρ n q (o.at σ) := by
  cases o with
  | ok d =>
    obtain ⟨z, h', e, N⟩ := z
    obtain ⟨a1, a2, a3⟩ := st_new S l N
    exact ⟨z, h', e, a1, a2, a3⟩
  | er c => exact z
  | no => trivial
theorem sv_1 {f : Val → Hs → Res Val} {g : VV → WO} (o : Op1 f g) (ha : SimE b a va) : SimE true (e1 a f) (w1 va g) := fun fr ρ h σ S =>
  sv_bind ha S fun x d h1 σ1 l1 S1 r => op_fin S1 l1 (o h1 x d r.rd)
/-- two readings, the first kept -/
theorem sv_two {α β γ δ : Type} {R : En → Nat → Hs → VE → α → β → Prop} {T : En → Nat → Hs → VE → γ → δ → Prop} {m : M α} {v : VM β} {ρ : En} {n : Nat} {h1 : Hs} {σ1 : VE} {fr : Fr} {x : Val} {d : VV} {f : α → Hs → Res γ} {g : β → VE → VR δ} (s : SimM R m v) (S1 : St fr ρ h1 σ1) (bl : ∀ (i k : Nat), ρ[i]? = some (some (.ref k)) → k < n) (l1 : n ≤ h1.length)
    (r : ResV b ρ n h1 σ1 x d)
    (k : ∀ y e h2 σ2, n ≤ h2.length → h1.length ≤ h2.length → St fr ρ h2 σ2 → R ρ h1.length h2 σ2 y e → ((d.mu = false ∨ σ2 = σ1) → ResV b ρ n h2 σ2 x d) → Out T fr ρ n (f y h2) (g e σ2)) : Out T fr ρ n ((m ρ h1).bind f) ((v σ1).bind g) := by
  obtain ⟨fr', hf, S1', keep⟩ := keepV S1 bl r
  have z := s fr' ρ h1 σ1 S1'
  cases e : v σ1 with
  | ok d σ' =>
    rw [e] at z
    obtain ⟨y, h2, e1, l2, S2, r2⟩ := z
    rw [e1]
    exact k y d h2 σ' (Nat.le_trans l1 l2) l2 (S2.less hf) r2 (keep h2 σ' S2)
  | er c => rw [e] at z; rw [show m ρ h1 = .er c from z]; rfl
  | no => trivial
theorem out_if {α β : Type} {T : En → Nat → Hs → VE → α → β → Prop} {fr : Fr} {ρ : En} {n : Nat} {q : Res α} {p : Prop} {_i : Decidable p} {v : VR β} (k : p → Out T fr ρ n q v) : Out T fr ρ n q (if p then v else .no) := by
  split
  · rename_i z; exact k z
  · trivial
theorem sv_2 {f : Val → Val → Hs → Res Val} {g : VV → VV → WO} (o : Op2 f g) (ha : SimE b a va) (hc : SimE b' c vc) : SimE true (e2 a c f) (w2 va vc g) := fun fr ρ h σ S =>
  sv_bind ha S fun x d h1 σ1 l1 S1 r => sv_two hc S1 S.bl l1 r fun y e h2 σ2 l2 l12 S2 r2 kp => out_if fun hz => op_fin S2 l2 (o h2 x y d e (kp hz).rd r2.rd)
theorem sv_nil : SimA b mNil wNil := fun fr ρ h σ S => ⟨[], h, rfl, Nat.le_refl _, S, .nil⟩
theorem Paired.mp {α β : Type} {R T : α → β → Prop} (f : ∀ x y, R x y → T x y) : ∀ {xs : List α} {ys : List β}, Paired R xs ys → Paired T xs ys
  | _, _, .nil => .nil
  | _, _, .cons p r => .cons (f _ _ p) (Paired.mp f r)
theorem sv_cons (ha : SimE b a va) (hr : SimA b r vr) : SimA b (mCons a r) (wCons va vr) := fun fr ρ h σ S =>
  sv_bind ha S fun x d h1 σ1 l1 S1 q => sv_two hr S1 S.bl l1 q fun ys ds h2 σ2 l2 l12 S2 r2 kp => out_if fun hz => ⟨_, h2, rfl, l2, S2, .cons (kp hz) (Paired.mp (fun _ _ z => z.le l1) r2)⟩
theorem SimA.down {m : M (List Val)} {v : VM (List VV)} (s : SimA b m v) : SimA false m v := fun fr ρ h σ S => (s fr ρ h σ S).mp (fun _ z => z) (Nat.le_refl _) fun _ _ _ _ r => Paired.mp (fun _ _ z => z.down) r
theorem sv_b {f : List Val → Hs → Res Val} {g : List VV → WO} (o : OpL f g) (hr : SimA b r vr) : SimE true (eB r f) (wB vr g) := fun fr ρ h σ S =>
  sv_bind hr S fun xs ds h1 σ1 l1 S1 q => op_fin S1 l1 (o h1 xs ds (Paired.mp (fun _ _ z => z.rd) q))
theorem sv_t (ha : SimE b a va) : SimT (tst a) (wT va) := fun fr ρ h σ S =>
  sv_bind ha S fun x d h1 σ1 l1 S1 r => by
    cases r with
    | im e => cases e with
      | bool k => exact ⟨_, h1, rfl, l1, S1, rfl⟩
      | _ => trivial
    | @new k d m _ _ => cases d <;> first | trivial | cases m
    | @old j k d q m _ _ _ => cases d <;> first | trivial | cases m
theorem sv_then {α β : Type} {R : En → Nat → Hs → VE → α → β → Prop} {m : M α} {v : VM β} {fr : Fr} {ρ : En} {n : Nat} {h1 : Hs} {σ1 : VE} (s : SimM R m v) (hR : ∀ ρ n n' h σ x d, n' ≤ n → R ρ n h σ x d → R ρ n' h σ x d) (l1 : n ≤ h1.length) (S1 : St fr ρ h1 σ1) : Out R fr ρ n (m ρ h1) (v σ1) :=
  (s fr ρ h1 σ1 S1).mp (fun _ z => z) l1 fun _ _ _ _ r => hR _ _ _ _ _ _ _ l1 r
theorem le_res : ∀ (ρ : En) (n n' : Nat) (h : Hs) (σ : VE) (x : Val) (d : VV), n' ≤ n → ResV b ρ n h σ x d → ResV b ρ n' h σ x d := fun _ _ _ _ _ _ _ l r => r.le l
theorem le_eq {α : Type} : ∀ (ρ : En) (n n' : Nat) (h : Hs) (σ : VE) (x d : α), n' ≤ n → x = d → x = d := fun _ _ _ _ _ _ _ _ r => r
theorem sv_if (hs : SimT s vs) (ha : SimE b a va) (hc : SimE b c vc) : SimE b (eIf s a c) (wIf vs va vc) := fun fr ρ h σ S =>
  sv_bind hs S fun x d h1 σ1 l1 S1 r => by
    subst r
    cases x with
    | true => exact sv_then ha le_res l1 S1
    | false => exact sv_then hc le_res l1 S1
theorem sv_mAnd (hs : SimT s vs) (ht : SimT t vt) : SimT (mAnd s t) (wmAnd vs vt) := fun fr ρ h σ S =>
  sv_bind hs S fun x d h1 σ1 l1 S1 r => by
    subst r
    cases x with
    | true => exact sv_then ht le_eq l1 S1
    | false => exact ⟨_, h1, rfl, l1, S1, rfl⟩
theorem sv_mOr (hs : SimT s vs) (ht : SimT t vt) : SimT (mOr s t) (wmOr vs vt) := fun fr ρ h σ S =>
  sv_bind hs S fun x d h1 σ1 l1 S1 r => by
    subst r
    cases x with
    | true => exact ⟨_, h1, rfl, l1, S1, rfl⟩
    | false => exact sv_then ht le_eq l1 S1
theorem sv_mNot (hs : SimT s vs) : SimT (mNot s) (wmNot vs) := fun fr ρ h σ S =>
  sv_bind hs S fun x d h1 σ1 l1 S1 r => by
    subst r
    exact ⟨_, h1, rfl, l1, S1, rfl⟩
theorem sv_true : SimT mTrue wTrue := fun fr ρ h σ S => ⟨_, h, rfl, Nat.le_refl _, S, rfl⟩
theorem sv_eAnd (ha : SimE true a va) (hc : SimE b c vc) : SimE b (eAnd a c) (weAnd va vc) := fun fr ρ h σ S =>
  sv_bind ha S fun x d h1 σ1 l1 S1 r => by
    cases r with
    | im e =>
      cases e with
      | bool k => cases k with
        | true => exact sv_then hc le_res l1 S1
        | false => exact ⟨_, h1, rfl, l1, S1, .im _⟩
      | _ => trivial
    | @new k d m _ _ => cases d <;> first | trivial | cases m
    | old q => cases q
theorem sv_eOr (ha : SimE true a va) (hc : SimE b c vc) : SimE b (eOr a c) (weOr va vc) := fun fr ρ h σ S =>
  sv_bind ha S fun x d h1 σ1 l1 S1 r => by
    cases r with
    | im e =>
      cases e with
      | bool k => cases k with
        | false => exact sv_then hc le_res l1 S1
        | true => exact ⟨_, h1, rfl, l1, S1, .im _⟩
      | _ => trivial
    | @new k d m _ _ => cases d <;> first | trivial | cases m
    | old q => cases q
theorem sv_eNot (ha : SimE b' a va) : SimE true (eNot a) (weNot va) := fun fr ρ h σ S =>
  sv_bind ha S fun x d h1 σ1 l1 S1 r => by
    cases r with
    | im e =>
      cases e with
      | bool k => exact ⟨_, h1, rfl, l1, S1, .im _⟩
      | _ => trivial
    | @new k d m _ _ => cases d <;> first | trivial | cases m
    | @old j k d q m _ _ _ => cases d <;> first | trivial | cases m
theorem sv_chain {f f' : Val → Val → Hs → Res Val} {g g' : VV → VV → WO} (o : Op2 f g) (o' : Op2 f' g') (ha : SimE b a va) (hc : SimE b' c vc) (he : SimE c' e ve) : SimE true (eChain f f' a c e) (wChain g g' va vc ve) := fun fr ρ h σ S =>
  sv_bind ha S fun x d h1 σ1 l1 S1 r => by
    obtain ⟨fr', hf, S1', keep⟩ := keepV S1 S.bl r
    have z := hc fr' ρ h1 σ1 S1'
    cases e1 : vc σ1 with
    | er ec => rw [e1] at z; rw [show c ρ h1 = _ from z]; rfl
    | no => trivial
    | ok d2 σ2 =>
      rw [e1] at z
      obtain ⟨y, h2, e2, l2, S2, r2⟩ := z
      rw [e2]
      refine out_if fun hz => ?_
      have o1 := o h2 x y d d2 (keep h2 σ2 S2 hz).rd r2.rd
      have S2' := S2.less hf
      simp only [bind_ok]
      cases e3 : g d d2 with
      | er c => rw [e3] at o1; rw [show f x y h2 = _ from o1]; rfl
      | no => trivial
      | ok d3 =>
        rw [e3] at o1
        obtain ⟨w, h3, e4, N⟩ := o1
        have r2' : ResV b' ρ h.length h2 σ2 y d2 := r2.le l1
        obtain ⟨l3, S3, r3⟩ := st_new S2' (Nat.le_trans l1 l2) N
        rw [e4]
        simp only [bind_ok, at_ok, vbind_ok]
        have r3' : ResV b' ρ h.length h3 σ2 y d2 := by
          obtain ⟨⟨t, rfl⟩, _⟩ := N
          cases r2' with
          | im e => exact .im e
          | new m e l => exact .new m (by rw [List.getElem?_append_left (List.getElem?_eq_some_iff.mp e).1]; exact e) l
          | old q m e a c => exact .old q m (by rw [List.getElem?_append_left (List.getElem?_eq_some_iff.mp e).1]; exact e) a c
        cases r3 with
        | im q =>
          cases q with
          | bool k => cases k with
            | false => exact ⟨_, h3, rfl, l3, S3, .im _⟩
            | true => exact sv_two he S3 S.bl l3 r3' fun u d4 h4 σ4 l4 l34 S4 r4 kp => out_if fun hz => op_fin S4 l4 (o' h4 y u d2 d4 (kp hz).rd r4.rd)
          | _ => trivial
        | @new k d m _ _ => cases d3 <;> first | trivial | cases m
        | old q => cases q
/-- a value that may have been laid into a tuple by now -/
inductive FzR (n : Nat) (h : Hs) : Val → VV → Prop where
  | im (e : PyData) : FzR n h (.im e) (.im e)
  | lst {k : Nat} {l : List PyData} : (h[k]? = some (.lst (l.map .im)) ∨ h[k]? = some (.fz (.list l))) → n ≤ k → FzR n h (.ref k) (.lst l)
theorem frz_sim {fr : Fr} {ρ : En} {n : Nat} {σ : VE} (bl : ∀ (i k : Nat), ρ[i]? = some (some (.ref k)) → k < n) (hf : ∀ p ∈ fr, p.1 < n) : ∀ (xs : List Val) (ds : List VV) (l : List PyData) (h : Hs), datas ds = some l → Paired (FzR n h) xs ds → St fr ρ h σ → n ≤ h.length → ∃ h', frzL xs h = some (l, h') ∧ St fr ρ h' σ ∧ h'.length = h.length
  | [], ds, l, h, e, p, S, _ => by cases p; cases e; exact ⟨h, rfl, S, rfl⟩
  | x :: xs, ds, l, h, e, p, S, hn => by
    cases p with
    | @cons _ d _ ds' p1 p2 =>
      cases p1 with
      | im q =>
        simp only [datas] at e
        cases e1 : datas ds' with
        | none => rw [e1] at e; cases e
        | some l' =>
          rw [e1] at e; cases e
          obtain ⟨h', a1, a2, a3⟩ := frz_sim bl hf xs ds' l' h e1 p2 S hn
          exact ⟨h', by simp only [frzL, frz, Option.bind_some, a1, Option.map_some], a2, a3⟩
      | @lst k q hk hl =>
        simp only [datas] at e
        cases e1 : datas ds' with
        | none => rw [e1] at e; cases e
        | some l' =>
          rw [e1] at e; cases e
          rcases hk with hk | hk
          · have kl := (List.getElem?_eq_some_iff.mp hk).1
            obtain ⟨h', a1, a2, a3⟩ := frz_sim bl hf xs ds' l' (h.set k (.fz (.list q))) e1 (Paired.mp (fun x y z => by
              cases z with
              | im e => exact .im e
              | @lst k' l' z1 z2 =>
                refine .lst ?_ z2
                by_cases hkk : k' = k
                · subst hkk
                  rw [List.getElem?_set_self kl]
                  rw [hk] at z1
                  rcases z1 with z1 | z1
                  · injection z1 with z1
                    injection z1 with z1
                    rw [im_inj z1]; exact .inr rfl
                  · cases z1
                · rw [List.getElem?_set_ne (Ne.symm hkk)]; exact z1) p2) (S.other bl hf hl) (by rw [List.length_set]; exact hn)
            exact ⟨h', by simp only [frzL, frz, hk, imsOf_map, Option.map_some, Option.bind_some, a1], a2, by rw [a3, List.length_set]⟩
          · obtain ⟨h', a1, a2, a3⟩ := frz_sim bl hf xs ds' l' h e1 p2 S hn
            exact ⟨h', by simp only [frzL, frz, hk, Option.bind_some, a1, Option.map_some], a2, a3⟩
theorem res_fz {ρ : En} {n : Nat} {h : Hs} {σ : VE} {ds : List VV} {l : List PyData} {xs : List Val} (e : datas ds = some l) (p : Paired (ResV true ρ n h σ) xs ds) : Paired (FzR n h) xs ds := by
  induction p generalizing l with
  | nil => exact .nil
  | @cons x d xs ds p1 p2 ih =>
    cases p1 with
    | im q =>
      simp only [datas] at e
      cases e1 : datas ds with
      | none => rw [e1] at e; cases e
      | some l' => exact .cons (.im q) (ih e1)
    | @new k d m q hl =>
      cases d with
      | im _ => cases m
      | dct _ => simp [datas] at e
      | lst z =>
        simp only [datas] at e
        cases e1 : datas ds with
        | none => rw [e1] at e; cases e
        | some l' => exact .cons (.lst (.inl q) hl) (ih e1)
    | old q => cases q
theorem sv_tup (hr : SimA true r vr) : SimE true (eTup r) (wTup vr) := fun fr ρ h σ S =>
  sv_bind hr S fun xs ds h1 σ1 l1 S1 p => by
    cases e : datas ds with
    | none => trivial
    | some l =>
      obtain ⟨h2, a1, a2, a3⟩ := frz_sim S.bl S.frl xs ds l h1 e (res_fz e p) S1 l1
      refine out_if fun hl => ?_
      exact ⟨.im (.tuple l), h2, by simp only [a1, hl, if_true], by rw [a3]; exact l1, a2, .im _⟩
theorem ims_paired {b : Bool} {ρ : En} {n : Nat} {h : Hs} {σ : VE} : ∀ {ds : List VV} {l : List PyData} {xs : List Val}, ims ds = some l → Paired (ResV b ρ n h σ) xs ds → xs = l.map .im
  | [], _, _, e, p => by cases p; cases e; rfl
  | .im d :: ds, _, _, e, p => by
    simp only [ims] at e
    cases e1 : ims ds with
    | none => rw [e1] at e; cases e
    | some l' =>
      rw [e1] at e; cases e
      cases p with
      | cons p1 p2 =>
        rw [ims_paired e1 p2]
        cases p1 with
        | im _ => rfl
        | new m => cases m
        | old _ m => cases m
  | .lst _ :: _, _, _, e, _ => by cases e
  | .dct _ :: _, _, _, e, _ => by cases e
theorem sv_lst (hr : SimA b r vr) : SimE true (eLst r) (wLst vr) := fun fr ρ h σ S =>
  sv_bind hr S fun xs ds h1 σ1 l1 S1 p => by
    cases e : ims ds with
    | none => trivial
    | some l =>
      have := ims_paired e p
      subst this
      refine out_if fun hl => ?_
      exact ⟨.ref h1.length, h1 ++ [.lst (l.map .im)], by simp only [List.length_map, hl, if_true], by rw [List.length_append]; omega, S1.grow _, .new rfl (by simp [VV.cell]) l1⟩
theorem sv_noPart : SimO mNoPart wNoPart := fun fr ρ h σ S => ⟨_, h, rfl, Nat.le_refl _, S, rfl⟩
theorem sv_part (ha : SimE b a va) : SimO (mPart a) (wPart va) := fun fr ρ h σ S =>
  sv_bind ha S fun x d h1 σ1 l1 S1 r => by
    cases r with
    | im e => cases e with
      | int k => exact ⟨_, h1, rfl, l1, S1, rfl⟩
      | _ => trivial
    | @new k d m _ _ => cases d <;> first | trivial | cases m
    | @old j k d q m _ _ _ => cases d <;> first | trivial | cases m
theorem sv_slice {g : VV → Option Int → Option Int → WO} {l u : M (Option Int)} {vl vu : VM (Option Int)} (o : ∀ lo hi, Op1 (fun v => vSlice v lo hi) fun d => g d lo hi) (ha : SimE b a va) (hl : SimO l vl) (hu : SimO u vu) : SimE true (eSlice a l u) (wSlice g va vl vu) := fun fr ρ h σ S =>
  sv_bind ha S fun x d h1 σ1 l1 S1 r => by
    obtain ⟨fr', hf, S1', keep⟩ := keepV S1 S.bl r
    refine Out.mp (fr' := fr') (n := h.length) (R := ResV true) ?_ hf (Nat.le_refl _) fun _ _ _ _ r => r
    have z := hl fr' ρ h1 σ1 S1'
    cases e1 : vl σ1 with
    | er c => rw [e1] at z; rw [show l ρ h1 = _ from z]; rfl
    | no => trivial
    | ok lo σ2 =>
      rw [e1] at z
      obtain ⟨_, h2, e2, l2, S2, rfl⟩ := z
      rw [e2]
      simp only [bind_ok, vbind_ok]
      have z := hu fr' ρ h2 σ2 S2
      cases e3 : vu σ2 with
      | er c => rw [e3] at z; rw [show u ρ h2 = _ from z]; rfl
      | no => trivial
      | ok hi σ3 =>
        rw [e3] at z
        obtain ⟨_, h3, e4, l3, S3, rfl⟩ := z
        rw [e4]
        simp only [bind_ok, vbind_ok]
        exact out_if fun hz => op_fin S3 (Nat.le_trans l1 (Nat.le_trans l2 l3)) (o _ _ h3 x d (keep h3 σ3 S3 hz).rd)
end
end NT

set_option Elab.async false
set_option linter.all false
set_option maxRecDepth 100000
set_option autoImplicit false

namespace NT
open PySem PySem.Spec PyProof.Rows L2 PySem.W

/-! ### statements over values -/
inductive WRS where
  | nx (σ : VE)
  | rt (d : VV) (σ : VE)
  | bk (σ : VE)
  | ct (σ : VE)
  | er (c : Str)
  | no
abbrev WS := VE → WRS
structure Aft (A : List Nat) (fr : Fr) (p : Nat) (ρ ρ' : En) (h' : Hs) (σ' : VE) : Prop where
  st : St fr ρ' h' σ'
  le : p ≤ h'.length
  eq : ∀ i, i ∉ A → ρ'[i]? = ρ[i]?
def RetV (ρ : En) (h : Hs) (σ : VE) (x : Val) (d : VV) : Prop := (∃ e, d = .im e ∧ x = .im e) ∨ (d.mu = true ∧ ∃ k, x = .ref k ∧ h[k]? = some d.cell ∧ ∀ (i : Nat) (e : VV), σ[i]? = some (some e) → e.mu = true → ρ[i]? ≠ some (some (.ref k)))
def OutS (A : List Nat) (fr : Fr) (ρ : En) (p : Nat) (q : RS) (v : WRS) : Prop := match v with
  | .nx σ' => ∃ ρ' h', q = .nx ρ' h' ∧ Aft A fr p ρ ρ' h' σ'
  | .bk σ' => ∃ ρ' h', q = .bk ρ' h' ∧ Aft A fr p ρ ρ' h' σ'
  | .ct σ' => ∃ ρ' h', q = .ct ρ' h' ∧ Aft A fr p ρ ρ' h' σ'
  | .rt d σ' => ∃ ρ' x h', q = .rt x h' ∧ Aft A fr p ρ ρ' h' σ' ∧ RetV ρ' h' σ' x d
  | .er c => q = .er c
  | .no => True
def SimS (A : List Nat) (s : SM) (v : WS) : Prop := ∀ (fr : Fr) (p : Nat) (ρ : En) (h : Hs) (σ : VE), St fr ρ h σ → (∀ x ∈ fr, x.1 < p) → p ≤ h.length → OutS A fr ρ p (s p ρ h) (v σ)
def xNil : WS := fun σ => .nx σ
def xSeq (a b : WS) : WS := fun σ => match a σ with
  | .nx σ' => b σ'
  | r => r
def xExpr (a : VM VV) : WS := fun σ => match a σ with
  | .ok _ σ' => .nx σ'
  | .er c => .er c
  | .no => .no
def xSet (i : Nat) (a : VM VV) : WS := fun σ => match a σ with
  | .ok d σ' => .nx (σ'.set i (some d))
  | .er c => .er c
  | .no => .no
def xRet (a : VM VV) : WS := fun σ => match a σ with
  | .ok d σ' => .rt d σ'
  | .er c => .er c
  | .no => .no
/-- a name is told: its list goes -/
def xRetV (i : Nat) : WS := fun σ => match σ[i]? with
  | some (some d) => .rt d (if d.mu = true then σ.set i none else σ)
  | _ => .no
def xRetN : WS := fun σ => .rt (.im .none) σ
def xIf (c : VM Bool) (a b : WS) : WS := fun σ => match c σ with
  | .ok k σ' => if k = true then a σ' else b σ'
  | .er c => .er c
  | .no => .no
def xBreak : WS := fun σ => .bk σ
def xCont : WS := fun σ => .ct σ
def putA (i : Nat) (v : PyData) (j : VV) (σ2 : VE) : WRS := match j, σ2[i]? with
  | .im (.int j), some (some (.lst l)) => (match ixN l.length j with
    | some q => .nx (σ2.set i (some (.lst (l.set q v))))
    | none => .no)
  | _, _ => .no
def xPut (i : Nat) (mi me : VM VV) : WS := fun σ => match me σ with
  | .ok (.im v) σ1 => (match σ1[i]? with
    | some (some _) => (match mi σ1 with
      | .ok j σ2 => putA i v j σ2
      | .er c => .er c
      | .no => .no)
    | _ => .no)
  | .er c => .er c
  | _ => .no
def xPar (i j : Nat) (r : VM (List VV)) : WS := fun σ => match r σ with
  | .ok [.im v, .im w] σ1 => .nx ((σ1.set i (some (.im v))).set j (some (.im w)))
  | .er c => .er c
  | _ => .no
section
variable {A B : List Nat} {fr fr' : Fr} {ρ ρ' ρ2 : En} {h h' h1 h2 : Hs} {σ σ' σ1 σ2 : VE} {n n' k i j p : Nat} {d : VV} {b : Bool} {x : Val} {s t : SM} {u v : WS} {a : Ev} {va : VM VV} {r : M (List Val)} {vr : VM (List VV)} {c : M Bool} {vc : VM Bool}
theorem OutS.mp {q : RS} {o : WRS} {p' : Nat} (z : OutS A fr' ρ2 p' q o) (hA : ∀ i ∈ A, i ∈ B) (hf : ∀ p ∈ fr, p ∈ fr') (hp : p ≤ p') (hρ : ∀ i, i ∉ B → ρ2[i]? = ρ[i]?) : OutS B fr ρ p q o := by
  have key : ∀ {ρ' h' σ'}, Aft A fr' p' ρ2 ρ' h' σ' → Aft B fr p ρ ρ' h' σ' := fun z => ⟨z.st.less hf, Nat.le_trans hp z.le, fun i hi => by rw [z.eq i (fun q => hi (hA i q)), hρ i hi]⟩
  cases o with
  | nx σ' => obtain ⟨a1, a2, a3, a4⟩ := z; exact ⟨a1, a2, a3, key a4⟩
  | bk σ' => obtain ⟨a1, a2, a3, a4⟩ := z; exact ⟨a1, a2, a3, key a4⟩
  | ct σ' => obtain ⟨a1, a2, a3, a4⟩ := z; exact ⟨a1, a2, a3, key a4⟩
  | rt d σ' => obtain ⟨a1, a2, a3, a4, a5, a6⟩ := z; exact ⟨a1, a2, a3, a4, key a5, a6⟩
  | er c => exact z
  | no => trivial
theorem res_im {w : PyData} (r : ResV b ρ n h σ x (.im w)) : x = .im w := by
  cases r with
  | im => rfl
  | new m => cases m
  | old _ m => cases m
theorem res_ref (r : ResV b ρ n h σ x d) (m : d.mu = true) : ∃ k, x = .ref k ∧ h[k]? = some d.cell := by
  cases r with
  | im => cases m
  | new m e => exact ⟨_, rfl, e⟩
  | old _ m e => exact ⟨_, rfl, e⟩
theorem ss_nil : SimS [] sNil xNil := fun fr p ρ h σ S hf hp => ⟨ρ, h, rfl, S, hp, fun _ _ => rfl⟩
theorem ss_pass : SimS [] sPass xNil := ss_nil
theorem ss_break : SimS [] sBreak xBreak := fun fr p ρ h σ S hf hp => ⟨ρ, h, rfl, S, hp, fun _ _ => rfl⟩
theorem ss_cont : SimS [] sCont xCont := fun fr p ρ h σ S hf hp => ⟨ρ, h, rfl, S, hp, fun _ _ => rfl⟩
theorem ss_seq (hs : SimS A s u) (ht : SimS B t v) : SimS (A ++ B) (sSeq s t) (xSeq u v) := fun fr p ρ h σ S hf hp => by
  have z := hs fr p ρ h σ S hf hp
  unfold sSeq xSeq
  cases e : u σ with
  | nx σ' =>
    rw [e] at z
    obtain ⟨ρ', h', a1, a2⟩ := z
    rw [a1]
    exact (ht fr p ρ' h' σ' a2.st hf a2.le).mp (fun i hi => List.mem_append_right _ hi) (fun _ z => z) (Nat.le_refl _) fun i hi => a2.eq i fun q => hi (List.mem_append_left _ q)
  | bk σ' => rw [e] at z; have z' := z; obtain ⟨_, _, a1, _⟩ := z'; rw [a1] at z ⊢; exact z.mp (fun i hi => List.mem_append_left _ hi) (fun _ z => z) (Nat.le_refl _) fun _ _ => rfl
  | ct σ' => rw [e] at z; have z' := z; obtain ⟨_, _, a1, _⟩ := z'; rw [a1] at z ⊢; exact z.mp (fun i hi => List.mem_append_left _ hi) (fun _ z => z) (Nat.le_refl _) fun _ _ => rfl
  | rt d σ' => rw [e] at z; have z' := z; obtain ⟨_, _, _, a1, _⟩ := z'; rw [a1] at z ⊢; exact z.mp (fun i hi => List.mem_append_left _ hi) (fun _ z => z) (Nat.le_refl _) fun _ _ => rfl
  | er c => rw [e] at z; rw [show s p ρ h = _ from z]; rfl
  | no => trivial
theorem ss_expr (ha : SimE b a va) : SimS [] (sExpr a) (xExpr va) := fun fr p ρ h σ S hf hp => by
  have z := ha fr ρ h σ S
  unfold sExpr xExpr
  cases e : va σ with
  | ok d σ' =>
    rw [e] at z
    obtain ⟨x, h', e1, l1, S1, r⟩ := z
    rw [e1]
    exact ⟨ρ, _, rfl, S1.cut S.bl S.frl l1, Nat.le_trans hp (trunc_len l1), fun _ _ => rfl⟩
  | er c => rw [e] at z; rw [show a ρ h = _ from z]; rfl
  | no => trivial
theorem ss_ret (ha : SimE true a va) : SimS [] (sRet a) (xRet va) := fun fr p ρ h σ S hf hp => by
  have z := ha fr ρ h σ S
  unfold sRet xRet
  cases e : va σ with
  | ok d σ' =>
    rw [e] at z
    obtain ⟨x, h', e1, l1, S1, r⟩ := z
    rw [e1]
    refine ⟨ρ, x, h', rfl, ⟨S1, Nat.le_trans hp l1, fun _ _ => rfl⟩, ?_⟩
    cases r with
    | im w => exact .inl ⟨w, rfl, rfl⟩
    | @new k d m e l => exact .inr ⟨m, k, rfl, e, fun i e _ _ q => by have := S.bl i k q; omega⟩
    | old q => cases q
  | er c => rw [e] at z; rw [show a ρ h = _ from z]; rfl
  | no => trivial
theorem ss_retV : SimS [] (sRet (eVar i)) (xRetV i) := fun fr p ρ h σ S hf hp => by
  have z := sv_var (i := i) fr ρ h σ S
  unfold sRet xRetV
  unfold wVar at z
  cases e : σ[i]? with
  | none => trivial
  | some o =>
    cases o with
    | none => trivial
    | some d =>
      rw [e] at z
      obtain ⟨x, h', e1, l1, S1, r⟩ := z
      rw [e1]
      have sr : ∀ {k}, ρ[i]? = some (some (.ref k)) → d.mu = true → ∀ (j : Nat) (e : VV), (σ.set i none)[j]? = some (some e) → e.mu = true → ρ[j]? ≠ some (some (.ref k)) := fun {k} rk m j e' z m' q => by
        rcases get_set z with ⟨a, z⟩ | ⟨_, z, _⟩
        · exact a (S.sep j i e' d k z e m' m q rk)
        · cases z
      have hi : ∃ w, ρ[i]? = some (some w) ∧ x = w := by
        unfold eVar at e1
        split at e1
        · rename_i w q; injection e1 with e1 _; exact ⟨w, q, e1.symm⟩
        · cases e1
      obtain ⟨w, hw, rfl⟩ := hi
      cases hm : d.mu with
      | false =>
        refine ⟨ρ, x, h', rfl, ⟨by simp only [hm]; exact S1, Nat.le_trans hp l1, fun _ _ => rfl⟩, ?_⟩
        cases d with
        | im w => exact .inl ⟨w, rfl, res_im r⟩
        | lst _ => cases hm
        | dct _ => cases hm
      | true =>
        obtain ⟨k, rfl, ek⟩ := res_ref r hm
        refine ⟨ρ, _, h', rfl, ⟨by simp only [hm, if_true]; exact S1.forget i, Nat.le_trans hp l1, fun _ _ => rfl⟩, .inr ⟨hm, k, rfl, ek, ?_⟩⟩
        simp only [hm, if_true]
        exact sr hw hm
theorem ss_retN : SimS [] sRetN xRetN := fun fr p ρ h σ S hf hp => ⟨ρ, _, h, rfl, ⟨S, hp, fun _ _ => rfl⟩, .inl ⟨_, rfl, rfl⟩⟩
theorem ss_if (hc : SimT c vc) (hs : SimS A s u) (ht : SimS B t v) : SimS (A ++ B) (sIf c s t) (xIf vc u v) := fun fr p ρ h σ S hf hp => by
  have z := hc fr ρ h σ S
  unfold sIf xIf
  cases e : vc σ with
  | ok k σ' =>
    rw [e] at z
    obtain ⟨x, h', e1, l1, S1, rfl⟩ := z
    rw [e1]
    have S2 := S1.cut S.bl S.frl l1
    have l2 := Nat.le_trans hp (trunc_len l1)
    cases x with
    | true => exact (hs fr p ρ _ σ' S2 hf l2).mp (fun i hi => List.mem_append_left _ hi) (fun _ z => z) (Nat.le_refl _) fun _ _ => rfl
    | false => exact (ht fr p ρ _ σ' S2 hf l2).mp (fun i hi => List.mem_append_right _ hi) (fun _ z => z) (Nat.le_refl _) fun _ _ => rfl
  | er c' => rw [e] at z; rw [show c ρ h = _ from z]; rfl
  | no => trivial
theorem set_eq (hA : i ∈ A) {o : Option Val} : ∀ j, j ∉ A → (ρ.set i o)[j]? = ρ[j]? := fun j hj => List.getElem?_set_ne fun q => hj (by rw [← q]; exact hA)
theorem bl_set {o : Option Val} {m : Nat} (bl : ∀ (i k : Nat), ρ[i]? = some (some (.ref k)) → k < m) (ho : ∀ k, o = some (.ref k) → k < m) : ∀ (j k : Nat), (ρ.set i o)[j]? = some (some (.ref k)) → k < m := fun j k e => by
  rcases get_set e with ⟨_, e⟩ | ⟨_, e, _⟩
  · exact bl j k e
  · exact ho k e
theorem ss_set (ha : SimE true a va) : SimS [i] (sSet i a) (xSet i va) := fun fr p ρ h σ S hf hp => by
  have z := ha fr ρ h σ S
  unfold sSet xSet
  cases e : va σ with
  | ok d σ' =>
    rw [e] at z
    obtain ⟨x, h', e1, l1, S1, r⟩ := z
    rw [e1]
    have ei : i ∈ [i] := List.mem_singleton.mpr rfl
    cases r with
    | im q =>
      refine ⟨_, _, rfl, (S1.setIm i q).cut (bl_set S.bl fun k z => by cases z) S.frl l1, Nat.le_trans hp (trunc_len l1), set_eq ei⟩
    | old q => cases q
    | @new m d dm hm hl =>
      have lk : (h'.take h.length).length = h.length := by rw [List.length_take]; exact Nat.min_eq_left l1
      simp only [asgn]
      rw [if_neg (by omega), hm]
      simp only
      split
      · rename_i cond
        have St1 : St fr ρ (h'.take h.length) σ' := by
          have := S1.cut S.bl S.frl l1
          unfold trunc at this
          simp only [Bool.and_eq_true] at cond
          rw [if_pos cond.2] at this
          exact this
        cases er : reuse p i ρ (h'.take h.length) d.cell with
        | none =>
          simp only
          refine ⟨_, _, rfl, (St1.grow [d.cell]).setRef i dm (by rw [List.getElem?_append_right (by omega)]; simp [lk]) (fun j e _ _ _ q => by have := S.bl j _ q; omega) (fun q hq => by have := S.frl q hq; omega), by rw [List.length_append, lk]; omega, set_eq ei⟩
        | some j =>
          simp only
          unfold reuse at er
          split at er
          · rename_i j' hj
            split at er
            · rename_i cc
              cases er
              simp only [Bool.and_eq_true, decide_eq_true_eq] at cc
              obtain ⟨⟨⟨c1, c2⟩, _⟩, _⟩ := cc
              have nr : ∀ k', k' ≠ i → ρ[k']? ≠ some (some (.ref j)) := fun k' hk q => by
                have : (ρ.set i none)[k']? = some (some (.ref j)) := by rw [List.getElem?_set_ne (Ne.symm hk)]; exact q
                have := List.all_eq_true.mp c2 _ (List.mem_of_getElem? this)
                simp [noRefAt] at this
              have hfj : ∀ q ∈ fr, q.1 ≠ j := fun q hq => by have := hf q hq; omega
              have jl : j < (h'.take h.length).length := St1.bl i j hj
              have S3 : St fr ρ ((h'.take h.length).set j d.cell) (σ'.set i none) := (St1.forget i).heap (fun a k q => by rw [List.length_set]; exact St1.bl a k q) (fun a e' k z _ q => by
                rcases get_set z with ⟨a1, z⟩ | ⟨_, z, _⟩
                · exact List.getElem?_set_ne fun w => nr a a1 (by rw [w]; exact q)
                · cases z) fun q hq => List.getElem?_set_ne (Ne.symm (hfj q hq))
              have S4 := S3.setRef i (d := d) (k := j) dm (List.getElem?_set_self jl) (fun a e' a1 _ _ => nr a a1) hfj
              rw [List.set_set] at S4
              exact ⟨_, _, rfl, S4, by rw [List.length_set, lk]; exact hp, set_eq ei⟩
            · cases er
          · cases er
      · refine ⟨_, _, rfl, S1.setRef i dm hm (fun j e _ _ _ q => by have := S.bl j _ q; omega) (fun q hq => by have := S.frl q hq; omega), Nat.le_trans hp l1, set_eq ei⟩
  | er c => rw [e] at z; rw [show a ρ h = _ from z]; rfl
  | no => trivial
theorem ss_put {mi me : Ev} {vi ve : VM VV} {bi be : Bool} (hi : SimE bi mi vi) (he : SimE be me ve) : SimS [] (sPut (eVar i) mi me) (xPut i vi ve) := fun fr p ρ h σ S hf hp => by
  have z := he fr ρ h σ S
  unfold sPut xPut
  cases e : ve σ with
  | er c => rw [e] at z; rw [show me ρ h = _ from z]; rfl
  | no => trivial
  | ok d σ1 =>
    rw [e] at z
    obtain ⟨x, h1, e1, l1, S1, r⟩ := z
    cases d with
    | lst _ => trivial
    | dct _ => trivial
    | im w =>
      have := res_im r
      subst this
      rw [e1]
      simp only
      cases e0 : σ1[i]? with
      | none => trivial
      | some o =>
        cases o with
        | none => trivial
        | some d0 =>
          simp only
          have hv : ∃ u, ρ[i]? = some (some u) := by
            cases hm : d0.mu with
            | true => obtain ⟨k, a, _⟩ := S1.mu i d0 e0 hm; exact ⟨_, a⟩
            | false => cases d0 with
              | im q => exact ⟨_, S1.im i q e0⟩
              | lst _ => cases hm
              | dct _ => cases hm
          obtain ⟨u, hu⟩ := hv
          have ev : eVar i ρ h1 = .ok u h1 := by simp only [eVar, hu]
          simp only [ev]
          have z := hi fr ρ h1 σ1 S1
          cases e2 : vi σ1 with
          | no => trivial
          | er c => rw [e2] at z; rw [show mi ρ h1 = _ from z]; rfl
          | ok d2 σ2 =>
            rw [e2] at z
            obtain ⟨y, h2, e3, l2, S2, r2⟩ := z
            rw [e3]
            simp only
            cases d2 with
            | lst _ => trivial
            | dct _ => trivial
            | im q =>
              have := res_im r2
              subst this
              cases q with
              | int j =>
                unfold putA
                cases e4 : σ2[i]? with
                | none => trivial
                | some o =>
                  cases o with
                  | none => trivial
                  | some d3 =>
                    cases d3 with
                    | im _ => trivial
                    | dct _ => trivial
                    | lst l =>
                      obtain ⟨k, a1, a2, _⟩ := S2.mu i _ e4 rfl
                      rw [hu] at a1
                      injection a1 with a1
                      injection a1 with a1
                      subst a1
                      have a2' : h2[k]? = some (.lst (l.map .im)) := a2
                      simp only [a2', List.length_map]
                      cases e5 : ixN l.length j with
                      | none => trivial
                      | some q =>
                        simp only
                        have W := S2.write (e := .lst (l.set q w)) e4 rfl hu rfl
                        have eq : VV.cell (.lst (l.set q w)) = .lst ((l.map .im).set q (.im w)) := by simp [VV.cell, List.map_set]
                        rw [eq] at W
                        refine ⟨ρ, _, rfl, W.cut S.bl S.frl (by rw [List.length_set]; omega), ?_, fun _ _ => rfl⟩
                        exact Nat.le_trans hp (trunc_len (by rw [List.length_set]; omega))
              | _ => trivial
theorem ss_par (hr : SimA b r vr) : SimS [i, j] (sPar i j r) (xPar i j vr) := fun fr p ρ h σ S hf hp => by
  have z := hr fr ρ h σ S
  unfold sPar xPar
  cases e : vr σ with
  | er c => rw [e] at z; rw [show r ρ h = _ from z]; rfl
  | no => trivial
  | ok ds σ1 =>
    rw [e] at z
    obtain ⟨xs, h1, e1, l1, S1, q⟩ := z
    rw [e1]
    match ds, q with
    | [], _ => trivial
    | [_], _ => cases ‹VV› <;> trivial
    | [.lst _, _], _ => trivial
    | [.dct _, _], _ => trivial
    | [.im _, .lst _], _ => trivial
    | [.im _, .dct _], _ => trivial
    | .im _ :: .im _ :: _ :: _, _ => trivial
    | .im _ :: .lst _ :: _ :: _, _ => trivial
    | .im _ :: .dct _ :: _ :: _, _ => trivial
    | .lst _ :: _ :: _ :: _, _ => trivial
    | .dct _ :: _ :: _ :: _, _ => trivial
    | [.im u, .im w], .cons q1 (.cons q2 .nil) =>
      have := res_im q1
      subst this
      have := res_im q2
      subst this
      refine ⟨_, _, rfl, ?_, ?_, fun k hk => ?_⟩
      · simp only [trunc2, Val.isIm, Bool.and_self, if_true]
        exact ((S1.setIm i _).setIm j _).cut (bl_set (bl_set S.bl fun k z => by cases z) fun k z => by cases z) S.frl l1
      · simp only [trunc2, Val.isIm, Bool.and_self, if_true]
        exact Nat.le_trans hp (trunc_len l1)
      · rw [List.getElem?_set_ne fun q => hk (by rw [← q]; simp), List.getElem?_set_ne fun q => hk (by rw [← q]; simp)]
end
end NT

set_option Elab.async false
set_option linter.all false
set_option maxRecDepth 100000
set_option autoImplicit false

namespace NT
open PySem PySem.Spec PyProof.Rows L2 PySem.W

/-! ### arguments, each with the name it stands for -/
inductive ArgV (ρ : En) (n : Nat) (h : Hs) (σ : VE) : Option Nat → Val → VV → Prop where
  | im (o : Option Nat) (e : PyData) : ArgV ρ n h σ o (.im e) (.im e)
  | new {k : Nat} {d : VV} : d.mu = true → h[k]? = some d.cell → n ≤ k → ArgV ρ n h σ none (.ref k) d
  | own {i k : Nat} {d : VV} : d.mu = true → h[k]? = some d.cell → ρ[i]? = some (some (.ref k)) → σ[i]? = some (some d) → ArgV ρ n h σ (some i) (.ref k) d
inductive ArgsR (ρ : En) (n : Nat) (h : Hs) (σ : VE) : List (Option Nat) → List Val → List VV → Prop where
  | nil : ArgsR ρ n h σ [] [] []
  | cons {o : Option Nat} {x : Val} {d : VV} {wb : List (Option Nat)} {xs : List Val} {ds : List VV} : ArgV ρ n h σ o x d → ArgsR ρ n h σ wb xs ds → ArgsR ρ n h σ (o :: wb) (x :: xs) (d :: ds)
def wbN : List (Option Nat) → List VV → List Nat
  | some i :: wb, d :: ds => if d.mu = true then i :: wbN wb ds else wbN wb ds
  | none :: wb, _ :: ds => wbN wb ds
  | _, _ => []
def refs : List Val → List Nat
  | [] => []
  | .ref k :: r => k :: refs r
  | .im _ :: r => refs r
abbrev SimL (wb : List (Option Nat)) (m : M (List Val)) (v : VM (List VV)) : Prop := SimM (fun ρ n h σ xs ds => ArgsR ρ n h σ wb xs ds ∧ ((wbN wb ds).Nodup → (refs xs).Nodup)) m v
section
variable {fr fr' : Fr} {ρ ρ' : En} {h h' h1 h2 : Hs} {σ σ' σ1 σ2 : VE} {n n' k i : Nat} {d : VV} {b : Bool} {x : Val} {xs : List Val} {ds : List VV} {wb : List (Option Nat)} {r : M (List Val)} {vr : VM (List VV)} {a : Ev} {va : VM VV}
theorem ArgV.le {o : Option Nat} (r : ArgV ρ n h σ o x d) (hn : n' ≤ n) : ArgV ρ n' h σ o x d := by
  cases r with
  | im o e => exact .im o e
  | new m e l => exact .new m e (Nat.le_trans hn l)
  | own m e a c => exact .own m e a c
theorem ArgsR.le (r : ArgsR ρ n h σ wb xs ds) (hn : n' ≤ n) : ArgsR ρ n' h σ wb xs ds := by
  induction r with
  | nil => exact .nil
  | cons a _ ih => exact .cons (a.le hn) ih
theorem ArgV.rd {o : Option Nat} (r : ArgV ρ n h σ o x d) : Rd h x d := by
  cases r with
  | im o e => exact .im e
  | new m e _ => exact .ref m e
  | own m e _ _ => exact .ref m e
theorem ArgsR.rd (r : ArgsR ρ n h σ wb xs ds) : Paired (Rd h) xs ds := by
  induction r with
  | nil => exact .nil
  | cons a _ ih => exact .cons a.rd ih
theorem args_ref (r : ArgsR ρ n h σ wb xs ds) (hk : k ∈ refs xs) : n ≤ k ∨ ∃ i ∈ wbN wb ds, ρ[i]? = some (some (.ref k)) ∧ ∃ e : VV, σ[i]? = some (some e) ∧ e.mu = true := by
  induction r with
  | nil => cases hk
  | @cons o x d wb xs ds a _ ih =>
    cases a with
    | im o e =>
      rcases ih hk with z | ⟨i, z, q⟩
      · exact .inl z
      · refine .inr ⟨i, ?_, q⟩
        cases o <;> simpa [wbN, VV.mu] using z
    | new m e l =>
      rcases List.mem_cons.mp hk with rfl | hk
      · exact .inl l
      · rcases ih hk with z | ⟨i, z, q⟩
        · exact .inl z
        · exact .inr ⟨i, z, q⟩
    | @own j _ _ m e a c =>
      rcases List.mem_cons.mp hk with rfl | hk
      · exact .inr ⟨j, by simp [wbN, m], a, d, c, m⟩
      · rcases ih hk with z | ⟨i, z, q⟩
        · exact .inl z
        · exact .inr ⟨i, by simp [wbN, m, z], q⟩
theorem sl_nil : SimL [] mNil wNil := fun fr ρ h σ S => ⟨[], h, rfl, Nat.le_refl _, S, .nil, fun _ => .nil⟩
theorem sl_new (ha : SimE true a va) (hr : SimL wb r vr) : SimL (none :: wb) (mCons a r) (wCons va vr) := fun fr ρ h σ S =>
  sv_bind ha S fun x d h1 σ1 l1 S1 q => sv_two hr S1 S.bl l1 q fun ys ds h2 σ2 l2 l12 S2 r2 kp => out_if fun hz => by
    refine ⟨_, h2, rfl, l2, S2, .cons ?_ (r2.1.le l1), fun nd => ?_⟩
    · cases kp hz with
      | im e => exact .im _ e
      | new m e l => exact .new m e l
      | old q0 => cases q0
    · have nd' := r2.2 nd
      cases q with
      | im e => exact nd'
      | old q => cases q
      | @new k d m e l =>
        refine List.nodup_cons.mpr ⟨fun hk => ?_, nd'⟩
        have kl := (List.getElem?_eq_some_iff.mp e).1
        rcases args_ref r2.1 hk with z | ⟨i, _, z, _⟩
        · omega
        · have := S.bl i k z; omega
theorem sl_var (hr : SimL wb r vr) : SimL (some i :: wb) (mCons (eVar i) r) (wCons (wVar i) vr) := fun fr ρ h σ S => by
  show Out _ fr ρ h.length ((eVar i ρ h).bind _) ((wVar i σ).bind _)
  cases e : σ[i]? with
  | none => simp only [wVar, e]; trivial
  | some o =>
    cases o with
    | none => simp only [wVar, e]; trivial
    | some d =>
      have hx : ∃ x, eVar i ρ h = .ok x h ∧ ((d.mu = false ∧ ∃ q, d = .im q ∧ x = .im q) ∨ (d.mu = true ∧ ∃ k, x = .ref k ∧ ρ[i]? = some (some (.ref k)) ∧ h[k]? = some d.cell)) := by
        cases hm : d.mu with
        | true => obtain ⟨k, a1, a2, _⟩ := S.mu i d e hm; exact ⟨.ref k, by simp only [eVar, a1], .inr ⟨rfl, k, rfl, a1, a2⟩⟩
        | false => cases d with
          | im q => exact ⟨.im q, by simp only [eVar, S.im i q e], .inl ⟨rfl, q, rfl, rfl⟩⟩
          | lst _ => cases hm
          | dct _ => cases hm
      obtain ⟨x, ex, hx⟩ := hx
      have ev : wVar i σ = .ok d σ := by simp only [wVar, e]
      rw [ex, ev]
      have q : ResV false ρ h.length h σ x d := by
        rcases hx with ⟨_, q, rfl, rfl⟩ | ⟨m, k, rfl, a1, a2⟩
        · exact .im q
        · exact .old rfl m a2 a1 e
      simp only [bind_ok, vbind_ok]
      refine sv_two hr S S.bl (Nat.le_refl _) q fun ys ds h2 σ2 l2 l12 S2 r2 kp => out_if fun hz => ?_
      rcases hx with ⟨_, w, rfl, rfl⟩ | ⟨m, k, rfl, a1, a2⟩
      · exact ⟨_, h2, rfl, l2, S2, .cons (.im _ w) r2.1, fun nd => r2.2 (by simpa [wbN, VV.mu] using nd)⟩
      · have e2 : σ2[i]? = some (some d) := by
          rcases hz with z | rfl
          · rw [m] at z; cases z
          · exact e
        obtain ⟨k', b1, b2, _⟩ := S2.mu i d e2 m
        rw [a1] at b1
        injection b1 with b1
        injection b1 with b1
        injection b1 with b1
        subst b1
        refine ⟨_, h2, rfl, l2, S2, .cons (.own m b2 a1 e2) r2.1, fun nd => ?_⟩
        simp only [wbN, m, if_true, List.nodup_cons] at nd
        refine List.nodup_cons.mpr ⟨fun hk => ?_, r2.2 nd.2⟩
        rcases args_ref r2.1 hk with z | ⟨j, z1, z2, e', z3, m'⟩
        · have := S.bl i k a1; omega
        · have := S2.sep i j d e' k e2 z3 m m' a1 z2
          rw [this] at nd
          exact nd.1 z1
theorem SimL.rdA (hr : SimL wb r vr) : SimM (fun ρ n h σ => Paired (Rd h)) r vr := fun fr ρ h σ S => (hr fr ρ h σ S).mp (fun _ z => z) (Nat.le_refl _) fun _ _ _ _ z => z.1.rd
/-- what is built in, its arguments being names or not -/
theorem sv_bL {f : List Val → Hs → Res Val} {g : List VV → WO} (o : OpL f g) (hr : SimL wb r vr) : SimE true (eB r f) (wB vr g) := fun fr ρ h σ S =>
  sv_bind hr S fun xs ds h1 σ1 l1 S1 q => op_fin S1 l1 (o h1 xs ds q.1.rd)
end

/-! ### calls of defs -/
inductive WR where
  | ok (r : VV) (outs : List VV)
  | er (c : Str)
  | no
abbrev WF := List VV → WR
def layV : List VV → Nat → List Val
  | [], _ => []
  | .im d :: r, n => .im d :: layV r n
  | .lst _ :: r, n => .ref n :: layV r (n + 1)
  | .dct _ :: r, n => .ref n :: layV r (n + 1)
def layC : List VV → Hs
  | [] => []
  | .im _ :: r => layC r
  | .lst l :: r => VV.cell (.lst l) :: layC r
  | .dct l :: r => VV.cell (.dct l) :: layC r
inductive OutOf : List VV → List VV → Prop where
  | nil : OutOf [] []
  | im {d : PyData} {ds os : List VV} : OutOf ds os → OutOf (.im d :: ds) (.im d :: os)
  | mu {d o : VV} {ds os : List VV} : d.mu = true → o.mu = true → OutOf ds os → OutOf (d :: ds) (o :: os)
def RetF (q : Nat) (h : Hs) (x : Val) (r : VV) : Prop := (∃ e, r = .im e ∧ x = .im e) ∨ (r.mu = true ∧ ∃ k, x = .ref k ∧ q ≤ k ∧ h[k]? = some r.cell)
def SimF (f : Fn) (F : WF) : Prop := ∀ ds, match F ds with
  | .ok r outs => ∃ x h', f (layV ds 0) (layC ds) = .ok x h' ∧ OutOf ds outs ∧ h'.take (layC ds).length = layC outs ∧ RetF (layC ds).length h' x r
  | .er c => f (layV ds 0) (layC ds) = .er c
  | .no => True
def wback : List (Option Nat) → List VV → VE → VE
  | some i :: wb, .im _ :: ds, σ => wback wb ds σ
  | some i :: wb, d :: ds, σ => wback wb ds (σ.set i (some d))
  | none :: wb, _ :: ds, σ => wback wb ds σ
  | _, _, σ => σ
open Classical in
noncomputable def wCall (wb : List (Option Nat)) (F : WF) (r : VM (List VV)) : VM VV := fun σ => (r σ).bind fun ds σ1 => if (wbN wb ds).Nodup then (match F ds with
  | .ok d outs => .ok d (wback wb outs σ1)
  | .er c => .er c
  | .no => .no) else .no
section
variable {fr fr' : Fr} {ρ ρ' : En} {h h' h1 h2 : Hs} {σ σ' σ1 σ2 : VE} {n n' k i : Nat} {d : VV} {b : Bool} {x : Val} {xs : List Val} {ds outs : List VV} {wb : List (Option Nat)} {r : M (List Val)} {vr : VM (List VV)} {a : Ev} {va : VM VV}
theorem isol_args (q : ArgsR ρ n h σ wb xs ds) : ∀ m, isol h xs m = some (layV ds m, refs xs) := by
  induction q with
  | nil => intro m; rfl
  | @cons o x d wb xs ds a _ ih =>
    intro m
    have mu : ∀ {k}, d.mu = true → h[k]? = some d.cell → isol h (.ref k :: xs) m = some (layV (d :: ds) m, k :: refs xs) := fun {k} m' e => by
      cases d with
      | im _ => cases m'
      | lst l =>
        have fl : Cell.flat (.lst (l.map .im)) = true := by simp [Cell.flat, Val.isIm]
        simp only [isol, e, VV.cell, layV, fl, if_true, ih (m + 1), Option.map_some]
      | dct l =>
        have fl : Cell.flat (.dct (l.map dval)) = true := VV.cell_flat (d := .dct l)
        simp only [isol, e, VV.cell, layV, fl, if_true, ih (m + 1), Option.map_some]
    cases a with
    | im o e => simp only [isol, ih m, Option.map_some, layV, refs]
    | new m' e l => exact mu m' e
    | own m' e a c => exact mu m' e
theorem cells_args (q : ArgsR ρ n h σ wb xs ds) : cellsAt h (refs xs) = layC ds := by
  induction q with
  | nil => rfl
  | @cons o x d wb xs ds a _ ih =>
    have mu : ∀ {k}, d.mu = true → h[k]? = some d.cell → cellsAt h (refs (.ref k :: xs)) = layC (d :: ds) := fun {k} m' e => by
      have : cellsAt h (k :: refs xs) = d.cell :: cellsAt h (refs xs) := by
        simp only [cellsAt, List.map_cons, List.getD_eq_getElem?_getD, e, Option.getD_some]
      rw [refs, this, ih]
      cases d <;> first | rfl | cases m'
    cases a with
    | im o e => exact ih
    | new m' e l => exact mu m' e
    | own m' e a c => exact mu m' e
theorem refs_len (q : ArgsR ρ n h σ wb xs ds) : (refs xs).length = (layC ds).length := by
  rw [← cells_args q]; simp [cellsAt]
/-- what the callee left in its arguments -/
theorem wrs_sim (bl : ∀ (i k : Nat), ρ[i]? = some (some (.ref k)) → k < n) (hf : ∀ p ∈ fr, p.1 < n) : ∀ {ds outs : List VV}, OutOf ds outs → ∀ {wb : List (Option Nat)} {xs : List Val} {h0 : Hs} {σ0 : VE}, ArgsR ρ n h0 σ0 wb xs ds → ∀ {h : Hs} {σ : VE}, St fr ρ h σ →
    (∀ (i : Nat) (e : VV), σ0[i]? = some (some e) → e.mu = true → ∃ e', σ[i]? = some (some e') ∧ VV.mu e' = true) → St fr ρ (wrs (refs xs) (layC outs) h) (wback wb outs σ)
  | _, _, .nil, _, _, _, _, .nil, h, σ, S, _ => S
  | _, _, .im (d := q) o, _, _, _, _, .cons (o := ow) (xs := xs') (wb := wb') a r, h, σ, S, k => by
    have := wrs_sim bl hf o r S k
    cases a with
    | im o e => cases ow <;> exact this
    | new m => cases m
    | own m => cases m
  | _, _, .mu (d := d) (o := u) m m' o, _, _, h0, σ0, .cons (o := ow) (xs := xs') (wb := wb') a r, h, σ, S, k => by
    have lc : ∀ os, layC (u :: os) = u.cell :: layC os := fun os => by cases u <;> first | rfl | cases m'
    have wc : ∀ i os (σ : VE), wback (some i :: wb') (u :: os) σ = wback wb' os (σ.set i (some u)) := fun i os σ => by cases u <;> first | rfl | cases m'
    cases a with
    | im o e => cases m
    | new _ e l =>
      rw [lc]
      exact wrs_sim bl hf o r (S.other bl hf l) k
    | @own i kk _ _ e a c =>
      rw [lc, wc]
      obtain ⟨e', z1, z2⟩ := k i _ c m
      refine wrs_sim bl hf o r (S.write z1 z2 a m') fun j e'' q1 q2 => ?_
      by_cases hj : j = i
      · subst hj
        exact ⟨u, List.getElem?_set_self (List.getElem?_eq_some_iff.mp z1).1, m'⟩
      · rw [List.getElem?_set_ne (Ne.symm hj)]
        exact k j e'' q1 q2
theorem ren_layC (f : Nat → Nat) : ∀ os : List VV, (layC os).map (Cell.ren f) = layC os
  | [] => rfl
  | .im _ :: r => ren_layC f r
  | .lst l :: r => by rw [layC, List.map_cons, VV.cell_ren, ren_layC f r]
  | .dct l :: r => by rw [layC, List.map_cons, VV.cell_ren, ren_layC f r]
theorem layV_len : ∀ (ds : List VV) (n : Nat), (layV ds n).length = ds.length
  | [], _ => rfl
  | .im _ :: r, n => by rw [layV, List.length_cons, List.length_cons, layV_len r n]
  | .lst _ :: r, n => by rw [layV, List.length_cons, List.length_cons, layV_len r (n + 1)]
  | .dct _ :: r, n => by rw [layV, List.length_cons, List.length_cons, layV_len r (n + 1)]
theorem args_len (q : ArgsR ρ n h σ wb xs ds) : xs.length = ds.length ∧ wb.length = ds.length := by
  induction q with
  | nil => exact ⟨rfl, rfl⟩
  | cons _ _ ih => exact ⟨by simp [ih.1], by simp [ih.2]⟩
theorem sv_call {f : Fn} {F : WF} {N : Nat} (o : SimF f F) (hr : SimL wb r vr) (hN : wb.length = N := by rfl) : SimE true (eCall N f r) (wCall wb F vr) := fun fr ρ h σ S =>
  sv_bind hr S fun xs ds h1 σ1 l1 S1 q => by
    refine out_if fun nd => ?_
    have nr := q.2 nd
    have al := args_len q.1
    have z := o ds
    simp only [al.1, ← al.2, hN, if_true, callFn, isol_args q.1 0, if_pos nr, cells_args q.1]
    cases e : F ds with
    | no => trivial
    | er c => rw [e] at z; rw [show f (layV ds 0) (layC ds) = _ from z]; rfl
    | ok r outs =>
      rw [e] at z
      obtain ⟨x, h', e1, oo, e2, rt⟩ := z
      rw [e1]
      simp only [bind_ok]
      have rl := refs_len q.1
      have S2 := wrs_sim S.bl S.frl oo q.1 S1 fun i e a m => ⟨e, a, m⟩
      have S3 := S2.grow ((h'.drop (refs xs).length).map (Cell.ren (backI (refs xs) h1.length)))
      refine ⟨_, _, rfl, ?_, ?_, ?_⟩
      · rw [List.length_append, wrs_length]; omega
      · rw [rl, e2, ren_layC]
        rw [rl] at S3
        exact S3
      · rcases rt with ⟨w, rfl, rfl⟩ | ⟨m, k, rfl, hk, ek⟩
        · exact .im w
        · have bk : backI (refs xs) h1.length k = h1.length + (k - (refs xs).length) := by
            unfold backI
            rw [if_neg (by omega)]
          simp only [Val.ren, bk]
          refine .new m ?_ (by omega)
          rw [List.getElem?_append_right (by rw [wrs_length]; omega), wrs_length, List.getElem?_map, List.getElem?_drop, show (refs xs).length + (h1.length + (k - (refs xs).length) - h1.length) = k by omega, ek]
          simp [VV.cell_ren]
end

/-! ### a def -/
def pOk (A : List Nat) : Nat → List VV → Bool
  | _, [] => true
  | i, d :: r => (!d.mu || !A.contains i) && pOk A (i + 1) r
def outsOf : List VV → VE → Option (List VV)
  | [], _ => some []
  | .im d :: ds, _ :: σ => (outsOf ds σ).map (.im d :: ·)
  | _ :: ds, some o :: σ => if o.mu = true then (outsOf ds σ).map (o :: ·) else none
  | _, _ => none
def wOuts (ds : List VV) (σ : VE) (r : VV) : WR := match outsOf ds σ with
  | some outs => .ok r outs
  | none => .no
def wEnd (ds : List VV) (q : WRS) : WR := match q with
  | .nx σ => wOuts ds σ (.im .none)
  | .rt d σ => wOuts ds σ d
  | .er c => .er c
  | _ => .no
def wFn (n m : Nat) (A : List Nat) (body : WS) : WF := fun ds => if (decide (ds.length = n) && pOk A 0 ds) = true then wEnd ds (body (ds.map some ++ List.replicate (m - n) none)) else .no
section
variable {A : List Nat} {fr : Fr} {ρ ρ' : En} {h h' : Hs} {σ σ' : VE} {n m k i p : Nat} {d : VV} {ds outs : List VV}
theorem lay_get : ∀ {ds : List VV} {i : Nat} {d : VV} (n : Nat), ds[i]? = some d → (∃ q, d = .im q ∧ (layV ds n)[i]? = some (.im q)) ∨ (d.mu = true ∧ ∃ k, (layV ds n)[i]? = some (.ref (n + k)) ∧ (layC ds)[k]? = some d.cell)
  | [], _, _, _, e => by cases e
  | .im q :: r, 0, d, n, e => by simp at e; subst e; exact .inl ⟨q, rfl, rfl⟩
  | .lst q :: r, 0, d, n, e => by simp at e; subst e; exact .inr ⟨rfl, 0, rfl, rfl⟩
  | .dct q :: r, 0, d, n, e => by simp at e; subst e; exact .inr ⟨rfl, 0, rfl, rfl⟩
  | .im q :: r, i + 1, d, n, e => by
    rcases lay_get n (show r[i]? = some d by simpa using e) with ⟨q, a, b⟩ | ⟨m, k, a, b⟩
    · exact .inl ⟨q, a, by simpa [layV] using b⟩
    · exact .inr ⟨m, k, by simpa [layV] using a, by simpa [layC] using b⟩
  | .lst q :: r, i + 1, d, n, e => by
    rcases lay_get (n + 1) (show r[i]? = some d by simpa using e) with ⟨q, a, b⟩ | ⟨m, k, a, b⟩
    · exact .inl ⟨q, a, by simpa [layV] using b⟩
    · exact .inr ⟨m, k + 1, by rw [show n + (k + 1) = n + 1 + k by omega]; simpa [layV] using a, by simpa [layC] using b⟩
  | .dct q :: r, i + 1, d, n, e => by
    rcases lay_get (n + 1) (show r[i]? = some d by simpa using e) with ⟨q, a, b⟩ | ⟨m, k, a, b⟩
    · exact .inl ⟨q, a, by simpa [layV] using b⟩
    · exact .inr ⟨m, k + 1, by rw [show n + (k + 1) = n + 1 + k by omega]; simpa [layV] using a, by simpa [layC] using b⟩
theorem lay_ref : ∀ {ds : List VV} {i k n : Nat}, (layV ds n)[i]? = some (.ref k) → n ≤ k ∧ k < n + (layC ds).length ∧ ∀ j, (layV ds n)[j]? = some (.ref k) → j = i
  | [], _, _, _, e => by cases e
  | .im q :: r, 0, k, n, e => by cases e
  | .im q :: r, i + 1, k, n, e => by
    obtain ⟨a, b, c⟩ := lay_ref (ds := r) (i := i) (k := k) (n := n) (by simpa [layV] using e)
    refine ⟨a, by simpa [layC] using b, fun j hj => ?_⟩
    cases j with
    | zero => cases hj
    | succ j => rw [c j (by simpa [layV] using hj)]
  | .lst q :: r, 0, k, n, e => by
    simp [layV] at e; subst e
    refine ⟨Nat.le_refl _, by simp [layC], fun j hj => ?_⟩
    cases j with
    | zero => rfl
    | succ j =>
      have := (lay_ref (ds := r) (i := j) (k := n) (n := n + 1) (by simpa [layV] using hj)).1
      omega
  | .dct q :: r, 0, k, n, e => by
    simp [layV] at e; subst e
    refine ⟨Nat.le_refl _, by simp [layC], fun j hj => ?_⟩
    cases j with
    | zero => rfl
    | succ j =>
      have := (lay_ref (ds := r) (i := j) (k := n) (n := n + 1) (by simpa [layV] using hj)).1
      omega
  | .lst q :: r, i + 1, k, n, e => by
    obtain ⟨a, b, c⟩ := lay_ref (ds := r) (i := i) (k := k) (n := n + 1) (by simpa [layV] using e)
    refine ⟨by omega, by simp [layC]; omega, fun j hj => ?_⟩
    cases j with
    | zero => simp [layV] at hj; omega
    | succ j => rw [c j (by simpa [layV] using hj)]
  | .dct q :: r, i + 1, k, n, e => by
    obtain ⟨a, b, c⟩ := lay_ref (ds := r) (i := i) (k := k) (n := n + 1) (by simpa [layV] using e)
    refine ⟨by omega, by simp [layC]; omega, fun j hj => ?_⟩
    cases j with
    | zero => simp [layV] at hj; omega
    | succ j => rw [c j (by simpa [layV] using hj)]
/-- every cell of the arguments is some argument's -/
theorem lay_owner : ∀ {ds : List VV} {k n : Nat}, k < (layC ds).length → ∃ (i : Nat) (d : VV), ds[i]? = some d ∧ d.mu = true ∧ (layV ds n)[i]? = some (.ref (n + k))
  | [], _, _, e => by simp [layC] at e
  | .im q :: r, k, n, e => by
    obtain ⟨i, d, a, b, c⟩ := lay_owner (ds := r) (k := k) (n := n) (by simpa [layC] using e)
    exact ⟨i + 1, d, by simpa using a, b, by simpa [layV] using c⟩
  | .lst q :: r, 0, n, e => ⟨0, _, rfl, rfl, rfl⟩
  | .dct q :: r, 0, n, e => ⟨0, _, rfl, rfl, rfl⟩
  | .lst q :: r, k + 1, n, e => by
    obtain ⟨i, d, a, b, c⟩ := lay_owner (ds := r) (k := k) (n := n + 1) (by simp [layC] at e; omega)
    exact ⟨i + 1, d, by simpa using a, b, by rw [show n + (k + 1) = n + 1 + k by omega]; simpa [layV] using c⟩
  | .dct q :: r, k + 1, n, e => by
    obtain ⟨i, d, a, b, c⟩ := lay_owner (ds := r) (k := k) (n := n + 1) (by simp [layC] at e; omega)
    exact ⟨i + 1, d, by simpa using a, b, by rw [show n + (k + 1) = n + 1 + k by omega]; simpa [layV] using c⟩
theorem st_start (ds : List VV) (m : Nat) : St [] ((layV ds 0).map some ++ List.replicate m none) (layC ds) (ds.map some ++ List.replicate m none) := by
  have kv : ∀ {i : Nat} {d : VV}, (ds.map some ++ List.replicate m none)[i]? = some (some d) → ds[i]? = some d := fun {i d} e => by
    by_cases hi : i < ds.length
    · rw [List.getElem?_append_left (by simpa using hi), List.getElem?_map] at e
      cases q : ds[i]? with
      | none => rw [q] at e; cases e
      | some d' => rw [q] at e; simpa using e
    · rw [List.getElem?_append_right (by simpa using hi), List.getElem?_replicate] at e
      split at e <;> cases e
  have kr : ∀ {i : Nat} {v : Val}, ((layV ds 0).map some ++ List.replicate m none)[i]? = some (some v) ↔ (layV ds 0)[i]? = some v := fun {i v} => by
    by_cases hi : i < ds.length
    · rw [List.getElem?_append_left (by simpa [layV_len] using hi), List.getElem?_map]
      cases q : (layV ds 0)[i]? <;> simp
    · rw [List.getElem?_append_right (by simpa [layV_len] using hi), List.getElem?_replicate]
      constructor
      · intro e; split at e <;> cases e
      · intro e; rw [List.getElem?_eq_none (by rw [layV_len]; omega)] at e; cases e
  refine ⟨by simp [layV_len], fun i d e => ?_, fun i d e m => ?_, fun i j d e k _ _ _ _ e1 e2 => ?_, fun i k e => ?_, fun _ z => by cases z⟩
  · rcases lay_get 0 (kv e) with ⟨q, a, b⟩ | ⟨m, _⟩
    · cases a; exact kr.mpr b
    · cases m
  · rcases lay_get 0 (kv e) with ⟨q, a, b⟩ | ⟨_, k, a, b⟩
    · rw [a] at m; cases m
    · rw [Nat.zero_add] at a
      exact ⟨k, kr.mpr a, b, fun _ z => by cases z⟩
  · exact ((lay_ref (kr.mp e2)).2.2 i (kr.mp e1))
  · have := (lay_ref (kr.mp e)).2.1; omega
theorem outs_sim : ∀ {ds : List VV} {σ : VE} {outs : List VV}, outsOf ds σ = some outs → OutOf ds outs ∧ ∀ (i : Nat) (d : VV), ds[i]? = some d → d.mu = true → ∃ o, σ[i]? = some (some o) ∧ VV.mu o = true ∧ outs[i]? = some o
  | [], σ, outs, e => by cases e; exact ⟨.nil, fun i d q => by cases q⟩
  | .im q :: ds, [], outs, e => by cases e
  | .lst q :: ds, [], outs, e => by cases e
  | .dct q :: ds, [], outs, e => by cases e
  | .im q :: ds, o :: σ, outs, e => by
    simp only [outsOf] at e
    cases e1 : outsOf ds σ with
    | none => rw [e1] at e; cases e
    | some l =>
      rw [e1] at e; cases e
      obtain ⟨a, b⟩ := outs_sim e1
      refine ⟨.im a, fun i d q m => ?_⟩
      cases i with
      | zero => simp at q; subst q; cases m
      | succ i => simpa using b i d (by simpa using q) m
  | .lst q :: ds, none :: σ, outs, e => by cases e
  | .dct q :: ds, none :: σ, outs, e => by cases e
  | .lst q :: ds, some o :: σ, outs, e => by
    simp only [outsOf] at e
    split at e
    · rename_i m
      cases e1 : outsOf ds σ with
      | none => rw [e1] at e; cases e
      | some l =>
        rw [e1] at e; cases e
        obtain ⟨a, b⟩ := outs_sim e1
        refine ⟨.mu rfl m a, fun i d q m' => ?_⟩
        cases i with
        | zero => exact ⟨o, rfl, m, rfl⟩
        | succ i => simpa using b i d (by simpa using q) m'
    · cases e
  | .dct q :: ds, some o :: σ, outs, e => by
    simp only [outsOf] at e
    split at e
    · rename_i m
      cases e1 : outsOf ds σ with
      | none => rw [e1] at e; cases e
      | some l =>
        rw [e1] at e; cases e
        obtain ⟨a, b⟩ := outs_sim e1
        refine ⟨.mu rfl m a, fun i d q m' => ?_⟩
        cases i with
        | zero => exact ⟨o, rfl, m, rfl⟩
        | succ i => simpa using b i d (by simpa using q) m'
    · cases e
theorem OutOf.lay (o : OutOf ds outs) : (layC outs).length = (layC ds).length ∧ ∀ n, layV outs n = layV ds n := by
  induction o with
  | nil => exact ⟨rfl, fun _ => rfl⟩
  | im _ ih => exact ⟨by simpa [layC] using ih.1, fun n => by simp [layV, ih.2]⟩
  | @mu d o _ _ m m' _ ih => cases d <;> cases o <;> first | exact Bool.noConfusion m | exact Bool.noConfusion m' | exact ⟨by simp [layC, ih.1], fun n => by simp [layV, ih.2]⟩
theorem pOk_at : ∀ {ds : List VV} {s i : Nat} {d : VV}, pOk A s ds = true → ds[i]? = some d → d.mu = true → (s + i) ∉ A
  | [], _, _, _, _, e, _ => by cases e
  | d :: r, s, 0, d', e, q, m => by
    simp at q; subst q
    simp only [pOk, m, Bool.not_true, Bool.false_or, Bool.and_eq_true, Bool.not_eq_true'] at e
    intro z
    rw [Nat.add_zero] at z
    have := List.elem_eq_true_of_mem z
    rw [List.contains, this] at e
    cases e.1
  | d :: r, s, i + 1, d', e, q, m => by
    simp only [pOk, Bool.and_eq_true] at e
    have := pOk_at (s := s + 1) (i := i) e.2 (by simpa using q) m
    rw [show s + (i + 1) = s + 1 + i by omega]
    exact this
theorem fn_fin {A : List Nat} {m : Nat} {ρ' : En} {h' : Hs} {σ' : VE} {x : Val} {r : VV} (po : pOk A 0 ds = true) (a : Aft A [] (layC ds).length ((layV ds 0).map some ++ List.replicate m none) ρ' h' σ') (rt : RetV ρ' h' σ' x r) (eo : outsOf ds σ' = some outs) :
    ∃ y h2, fnFin (layC ds).length x h' = .ok y h2 ∧ OutOf ds outs ∧ h2.take (layC ds).length = layC outs ∧ RetF (layC ds).length h2 y r := by
  obtain ⟨oo, om⟩ := outs_sim eo
  have ol := oo.lay
  -- the arguments' cells at the end
  have at' : ∀ (i : Nat) (d : VV), ds[i]? = some d → d.mu = true → ∃ (k : Nat) (o : VV), (layV ds 0)[i]? = some (.ref k) ∧ ρ'[i]? = some (some (.ref k)) ∧ σ'[i]? = some (some o) ∧ VV.mu o = true ∧ outs[i]? = some o ∧ h'[k]? = some o.cell := fun i d e mu => by
    rcases lay_get 0 e with ⟨q, z, _⟩ | ⟨_, k, a1, a2⟩
    · rw [z] at mu; cases mu
    · rw [Nat.zero_add] at a1
      obtain ⟨o, b1, b2, b3⟩ := om i d e mu
      have hA : i ∉ A := by have := pOk_at po e mu; rwa [Nat.zero_add] at this
      have e1 : ρ'[i]? = some (some (.ref k)) := by
        rw [a.eq i hA, List.getElem?_append_left (by
          rw [List.length_map, layV_len]
          exact (List.getElem?_eq_some_iff.mp e).1), List.getElem?_map, a1]
        rfl
      obtain ⟨k', c1, c2, _⟩ := a.st.mu i o b1 b2
      rw [e1] at c1
      injection c1 with c1
      injection c1 with c1
      injection c1 with c1
      subst c1
      exact ⟨k, o, a1, e1, b1, b2, b3, c2⟩
  have take' : h'.take (layC ds).length = layC outs := by
    apply List.ext_getElem?
    intro k
    by_cases hk : k < (layC ds).length
    · obtain ⟨i, d, e, mu, ei⟩ := lay_owner (n := 0) hk
      rw [Nat.zero_add] at ei
      obtain ⟨k', o, a1, _, _, b2, b3, b4⟩ := at' i d e mu
      rw [ei] at a1
      injection a1 with a1
      injection a1 with a1
      subst a1
      rw [List.getElem?_take_of_lt hk, b4]
      rcases lay_get 0 b3 with ⟨q, z, _⟩ | ⟨_, k2, c1, c2⟩
      · rw [z] at b2; cases b2
      · rw [ol.2, ei] at c1
        injection c1 with c1
        injection c1 with c1
        rw [Nat.zero_add] at c1
        rw [c1, c2]
    · rw [List.getElem?_eq_none (by rw [List.length_take]; omega), List.getElem?_eq_none (by rw [ol.1]; omega)]
  have bel : ∀ q, (layC outs).all (Cell.below q) = true := fun q => by
    have : ∀ os : List VV, (layC os).all (Cell.below q) = true := fun os => by
      induction os with
      | nil => rfl
      | cons o os ih => cases o <;> simp only [layC, List.all_cons, VV.cell_below, ih, Bool.and_self]
    exact this outs
  rcases rt with ⟨w, rfl, rfl⟩ | ⟨mu, k, rfl, ek, sep⟩
  · refine ⟨_, _, rfl, oo, ?_, .inl ⟨w, rfl, rfl⟩⟩
    unfold trunc
    rw [take', if_pos (bel _), List.take_of_length_le (by rw [ol.1]; exact Nat.le_refl _)]
  · have hk : (layC ds).length ≤ k := by
      refine Nat.le_of_not_lt fun hk => ?_
      obtain ⟨i, d, e, mu', ei⟩ := lay_owner (n := 0) hk
      rw [Nat.zero_add] at ei
      obtain ⟨k', o, a1, a2, b1, b2, _, _⟩ := at' i d e mu'
      rw [ei] at a1
      injection a1 with a1
      injection a1 with a1
      subst a1
      exact sep i o b1 b2 a2
    simp only [fnFin]
    rw [if_neg (by omega), ek]
    simp only
    rw [take', VV.cell_live mu, VV.cell_below, bel]
    simp only [Bool.and_self, if_true]
    refine ⟨_, _, rfl, oo, ?_, .inr ⟨mu, _, rfl, Nat.le_refl _, ?_⟩⟩
    · rw [← ol.1, List.take_left]
    · rw [List.getElem?_append_right (by rw [ol.1]; exact Nat.le_refl _), ol.1, Nat.sub_self]; rfl
theorem sf_fn {n m : Nat} {b : SM} {vb : WS} (hb : SimS A b vb) : SimF (fnOf n m b) (wFn n m A vb) := fun ds => by
  unfold wFn
  split
  · rename_i q
    split at q
    · rename_i c
      simp only [Bool.and_eq_true, decide_eq_true_eq] at c
      have z := hb [] (layC ds).length _ _ _ (st_start ds (m - n)) (fun _ z => by cases z) (Nat.le_refl _)
      simp only [fnOf, layV_len, c.1, if_true]
      unfold wEnd at q
      split at q
      · rename_i σ' eb
        rw [eb] at z
        obtain ⟨ρ', h', a1, a2⟩ := z
        rw [a1]
        unfold wOuts at q
        split at q
        · rename_i outs eo
          cases q
          exact fn_fin c.2 a2 (.inl ⟨_, rfl, rfl⟩) eo
        · cases q
      · rename_i d σ' eb
        rw [eb] at z
        obtain ⟨ρ', x, h', a1, a2, a3⟩ := z
        rw [a1]
        unfold wOuts at q
        split at q
        · rename_i outs eo
          cases q
          exact fn_fin c.2 a2 a3 eo
        · cases q
      · cases q
      · cases q
    · cases q
  · rename_i q
    split at q
    · rename_i c
      simp only [Bool.and_eq_true, decide_eq_true_eq] at c
      have z := hb [] (layC ds).length _ _ _ (st_start ds (m - n)) (fun _ z => by cases z) (Nat.le_refl _)
      simp only [fnOf, layV_len, c.1, if_true]
      unfold wEnd at q
      split at q
      · unfold wOuts at q; split at q <;> cases q
      · unfold wOuts at q; split at q <;> cases q
      · rename_i eb
        cases q
        rw [eb] at z
        rw [show b _ _ _ = _ from z]
        rfl
      · cases q
    · cases q
  · trivial
end
end NT

set_option Elab.async false
set_option linter.all false
set_option maxRecDepth 100000
set_option autoImplicit false

namespace NT
open PySem PySem.Spec PyProof.Rows L2 PySem.W

/-! ### what is walked, over values -/
structure WSrc where
  items : List PyData
  watch : List (Nat × List PyData)
def WatR (ρ : En) (p : Nat × List Val) (w : Nat × List PyData) : Prop := ρ[w.1]? = some (some (.ref p.1)) ∧ p.2 = w.2.map .im
def SrcR (ρ : En) (s : Src) (w : WSrc) : Prop := s.items = w.items.map .im ∧ Paired (WatR ρ) s.watch w.watch
abbrev SimI (m : M Src) (v : VM WSrc) : Prop := SimM (fun ρ _ _ _ s w => SrcR ρ s w) m v
def okW (ws : List (Nat × List PyData)) (σ : VE) : Prop := ∀ w ∈ ws, σ[w.1]? = some (some (.lst w.2))
def itemsD : PyData → Option (List PyData)
  | .tuple ds => some ds
  | .list ds => some ds
  | .str z => some (z.cps.toList.map fun c => .str ⟨#[c]⟩)
  | _ => none
/-- an argument read as items: o its name -/
def wDat (o : Option Nat) (d : VV) : Option (List PyData × List (Nat × List PyData)) := match d with
  | .im (.tuple ds) => some (ds, [])
  | .im (.list ds) => some (ds, [])
  | .lst l => match o with
    | some i => some (l, [(i, l)])
    | none => some (l, [])
  | _ => none
def wSeq (o : Option Nat) (r : VM (List VV)) : VM WSrc := fun σ => (r σ).bind fun ds σ1 => match ds with
  | [.im d] => match itemsD d with
    | some l => .ok ⟨l, []⟩ σ1
    | none => .no
  | [.lst l] => .ok ⟨l, match o with | some i => [(i, l)] | none => []⟩ σ1
  | _ => .no
def rngI (lo : Int) (n : Nat) : List PyData := (List.range n).map fun (i : Nat) => .int (lo + (i : Int))
def int1 : List VV → Option Int
  | [.im (.int j)] => some j
  | _ => none
def int2 : List VV → Option (Int × Int)
  | [.im (.int i), .im (.int j)] => some (i, j)
  | _ => none
theorem int1_eq {ds : List VV} {j : Int} (e : int1 ds = some j) : ds = [.im (.int j)] := by
  unfold int1 at e
  split at e <;> cases e
  rfl
theorem int2_eq {ds : List VV} {p : Int × Int} (e : int2 ds = some p) : ds = [.im (.int p.1), .im (.int p.2)] := by
  unfold int2 at e
  split at e <;> cases e
  rfl
def wRng1 (r : VM (List VV)) : VM WSrc := fun σ => (r σ).bind fun ds σ1 => match int1 ds with
  | some j => if smallI j = true then .ok ⟨rngI 0 j.toNat, []⟩ σ1 else .no
  | none => .no
def wRng2 (r : VM (List VV)) : VM WSrc := fun σ => (r σ).bind fun ds σ1 => match int2 ds with
  | some p => if (smallI p.1 && smallI p.2) = true then .ok ⟨rngI p.1 (p.2 - p.1).toNat, []⟩ σ1 else .no
  | none => .no
def enumV (i : Nat) : List PyData → List PyData
  | [] => []
  | d :: r => .tuple [.int (i : Int), d] :: enumV (i + 1) r
def wEnum (o : Option Nat) (r : VM (List VV)) : VM WSrc := fun σ => (r σ).bind fun ds σ1 => match ds with
  | [d] => match wDat o d with
    | some (l, w) => .ok ⟨enumV 0 l, w⟩ σ1
    | none => .no
  | _ => .no
def zipV : List PyData → List PyData → List PyData
  | a :: as, b :: bs => .tuple [a, b] :: zipV as bs
  | _, _ => []
def isTupV : VV → Bool
  | .im (.tuple _) => true
  | _ => false
def wZip (o o' : Option Nat) (r : VM (List VV)) : VM WSrc := fun σ => (r σ).bind fun ds σ1 => match ds with
  | [d, e] => match wDat o d, wDat o' e with
    | some (l, w), some (l', w') => if isTupV d = isTupV e then .ok ⟨zipV l l', w ++ w'⟩ σ1 else .no
    | _, _ => .no
  | _ => .no
section
variable {fr fr' : Fr} {ρ ρ' : En} {h h' h1 h2 : Hs} {σ σ' σ1 σ2 : VE} {n n' k i : Nat} {d : VV} {b : Bool} {x : Val} {xs : List Val} {ds : List VV} {wb : List (Option Nat)} {r : M (List Val)} {vr : VM (List VV)} {a : Ev} {va : VM VV}
theorem okAt_of {s : Src} {ws : List (Nat × List PyData)} (S : St fr ρ h σ) (p : Paired (WatR ρ) s.watch ws) (ok : okW ws σ) : s.okAt h := by
  have : ∀ {l : List (Nat × List Val)} {ws : List (Nat × List PyData)}, Paired (WatR ρ) l ws → okW ws σ → ∀ p ∈ l, h[p.1]? = some (.lst p.2) := fun {l ws} p => by
    induction p with
    | nil => intro _ p hp; cases hp
    | @cons a b as bs q _ ih =>
      intro ok p hp
      rcases List.mem_cons.mp hp with rfl | hp
      · obtain ⟨k, e1, e2, _⟩ := S.mu _ _ (ok b List.mem_cons_self) rfl
        rw [q.1] at e1
        injection e1 with e1
        injection e1 with e1
        injection e1 with e1
        rw [e1, q.2]
        exact e2
      · exact ih (fun w hw => ok w (List.mem_cons_of_mem _ hw)) p hp
  exact this p ok
theorem trunc_st (S1 : St fr ρ h1 σ1) (bl : ∀ (i k : Nat), ρ[i]? = some (some (.ref k)) → k < n) (frl : ∀ p ∈ fr, p.1 < n) (l : n ≤ h1.length) : n ≤ (trunc n h1).length ∧ St fr ρ (trunc n h1) σ1 := ⟨trunc_len l, S1.cut bl frl l⟩
theorem ArgV.imD {o : Option Nat} {e : PyData} (q : ArgV ρ n h σ o x (.im e)) : x = .im e := by
  cases q with
  | im => rfl
  | new m => cases m
  | own m => cases m
theorem sv_rng1 (hr : SimL wb r vr) : SimI (mRng1 r) (wRng1 vr) := fun fr ρ h σ S =>
  sv_bind hr S fun xs ds h1 σ1 l1 S1 q => by
    obtain ⟨l2, S2⟩ := trunc_st S1 S.bl S.frl l1
    cases e : int1 ds with
    | none => trivial
    | some j =>
      have := int1_eq e
      subst this
      cases q.1 with
      | cons a b =>
        cases b
        have := a.imD
        subst this
        exact out_if fun hs => ⟨⟨rangeI 0 j.toNat, []⟩, trunc h.length h1, by simp only [hs, if_true], l2, S2, by simp [rangeI, rngI], .nil⟩
theorem sv_rng2 (hr : SimL wb r vr) : SimI (mRng2 r) (wRng2 vr) := fun fr ρ h σ S =>
  sv_bind hr S fun xs ds h1 σ1 l1 S1 q => by
    obtain ⟨l2, S2⟩ := trunc_st S1 S.bl S.frl l1
    cases e : int2 ds with
    | none => trivial
    | some p =>
      obtain ⟨i, j⟩ := p
      have := int2_eq e
      subst this
      cases q.1 with
      | cons a b =>
        cases b with
        | cons b c =>
          cases c
          have := a.imD
          subst this
          have := b.imD
          subst this
          exact out_if fun hs => ⟨⟨rangeI i (j - i).toNat, []⟩, trunc h.length h1, by simp only [show (smallI i && smallI j) = true from hs, if_true], l2, S2, by simp [rangeI, rngI], .nil⟩
theorem sv_seq {o : Option Nat} (hr : SimL [o] (mCons a mNil) vr) : SimI (mSeq a) (wSeq o vr) := fun fr ρ h σ S => by
  have z := hr fr ρ h σ S
  show Out _ fr ρ h.length ((a ρ h).bind _) ((vr σ).bind _)
  cases e : vr σ with
  | er c =>
    rw [e] at z
    have z' : (a ρ h).bind (fun v h1 => (mNil ρ h1).bind fun vs h2 => .ok (v :: vs) h2) = .er c := z
    cases ea : a ρ h with
    | ok x h1 => rw [ea] at z'; cases z'
    | er c' => rw [ea] at z'; cases z'; rfl
    | no => rw [ea] at z'; cases z'
  | no => trivial
  | ok ds σ1 =>
    rw [e] at z
    obtain ⟨xs, h1, e1, l1, S1, q, _⟩ := z
    have ex : ∃ x, a ρ h = .ok x h1 ∧ xs = [x] := by
      have e1' : (a ρ h).bind (fun v h1 => (mNil ρ h1).bind fun vs h2 => .ok (v :: vs) h2) = .ok xs h1 := e1
      cases ea : a ρ h with
      | ok x h1 => rw [ea] at e1'; cases e1'; exact ⟨x, rfl, rfl⟩
      | er c' => rw [ea] at e1'; cases e1'
      | no => rw [ea] at e1'; cases e1'
    obtain ⟨x, ea, rfl⟩ := ex
    rw [ea]
    simp only [bind_ok, vbind_ok]
    obtain ⟨l2, S2⟩ := trunc_st S1 S.bl S.frl l1
    cases q with
    | @cons _ _ d _ _ _ qa qn =>
      cases qn
      cases qa with
      | im _ w =>
        cases w with
        | tuple l => exact ⟨_, _, rfl, l2, S2, rfl, .nil⟩
        | list l => exact ⟨_, _, rfl, l2, S2, rfl, .nil⟩
        | str z => exact ⟨_, _, rfl, l2, S2, by simp, .nil⟩
        | _ => trivial
      | @new k _ m ek hk =>
        cases d with
        | im _ => cases m
        | dct _ => trivial
        | lst l =>
          have ek' : h1[k]? = some (.lst (l.map .im)) := ek
          have S3 := S1.other (c := .fz (.list l)) S.bl S.frl hk
          obtain ⟨l4, S4⟩ := trunc_st S3 S.bl S.frl (by rw [List.length_set]; exact l1)
          refine ⟨⟨l.map .im, []⟩, trunc h.length (h1.set k (.fz (.list l))), ?_, l4, S4, rfl, .nil⟩
          simp only [seqSrc, ek', imsOf_map, hk, if_true]
      | @own j k _ m ek rk sk =>
        cases d with
        | im _ => cases m
        | dct _ => trivial
        | lst l =>
          have ek' : h1[k]? = some (.lst (l.map .im)) := ek
          have hk := S.bl _ _ rk
          refine ⟨⟨l.map .im, [(k, l.map .im)]⟩, trunc h.length h1, ?_, l2, S2, rfl, .cons ⟨rk, rfl⟩ .nil⟩
          simp only [seqSrc, ek', imsOf_map, if_neg (Nat.not_le_of_lt hk)]
/-- an argument's items -/
theorem dat_sim {o : Option Nat} {l : List PyData} {w : List (Nat × List PyData)} (S1 : St fr ρ h1 σ1) (bl : ∀ (i k : Nat), ρ[i]? = some (some (.ref k)) → k < n) (frl : ∀ p ∈ fr, p.1 < n) (q : ArgV ρ n h1 σ1 o x d) (e : wDat o d = some (l, w)) :
    ∃ D h2, datOf n x h1 = some (D, h2) ∧ h2.length = h1.length ∧ St fr ρ h2 σ1 ∧ D.ds = l ∧ D.tup = isTupV d ∧ Paired (WatR ρ) D.watch w ∧ (∀ k, (∀ j, x = .ref j → n ≤ j → k ≠ j) → h2[k]? = h1[k]?) := by
  cases q with
  | im _ z =>
    cases z with
    | tuple ds => cases e; exact ⟨_, h1, rfl, rfl, S1, rfl, rfl, .nil, fun _ _ => rfl⟩
    | list ds => cases e; exact ⟨_, h1, rfl, rfl, S1, rfl, rfl, .nil, fun _ _ => rfl⟩
    | _ => cases e
  | @new k _ m ek hk =>
    cases d with
    | im _ => cases m
    | dct _ => cases e
    | lst l' =>
      obtain ⟨rfl, rfl⟩ : l' = l ∧ w = [] := by simpa [wDat] using e
      have ek' : h1[k]? = some (.lst (l'.map .im)) := ek
      exact ⟨⟨false, l', []⟩, h1.set k (.fz (.list l')), by simp only [datOf, ek', imsOf_map, hk, if_true], List.length_set, S1.other bl frl hk, rfl, rfl, .nil, fun j hj => List.getElem?_set_ne (Ne.symm (hj k rfl hk))⟩
  | @own j k _ m ek rk sk =>
    cases d with
    | im _ => cases m
    | dct _ => cases e
    | lst l' =>
      obtain ⟨rfl, rfl⟩ : l' = l ∧ [(j, l')] = w := by simpa [wDat] using e
      have ek' : h1[k]? = some (.lst (l'.map .im)) := ek
      have hk := bl _ _ rk
      exact ⟨⟨false, l', [(k, l'.map .im)]⟩, h1, by simp only [datOf, ek', imsOf_map, if_neg (Nat.not_le_of_lt hk)], rfl, S1, rfl, rfl, .cons ⟨rk, rfl⟩ .nil, fun _ _ => rfl⟩
theorem enum_map : ∀ (l : List PyData) (i : Nat), enumD i l = (enumV i l).map .im
  | [], _ => rfl
  | d :: r, i => by rw [enumD, enumV, List.map_cons, enum_map r]
theorem zip_map : ∀ (l r : List PyData), zipD l r = (zipV l r).map .im
  | a :: l, b :: r => by rw [zipD, zipV, List.map_cons, zip_map l r]
  | [], _ => by cases ‹List PyData› <;> rfl
  | _ :: _, [] => rfl
theorem sv_enum {o : Option Nat} (hr : SimL [o] r vr) : SimI (mEnum r) (wEnum o vr) := fun fr ρ h σ S =>
  sv_bind hr S fun xs ds h1 σ1 l1 S1 q => by
    cases q.1 with
    | @cons _ x d _ _ _ qa qn =>
      cases qn
      cases e : wDat o d with
      | none => simp only [e]; trivial
      | some p =>
        obtain ⟨l, w⟩ := p
        obtain ⟨D, h2, a1, a2, a3, a4, a5, a6, _⟩ := dat_sim S1 S.bl S.frl qa e
        obtain ⟨l2, S2⟩ := trunc_st a3 S.bl S.frl (by rw [a2]; exact l1)
        simp only [e]
        exact ⟨⟨enumD 0 D.ds, D.watch⟩, trunc h.length h2, by simp only [a1], l2, S2, by rw [a4, enum_map], a6⟩
theorem ArgV.put {o : Option Nat} {j : Nat} {c : Cell} (q : ArgV ρ n h1 σ1 o x d) (hj : ∀ k, x = .ref k → k ≠ j) : ArgV ρ n (h1.set j c) σ1 o x d := by
  cases q with
  | im o e => exact .im o e
  | new m e l => exact .new m (by rw [List.getElem?_set_ne (Ne.symm (hj _ rfl))]; exact e) l
  | own m e a c => exact .own m (by rw [List.getElem?_set_ne (Ne.symm (hj _ rfl))]; exact e) a c
theorem ArgV.at {o : Option Nat} (q : ArgV ρ n h1 σ1 o x d) (hj : ∀ k, x = .ref k → h2[k]? = h1[k]?) : ArgV ρ n h2 σ1 o x d := by
  cases q with
  | im o e => exact .im o e
  | new m e l => exact .new m (by rw [hj _ rfl]; exact e) l
  | own m e a c => exact .own m (by rw [hj _ rfl]; exact e) a c
theorem sv_zip {o o' : Option Nat} (hr : SimL [o, o'] r vr) (hn : ∀ i, o = some i → o' ≠ some i) : SimI (mZip r) (wZip o o' vr) := fun fr ρ h σ S =>
  sv_bind hr S fun xs ds h1 σ1 l1 S1 q => by
    have nd := q.2
    cases q.1 with
    | @cons _ x d _ _ _ qa qn =>
      cases qn with
      | @cons _ y e _ _ _ qb qn =>
        cases qn
        cases e1 : wDat o d with
        | none => simp only [e1]; trivial
        | some p =>
          cases e2 : wDat o' e with
          | none => simp only [e1, e2]; trivial
          | some p' =>
            obtain ⟨l, w⟩ := p
            obtain ⟨l', w'⟩ := p'
            simp only [e1, e2]
            refine out_if fun ht => ?_
            obtain ⟨D, h2, a1, a2, a3, a4, a5, a6, a7⟩ := dat_sim S1 S.bl S.frl qa e1
            have nd2 : (wbN [o, o'] [d, e]).Nodup := by
              cases o with
              | none => cases o' with
                | none => simp [wbN]
                | some j => simp only [wbN]; split <;> simp
              | some i => cases o' with
                | none => simp only [wbN]; split <;> simp
                | some j =>
                  have : i ≠ j := fun z => hn i rfl (by rw [z])
                  simp only [wbN]
                  split <;> split <;> simp [this]
            have nd3 := nd nd2
            have qb' : ArgV ρ h.length h2 σ1 o' y e := qb.at fun k hk => a7 k fun j hj _ => by
              subst hk; subst hj
              simp only [refs, List.nodup_cons, List.mem_singleton] at nd3
              exact Ne.symm nd3.1
            obtain ⟨D', h3, b1, b2, b3, b4, b5, b6, _⟩ := dat_sim a3 S.bl S.frl qb' e2
            obtain ⟨l2, S2⟩ := trunc_st b3 S.bl S.frl (by rw [b2, a2]; exact l1)
            refine ⟨⟨zipD D.ds D'.ds, D.watch ++ D'.watch⟩, trunc h.length h3, ?_, l2, S2, by rw [a4, b4, zip_map], Paired.app a6 b6⟩
            simp only [a1, b1, a5, b5, ht, if_true]
end

/-! ### loops -/
def forgets : List Nat → VE → VE
  | [], σ => σ
  | i :: r, σ => forgets r (σ.set i none)
def wsetIs : List Nat → List PyData → VE → VE
  | i :: is, d :: ds, σ => wsetIs is ds (σ.set i (some (.im d)))
  | _, _, σ => σ
def wasg : Tg → PyData → VE → Option VE
  | .nm i, d, σ => some (σ.set i (some (.im d)))
  | .tup is, .tuple ds, σ => if ds.length = is.length then some (wsetIs is ds σ) else none
  | _, _, _ => none
open Classical in
noncomputable def xGo (b : WS) (T : Tg) (ws : List (Nat × List PyData)) (fg : List Nat) : List PyData → VE → WRS
  | [], σ => if okW ws σ then .nx σ else .no
  | a :: r, σ => if okW ws σ then (match wasg T a σ with
    | some σ1 => (match b σ1 with
      | .nx σ2 => xGo b T ws fg r (forgets fg σ2)
      | .ct σ2 => xGo b T ws fg r (forgets fg σ2)
      | .bk σ2 => .nx (forgets fg σ2)
      | x => x)
    | none => .no) else .no
noncomputable def xFor (ms : VM WSrc) (T : Tg) (A fg : List Nat) (b : WS) : WS := fun σ => match ms σ with
  | .ok w σ1 => if (w.watch.all fun p => !A.contains p.1) = true then xGo b T w.watch fg w.items (forgets fg σ1) else .no
  | .er c => .er c
  | .no => .no
def xwGo (c : VM Bool) (b : WS) (fg : List Nat) : Nat → VE → WRS
  | 0, _ => .no
  | n + 1, σ => match c σ with
    | .ok k σ1 => if k = true then (match b σ1 with
        | .nx σ2 => xwGo c b fg n (forgets fg σ2)
        | .ct σ2 => xwGo c b fg n (forgets fg σ2)
        | .bk σ2 => .nx (forgets fg σ2)
        | x => x) else .nx σ1
    | .er c => .er c
    | .no => .no
open Classical in
noncomputable def xWhile (c : VM Bool) (fg : List Nat) (b : WS) : WS := fun σ => if hx : ∃ n, xwGo c b fg n (forgets fg σ) ≠ .no then xwGo c b fg hx.choose (forgets fg σ) else .no
section
variable {A B fg : List Nat} {fr fr' : Fr} {ρ ρ' ρ0 : En} {h h' h1 h2 : Hs} {σ σ' σ1 σ2 : VE} {n n' k i p p0 : Nat} {d : VV} {T : Tg} {b : SM} {vb : WS} {c : M Bool} {vc : VM Bool} {ms : M Src} {vm : VM WSrc}
theorem St.forgets : ∀ (fg : List Nat) {σ : VE}, St fr ρ h σ → St fr ρ h (NT.forgets fg σ)
  | [], _, S => S
  | i :: r, _, S => St.forgets r (S.forget i)
theorem setIs_sim : ∀ {is : List Nat} {ds : List PyData} {ρ : En} {σ : VE}, St fr ρ h σ → St fr (setIs is ds ρ) h (wsetIs is ds σ) ∧ ∀ i, i ∉ is → (setIs is ds ρ)[i]? = ρ[i]?
  | [], _, _, _, S => ⟨by cases ‹List PyData› <;> exact S, fun _ _ => by cases ‹List PyData› <;> rfl⟩
  | _ :: _, [], _, _, S => ⟨S, fun _ _ => rfl⟩
  | i :: is, d :: ds, ρ, σ, S => by
    obtain ⟨a, b⟩ := setIs_sim (is := is) (ds := ds) (S.setIm i d)
    refine ⟨a, fun j hj => ?_⟩
    rw [setIs, b j fun z => hj (List.mem_cons_of_mem _ z), List.getElem?_set_ne fun z => hj (by rw [z]; exact List.mem_cons_self)]
theorem asg_sim {a : PyData} (S : St fr ρ h σ) (e : wasg T a σ = some σ1) : ∃ ρ1, T.asg (.im a) ρ = some ρ1 ∧ St fr ρ1 h σ1 ∧ ∀ i, i ∉ T.slots → ρ1[i]? = ρ[i]? := by
  cases T with
  | nm i => cases e; exact ⟨_, rfl, S.setIm i a, set_eq (by simp [Tg.slots])⟩
  | tup is =>
    cases a with
    | tuple ds =>
      simp only [wasg] at e
      split at e
      · rename_i hl
        cases e
        obtain ⟨a1, a2⟩ := setIs_sim (is := is) (ds := ds) S
        exact ⟨setIs is ds ρ, by simp only [Tg.asg, hl, if_true], a1, a2⟩
      · cases e
    | _ => cases e
theorem go_sim {s : Src} {ws : List (Nat × List PyData)} (hb : SimS A b vb) (hA : ∀ w ∈ ws, w.1 ∉ T.slots ++ A) (hf : ∀ x ∈ fr, x.1 < p) : ∀ (items : List PyData) (ρ : En) (h : Hs) (σ : VE), St fr ρ h σ → Paired (WatR ρ) s.watch ws → p ≤ h.length →
    OutS (T.slots ++ A) fr ρ p (forGo b T s p (items.map .im) ρ h) (xGo vb T ws fg items σ)
  | [], ρ, h, σ, S, W, hp => by
    unfold xGo
    split
    · rename_i ok
      rw [List.map_nil, forGo, if_pos (okAt_of S W ok)]
      exact ⟨ρ, h, rfl, S, hp, fun _ _ => rfl⟩
    · trivial
  | a :: r, ρ, h, σ, S, W, hp => by
    unfold xGo
    split
    · rename_i ok
      rw [List.map_cons, forGo, if_pos (okAt_of S W ok)]
      cases ea : wasg T a σ with
      | none => trivial
      | some σ1 =>
        obtain ⟨ρ1, e1, S1, q1⟩ := asg_sim S ea
        rw [e1]
        simp only
        have z := hb fr p ρ1 h σ1 S1 hf hp
        have down : ∀ {ρ2 : En} {h2 : Hs} {σ2 : VE}, Aft A fr p ρ1 ρ2 h2 σ2 → Aft (T.slots ++ A) fr p ρ ρ2 h2 (forgets fg σ2) := fun q => ⟨St.forgets fg q.st, q.le, fun i hi => by rw [q.eq i fun z => hi (List.mem_append_right _ z), q1 i fun z => hi (List.mem_append_left _ z)]⟩
        have next : ∀ {ρ2 : En} {h2 : Hs} {σ2 : VE}, Aft A fr p ρ1 ρ2 h2 σ2 → OutS (T.slots ++ A) fr ρ p (forGo b T s p (r.map .im) ρ2 h2) (xGo vb T ws fg r (forgets fg σ2)) := fun {ρ2 h2 σ2} q => by
          have q' := down q
          have W2 : Paired (WatR ρ2) s.watch ws := by
            refine Paired.mem W fun a w hw z => ⟨?_, z.2⟩
            rw [q'.eq _ (hA w hw)]
            exact z.1
          exact (go_sim hb hA hf r ρ2 h2 _ q'.st W2 q'.le).mp (fun _ z => z) (fun _ z => z) (Nat.le_refl _) q'.eq
        cases e : vb σ1 with
        | nx σ2 => rw [e] at z; obtain ⟨ρ2, h2, e2, q⟩ := z; rw [e2]; exact next q
        | ct σ2 => rw [e] at z; obtain ⟨ρ2, h2, e2, q⟩ := z; rw [e2]; exact next q
        | bk σ2 => rw [e] at z; obtain ⟨ρ2, h2, e2, q⟩ := z; rw [e2]; exact ⟨ρ2, h2, rfl, down q⟩
        | rt d σ2 => rw [e] at z; obtain ⟨ρ2, x, h2, e2, q, rt⟩ := z; rw [e2]; exact ⟨ρ2, x, h2, rfl, ⟨q.st, q.le, (down q).eq⟩, rt⟩
        | er c => rw [e] at z; rw [show b p ρ1 h = _ from z]; rfl
        | no => trivial
    · trivial
theorem ss_for (hI : SimI ms vm) (hb : SimS A b vb) : SimS (T.slots ++ A) (sFor ms T b) (xFor vm T (T.slots ++ A) fg vb) := fun fr p ρ h σ S hf hp => by
  have z := hI fr ρ h σ S
  unfold sFor xFor
  cases e : vm σ with
  | er c => rw [e] at z; rw [show ms ρ h = _ from z]; rfl
  | no => trivial
  | ok w σ1 =>
    rw [e] at z
    obtain ⟨s, h1, e1, l1, S1, q1, q2⟩ := z
    rw [e1]
    simp only
    split
    · rename_i ok
      have pl : s.pin h1.length ≤ h1.length := by unfold Src.pin; split <;> omega
      rw [q1]
      refine (go_sim (p := max p (s.pin h1.length)) hb (fun w hw => ?_) (fun x hx => by have := hf x hx; omega) w.items ρ h1 _ (St.forgets fg S1) q2 (by omega)).mp (fun _ z => z) (fun _ z => z) (by omega) fun _ _ => rfl
      have := List.all_eq_true.mp ok w hw
      intro z
      rw [List.contains, List.elem_eq_true_of_mem z] at this
      cases this
    · trivial
theorem while_sim (hc : SimT c vc) (hb : SimS A b vb) (hf : ∀ x ∈ fr, x.1 < p) : ∀ (n : Nat) (ρ : En) (h : Hs) (σ : VE), St fr ρ h σ → p ≤ h.length → OutS A fr ρ p (whileGo c b p n ρ h) (xwGo vc vb fg n σ)
  | 0, _, _, _, _, _ => trivial
  | n + 1, ρ, h, σ, S, hp => by
    unfold xwGo whileGo
    have z := hc fr ρ h σ S
    cases e : vc σ with
    | er c' => rw [e] at z; rw [show c ρ h = _ from z]; rfl
    | no => trivial
    | ok k σ1 =>
      rw [e] at z
      obtain ⟨x, h1, e1, l1, S1, rfl⟩ := z
      rw [e1]
      simp only
      have S2 := S1.cut S.bl S.frl l1
      have l2 := Nat.le_trans hp (trunc_len l1)
      cases x with
      | false => exact ⟨ρ, _, rfl, S2, l2, fun _ _ => rfl⟩
      | true =>
        simp only [if_true]
        have z := hb fr p ρ _ σ1 S2 hf l2
        have down : ∀ {ρ2 : En} {h2 : Hs} {σ2 : VE}, Aft A fr p ρ ρ2 h2 σ2 → Aft A fr p ρ ρ2 h2 (forgets fg σ2) := fun q => ⟨St.forgets fg q.st, q.le, q.eq⟩
        have next : ∀ {ρ2 : En} {h2 : Hs} {σ2 : VE}, Aft A fr p ρ ρ2 h2 σ2 → OutS A fr ρ p (whileGo c b p n ρ2 h2) (xwGo vc vb fg n (forgets fg σ2)) := fun {ρ2 h2 σ2} q => by
          have q' := down q
          exact (while_sim hc hb hf n ρ2 h2 _ q'.st q'.le).mp (fun _ z => z) (fun _ z => z) (Nat.le_refl _) q'.eq
        cases e : vb σ1 with
        | nx σ2 => rw [e] at z; obtain ⟨ρ2, h2, e2, q⟩ := z; rw [e2]; exact next q
        | ct σ2 => rw [e] at z; obtain ⟨ρ2, h2, e2, q⟩ := z; rw [e2]; exact next q
        | bk σ2 => rw [e] at z; obtain ⟨ρ2, h2, e2, q⟩ := z; rw [e2]; exact ⟨ρ2, h2, rfl, down q⟩
        | rt d σ2 => rw [e] at z; obtain ⟨ρ2, x, h2, e2, q, rt⟩ := z; rw [e2]; exact ⟨ρ2, x, h2, rfl, q, rt⟩
        | er c' => rw [e] at z; rw [show b p ρ _ = _ from z]; rfl
        | no => trivial
theorem out_no {q : RS} {o : WRS} (z : OutS A fr ρ p q o) (ho : o ≠ .no) : q ≠ .no := by
  cases o with
  | nx σ' => obtain ⟨_, _, e, _⟩ := z; rw [e]; exact fun z => nomatch z
  | bk σ' => obtain ⟨_, _, e, _⟩ := z; rw [e]; exact fun z => nomatch z
  | ct σ' => obtain ⟨_, _, e, _⟩ := z; rw [e]; exact fun z => nomatch z
  | rt d σ' => obtain ⟨_, _, _, e, _⟩ := z; rw [e]; exact fun z => nomatch z
  | er c => rw [show q = _ from z]; exact fun z => nomatch z
  | no => exact (ho rfl).elim
theorem ss_while (hc : SimT c vc) (hb : SimS A b vb) : SimS A (sWhile c b) (xWhile vc fg vb) := fun fr p ρ h σ S hf hp => by
  by_cases hx : ∃ n, xwGo vc vb fg n (forgets fg σ) ≠ .no
  case neg => unfold xWhile; rw [dif_neg hx]; trivial
  case pos =>
    unfold xWhile sWhile
    rw [dif_pos hx]
    have z := while_sim (fg := fg) hc hb hf hx.choose ρ h _ (St.forgets fg S) hp
    have nz := out_no z hx.choose_spec
    have hy : ∃ n, whileGo c b p n ρ h ≠ .no := ⟨_, nz⟩
    rw [dif_pos hy]
    have e : whileGo c b p hy.choose ρ h = whileGo c b p hx.choose ρ h := by
      rcases Nat.le_total hy.choose hx.choose with l | l
      · exact (whileGo_more l hy.choose_spec).symm
      · exact whileGo_more l nz
    rw [e]
    exact z
theorem xwGo_more {fg : List Nat} : ∀ {n m : Nat} {σ : VE}, n ≤ m → xwGo vc vb fg n σ ≠ .no → xwGo vc vb fg m σ = xwGo vc vb fg n σ
  | 0, _, _, _, hn => (hn rfl).elim
  | n + 1, 0, _, hm, _ => by omega
  | n + 1, m + 1, σ, hm, hn => by
    unfold xwGo at hn ⊢
    cases ec : vc σ with
    | no => rfl
    | er c => rfl
    | ok k h1 =>
      simp only [ec] at hn ⊢
      cases k with
      | false => rfl
      | true =>
        simp only [if_true] at hn ⊢
        cases eb : vb h1 with
        | nx σ2 => simp only [eb] at hn ⊢; exact xwGo_more (by omega) hn
        | ct σ2 => simp only [eb] at hn ⊢; exact xwGo_more (by omega) hn
        | bk σ2 => rfl
        | rt d σ2 => rfl
        | er c => rfl
        | no => rfl
theorem xWhile_eq {fg : List Nat} (n : Nat) (hn : xwGo vc vb fg n (forgets fg σ) ≠ .no) : xWhile vc fg vb σ = xwGo vc vb fg n (forgets fg σ) := by
  have hx : ∃ n, xwGo vc vb fg n (forgets fg σ) ≠ .no := ⟨n, hn⟩
  unfold xWhile
  rw [dif_pos hx]
  rcases Nat.le_total hx.choose n with l | l
  · exact (xwGo_more l hx.choose_spec).symm
  · exact xwGo_more l hn
end
end NT

set_option Elab.async false
set_option linter.all false
set_option maxRecDepth 100000
set_option autoImplicit false

namespace NT
open PySem PySem.Spec PyProof.Rows L2 PySem.W

/-! ### comprehensions, methods -/
def wV (σ : VE) : List Nat → VE
  | [] => σ
  | v :: vs => (wV σ vs).set v none
def restore (σ0 : VE) : List Nat → VE → VE
  | [], σ => σ
  | v :: vs, σ => match σ0[v]? with
    | some (some (.im d)) => restore σ0 vs (σ.set v (some (.im d)))
    | _ => restore σ0 vs σ
open Classical in
noncomputable def wcGo (T : Tg) (ws : List (Nat × List PyData)) (c : VM Bool) (e : VM VV) (vs : List Nat) : List PyData → List PyData → VE → VR (List PyData)
  | [], acc, σ => if okW ws σ then .ok acc σ else .no
  | a :: r, acc, σ => if okW ws σ then (match wasg T a σ with
    | some σ1 => (match c σ1 with
      | .ok k σ2 => if k = true then (match e σ2 with
          | .ok (.im d) σ3 => if acc.length < 16777216 then wcGo T ws c e vs r (acc ++ [d]) (wV σ3 vs) else .no
          | _ => .no) else wcGo T ws c e vs r acc (wV σ2 vs)
      | _ => .no)
    | none => .no) else .no
noncomputable def wComp (ms : VM WSrc) (T : Tg) (c : VM Bool) (e : VM VV) (vs : List Nat) : VM VV := fun σ => (ms σ).bind fun w σ1 => (wcGo T w.watch c e vs w.items [] (wV σ1 vs)).bind fun acc σ2 => .ok (.lst acc) (restore σ1 vs (wV σ2 vs))
abbrev WMe := VV → List VV → Option (PyData × VV)
def wMeth (i : Nat) (ty : VV → Bool) (g : WMe) (r : VM (List VV)) : VM VV := fun σ => match σ[i]? with
  | some (some d) => if (d.mu && ty d) = true then (r σ).bind fun ds σ1 => (match σ1[i]? with
    | some (some d1) => if d1.mu = true then (match g d1 ds with
      | some (q, d2) => if d2.mu = true then .ok (.im q) (σ1.set i (some d2)) else .no
      | none => .no) else .no
    | _ => .no) else .no
  | _ => .no
abbrev OpM (f : Val → List Val → Hs → Res Val) (g : WMe) : Prop := ∀ h k d us ds q d', h[k]? = some (VV.cell d) → d.mu = true → Paired (Rd h) us ds → g d ds = some (q, d') → f (.ref k) us h = .ok (.im q) (h.set k d'.cell)
section
variable {fr fr' : Fr} {ρ ρ' ρ1 ρ2 : En} {h h' h1 h2 : Hs} {σ σ' σ1 σ2 σ0 : VE} {n n' k i : Nat} {d : VV} {b : Bool} {x : Val} {xs : List Val} {ds : List VV} {wb : List (Option Nat)} {r : M (List Val)} {vr : VM (List VV)} {a : Ev} {va : VM VV} {T : Tg} {c : M Bool} {vc : VM Bool} {e : Ev} {ve : VM VV} {vs : List Nat} {ms : M Src} {vm : VM WSrc}
theorem wV_some {σ : VE} {i : Nat} {x : VV} : ∀ {vs : List Nat}, (wV σ vs)[i]? = some (some x) → σ[i]? = some (some x) ∧ i ∉ vs
  | [], q => ⟨q, List.not_mem_nil⟩
  | v :: vs, q => by
    have q' : ((wV σ vs).set v none)[i]? = some (some x) := q
    rcases get_set q' with ⟨n1, q1⟩ | ⟨_, bad, _⟩
    · have ⟨r1, r2⟩ := wV_some q1
      exact ⟨r1, fun m => (List.mem_cons.mp m).elim n1 r2⟩
    · cases bad
theorem wV_len (σ : VE) : ∀ vs : List Nat, (wV σ vs).length = σ.length
  | [] => rfl
  | v :: vs => by rw [wV, List.length_set, wV_len σ vs]
theorem wE_out {i : Nat} : ∀ {vs : List Nat}, i ∉ vs → (wE ρ vs)[i]? = ρ[i]?
  | [], _ => rfl
  | v :: vs, q => by rw [wE, List.getElem?_set_ne fun z => q (by rw [← z]; exact List.mem_cons_self), wE_out fun z => q (List.mem_cons_of_mem _ z)]
theorem St.swap (S : St fr ρ1 h σ) (vs : List Nat) (hl : ρ2.length = ρ1.length) (he : ∀ i, i ∉ vs → ρ2[i]? = ρ1[i]?) (bl : ∀ (i k : Nat), ρ2[i]? = some (some (.ref k)) → k < h.length) : St fr ρ2 h (wV σ vs) :=
  ⟨by rw [hl, wV_len]; exact S.len, fun i d q => by
    obtain ⟨a, b⟩ := wV_some q
    rw [he i b]; exact S.im i d a, fun i d q m => by
    obtain ⟨a, b⟩ := wV_some q
    rw [he i b]; exact S.mu i d a m, fun i j d e k q1 q2 m1 m2 r1 r2 => by
    obtain ⟨a1, b1⟩ := wV_some q1
    obtain ⟨a2, b2⟩ := wV_some q2
    rw [he i b1] at r1
    rw [he j b2] at r2
    exact S.sep i j d e k a1 a2 m1 m2 r1 r2, bl, S.fr⟩
theorem St.known (S : St fr ρ h σ) {v : Nat} {d : PyData} (e : ρ[v]? = some (some (.im d))) : St fr ρ h (σ.set v (some (.im d))) := by
  have := S.setIm v d
  have e1 : ρ.set v (some (.im d)) = ρ := by
    apply List.ext_getElem?
    intro j
    by_cases hj : j = v
    · subst hj
      rw [List.getElem?_set_self (List.getElem?_eq_some_iff.mp e).1, e]
    · rw [List.getElem?_set_ne (Ne.symm hj)]
  rw [e1] at this
  exact this
theorem St.restore (S0 : St fr' ρ h' σ0) : ∀ (vs : List Nat) {σ : VE}, St fr ρ h σ → St fr ρ h (NT.restore σ0 vs σ)
  | [], _, S => S
  | v :: vs, σ, S => by
    unfold NT.restore
    split
    · rename_i d e
      exact St.restore S0 vs (S.known (S0.im v d e))
    · exact St.restore S0 vs S
theorem wE_bl (bl : ∀ (i k : Nat), ρ[i]? = some (some (.ref k)) → k < n) : ∀ (i k : Nat), (wE ρ vs)[i]? = some (some (.ref k)) → k < n := fun i k e => bl i k (wE_some e).1
theorem len_of (S : St fr ρ h σ) (S' : St fr' ρ' h' σ') (e : σ.length = σ'.length) : ρ.length = ρ'.length := by rw [S.len, S'.len, e]
theorem setIs_len : ∀ (is : List Nat) (ds : List PyData) (ρ : En), (setIs is ds ρ).length = ρ.length
  | [], _, _ => by cases ‹List PyData› <;> rfl
  | _ :: _, [], _ => rfl
  | i :: is, d :: ds, ρ => by rw [setIs, setIs_len is ds, List.length_set]
theorem asg_len {v : Val} (q : T.asg v ρ = some ρ1) : ρ1.length = ρ.length := by
  cases T with
  | nm i => cases q; rw [List.length_set]
  | tup is =>
    unfold Tg.asg at q
    split at q
    · rename_i z; cases z
    · split at q
      · cases q; exact setIs_len _ _ _
      · cases q
    · cases q
theorem comp_sim {s : Src} {ws : List (Nat × List PyData)} (hc : SimT c vc) (he : SimE b e ve) (hT : ∀ i ∈ T.slots, i ∈ vs) (hlen : ∀ (i k : Nat), ρ[i]? = some (some (.ref k)) → k < n) : ∀ (items : List PyData) (acc : List PyData) (h : Hs) (σ : VE), St fr (wE ρ vs) h σ → n ≤ h.length → Paired (WatR (wE ρ vs)) s.watch ws →
    Out (fun _ _ _ _ l l' => l = l'.map .im) fr (wE ρ vs) n (compGo s T c e (wE ρ vs) (items.map .im) (acc.map .im) h) (wcGo T ws vc ve vs items acc σ)
  | [], acc, h, σ, S, hn, W => by
    unfold wcGo
    split
    · rename_i ok
      rw [List.map_nil, compGo, if_pos (okAt_of S W ok)]
      exact ⟨_, h, rfl, hn, S, rfl⟩
    · trivial
  | a :: r, acc, h, σ, S, hn, W => by
    unfold wcGo
    split
    · rename_i ok
      rw [List.map_cons, compGo, if_pos (okAt_of S W ok)]
      cases ea : wasg T a σ with
      | none => trivial
      | some σ1 =>
        obtain ⟨ρ1, e1, S1, q1⟩ := asg_sim S ea
        have l1 := asg_len e1
        rw [e1]
        simp only
        have back : ∀ {h' : Hs} {σ' : VE}, St fr ρ1 h' σ' → n ≤ h'.length → St fr (wE ρ vs) h' (wV σ' vs) := fun {h' σ'} S' l' =>
          S'.swap vs l1.symm (fun i hi => (q1 i fun z => hi (hT i z)).symm) (wE_bl fun i k z => Nat.lt_of_lt_of_le (hlen i k z) l')
        have z := hc fr ρ1 h σ1 S1
        cases e2 : vc σ1 with
        | er _ => trivial
        | no => trivial
        | ok k σ2 =>
          rw [e2] at z
          obtain ⟨x, h1, a1, a2, S2, rfl⟩ := z
          rw [a1]
          simp only
          have S3 := S2.cut S1.bl S1.frl a2
          have l3 := Nat.le_trans hn (trunc_len a2)
          cases x with
          | false => exact comp_sim hc he hT hlen r acc _ _ (back S3 l3) l3 W
          | true =>
            simp only [if_true]
            have z := he fr ρ1 _ σ2 S3
            cases e3 : ve σ2 with
            | er _ => trivial
            | no => trivial
            | ok d σ3 =>
              rw [e3] at z
              obtain ⟨y, h2, b1, b2, S4, rr⟩ := z
              cases d with
              | lst _ => trivial
              | dct _ => trivial
              | im w =>
                have := res_im rr
                subst this
                rw [b1]
                simp only [List.length_map]
                refine out_if fun hl => ?_
                simp only [hl, if_true, truncV]
                have S5 := S4.cut S3.bl S3.frl b2
                have l5 := Nat.le_trans l3 (trunc_len b2)
                have := comp_sim hc he hT hlen r (acc ++ [w]) _ _ (back S5 l5) l5 W
                rw [List.map_append] at this
                exact this
    · trivial
theorem sv_comp (hI : SimI ms vm) (hc : SimT c vc) (he : SimE b e ve) (hT : (T.slots.all fun i => vs.contains i) = true := by rfl) : SimE true (eComp ms T c e vs) (wComp vm T vc ve vs) := fun fr ρ h σ S =>
  sv_bind hI S fun s w h1 σ1 l1 S1 q => by
    -- the names of the comprehension are nobody's within
    by_cases hw : ∀ p ∈ w.watch, p.1 ∉ vs
    · have W : Paired (WatR (wE ρ vs)) s.watch w.watch := Paired.mem q.2 fun a p hp z => ⟨by rw [wE_out (hw p hp)]; exact z.1, z.2⟩
      have Sw : St fr (wE ρ vs) h1 (wV σ1 vs) := S1.swap vs (wE_len ρ vs) (fun i hi => wE_out hi) (wE_bl fun i k z => S1.bl i k z)
      have z := comp_sim (n := h.length) hc he (fun i hi => by
        have := List.all_eq_true.mp hT i hi
        simpa using this) S.bl w.items [] h1 _ Sw l1 W
      rw [q.1]
      cases e1 : wcGo T w.watch vc ve vs w.items [] (wV σ1 vs) with
      | er c' => rw [e1] at z; rw [show compGo s T c e (wE ρ vs) (w.items.map .im) [] h1 = _ from z]; rfl
      | no => trivial
      | ok acc σ2 =>
        rw [e1] at z
        obtain ⟨l, h2, a1, a2, S2, rfl⟩ := z
        rw [show compGo s T c e (wE ρ vs) (w.items.map .im) [] h1 = _ from a1]
        have S3 : St fr ρ h2 (wV σ2 vs) := S2.swap vs (wE_len ρ vs).symm (fun i hi => (wE_out hi).symm) (fun i k z => Nat.lt_of_lt_of_le (S.bl i k z) a2)
        have S4 := St.restore S1 vs S3
        refine ⟨.ref h2.length, h2 ++ [.lst (acc.map .im)], rfl, by rw [List.length_append]; omega, S4.grow _, .new rfl (by simp [VV.cell]) a2⟩
    · have : wcGo T w.watch vc ve vs w.items [] (wV σ1 vs) = .no := by
        have nk : ¬ okW w.watch (wV σ1 vs) := fun ok => hw fun p hp => (wV_some (ok p hp)).2
        cases w.items with
        | nil => unfold wcGo; rw [if_neg nk]
        | cons a r => unfold wcGo; rw [if_neg nk]
      rw [this]
      trivial
theorem sv_meth {ty : Val → Hs → Bool} {tyV : VV → Bool} {f : Val → List Val → Hs → Res Val} {g : WMe} (ht : ∀ h k d, h[k]? = some (VV.cell d) → d.mu = true → tyV d = true → ty (.ref k) h = true) (o : OpM f g) (hr : SimL wb r vr) : SimE true (eM ty (eVar i) r f) (wMeth i tyV g vr) := fun fr ρ h σ S => by
  unfold wMeth
  cases e0 : σ[i]? with
  | none => trivial
  | some o1 =>
    cases o1 with
    | none => trivial
    | some d =>
      simp only
      refine out_if fun hm => ?_
      simp only [Bool.and_eq_true] at hm
      obtain ⟨k, a1, a2, _⟩ := S.mu i d e0 hm.1
      have ev : eVar i ρ h = .ok (.ref k) h := by simp only [eVar, a1]
      show Out _ fr ρ h.length ((eVar i ρ h).bind _) _
      rw [ev]
      simp only [bind_ok, ht h k d a2 hm.1 hm.2, if_true]
      refine sv_bind hr S fun xs ds h1 σ1 l1 S1 q => ?_
      cases e1 : σ1[i]? with
      | none => trivial
      | some o1 =>
        cases o1 with
        | none => trivial
        | some d1 =>
          simp only
          refine out_if fun hm1 => ?_
          obtain ⟨k', b1, b2, _⟩ := S1.mu i d1 e1 hm1
          rw [a1] at b1
          injection b1 with b1
          injection b1 with b1
          injection b1 with b1
          subst b1
          cases eg : g d1 ds with
          | none => trivial
          | some p =>
            obtain ⟨w, d2⟩ := p
            simp only
            refine out_if fun hm2 => ?_
            have := o h1 k d1 xs ds w d2 b2 hm1 q.1.rd eg
            exact ⟨_, _, this, by rw [List.length_set]; exact l1, S1.write e1 hm1 a1 hm2, .im _⟩
end
end NT

set_option Elab.async false
set_option linter.all false
set_option maxRecDepth 100000
set_option autoImplicit false

namespace NT
open PySem PySem.Spec PyProof.Rows L2 PySem.W

/-! ### operators over values -/
abbrev WI (i : Int) : VV := .im (.int i)
abbrev WB (b : Bool) : VV := .im (.bool b)
abbrev WTu (l : List PyData) : VV := .im (.tuple l)
def dat : VV → Option PyData
  | .im d => some d
  | .lst l => some (.list l)
  | .dct _ => none
def itemsW : VV → Option (List PyData)
  | .im (.tuple l) => some l
  | .im (.list l) => some l
  | .lst l => some l
  | _ => none
def lstW : VV → Option (List PyData)
  | .im (.list l) => some l
  | .lst l => some l
  | _ => none
section
variable {h : Hs} {x : Val} {d : VV} {a : PyData} {l : List PyData}
theorem rd_dat (r : Rd h x d) (e : dat d = some a) : rdD h x = some a := by
  cases r with
  | im w => cases e; rfl
  | @ref k _ m q =>
    cases d with
    | im _ => cases m
    | dct _ => cases e
    | lst l => cases e; simp only [rdD, show h[k]? = some (.lst (l.map .im)) from q, imsOf_map, Option.map_some]
theorem rd_items (r : Rd h x d) (e : itemsW d = some l) : itemsOf h x = some (l.map .im) := by
  cases r with
  | im w => cases w <;> first | (cases e; rfl) | cases e
  | @ref k _ m q =>
    cases d with
    | im _ => cases m
    | dct _ => cases e
    | lst l => cases e; simp only [itemsOf, show h[k]? = some (.lst (l.map .im)) from q]
theorem rd_lst (r : Rd h x d) (e : lstW d = some l) : lstOf h x = some (l.map .im) := by
  cases r with
  | im w => cases w <;> first | (cases e; rfl) | cases e
  | @ref k _ m q =>
    cases d with
    | im _ => cases m
    | dct _ => cases e
    | lst l => cases e; simp only [lstOf, show h[k]? = some (.lst (l.map .im)) from q]
theorem rd_im {w : PyData} (r : Rd h x (.im w)) : x = .im w := by
  cases r with
  | im => rfl
  | ref m => cases m
theorem rd_ref (r : Rd h x d) (m : d.mu = true) : ∃ k, x = .ref k ∧ h[k]? = some d.cell := by
  cases r with
  | im => cases m
  | ref _ e => exact ⟨_, rfl, e⟩
theorem new_im {h : Hs} {e : PyData} : NewV h h (.im e) (.im e) := ⟨⟨[], by simp⟩, .inl ⟨e, rfl, rfl⟩⟩
theorem new_ref {h : Hs} {d : VV} (m : d.mu = true) : NewV h (h ++ [d.cell]) (.ref h.length) d := ⟨⟨_, rfl⟩, .inr ⟨m, _, rfl, Nat.le_refl _, by simp⟩⟩
theorem ops_im {r : Res Val} {e : PyData} (z : r = .ok (.im e) h) : OpS (.ok (.im e)) r h := ⟨_, _, z, new_im⟩
theorem ops_ref {r : Res Val} {d : VV} (m : d.mu = true) (z : r = .ok (.ref h.length) (h ++ [d.cell])) : OpS (.ok d) r h := ⟨_, _, z, new_ref m⟩
end
def wInt2 (f : Int → Int → Int) (d e : VV) : WO := match d, e with
  | .im (.int i), .im (.int j) => .ok (.im (.int (f i j)))
  | _, _ => .no
def wInt2c (c : Int → Int → Bool) (f : Int → Int → Int) (d e : VV) : WO := match d, e with
  | .im (.int i), .im (.int j) => if c i j then .ok (.im (.int (f i j))) else .no
  | _, _ => .no
def wInt1 (f : Int → Int) (d : VV) : WO := match d with
  | .im (.int i) => .ok (.im (.int (f i)))
  | _ => .no
theorem op2_int2 {f : Int → Int → Int} : Op2 (vInt2 f) (wInt2 f) := fun h x y d e r1 r2 => by
  unfold wInt2
  split
  · have := rd_im r1; subst this; have := rd_im r2; subst this; exact ops_im rfl
  · trivial
theorem op2_int2c {c : Int → Int → Bool} {f : Int → Int → Int} : Op2 (vInt2c c f) (wInt2c c f) := fun h x y d e r1 r2 => by
  unfold wInt2c
  split
  · have := rd_im r1; subst this; have := rd_im r2; subst this
    split
    · rename_i hc; exact ops_im (by simp only [vInt2c, hc, if_true])
    · trivial
  · trivial
theorem op1_int1 {f : Int → Int} : Op1 (vInt1 f) (wInt1 f) := fun h x d r1 => by
  unfold wInt1
  split
  · have := rd_im r1; subst this; exact ops_im rfl
  · trivial
def wSub := wInt2 (· - ·)
def wFdiv := wInt2c cDiv (· / ·)
def wMod := wInt2c cMod (· % ·)
def wPow := wInt2c cPow fun i j => i ^ j.toNat
def wShl := wInt2c cPow fun i j => i * 2 ^ j.toNat
def wShr := wInt2c cShr fun i j => i / 2 ^ j.toNat
def wXor := wInt2 Builtin.bitXor
def wNeg := wInt1 (- ·)
theorem op_wSub : Op2 vSub wSub := op2_int2
theorem op_wFdiv : Op2 vFdiv wFdiv := op2_int2c
theorem op_wMod : Op2 vMod wMod := op2_int2c
theorem op_wPow : Op2 vPow wPow := op2_int2c
theorem op_wShl : Op2 vShl wShl := op2_int2c
theorem op_wShr : Op2 vShr wShr := op2_int2c
theorem op_wXor : Op2 vXor wXor := op2_int2
theorem op_wNeg : Op1 vNeg wNeg := op1_int1
def wAdd (d e : VV) : WO := match d, e with
  | .im (.int i), .im (.int j) => .ok (.im (.int (i + j)))
  | .im (.str a), .im (.str b) => if a.length + b.length ≤ 16777216 then .ok (.im (.str (a ++ b))) else .no
  | .im (.tuple a), .im (.tuple b) => if a.length + b.length ≤ 16777216 then .ok (.im (.tuple (a ++ b))) else .no
  | .lst a, .lst b => if a.length + b.length ≤ 16777216 then .ok (.lst (a ++ b)) else .no
  | _, _ => .no
theorem op_wAdd : Op2 vAdd wAdd := fun h x y d e r1 r2 => by
  unfold wAdd
  split
  · have := rd_im r1; subst this; have := rd_im r2; subst this; exact ops_im rfl
  · have := rd_im r1; subst this; have := rd_im r2; subst this
    split
    · rename_i hc; exact ops_im (by simp only [vAdd, hc, if_true])
    · trivial
  · have := rd_im r1; subst this; have := rd_im r2; subst this
    split
    · rename_i hc; exact ops_im (by simp only [vAdd, hc, if_true])
    · trivial
  · rename_i a b
    obtain ⟨k, rfl, e1⟩ := rd_ref r1 rfl
    obtain ⟨j, rfl, e2⟩ := rd_ref r2 rfl
    split
    · rename_i hc
      refine ops_ref (d := .lst (a ++ b)) rfl ?_
      simp only [vAdd, show h[k]? = some (.lst (a.map .im)) from e1, show h[j]? = some (.lst (b.map .im)) from e2, List.length_map, hc, if_true, VV.cell, List.map_append]
    · trivial
  · trivial
def wMul (d e : VV) : WO := match d, e with
  | .im (.int i), .im (.int j) => if cMul i j = true then .ok (.im (.int (i * j))) else .no
  | .lst a, .im (.int n) => if 0 ≤ n ∧ n ≤ 16777216 ∧ a.length * n.toNat ≤ 16777216 then .ok (.lst (List.replicate n.toNat a).flatten) else .no
  | _, _ => .no
theorem op_wMul : Op2 vMul wMul := fun h x y d e r1 r2 => by
  unfold wMul
  split
  · have := rd_im r1; subst this; have := rd_im r2; subst this
    split
    · rename_i hc; exact ops_im (by simp only [vMul, hc, if_true])
    · trivial
  · rename_i a n
    obtain ⟨k, rfl, e1⟩ := rd_ref r1 rfl
    have := rd_im r2; subst this
    split
    · rename_i hc
      refine ops_ref (d := .lst _) rfl ?_
      simp only [vMul, show h[k]? = some (.lst (a.map .im)) from e1, List.length_map, hc, and_self, if_true, VV.cell, List.map_flatten, List.map_replicate]
    · trivial
  · trivial
/-! ### comparisons -/
def wCmpD (f : PyData → PyData → Bool) (d e : VV) : WO := match dat d, dat e with
  | some a, some b => if (alike a b && !isNoneD a && okD 8 a && okD 8 b) = true then .ok (.im (.bool (f a b))) else .no
  | _, _ => .no
def wCmpV (g : Int → Int → Bool) (f : PyData → PyData → Bool) (d e : VV) : WO := match d, e with
  | .im (.int i), .im (.int j) => .ok (.im (.bool (g i j)))
  | d, e => wCmpD f d e
theorem op_cmpD {f : PyData → PyData → Bool} : Op2 (cmpD f) (wCmpD f) := fun h x y d e r1 r2 => by
  unfold wCmpD
  split
  · rename_i a b e1 e2
    split
    · rename_i hc
      exact ops_im (by simp only [cmpD, rd_dat r1 e1, rd_dat r2 e2, hc, if_true])
    · trivial
  · trivial
theorem op_cmpV {g : Int → Int → Bool} {f : PyData → PyData → Bool} : Op2 (cmpV g f) (wCmpV g f) := fun h x y d e r1 r2 => by
  unfold wCmpV
  split
  · have := rd_im r1; subst this; have := rd_im r2; subst this; exact ops_im rfl
  · rename_i hn
    have : cmpV g f x y h = cmpD f x y h := by
      unfold cmpV
      split
      · exfalso
        cases r1 with
        | im w => cases r2 with
          | im w2 => exact hn _ _ rfl rfl
      · rfl
    rw [this]
    exact op_cmpD h x y d e r1 r2
def wLt := wCmpV (fun i j => decide (i < j)) dataLt
def wLe := wCmpV (fun i j => decide (i ≤ j)) fun d e => !dataLt e d
def wGt := wCmpV (fun i j => decide (j < i)) fun d e => dataLt e d
def wGe := wCmpV (fun i j => decide (j ≤ i)) fun d e => !dataLt d e
theorem op_wLt : Op2 vLt wLt := op_cmpV
theorem op_wLe : Op2 vLe wLe := op_cmpV
theorem op_wGt : Op2 vGt wGt := op_cmpV
theorem op_wGe : Op2 vGe wGe := op_cmpV
def wEqD (neg : Bool) (d e : VV) : WO := match dat d, dat e with
  | some a, some b => if (okD 8 a && okD 8 b) = true then .ok (.im (.bool (neg ^^ PyData.eqv a b))) else .no
  | _, _ => .no
def wEqV (neg : Bool) (d e : VV) : WO := match d, e with
  | .im (.int i), .im (.int j) => .ok (.im (.bool (neg ^^ decide (i = j))))
  | .im (.str a), .im (.str b) => .ok (.im (.bool (neg ^^ (a == b))))
  | d, e => wEqD neg d e
theorem op_eqD {neg : Bool} : Op2 (eqD neg) (wEqD neg) := fun h x y d e r1 r2 => by
  unfold wEqD
  split
  · rename_i a b e1 e2
    split
    · rename_i hc
      exact ops_im (by simp only [eqD, rd_dat r1 e1, rd_dat r2 e2, hc, if_true])
    · trivial
  · trivial
theorem op_eqV {neg : Bool} : Op2 (eqVal neg) (wEqV neg) := fun h x y d e r1 r2 => by
  unfold wEqV
  split
  · have := rd_im r1; subst this; have := rd_im r2; subst this; exact ops_im rfl
  · have := rd_im r1; subst this; have := rd_im r2; subst this; exact ops_im rfl
  · rename_i hn hn2
    have : eqVal neg x y h = eqD neg x y h := by
      unfold eqVal
      split
      · exfalso
        cases r1 with
        | im w => cases r2 with
          | im w2 => exact hn _ _ rfl rfl
      · exfalso
        cases r1 with
        | im w => cases r2 with
          | im w2 => exact hn2 _ _ rfl rfl
      · rfl
    rw [this]
    exact op_eqD h x y d e r1 r2
def wEq := wEqV false
def wNe := wEqV true
theorem op_wEq : Op2 vEq wEq := op_eqV
theorem op_wNe : Op2 vNe wNe := op_eqV
def wInS (neg : Bool) (d e : VV) : WO := match dat d, dat e with
  | some a, some (.list ds) => if (okD 8 a && okD 9 (.list ds)) = true then .ok (.im (.bool (neg ^^ ds.any fun z => PyData.eqv z a))) else .no
  | some a, some (.tuple ds) => if (okD 8 a && okD 9 (.tuple ds)) = true then .ok (.im (.bool (neg ^^ ds.any fun z => PyData.eqv z a))) else .no
  | _, _ => .no
theorem op_wInS {neg : Bool} : Op2 (vInS neg) (wInS neg) := fun h x y d e r1 r2 => by
  unfold wInS
  split
  · rename_i a ds e1 e2
    split
    · rename_i hc
      exact ops_im (by simp only [vInS, rd_dat r1 e1, rd_dat r2 e2, hc, if_true])
    · trivial
  · rename_i a ds e1 e2
    split
    · rename_i hc
      exact ops_im (by simp only [vInS, rd_dat r1 e1, rd_dat r2 e2, hc, if_true])
    · trivial
  · trivial
def wIs (neg : Bool) (d e : VV) : WO := match d, e with
  | .im (.bool a), .im (.bool b) => .ok (.im (.bool (neg ^^ decide (a = b))))
  | .im d, .im .none => .ok (.im (.bool (neg ^^ isNoneD d)))
  | .lst _, .im .none => .ok (.im (.bool neg))
  | .dct _, .im .none => .ok (.im (.bool neg))
  | _, _ => .no
theorem op_wIs {neg : Bool} : Op2 (vIs neg) (wIs neg) := fun h x y d e r1 r2 => by
  unfold wIs
  split
  · have := rd_im r1; subst this; have := rd_im r2; subst this; exact ops_im rfl
  · have := rd_im r1; subst this; have := rd_im r2; subst this
    exact ops_im (by unfold vIs; split <;> first | rfl | simp_all)
  · obtain ⟨k, rfl, e1⟩ := rd_ref r1 rfl
    have := rd_im r2; subst this; exact ops_im rfl
  · obtain ⟨k, rfl, e1⟩ := rd_ref r1 rfl
    have := rd_im r2; subst this; exact ops_im rfl
  · trivial
/-! ### subscripts, slices -/
def wIdx (d e : VV) : WO := match d, e with
  | .im (.str z), .im (.int k) => if z.length ≤ 16777216 then (match atI z.cps.toList k with
    | some c => .ok (.im (.str ⟨#[c]⟩))
    | none => .no) else .no
  | d, .im (.int k) => match itemsW d with
    | some vs => (match atI vs k with
      | some r => .ok (.im r)
      | none => .no)
    | none => .no
  | _, _ => .no
theorem atI_map {α β : Type} (f : α → β) (l : List α) (k : Int) : atI (l.map f) k = (atI l k).map f := by
  unfold atI
  rw [List.length_map]
  cases ixN l.length k with
  | none => rfl
  | some j => simp
theorem op_wIdx : Op2 vIdx wIdx := fun h x y d e r1 r2 => by
  unfold wIdx
  split
  · have := rd_im r1; subst this; have := rd_im r2; subst this
    split
    · rename_i hz
      split
      · rename_i c ec; exact ops_im (by simp only [vIdx, hz, if_true, ec])
      · trivial
    · trivial
  · rename_i k hn
    have := rd_im r2; subst this
    cases ei : itemsW d with
    | none => trivial
    | some vs =>
      simp only
      cases ea : atI vs k with
      | none => trivial
      | some r =>
        refine ops_im ?_
        have e1 := rd_items r1 ei
        have e2 : atI (vs.map Val.im) k = some (.im r) := by rw [atI_map, ea]; rfl
        unfold vIdx
        split
        · exfalso
          cases r1 with
          | im w => exact hn _ rfl
        · rename_i q; cases q; simp only [e1, e2]
        · exfalso; simp_all
  · trivial
def wSl (d : VV) (lo hi : Option Int) : WO := match d with
  | .im (.str z) => if z.length ≤ 16777216 then .ok (.im (.str (cutS z lo hi))) else .no
  | .im (.tuple ds) => .ok (.im (.tuple (cutG ds lo hi)))
  | d => match itemsW d with
    | some l => .ok (.lst (cutG l lo hi))
    | none => .no
theorem cutG_map {α β : Type} (f : α → β) (l : List α) (lo hi : Option Int) : cutG (l.map f) lo hi = (cutG l lo hi).map f := by
  unfold cutG
  rw [List.length_map, List.map_take, List.map_drop]
theorem op_wSl (lo hi : Option Int) : Op1 (fun v => vSlice v lo hi) fun d => wSl d lo hi := fun h x d r1 => by
  show OpS (wSl d lo hi) (vSlice x lo hi h) h
  unfold wSl
  split
  · have := rd_im r1; subst this
    split
    · rename_i hz; exact ops_im (by simp only [vSlice, hz, if_true])
    · trivial
  · have := rd_im r1; subst this; exact ops_im rfl
  · rename_i n1 n2
    cases ei : itemsW d with
    | none => trivial
    | some l =>
      refine ops_ref (d := .lst _) rfl ?_
      have e1 := rd_items r1 ei
      show vSlice x lo hi h = _
      unfold vSlice
      split
      · exfalso; cases r1 with | im w => exact n1 _ rfl
      · exfalso; cases r1 with | im w => exact n2 _ rfl
      · simp only [e1, cutG_map, VV.cell]
end NT

set_option Elab.async false
set_option linter.all false
set_option maxRecDepth 100000
set_option autoImplicit false

namespace NT
open PySem PySem.Spec PyProof.Rows L2 PySem.W

/-! ### functions that are built in, over values -/
def one1 (g : VV → WO) (ds : List VV) : WO := match ds with
  | [d] => g d
  | _ => .no
def two2 (g : VV → VV → WO) (ds : List VV) : WO := match ds with
  | [d, e] => g d e
  | _ => .no
theorem opl_one {f : List Val → Hs → Res Val} {g : VV → WO} (o : ∀ h x d, Rd h x d → OpS (g d) (f [x] h) h) : OpL f (one1 g) := fun h xs ds p => by
  unfold one1
  split
  · cases p with | cons a b => cases b; exact o h _ _ a
  · trivial
theorem opl_two {f : List Val → Hs → Res Val} {g : VV → VV → WO} (o : ∀ h x y d e, Rd h x d → Rd h y e → OpS (g d e) (f [x, y] h) h) : OpL f (two2 g) := fun h xs ds p => by
  unfold two2
  split
  · cases p with | cons a b => cases b with | cons b c => cases c; exact o h _ _ _ _ a b
  · trivial
def wLen1 (d : VV) : WO := match d with
  | .im (.str x) => if x.length ≤ 16777216 then .ok (.im (.int x.length)) else .no
  | d => match itemsW d with
    | some l => .ok (.im (.int l.length))
    | none => .no
def wLen := one1 wLen1
theorem op_wLen : OpL fLen wLen := opl_one fun h x d r => by
  unfold wLen1
  split
  · have := rd_im r; subst this
    split
    · rename_i hz; exact ops_im (by simp only [fLen, hz, if_true])
    · trivial
  · rename_i n1
    cases e : itemsW d with
    | none => trivial
    | some l =>
      have e1 := rd_items r e
      refine ops_im ?_
      unfold fLen
      split
      · rename_i q; simp only [List.cons.injEq, and_true] at q; subst q
        exfalso; cases r with | im w => exact n1 _ rfl
      · rename_i q; simp only [List.cons.injEq, and_true] at q; subst q; simp only [e1, List.length_map]
      · rename_i q1 q2; exact (q2 _ rfl).elim
def wMx (g : Int → Int → Int) (d e : VV) : WO := match d, e with
  | .im (.int i), .im (.int j) => .ok (.im (.int (g i j)))
  | _, _ => .no
def wMax2 := two2 (wMx fun i j => if j > i then j else i)
def wMin2 := two2 (wMx fun i j => if j < i then j else i)
theorem op_wMax2 : OpL fMax2 wMax2 := opl_two fun h x y d e r1 r2 => by
  unfold wMx
  split
  · have := rd_im r1; subst this; have := rd_im r2; subst this; exact ops_im rfl
  · trivial
theorem op_wMin2 : OpL fMin2 wMin2 := opl_two fun h x y d e r1 r2 => by
  unfold wMx
  split
  · have := rd_im r1; subst this; have := rd_im r2; subst this; exact ops_im rfl
  · trivial
def wAbs := one1 fun d => match d with
  | .im (.int i) => .ok (.im (.int (if i < 0 then -i else i)))
  | _ => .no
theorem op_wAbs : OpL fAbs wAbs := opl_one fun h x d r => by
  split
  · have := rd_im r; subst this; exact ops_im rfl
  · trivial
def wInt := one1 fun d => match d with
  | .im (.int i) => .ok (.im (.int i))
  | .im (.bool k) => .ok (.im (.int (if k then 1 else 0)))
  | _ => .no
theorem op_wInt : OpL fInt wInt := opl_one fun h x d r => by
  split
  · have := rd_im r; subst this; exact ops_im rfl
  · have := rd_im r; subst this; exact ops_im rfl
  · trivial
def wTuple1 (d : VV) : WO := match d with
  | .im (.tuple l) => .ok (.im (.tuple l))
  | d => match lstW d with
    | some l => .ok (.im (.tuple l))
    | none => .no
def wTuple := one1 wTuple1
theorem frzL_ims : ∀ (l : List PyData) (h : Hs), frzL (l.map .im) h = some (l, h)
  | [], _ => rfl
  | d :: r, h => by simp only [List.map_cons, frzL, frz, Option.bind_some, frzL_ims r h, Option.map_some]
theorem op_wTuple : OpL fTuple wTuple := opl_one fun h x d r => by
  unfold wTuple1
  split
  · have := rd_im r; subst this; exact ops_im rfl
  · rename_i n1
    cases e : lstW d with
    | none => trivial
    | some l =>
      have e1 := rd_lst r e
      refine ops_im ?_
      unfold fTuple
      split
      · rename_i q; simp only [List.cons.injEq, and_true] at q; subst q
        exfalso; cases r with | im w => exact n1 _ rfl
      · rename_i q; simp only [List.cons.injEq, and_true] at q; subst q; simp only [e1, frzL_ims]
      · rename_i q1 q2; exact (q2 _ rfl).elim
def wSorted := one1 fun d => match lstW d with
  | some l => if (alikeB l && sortB l && l.all (okD 8)) = true then .ok (.lst (srt l)) else .no
  | none => .no
theorem op_wSorted : OpL fSorted wSorted := opl_one fun h x d r => by
  split
  · rename_i l e
    have e1 := rd_lst r e
    split
    · rename_i hc
      exact ops_ref (d := .lst (srt l)) rfl (by simp only [fSorted, e1, imsOf_map, hc, if_true, VV.cell])
    · trivial
  · trivial
def wRepr := one1 fun d => match dat d with
  | some a => if (okD 8 a && a.showable && decide (a.shown.length ≤ 16777216)) = true then .ok (.im (.str a.shown)) else .no
  | none => .no
theorem op_wRepr : OpL fRepr wRepr := opl_one fun h x d r => by
  split
  · rename_i a e
    split
    · rename_i hc; exact ops_im (by simp only [fRepr, rd_dat r e, hc, if_true])
    · trivial
  · trivial
def intsD : List PyData → Option (List Int)
  | [] => some []
  | .int i :: r => (intsD r).map (i :: ·)
  | _ :: _ => none
theorem ints_map : ∀ {l : List PyData} {ns : List Int}, intsD l = some ns → intsOf (l.map .im) = some ns
  | [], _, e => by cases e; rfl
  | .int i :: r, ns, e => by
    simp only [intsD] at e
    cases q : intsD r with
    | none => rw [q] at e; cases e
    | some m => rw [q] at e; cases e; simp only [List.map_cons, intsOf, ints_map q, Option.map_some]
  | .none :: _, _, e => by cases e
  | .bool _ :: _, _, e => by cases e
  | .str _ :: _, _, e => by cases e
  | .list _ :: _, _, e => by cases e
  | .tuple _ :: _, _, e => by cases e
  | .dict _ :: _, _, e => by cases e
@[simp] theorem intsD_map : ∀ ns : List Int, intsD (ns.map .int) = some ns
  | [] => rfl
  | i :: r => by simp only [List.map_cons, intsD, intsD_map r, Option.map_some]
def wSum := one1 fun d => match lstW d with
  | some l => (match intsD l with
    | some ns => .ok (.im (.int ns.sum))
    | none => .no)
  | none => .no
theorem op_wSum : OpL fSum wSum := opl_one fun h x d r => by
  split
  · rename_i l e
    split
    · rename_i ns e2
      exact ops_im (by simp only [fSum, rd_lst r e, ints_map e2])
    · trivial
  · trivial
def boolsD : List PyData → Option (List Bool)
  | [] => some []
  | .bool i :: r => (boolsD r).map (i :: ·)
  | _ :: _ => none
theorem bools_map : ∀ {l : List PyData} {ns : List Bool}, boolsD l = some ns → boolsOf (l.map .im) = some ns
  | [], _, e => by cases e; rfl
  | .bool i :: r, ns, e => by
    simp only [boolsD] at e
    cases q : boolsD r with
    | none => rw [q] at e; cases e
    | some m => rw [q] at e; cases e; simp only [List.map_cons, boolsOf, bools_map q, Option.map_some]
  | .none :: _, _, e => by cases e
  | .int _ :: _, _, e => by cases e
  | .str _ :: _, _, e => by cases e
  | .list _ :: _, _, e => by cases e
  | .tuple _ :: _, _, e => by cases e
  | .dict _ :: _, _, e => by cases e
@[simp] theorem boolsD_map : ∀ ns : List Bool, boolsD (ns.map .bool) = some ns
  | [] => rfl
  | i :: r => by simp only [List.map_cons, boolsD, boolsD_map r, Option.map_some]
def wAll := one1 fun d => match lstW d with
  | some l => (match boolsD l with
    | some ns => .ok (.im (.bool (ns.all id)))
    | none => .no)
  | none => .no
theorem op_wAll : OpL fAll wAll := opl_one fun h x d r => by
  split
  · rename_i l e
    split
    · rename_i ns e2
      exact ops_im (by simp only [fAll, rd_lst r e, bools_map e2])
    · trivial
  · trivial
def pairsD : List PyData → Option (List PI2)
  | [] => some []
  | .tuple [.int x, .int y] :: r => (pairsD r).map ((x, y) :: ·)
  | _ :: _ => none
theorem pairsD_eq : ∀ {l : List PyData} {ps : List PI2}, pairsD l = some ps → l = ps.map pD
  | [], _, e => by cases e; rfl
  | d :: r, ps, e => by
    unfold pairsD at e
    split at e
    · cases e; rename_i q; cases q
    · rename_i q
      cases q
      cases e1 : pairsD r with
      | none => rw [e1] at e; cases e
      | some m => rw [e1] at e; cases e; rw [pairsD_eq e1]; rfl
    · cases e
theorem pairsOf_pD : ∀ ps : List PI2, pairsOf ((ps.map pD).map .im) = some ps
  | [] => rfl
  | p :: r => by simp only [List.map_cons, pD, pairsOf]; rw [pairsOf_pD r]; rfl
@[simp] theorem pairsD_map : ∀ ps : List PI2, pairsD (ps.map pD) = some ps
  | [] => rfl
  | p :: r => by simp only [List.map_cons, pD, pairsD]; rw [pairsD_map r]; rfl
def wSortSet := one1 fun d => match lstW d with
  | some l => (match pairsD l with
    | some ps => if (decide (ps.length < 64) && ps.all okP) = true then .ok (.lst ((sortPs ps).map pD)) else .no
    | none => .no)
  | none => .no
theorem op_wSortSet : OpL fSortSet wSortSet := opl_one fun h x d r => by
  split
  · rename_i l e
    split
    · rename_i ps e2
      split
      · rename_i hc
        have e3 := rd_lst r e
        rw [pairsD_eq e2] at e3
        exact ops_ref (d := .lst ((sortPs ps).map pD)) rfl (by simp only [fSortSet, e3, pairsOf_pD, hc, if_true, VV.cell]; rw [List.map_map]; rfl)
      · trivial
    · trivial
  · trivial
def wRg1 (d : VV) : WO := match d with
  | .im (.int n) => if n ≤ 16777216 then (if -16777216 ≤ n then .ok (.lst ((List.range n.toNat).map fun i => .int (i : Nat))) else .no) else .no
  | _ => .no
theorem op_wRg1 : Op1 vRg1 wRg1 := fun h x d r => by
  unfold wRg1
  split
  · have := rd_im r; subst this
    split
    · rename_i c1
      split
      · rename_i c2
        exact ops_ref (d := .lst _) rfl (by simp only [vRg1, c1, c2, if_true, VV.cell, List.map_map]; rfl)
      · trivial
    · trivial
  · trivial
def tyW : VV → Option String
  | .im d => tyD' d
  | .lst _ => some "list"
  | .dct _ => none
def wIsi (T : String) (d : VV) : WO := match tyW d with
  | some S => (match kitB S T with
    | some b => .ok (.im (.bool b))
    | none => .no)
  | none => .no
theorem op_wIsi {T : String} : Op1 (vIsi T) (wIsi T) := fun h x d r => by
  unfold wIsi
  split
  · rename_i S e
    split
    · rename_i b e2
      have : tyN x h = some S := by
        cases r with
        | im w => exact e
        | @ref k _ m q =>
          cases d with
          | im _ => cases m
          | dct _ => cases e
          | lst l => simp only [tyN, show h[k]? = some (.lst (l.map .im)) from q]; exact e
      exact ops_im (by simp only [vIsi, this, e2])
    · trivial
  · trivial

/-! ### list's methods -/
def gAppend : WMe := fun d us => match d, us with
  | .lst l, [.im u] => if l.length < 16777216 then some (.none, .lst (l ++ [u])) else none
  | _, _ => none
def gExtend : WMe := fun d us => match d, us with
  | .lst l, [.lst u] => if l.length + u.length ≤ 16777216 then some (.none, .lst (l ++ u)) else none
  | _, _ => none
def gPop : WMe := fun d us => match d, us with
  | .lst l, [] => match l[l.length - 1]? with
    | some u => some (u, .lst l.dropLast)
    | none => none
  | _, _ => none
def gPopAt : WMe := fun d us => match d, us with
  | .lst l, [.im (.int i)] => if 0 ≤ i ∧ i < 16777216 then (match l[i.toNat]? with
    | some u => some (u, .lst (l.eraseIdx i.toNat))
    | none => none) else none
  | _, _ => none
def gClear : WMe := fun d us => match d, us with
  | .lst _, [] => some (.none, .lst [])
  | _, _ => none
def gInsert : WMe := fun d us => match d, us with
  | .lst l, [.im (.int i), .im u] => if l.length < 16777216 ∧ 0 ≤ i ∧ i < 16777216 then some (.none, .lst (l.take i.toNat ++ [u] ++ l.drop i.toNat)) else none
  | _, _ => none
def gRemove : WMe := fun d us => match d, us with
  | .lst l, [.im (.int i)] => match intsD l with
    | some ns => if i ∈ ns then some (.none, .lst ((ns.erase i).map .int)) else none
    | none => none
  | _, _ => none
def isLW : VV → Bool
  | .lst _ => true
  | _ => false
theorem ty_isL : ∀ h k d, h[k]? = some (VV.cell d) → d.mu = true → isLW d = true → isL (.ref k) h = true := fun h k d e m t => by
  cases d with
  | lst l => simp only [isL, lstOf, show h[k]? = some (.lst (l.map .im)) from e]; rfl
  | im _ => cases t
  | dct _ => cases t
theorem om_append : OpM mAppend gAppend := fun h k d us ds q d' e m p z => by
  unfold gAppend at z
  split at z
  · split at z
    · rename_i hc
      cases z
      cases p with
      | cons a b =>
        cases b
        have := rd_im a; subst this
        simp only [mAppend, show h[k]? = some (.lst _) from e, List.length_map, hc, if_true, VV.cell, List.map_append, List.map_cons, List.map_nil]
    · cases z
  · cases z
theorem om_extend : OpM mExtend gExtend := fun h k d us ds q d' e m p z => by
  unfold gExtend at z
  split at z
  · split at z
    · rename_i hc
      cases z
      cases p with
      | cons a b =>
        cases b
        obtain ⟨j, rfl, ej⟩ := rd_ref a rfl
        simp only [mExtend, show h[k]? = some (.lst _) from e, show h[j]? = some (.lst _) from ej, List.length_map, hc, if_true, VV.cell, List.map_append]
    · cases z
  · cases z
theorem om_pop : OpM mPop gPop := fun h k d us ds q d' e m p z => by
  unfold gPop at z
  split at z
  · split at z
    · rename_i hc
      cases z
      cases p
      simp only [mPop, show h[k]? = some (.lst _) from e, List.length_map, List.getElem?_map, hc, Option.map_some, VV.cell, List.map_dropLast]
    · cases z
  · cases z
theorem map_eraseIdx {α β : Type} (f : α → β) : ∀ (l : List α) (i : Nat), (l.map f).eraseIdx i = (l.eraseIdx i).map f
  | [], _ => rfl
  | _ :: _, 0 => rfl
  | a :: l, i + 1 => by simp [map_eraseIdx f l i]
theorem om_popAt : OpM mPopAt gPopAt := fun h k d us ds q d' e m p z => by
  unfold gPopAt at z
  split at z
  · split at z
    · rename_i hc
      split at z
      · rename_i hu
        cases z
        cases p with
        | cons a b =>
          cases b
          have := rd_im a; subst this
          simp only [mPopAt, show h[k]? = some (.lst _) from e, hc, and_self, if_true, List.getElem?_map, hu, Option.map_some, VV.cell, map_eraseIdx]
      · cases z
    · cases z
  · cases z
theorem om_clear : OpM mClear gClear := fun h k d us ds q d' e m p z => by
  unfold gClear at z
  split at z
  · cases z
    cases p
    simp only [mClear, show h[k]? = some (.lst _) from e, VV.cell, List.map_nil]
  · cases z
theorem om_insert : OpM mInsert gInsert := fun h k d us ds q d' e m p z => by
  unfold gInsert at z
  split at z
  · split at z
    · rename_i hc
      cases z
      cases p with
      | cons a b =>
        cases b with
        | cons b c =>
          cases c
          have := rd_im a; subst this
          have := rd_im b; subst this
          simp only [mInsert, show h[k]? = some (.lst _) from e, List.length_map, hc, and_self, if_true, VV.cell, List.map_append, List.map_take, List.map_drop, List.map_cons, List.map_nil]
    · cases z
  · cases z
theorem om_remove : OpM mRemove gRemove := fun h k d us ds q d' e m p z => by
  unfold gRemove at z
  split at z
  · split at z
    · rename_i hc
      split at z
      · rename_i hi
        cases z
        cases p with
        | cons a b =>
          cases b
          have := rd_im a; subst this
          simp only [mRemove, show h[k]? = some (.lst _) from e, ints_map hc, hi, if_true, VV.cell, List.map_map]
          rfl
      · cases z
    · cases z
  · cases z

/-! ### dicts whose keys are tuples -/
def wlook (l : List (PyData × PyData)) (d : PyData) : Option PyData := (l.find? fun p => decide (nkOf p.1 = nkOf d)).map (·.2)
def wput (l : List (PyData × PyData)) (d v : PyData) : List (PyData × PyData) := if (wlook l d).isSome = true then l.map (fun p => if nkOf p.1 = nkOf d then (p.1, v) else p) else l ++ [(d, v)]
def wdrop (l : List (PyData × PyData)) (d : PyData) : List (PyData × PyData) := l.filter fun p => decide (nkOf p.1 ≠ nkOf d)
def keysW (l : List (PyData × PyData)) : Bool := (l.all fun p => isKeyB p.1) && decide ((l.map fun p => nkOf p.1).Nodup) && decide (l.length < 16777216)
theorem keys_dval (l : List (PyData × PyData)) : keysB (l.map dval) = keysW l := by
  simp only [keysB, keysW, List.all_map, List.map_map, List.length_map]
  rfl
theorem look_dval (l : List (PyData × PyData)) (d : PyData) : dlook (l.map dval) d = (wlook l d).map .im := by
  simp only [dlook, wlook, List.find?_map, Option.map_map]
  rfl
theorem put_dval (l : List (PyData × PyData)) (d v : PyData) : dput (l.map dval) d (.im v) = (wput l d v).map dval := by
  unfold dput wput
  rw [look_dval, Option.isSome_map]
  split
  · simp only [List.map_map]
    apply List.map_congr_left
    intro p _
    show (if nkOf (dval p).1 = nkOf d then ((dval p).1, Val.im v) else dval p) = dval (if nkOf p.1 = nkOf d then (p.1, v) else p)
    by_cases hk : nkOf p.1 = nkOf d
    · have hk' : nkOf (dval p).1 = nkOf d := hk
      rw [if_pos hk', if_pos hk]; rfl
    · have hk' : ¬ nkOf (dval p).1 = nkOf d := hk
      rw [if_neg hk', if_neg hk]
  · simp [dval]
theorem drop_dval (l : List (PyData × PyData)) (d : PyData) : dwithout (l.map dval) d = (wdrop l d).map dval := by
  simp only [dwithout, wdrop, List.filter_map]
  rfl
def wInD (neg : Bool) (d e : VV) : WO := match d, e with
  | .im d, .dct l => if (keysW l && isKeyB d) = true then .ok (.im (.bool (neg ^^ (wlook l d).isSome))) else .no
  | _, _ => .no
theorem op_wInD {neg : Bool} : Op2 (vInD neg) (wInD neg) := fun h x y d e r1 r2 => by
  unfold wInD
  split
  · rename_i a l
    have := rd_im r1; subst this
    obtain ⟨k, rfl, ek⟩ := rd_ref r2 rfl
    split
    · rename_i hc
      exact ops_im (by simp only [vInD, show h[k]? = some (.dct (l.map dval)) from ek, keys_dval, hc, if_true, look_dval, Option.isSome_map])
    · trivial
  · trivial
def wGetD (d e : VV) : WO := match d, e with
  | .dct l, .im d => if (keysW l && isKeyB d) = true then (match wlook l d with
    | some w => .ok (.im w)
    | none => .no) else .no
  | _, _ => .no
theorem op_wGetD : Op2 vGetD wGetD := fun h x y d e r1 r2 => by
  unfold wGetD
  split
  · rename_i l a
    have := rd_im r2; subst this
    obtain ⟨k, rfl, ek⟩ := rd_ref r1 rfl
    split
    · rename_i hc
      split
      · rename_i w ew
        exact ops_im (by simp only [vGetD, show h[k]? = some (.dct (l.map dval)) from ek, keys_dval, hc, if_true, look_dval, ew, Option.map_some])
      · trivial
    · trivial
  · trivial
def isDW : VV → Bool
  | .dct _ => true
  | _ => false
theorem ty_isD : ∀ h k d, h[k]? = some (VV.cell d) → d.mu = true → isDW d = true → isDct (.ref k) h = true := fun h k d e m t => by
  cases d with
  | dct l => simp only [isDct, show h[k]? = some (.dct (l.map dval)) from e]
  | im _ => cases t
  | lst _ => cases t
def gPopD : WMe := fun d us => match d, us with
  | .dct l, [.im d] => if (keysW l && isKeyB d) = true then (match wlook l d with
    | some w => some (w, .dct (wdrop l d))
    | none => none) else none
  | _, _ => none
theorem om_popD : OpM mPopD gPopD := fun h k d us ds q d' e m p z => by
  unfold gPopD at z
  split at z
  · rename_i l a
    split at z
    · rename_i hc
      split at z
      · rename_i w ew
        cases z
        cases p with
        | cons a b =>
          cases b
          have := rd_im a; subst this
          simp only [mPopD, show h[k]? = some (.dct (l.map dval)) from e, keys_dval, hc, if_true, look_dval, ew, Option.map_some, drop_dval, VV.cell]
      · cases z
    · cases z
  · cases z
def wputs (acc : List (PyData × PyData)) (ps : List (PyData × PyData)) : List (PyData × PyData) := ps.foldl (fun acc p => wput acc p.1 p.2) acc
theorem puts_dval : ∀ (ps acc : List (PyData × PyData)), dputs (acc.map dval) ps = (wputs acc ps).map dval
  | [], _ => rfl
  | p :: r, acc => by
    show dputs (dput (acc.map dval) p.1 (.im p.2)) r = _
    rw [put_dval, puts_dval r]
    rfl
def wDict := one1 fun d => match lstW d with
  | some l => (match pairsOfD l with
    | some ps => if ((ps.all fun p => isKeyB p.1) && decide (ps.length < 16777216)) = true then .ok (.dct (wputs [] ps)) else .no
    | none => .no)
  | none => .no
theorem op_wDict : OpL fDict wDict := opl_one fun h x d r => by
  split
  · rename_i l e
    split
    · rename_i ps e2
      split
      · rename_i hc
        have := puts_dval ps []
        rw [List.map_nil] at this
        exact ops_ref (d := .dct (wputs [] ps)) rfl (by simp only [fDict, rd_lst r e, imsOf_map, e2, hc, if_true, VV.cell, this])
      · trivial
    · trivial
  · trivial
def wSortedD := one1 fun d => match d with
  | .dct l => if (keysW l && alikeB (l.map (·.1)) && sortB (l.map (·.1)) && (l.map (·.1)).all (okD 8)) = true then .ok (.lst (srt (l.map (·.1)))) else .no
  | _ => .no
theorem op_wSortedD : OpL fSortedD wSortedD := opl_one fun h x d r => by
  split
  · rename_i l
    obtain ⟨k, rfl, ek⟩ := rd_ref r rfl
    have mm : (l.map dval).map (·.1) = l.map (·.1) := by simp only [List.map_map]; rfl
    split
    · rename_i hc
      refine ops_ref (d := .lst (srt (l.map (·.1)))) rfl ?_
      simp only [fSortedD, show h[k]? = some (.dct (l.map dval)) from ek, keys_dval, mm, hc, if_true, VV.cell]
    · trivial
  · trivial
def putD (i : Nat) (v : PyData) (j : VV) (σ2 : VE) : WRS := match j, σ2[i]? with
  | .im d, some (some (.dct l)) => if (keysW l && isKeyB d) = true then .nx (σ2.set i (some (.dct (wput l d v)))) else .no
  | _, _ => .no
def xPutD (i : Nat) (mi me : VM VV) : WS := fun σ => match me σ with
  | .ok (.im v) σ1 => (match σ1[i]? with
    | some (some _) => (match mi σ1 with
      | .ok j σ2 => putD i v j σ2
      | .er c => .er c
      | .no => .no)
    | _ => .no)
  | .er c => .er c
  | _ => .no
theorem ss_putD {mi me : Ev} {vi ve : VM VV} {bi be : Bool} {i : Nat} (hi : SimE bi mi vi) (he : SimE be me ve) : SimS [] (sPutD (eVar i) mi me) (xPutD i vi ve) := fun fr p ρ h σ S hf hp => by
  have z := he fr ρ h σ S
  unfold sPutD xPutD
  cases e : ve σ with
  | er c => rw [e] at z; rw [show me ρ h = _ from z]; rfl
  | no => trivial
  | ok d σ1 =>
    rw [e] at z
    obtain ⟨x, h1, e1, l1, S1, r⟩ := z
    cases d with
    | lst _ => trivial
    | dct _ => trivial
    | im w =>
      have := res_im r
      subst this
      rw [e1]
      simp only
      cases e0 : σ1[i]? with
      | none => trivial
      | some o =>
        cases o with
        | none => trivial
        | some d0 =>
          simp only
          have hv : ∃ u, ρ[i]? = some (some u) := by
            cases hm : d0.mu with
            | true => obtain ⟨k, a, _⟩ := S1.mu i d0 e0 hm; exact ⟨_, a⟩
            | false => cases d0 with
              | im q => exact ⟨_, S1.im i q e0⟩
              | lst _ => cases hm
              | dct _ => cases hm
          obtain ⟨u, hu⟩ := hv
          have ev : eVar i ρ h1 = .ok u h1 := by simp only [eVar, hu]
          simp only [ev]
          have z := hi fr ρ h1 σ1 S1
          cases e2 : vi σ1 with
          | no => trivial
          | er c => rw [e2] at z; rw [show mi ρ h1 = _ from z]; rfl
          | ok d2 σ2 =>
            rw [e2] at z
            obtain ⟨y, h2, e3, l2, S2, r2⟩ := z
            rw [e3]
            simp only
            cases d2 with
            | lst _ => trivial
            | dct _ => trivial
            | im q =>
              have := res_im r2
              subst this
              unfold putD
              cases e4 : σ2[i]? with
              | none => trivial
              | some o =>
                cases o with
                | none => trivial
                | some d3 =>
                  cases d3 with
                  | im _ => trivial
                  | lst _ => trivial
                  | dct l =>
                    obtain ⟨k, a1, a2, _⟩ := S2.mu i _ e4 rfl
                    rw [hu] at a1
                    injection a1 with a1
                    injection a1 with a1
                    subst a1
                    have a2' : h2[k]? = some (.dct (l.map dval)) := a2
                    simp only [a2', keys_dval]
                    by_cases hc : (keysW l && isKeyB q) = true
                    · rw [if_pos hc, if_pos hc]
                      have W := S2.write (e := .dct (wput l q w)) e4 rfl hu rfl
                      have eq : VV.cell (.dct (wput l q w)) = .dct (dput (l.map dval) q (.im w)) := by simp [VV.cell, put_dval]
                      rw [eq] at W
                      refine ⟨ρ, _, rfl, W.cut S.bl S.frl (by rw [List.length_set]; omega), ?_, fun _ _ => rfl⟩
                      exact Nat.le_trans hp (trunc_len (by rw [List.length_set]; omega))
                    · rw [if_neg hc, if_neg hc]; trivial
end NT

set_option Elab.async false
set_option linter.all false
set_option maxRecDepth 100000
set_option autoImplicit false

namespace NT
open PySem PySem.Spec PyProof.Rows L2 PySem.W

/-! ### computing with the terms -/
section
variable (a b c : Ev) (m r : M (List Val)) (s t : SM) (u v : M Bool) (p i n : Nat) (ρ : En) (h : Hs) (d : PyData) (x y : Val) (f : List Val → Hs → Res Val) (g : Val → Val → Hs → Res Val) (g1 : Val → Hs → Res Val) (gm : Val → List Val → Hs → Res Val) (ty : Val → Hs → Bool)
@[simp] theorem q_sNil : sNil p ρ h = .nx ρ h := rfl
@[simp] theorem q_sPass : sPass p ρ h = .nx ρ h := rfl
@[simp] theorem q_sBreak : sBreak p ρ h = .bk ρ h := rfl
@[simp] theorem q_sCont : sCont p ρ h = .ct ρ h := rfl
@[simp] theorem q_sRetN : sRetN p ρ h = .rt (.im .none) h := rfl
@[simp] theorem q_sSeq : sSeq s t p ρ h = match s p ρ h with | .nx ρ' h' => t p ρ' h' | r => r := rfl
@[simp] theorem q_sIf : sIf u s t p ρ h = match u ρ h with
  | .ok k h1 => if k = true then s p ρ (trunc h.length h1) else t p ρ (trunc h.length h1)
  | .er c => .er c
  | .no => .no := rfl
@[simp] theorem q_sRet : sRet a p ρ h = match a ρ h with | .ok v h1 => .rt v h1 | .er c => .er c | .no => .no := rfl
@[simp] theorem q_sExpr : sExpr a p ρ h = match a ρ h with | .ok _ h1 => .nx ρ (trunc h.length h1) | .er c => .er c | .no => .no := rfl
@[simp] theorem q_sSet : sSet i a p ρ h = match a ρ h with | .ok v h1 => asgn p i v h.length ρ h1 | .er c => .er c | .no => .no := rfl
@[simp] theorem q_e1 : e1 a g1 ρ h = (a ρ h).bind g1 := rfl
@[simp] theorem q_e2 : e2 a b g ρ h = (a ρ h).bind fun x h1 => (b ρ h1).bind fun y h2 => g x y h2 := rfl
@[simp] theorem q_eVar : eVar i ρ h = match ρ[i]? with | some (some v) => .ok v h | _ => .no := rfl
@[simp] theorem q_eC : eC d ρ h = .ok (.im d) h := rfl
@[simp] theorem q_tst : tst a ρ h = (a ρ h).bind vB := rfl
@[simp] theorem q_vB (k : Bool) : vB (.im (.bool k)) h = .ok k h := rfl
@[simp] theorem q_mNil : mNil ρ h = .ok [] h := rfl
@[simp] theorem q_mCons : mCons a m ρ h = (a ρ h).bind fun v h1 => (m ρ h1).bind fun vs h2 => .ok (v :: vs) h2 := rfl
@[simp] theorem q_eB : eB m f ρ h = (m ρ h).bind f := rfl
@[simp] theorem q_eM : eM ty a m gm ρ h = (a ρ h).bind fun v h1 => if ty v h1 = true then (m ρ h1).bind fun vs h2 => gm v vs h2 else .no := rfl
@[simp] theorem q_eCall (F : Fn) : eCall n F m ρ h = (m ρ h).bind fun vs h1 => if vs.length = n then callFn F vs h1 else .no := rfl
@[simp] theorem q_mAnd : mAnd u v ρ h = (u ρ h).bind fun c h1 => if c = true then v ρ h1 else .ok false h1 := rfl
@[simp] theorem q_mOr : mOr u v ρ h = (u ρ h).bind fun c h1 => if c = true then .ok true h1 else v ρ h1 := rfl
@[simp] theorem q_mNot : mNot u ρ h = (u ρ h).bind fun c h1 => .ok (!c) h1 := rfl
@[simp] theorem q_mTrue : mTrue ρ h = .ok true h := rfl
@[simp] theorem q_eIf : eIf u a b ρ h = (u ρ h).bind fun k h1 => if k = true then a ρ h1 else b ρ h1 := rfl
@[simp] theorem q_eTup : eTup m ρ h = (m ρ h).bind fun vs h1 => match frzL vs h1 with | some (ds, h2) => (if ds.length ≤ 16777216 then .ok (.im (.tuple ds)) h2 else .no) | none => .no := rfl
@[simp] theorem q_eLst : eLst m ρ h = (m ρ h).bind fun vs h1 => if vs.length ≤ 16777216 then .ok (.ref h1.length) (h1 ++ [.lst vs]) else .no := rfl
@[simp] theorem q_asgn_im (k : Nat) : asgn p i (.im d) k ρ h = .nx (ρ.set i (some (.im d))) (trunc k h) := rfl
@[simp] theorem q_isL_ref (k : Nat) : isL (.ref k) h = (lstOf h (.ref k)).isSome := rfl
@[simp] theorem q_isL_im (ds : List PyData) : isL (.im (.list ds)) h = true := rfl
end
abbrev VI (i : Int) : Val := .im (.int i)
abbrev CI (ns : List Int) : Cell := .lst (ns.map fun i => .im (.int i))
abbrev CP (ps : List PI2) : Cell := .lst (ps.map fun p => .im (pD p))
@[simp] theorem live_lst (l : List Val) : Cell.live (.lst l) = true := rfl
@[simp] theorem vbelow_im (k : Nat) (d : PyData) : Val.below k (.im d) = true := rfl
@[simp] theorem below_ref (k n : Nat) : Val.below k (.ref n) = decide (n < k) := rfl
@[simp] theorem isIm_im (d : PyData) : Val.isIm (.im d) = true := rfl
@[simp] theorem isIm_ref (k : Nat) : Val.isIm (.ref k) = false := rfl
@[simp] theorem ren_im (g : Nat → Nat) (d : PyData) : Val.ren g (.im d) = .im d := rfl
@[simp] theorem ren_ref (g : Nat → Nat) (k : Nat) : Val.ren g (.ref k) = .ref (g k) := rfl
@[simp] theorem cren_lst (g : Nat → Nat) (l : List Val) : Cell.ren g (.lst l) = .lst (l.map (Val.ren g)) := rfl
@[simp] theorem cbelow_lst (k : Nat) (l : List Val) : Cell.below k (.lst l) = l.all (Val.below k) := rfl
@[simp] theorem cflat_lst (l : List Val) : Cell.flat (.lst l) = l.all Val.isIm := rfl
@[simp] theorem cnoRef_lst (k : Nat) (l : List Val) : Cell.noRef k (.lst l) = l.all fun v => match v with | .ref j => j != k | _ => true := rfl
@[simp] theorem noRefAt_im (k : Nat) (d : PyData) : noRefAt k (some (.im d)) = true := rfl
@[simp] theorem noRefAt_none (k : Nat) : noRefAt k none = true := rfl
@[simp] theorem noRefAt_ref (k j : Nat) : noRefAt k (some (.ref j)) = (j != k) := rfl
@[simp] theorem ren_comp {α : Type} (g : Nat → Nat) (f : α → PyData) : (Val.ren g ∘ fun a => Val.im (f a)) = fun a => Val.im (f a) := rfl
@[simp] theorem below_comp {α : Type} (k : Nat) (f : α → PyData) : (Val.below k ∘ fun a => Val.im (f a)) = fun _ => true := rfl
@[simp] theorem isIm_comp {α : Type} (f : α → PyData) : (Val.isIm ∘ fun a => Val.im (f a)) = fun _ => true := rfl
theorem trunc_take {k : Nat} {h : Hs} (b : (h.take k).all (Cell.below k) = true) : trunc k h = h.take k := if_pos b
@[simp] theorem trunc_self (h : Hs) : trunc h.length h = h := by unfold trunc; split <;> simp
theorem trunc_ge {k : Nat} {h : Hs} (e : h.length ≤ k) : trunc k h = h := by
  unfold trunc
  split
  · exact List.take_of_length_le e
  · rfl
@[simp] theorem trunc_1 (a : Cell) : trunc 1 [a] = [a] := trunc_ge (by simp)
@[simp] theorem trunc_2 (a b : Cell) : trunc 2 [a, b] = [a, b] := trunc_ge (by simp)
@[simp] theorem trunc_3 (a b c : Cell) : trunc 3 [a, b, c] = [a, b, c] := trunc_ge (by simp)
@[simp] theorem trunc_4 (a b c d : Cell) : trunc 4 [a, b, c, d] = [a, b, c, d] := trunc_ge (by simp)
@[simp] theorem trunc_5 (a b c d e : Cell) : trunc 5 [a, b, c, d, e] = [a, b, c, d, e] := trunc_ge (by simp)
@[simp] theorem trunc_nil (k : Nat) : trunc k [] = [] := by unfold trunc; simp
theorem trunc_len_eq {k : Nat} {h : Hs} (e : k = h.length) : trunc k h = h := by subst e; exact trunc_self h
theorem fnOf1 {m : Nat} {b : SM} {x : Val} {h : Hs} : fnOf 1 m b [x] h = fnEnd h.length (b h.length (some x :: List.replicate (m - 1) none) h) := if_pos rfl
theorem fnOf2 {m : Nat} {b : SM} {x y : Val} {h : Hs} : fnOf 2 m b [x, y] h = fnEnd h.length (b h.length (some x :: some y :: List.replicate (m - 2) none) h) := if_pos rfl
theorem fnOf3 {m : Nat} {b : SM} {x y z : Val} {h : Hs} : fnOf 3 m b [x, y, z] h = fnEnd h.length (b h.length (some x :: some y :: some z :: List.replicate (m - 3) none) h) := if_pos rfl
theorem fnOf4 {m : Nat} {b : SM} {x y z u : Val} {h : Hs} : fnOf 4 m b [x, y, z, u] h = fnEnd h.length (b h.length (some x :: some y :: some z :: some u :: List.replicate (m - 4) none) h) := if_pos rfl
@[simp] theorem fnEnd_rt (p : Nat) (v : Val) (h : Hs) : fnEnd p (.rt v h) = fnFin p v h := rfl
@[simp] theorem fnEnd_nx (p : Nat) (ρ : En) (h : Hs) : fnEnd p (.nx ρ h) = fnFin p (.im .none) h := rfl
@[simp] theorem fnEnd_er (p : Nat) (c : Str) : fnEnd p (.er c) = .er c := rfl
@[simp] theorem fnFin_im (p : Nat) (d : PyData) (h : Hs) : fnFin p (.im d) h = .ok (.im d) (trunc p h) := rfl
/-- a call whose arguments are plain data -/
theorem call_im {s : Fn} {ds : List PyData} {h : Hs} : callFn s (ds.map .im) h = (s (ds.map .im) []).bind fun v h' => .ok (v.ren (backI [] h.length)) (h ++ h'.map (Cell.ren (backI [] h.length))) := by
  have e : ∀ ds : List PyData, ∀ n, isol h (ds.map .im) n = some (ds.map .im, []) := by
    intro ds
    induction ds with
    | nil => intro n; rfl
    | cons d ds ih => intro n; simp [isol, ih]
  unfold callFn
  rw [e]
  simp [cellsAt, wrs]
end NT

set_option Elab.async false
set_option linter.all false
set_option maxRecDepth 100000
set_option autoImplicit false

namespace NT
open PySem PySem.Spec PyProof.Rows L2 PySem.W

/-! ### a def known by its cells, as one over values -/
def RunsTo (f : Fn) (ds : List VV) (r : VV) (outs : List VV) : Prop := ∃ x h', f (layV ds 0) (layC ds) = .ok x h' ∧ OutOf ds outs ∧ h'.take (layC ds).length = layC outs ∧ RetF (layC ds).length h' x r
open Classical in
noncomputable def ofFn (f : Fn) : WF := fun ds => if hx : ∃ p : VV × List VV, RunsTo f ds p.1 p.2 then .ok hx.choose.1 hx.choose.2 else if hc : ∃ c, f (layV ds 0) (layC ds) = .er c then .er hc.choose else .no
theorem sf_of (f : Fn) : SimF f (ofFn f) := fun ds => by
  unfold ofFn
  split
  · rename_i r outs e
    split at e
    · rename_i hx
      cases e
      exact hx.choose_spec
    · split at e <;> cases e
  · rename_i c e
    split at e
    · cases e
    · split at e
      · rename_i hc; cases e; exact hc.choose_spec
      · cases e
  · trivial
theorem out_inj : ∀ {ds o1 o2 : List VV}, OutOf ds o1 → OutOf ds o2 → layC o1 = layC o2 → o1 = o2
  | _, _, _, .nil, .nil, _ => rfl
  | _, _, _, .im a, .im b, e => by rw [out_inj a b e]
  | _, _, _, .im _, .mu m _ _, _ => by cases m
  | _, _, _, .mu m _ _, .im _, _ => by cases m
  | _, _, _, .mu (o := u) _ m a, .mu (o := v) _ m' b, e => by
    have lc : ∀ (u : VV), u.mu = true → ∀ os, layC (u :: os) = u.cell :: layC os := fun u m os => by cases u <;> first | rfl | cases m
    rw [lc u m, lc v m'] at e
    injection e with e1 e2
    rw [VV.cell_inj e1, out_inj a b e2]
theorem runs_inj {f : Fn} {ds o1 o2 : List VV} {r1 r2 : VV} (a : RunsTo f ds r1 o1) (b : RunsTo f ds r2 o2) : r1 = r2 ∧ o1 = o2 := by
  obtain ⟨x, h, e1, a2, a3, a4⟩ := a
  obtain ⟨y, h', e2, b2, b3, b4⟩ := b
  rw [e1] at e2
  cases e2
  refine ⟨?_, out_inj a2 b2 (by rw [← a3, ← b3])⟩
  rcases a4 with ⟨e, rfl, rfl⟩ | ⟨m, k, rfl, _, ek⟩
  · rcases b4 with ⟨e', rfl, q⟩ | ⟨_, k, q, _⟩
    · cases q; rfl
    · cases q
  · rcases b4 with ⟨e', rfl, q⟩ | ⟨_, k', q, _, ek'⟩
    · cases q
    · cases q
      rw [ek] at ek'
      injection ek' with ek'
      exact VV.cell_inj ek'
theorem ofFn_eq {f : Fn} {ds outs : List VV} {r : VV} (a : RunsTo f ds r outs) : ofFn f ds = .ok r outs := by
  have hx : ∃ p : VV × List VV, RunsTo f ds p.1 p.2 := ⟨(r, outs), a⟩
  unfold ofFn
  rw [dif_pos hx]
  obtain ⟨e1, e2⟩ := runs_inj hx.choose_spec a
  rw [e1, e2]
theorem ofFn_er {f : Fn} {ds : List VV} {c : Str} (a : f (layV ds 0) (layC ds) = .er c) : ofFn f ds = .er c := by
  have hx : ¬ ∃ p : VV × List VV, RunsTo f ds p.1 p.2 := fun ⟨p, x, h, e, _⟩ => by rw [a] at e; cases e
  have hc : ∃ c, f (layV ds 0) (layC ds) = .er c := ⟨c, a⟩
  unfold ofFn
  rw [dif_neg hx, dif_pos hc]
  have q := a.symm.trans hc.choose_spec
  injection q with q
  rw [← q]
/-- the law's end -/
theorem law_of {f : Fn} {F : WF} {l : List PyData} (s : SimF f F) (e : ∃ outs, F [.im (.list l)] = .ok (.im (.bool true)) outs) : ∃ h', f [.im (.list l)] [] = .ok (.im (.bool true)) h' := by
  obtain ⟨outs, e⟩ := e
  have z := s [.im (.list l)]
  rw [e] at z
  obtain ⟨x, h', e1, _, _, rt⟩ := z
  rcases rt with ⟨w, q, rfl⟩ | ⟨m, _⟩
  · cases q; exact ⟨h', e1⟩
  · cases m

/-! ### computing -/
section
variable (a b c : VM VV) (r : VM (List VV)) (m n : VM Bool) (i j k : Nat) (σ : VE) (d : PyData) (g : VV → WO) (g2 g2' : VV → VV → WO) (gl : List VV → WO) (s t : WS) (D E : VV) (ds : List VV) (gm : WMe) (ty : VV → Bool)
@[simp] theorem mu_im : (VV.im d).mu = false := rfl
@[simp] theorem mu_lst (l : List PyData) : (VV.lst l).mu = true := rfl
@[simp] theorem mu_dct (l : List (PyData × PyData)) : (VV.dct l).mu = true := rfl
@[simp] theorem r_var : wVar i σ = match σ[i]? with | some (some d) => .ok d σ | _ => .no := rfl
@[simp] theorem r_varI : wVarI i σ = match σ[i]? with | some (some (.im d)) => .ok (.im d) σ | _ => .no := rfl
@[simp] theorem r_c : wC d σ = .ok (.im d) σ := rfl
@[simp] theorem r_1 : w1 a g σ = (a σ).bind fun d σ1 => (g d).at σ1 := rfl
open Classical in
@[simp] theorem r_2 : w2 a b g2 σ = (a σ).bind fun d σ1 => (b σ1).bind fun e σ2 => if d.mu = false ∨ σ2 = σ1 then (g2 d e).at σ2 else .no := rfl
@[simp] theorem r_nil : wNil σ = .ok [] σ := rfl
open Classical in
@[simp] theorem r_cons : wCons a r σ = (a σ).bind fun d σ1 => (r σ1).bind fun ds σ2 => if d.mu = false ∨ σ2 = σ1 then .ok (d :: ds) σ2 else .no := rfl
@[simp] theorem r_b : wB r gl σ = (r σ).bind fun ds σ1 => (gl ds).at σ1 := rfl
def boolA (D : VV) (σ : VE) : VR Bool := match D with
  | .im (.bool k) => .ok k σ
  | _ => .no
@[simp] theorem boolA_b (k : Bool) : boolA (.im (.bool k)) σ = .ok k σ := rfl
@[simp] theorem r_t : wT a σ = (a σ).bind boolA := rfl
@[simp] theorem r_if : wIf m a b σ = (m σ).bind fun k σ1 => if k = true then a σ1 else b σ1 := rfl
@[simp] theorem r_and : wmAnd m n σ = (m σ).bind fun k σ1 => if k = true then n σ1 else .ok false σ1 := rfl
@[simp] theorem r_or : wmOr m n σ = (m σ).bind fun k σ1 => if k = true then .ok true σ1 else n σ1 := rfl
@[simp] theorem r_not : wmNot m σ = (m σ).bind fun k σ1 => .ok (!k) σ1 := rfl
@[simp] theorem r_true : wTrue σ = .ok true σ := rfl
def andA (b : VM VV) (D : VV) (σ : VE) : VR VV := match D with
  | .im (.bool true) => b σ
  | .im (.bool false) => .ok (.im (.bool false)) σ
  | _ => .no
def orA (b : VM VV) (D : VV) (σ : VE) : VR VV := match D with
  | .im (.bool false) => b σ
  | .im (.bool true) => .ok (.im (.bool true)) σ
  | _ => .no
def notA (D : VV) (σ : VE) : VR VV := match D with
  | .im (.bool k) => .ok (.im (.bool (!k))) σ
  | _ => .no
@[simp] theorem andA_b (k : Bool) : andA b (.im (.bool k)) σ = if k = true then b σ else .ok (.im (.bool false)) σ := by cases k <;> rfl
@[simp] theorem orA_b (k : Bool) : orA b (.im (.bool k)) σ = if k = true then .ok (.im (.bool true)) σ else b σ := by cases k <;> rfl
@[simp] theorem notA_b (k : Bool) : notA (.im (.bool k)) σ = .ok (.im (.bool (!k))) σ := rfl
@[simp] theorem r_eAnd : weAnd a b σ = (a σ).bind (andA b) := rfl
@[simp] theorem r_eOr : weOr a b σ = (a σ).bind (orA b) := rfl
@[simp] theorem r_eNot : weNot a σ = (a σ).bind notA := rfl
open Classical in
noncomputable def chainA (c : VM VV) (g' : VV → VV → WO) (e : VV) (σ2 : VE) (D : VV) (σ3 : VE) : VR VV := match D with
  | .im (.bool true) => (c σ3).bind fun w σ4 => if e.mu = false ∨ σ4 = σ2 then (g' e w).at σ4 else .no
  | .im (.bool false) => .ok (.im (.bool false)) σ3
  | _ => .no
open Classical in
@[simp] theorem chainA_b (k : Bool) (σ2 : VE) : chainA c g2' E σ2 (.im (.bool k)) σ = if k = true then (c σ).bind fun w σ4 => if E.mu = false ∨ σ4 = σ2 then (g2' E w).at σ4 else .no else .ok (.im (.bool false)) σ := by cases k <;> rfl
open Classical in
@[simp] theorem r_chain : wChain g2 g2' a b c σ = (a σ).bind fun d σ1 => (b σ1).bind fun e σ2 => if d.mu = false ∨ σ2 = σ1 then ((g2 d e).at σ2).bind (chainA c g2' e σ2) else .no := rfl
@[simp] theorem datas_nil : datas [] = some [] := rfl
@[simp] theorem datas_im : datas (.im d :: ds) = (datas ds).map (d :: ·) := rfl
@[simp] theorem datas_lst (l : List PyData) : datas (.lst l :: ds) = (datas ds).map (.list l :: ·) := rfl
@[simp] theorem ims_nil : ims [] = some [] := rfl
@[simp] theorem ims_im : ims (.im d :: ds) = (ims ds).map (d :: ·) := rfl
@[simp] theorem r_tup : wTup r σ = (r σ).bind fun ds σ1 => match datas ds with | some l => (if l.length ≤ 16777216 then .ok (.im (.tuple l)) σ1 else .no) | none => .no := rfl
@[simp] theorem r_lst : wLst r σ = (r σ).bind fun ds σ1 => match ims ds with | some l => (if l.length ≤ 16777216 then .ok (.lst l) σ1 else .no) | none => .no := rfl
@[simp] theorem r_noPart : wNoPart σ = .ok none σ := rfl
def partA (D : VV) (σ : VE) : VR (Option Int) := match D with
  | .im (.int i) => .ok (some i) σ
  | _ => .no
@[simp] theorem partA_i (z : Int) : partA (.im (.int z)) σ = .ok (some z) σ := rfl
@[simp] theorem r_part : wPart a σ = (a σ).bind partA := rfl
open Classical in
@[simp] theorem r_slice (gs : VV → Option Int → Option Int → WO) (l u : VM (Option Int)) : wSlice gs a l u σ = (a σ).bind fun d σ1 => (l σ1).bind fun lo σ2 => (u σ2).bind fun hi σ3 => if d.mu = false ∨ σ3 = σ1 then (gs d lo hi).at σ3 else .no := rfl
@[simp] theorem r_xNil : xNil σ = .nx σ := rfl
@[simp] theorem r_xSeq : xSeq s t σ = match s σ with | .nx σ' => t σ' | r => r := rfl
@[simp] theorem r_xExpr : xExpr a σ = match a σ with | .ok _ σ' => .nx σ' | .er c => .er c | .no => .no := rfl
@[simp] theorem r_xSet : xSet i a σ = match a σ with | .ok d σ' => .nx (σ'.set i (some d)) | .er c => .er c | .no => .no := rfl
@[simp] theorem r_xRet : xRet a σ = match a σ with | .ok d σ' => .rt d σ' | .er c => .er c | .no => .no := rfl
@[simp] theorem r_xRetV : xRetV i σ = match σ[i]? with | some (some d) => .rt d (if d.mu = true then σ.set i none else σ) | _ => .no := rfl
@[simp] theorem r_xRetN : xRetN σ = .rt (.im .none) σ := rfl
@[simp] theorem r_xIf : xIf m s t σ = match m σ with | .ok k σ' => (if k = true then s σ' else t σ') | .er c => .er c | .no => .no := rfl
@[simp] theorem r_xBreak : xBreak σ = .bk σ := rfl
@[simp] theorem r_xCont : xCont σ = .ct σ := rfl
@[simp] theorem r_xPut : xPut i a b σ = match b σ with | .ok (.im v) σ1 => (match σ1[i]? with | some (some _) => (match a σ1 with | .ok j σ2 => putA i v j σ2 | .er c => .er c | .no => .no) | _ => .no) | .er c => .er c | _ => .no := rfl
@[simp] theorem r_xPutD : xPutD i a b σ = match b σ with | .ok (.im v) σ1 => (match σ1[i]? with | some (some _) => (match a σ1 with | .ok j σ2 => putD i v j σ2 | .er c => .er c | .no => .no) | _ => .no) | .er c => .er c | _ => .no := rfl
@[simp] theorem r_xPar : xPar i j r σ = match r σ with | .ok [.im v, .im w] σ1 => .nx ((σ1.set i (some (.im v))).set j (some (.im w))) | .er c => .er c | _ => .no := rfl
def seqA (o : Option Nat) (ds : List VV) (σ1 : VE) : VR WSrc := match ds with
  | [.im d] => match itemsD d with
    | some l => .ok ⟨l, []⟩ σ1
    | none => .no
  | [.lst l] => .ok ⟨l, match o with | some i => [(i, l)] | none => []⟩ σ1
  | _ => .no
@[simp] theorem seqA_im (o : Option Nat) : seqA o [.im d] σ = match itemsD d with | some l => .ok ⟨l, []⟩ σ | none => .no := rfl
@[simp] theorem seqA_new (l : List PyData) : seqA none [.lst l] σ = .ok ⟨l, []⟩ σ := rfl
@[simp] theorem seqA_own (l : List PyData) : seqA (some i) [.lst l] σ = .ok ⟨l, [(i, l)]⟩ σ := rfl
@[simp] theorem itemsD_t (l : List PyData) : itemsD (.tuple l) = some l := rfl
@[simp] theorem itemsD_l (l : List PyData) : itemsD (.list l) = some l := rfl
@[simp] theorem r_seq (o : Option Nat) : wSeq o r σ = (r σ).bind (seqA o) := rfl
@[simp] theorem int1_i (z : Int) : int1 [.im (.int z)] = some z := rfl
@[simp] theorem int2_i (y z : Int) : int2 [.im (.int y), .im (.int z)] = some (y, z) := rfl
@[simp] theorem r_rng1 : wRng1 r σ = (r σ).bind fun ds σ1 => match int1 ds with | some j => (if smallI j = true then .ok ⟨rngI 0 j.toNat, []⟩ σ1 else .no) | none => .no := rfl
@[simp] theorem r_rng2 : wRng2 r σ = (r σ).bind fun ds σ1 => match int2 ds with | some p => (if (smallI p.1 && smallI p.2) = true then .ok ⟨rngI p.1 (p.2 - p.1).toNat, []⟩ σ1 else .no) | none => .no := rfl
def enumA (o : Option Nat) (ds : List VV) (σ1 : VE) : VR WSrc := match ds with
  | [d] => match wDat o d with
    | some (l, w) => .ok ⟨enumV 0 l, w⟩ σ1
    | none => .no
  | _ => .no
@[simp] theorem enumA_1 (o : Option Nat) : enumA o [D] σ = match wDat o D with | some (l, w) => .ok ⟨enumV 0 l, w⟩ σ | none => .no := rfl
@[simp] theorem r_enum (o : Option Nat) : wEnum o r σ = (r σ).bind (enumA o) := rfl
@[simp] theorem wDat_t (o : Option Nat) (l : List PyData) : wDat o (.im (.tuple l)) = some (l, []) := rfl
@[simp] theorem wDat_l (o : Option Nat) (l : List PyData) : wDat o (.im (.list l)) = some (l, []) := rfl
@[simp] theorem wDat_new (l : List PyData) : wDat none (.lst l) = some (l, []) := rfl
@[simp] theorem wDat_own (l : List PyData) : wDat (some i) (.lst l) = some (l, [(i, l)]) := rfl
def zipA (o o' : Option Nat) (ds : List VV) (σ1 : VE) : VR WSrc := match ds with
  | [d, e] => match wDat o d, wDat o' e with
    | some (l, w), some (l', w') => if isTupV d = isTupV e then .ok ⟨zipV l l', w ++ w'⟩ σ1 else .no
    | _, _ => .no
  | _ => .no
@[simp] theorem zipA_2 (o o' : Option Nat) : zipA o o' [D, E] σ = match wDat o D, wDat o' E with | some (l, w), some (l', w') => (if isTupV D = isTupV E then .ok ⟨zipV l l', w ++ w'⟩ σ else .no) | _, _ => .no := rfl
@[simp] theorem r_zip (o o' : Option Nat) : wZip o o' r σ = (r σ).bind (zipA o o') := rfl
@[simp] theorem isTup_t (l : List PyData) : isTupV (.im (.tuple l)) = true := rfl
@[simp] theorem isTup_l (l : List PyData) : isTupV (.lst l) = false := rfl
@[simp] theorem isTup_il (l : List PyData) : isTupV (.im (.list l)) = false := rfl
@[simp] theorem r_comp (ms : VM WSrc) (T : Tg) (vs : List Nat) : wComp ms T m a vs σ = (ms σ).bind fun w σ1 => (wcGo T w.watch m a vs w.items [] (wV σ1 vs)).bind fun acc σ2 => .ok (.lst acc) (restore σ1 vs (wV σ2 vs)) := rfl
@[simp] theorem r_for (ms : VM WSrc) (T : Tg) (A fg : List Nat) : xFor ms T A fg s σ = match ms σ with | .ok w σ1 => (if (w.watch.all fun p => !A.contains p.1) = true then xGo s T w.watch fg w.items (forgets fg σ1) else .no) | .er c => .er c | .no => .no := rfl
@[simp] theorem forgets_nil : forgets [] σ = σ := rfl
@[simp] theorem forgets_cons (fg : List Nat) : forgets (i :: fg) σ = forgets fg (σ.set i none) := rfl
@[simp] theorem wV_nil : wV σ [] = σ := rfl
@[simp] theorem wV_cons (vs : List Nat) : wV σ (i :: vs) = (wV σ vs).set i none := rfl
@[simp] theorem rest_nil (σ0 : VE) : restore σ0 [] σ = σ := rfl
@[simp] theorem rest_cons (σ0 : VE) (vs : List Nat) : restore σ0 (i :: vs) σ = match σ0[i]? with | some (some (.im d)) => restore σ0 vs (σ.set i (some (.im d))) | _ => restore σ0 vs σ := rfl
@[simp] theorem okW_nil : okW [] σ = True := by simp [okW]
@[simp] theorem okW_one (l : List PyData) : okW [(i, l)] σ = (σ[i]? = some (some (.lst l))) := by simp [okW]
def callA (wb : List (Option Nat)) (σ : VE) (q : WR) : VR VV := match q with
  | .ok d outs => .ok d (wback wb outs σ)
  | .er c => .er c
  | .no => .no
@[simp] theorem callA_ok (wb : List (Option Nat)) : callA wb σ (.ok D ds) = .ok D (wback wb ds σ) := rfl
@[simp] theorem callA_er (wb : List (Option Nat)) (c : Str) : callA wb σ (.er c) = .er c := rfl
@[simp] theorem callA_no (wb : List (Option Nat)) : callA wb σ .no = .no := rfl
@[simp] theorem r_call (wb : List (Option Nat)) (F : WF) : wCall wb F r σ = (r σ).bind fun ds σ1 => if (wbN wb ds).Nodup then callA wb σ1 (F ds) else .no := rfl
@[simp] theorem wback_nil : wback [] ds σ = σ := by cases ds <;> rfl
@[simp] theorem wback_none (wb : List (Option Nat)) : wback (none :: wb) (D :: ds) σ = wback wb ds σ := rfl
@[simp] theorem wback_im (wb : List (Option Nat)) : wback (some i :: wb) (.im d :: ds) σ = wback wb ds σ := rfl
@[simp] theorem wback_lst (wb : List (Option Nat)) (l : List PyData) : wback (some i :: wb) (.lst l :: ds) σ = wback wb ds (σ.set i (some (.lst l))) := rfl
@[simp] theorem wback_dct (wb : List (Option Nat)) (l : List (PyData × PyData)) : wback (some i :: wb) (.dct l :: ds) σ = wback wb ds (σ.set i (some (.dct l))) := rfl
@[simp] theorem wbN_nil : wbN [] ds = [] := by cases ds <;> rfl
@[simp] theorem wbN_none (wb : List (Option Nat)) : wbN (none :: wb) (D :: ds) = wbN wb ds := rfl
@[simp] theorem wbN_im (wb : List (Option Nat)) : wbN (some i :: wb) (.im d :: ds) = wbN wb ds := rfl
@[simp] theorem wbN_lst (wb : List (Option Nat)) (l : List PyData) : wbN (some i :: wb) (.lst l :: ds) = i :: wbN wb ds := rfl
@[simp] theorem wbN_dct (wb : List (Option Nat)) (l : List (PyData × PyData)) : wbN (some i :: wb) (.dct l :: ds) = i :: wbN wb ds := rfl
def methA (i : Nat) (o : Option (PyData × VV)) (σ1 : VE) : VR VV := match o with
  | some (q, d2) => if d2.mu = true then .ok (.im q) (σ1.set i (some d2)) else .no
  | none => .no
@[simp] theorem methA_some (q : PyData) : methA i (some (q, D)) σ = if D.mu = true then .ok (.im q) (σ.set i (some D)) else .no := rfl
@[simp] theorem r_meth : wMeth i ty gm r σ = match σ[i]? with | some (some d) => (if (d.mu && ty d) = true then (r σ).bind fun ds σ1 => (match σ1[i]? with | some (some d1) => (if d1.mu = true then methA i (gm d1 ds) σ1 else .no) | _ => .no) else .no) | _ => .no := rfl
@[simp] theorem isLW_l (l : List PyData) : isLW (.lst l) = true := rfl
@[simp] theorem isDW_d (l : List (PyData × PyData)) : isDW (.dct l) = true := rfl
theorem wFn_eq {n m : Nat} {A : List Nat} {body : WS} {ds : List VV} (hl : ds.length = n) (hp : pOk A 0 ds = true) : wFn n m A body ds = wEnd ds (body (ds.map some ++ List.replicate (m - n) none)) := by
  unfold wFn
  rw [hp, decide_eq_true hl]
  rfl
@[simp] theorem r_fn (n m : Nat) (A : List Nat) : wFn n m A s ds = if (decide (ds.length = n) && pOk A 0 ds) = true then wEnd ds (s (ds.map some ++ List.replicate (m - n) none)) else .no := rfl
@[simp] theorem wEnd_nx : wEnd ds (.nx σ) = wOuts ds σ (.im .none) := rfl
@[simp] theorem wEnd_rt : wEnd ds (.rt D σ) = wOuts ds σ D := rfl
@[simp] theorem wEnd_er (c : Str) : wEnd ds (.er c) = .er c := rfl
@[simp] theorem outs_nil : outsOf [] σ = some [] := rfl
@[simp] theorem outs_im (o : Option VV) : outsOf (.im d :: ds) (o :: σ) = (outsOf ds σ).map (.im d :: ·) := rfl
@[simp] theorem outs_lst (l : List PyData) : outsOf (.lst l :: ds) (some E :: σ) = if E.mu = true then (outsOf ds σ).map (E :: ·) else none := rfl
@[simp] theorem outs_dct (l : List (PyData × PyData)) : outsOf (.dct l :: ds) (some E :: σ) = if E.mu = true then (outsOf ds σ).map (E :: ·) else none := rfl
@[simp] theorem pOk_nil (A : List Nat) : pOk A i [] = true := rfl
@[simp] theorem pOk_cons (A : List Nat) : pOk A i (D :: ds) = ((!D.mu || !A.contains i) && pOk A (i + 1) ds) := rfl
theorem r_outs : wOuts ds σ D = match outsOf ds σ with | some outs => .ok D outs | none => .no := rfl
end

/-! ### loops, comprehensions -/
def stp (b : WS) (T : Tg) (fg : List Nat) (a : PyData) (σ : VE) : WRS := match wasg T a σ with
  | some σ1 => (match b σ1 with
    | .nx σ2 => .nx (forgets fg σ2)
    | .ct σ2 => .nx (forgets fg σ2)
    | .bk σ2 => .bk (forgets fg σ2)
    | x => x)
  | none => .no
section
variable {α β : Type} {b : WS} {T : Tg} {ws : List (Nat × List PyData)} {fg : List Nat} {g : α → PyData}
theorem xGo_nil {σ : VE} (ok : okW ws σ) : xGo b T ws fg [] σ = .nx σ := by unfold xGo; rw [if_pos ok]
theorem xGo_cons {σ : VE} {a : PyData} {r : List PyData} (ok : okW ws σ) : xGo b T ws fg (a :: r) σ = match stp b T fg a σ with
    | .nx σ2 => xGo b T ws fg r σ2
    | .bk σ2 => .nx σ2
    | x => x := by
  rw [xGo, if_pos ok]
  unfold stp
  cases wasg T a σ with
  | none => rfl
  | some σ1 => simp only; cases b σ1 <;> rfl
/-- a loop, by an invariant -/
theorem xGo_inv (J : List α → VE → Prop) (Q : WRS → Prop)
    (hs : ∀ a r σ, J (a :: r) σ → okW ws σ ∧ (match stp b T fg (g a) σ with
      | .nx σ2 => J r σ2
      | .bk σ2 => Q (.nx σ2)
      | x => Q x))
    (he : ∀ σ, J [] σ → okW ws σ ∧ Q (.nx σ)) : ∀ (l : List α) (σ : VE), J l σ → Q (xGo b T ws fg (l.map g) σ)
  | [], σ, j => by rw [List.map_nil, xGo_nil (he σ j).1]; exact (he σ j).2
  | a :: r, σ, j => by
    obtain ⟨ok, z⟩ := hs a r σ j
    rw [List.map_cons, xGo_cons ok]
    cases e : stp b T fg (g a) σ with
    | nx σ2 => rw [e] at z; exact xGo_inv J Q hs he r σ2 z
    | bk σ2 => rw [e] at z; exact z
    | ct σ2 => rw [e] at z; exact z
    | rt d σ2 => rw [e] at z; exact z
    | er c => rw [e] at z; exact z
    | no => rw [e] at z; exact z
/-- .. that goes to its end: a fold -/
theorem xGo_fold (E : β → VE) (f : β → α → β) (I : List α → β → Prop)
    (hs : ∀ a r s, I (a :: r) s → okW ws (E s) ∧ stp b T fg (g a) (E s) = .nx (E (f s a)) ∧ I r (f s a)) (he : ∀ s, I [] s → okW ws (E s)) : ∀ (l : List α) (s : β), I l s → xGo b T ws fg (l.map g) (E s) = .nx (E (l.foldl f s)) ∧ I [] (l.foldl f s)
  | [], s, j => ⟨by rw [List.map_nil, xGo_nil (he s j)]; rfl, j⟩
  | a :: r, s, j => by
    obtain ⟨ok, z1, z2⟩ := hs a r s j
    rw [List.map_cons, xGo_cons ok, z1]
    exact xGo_fold E f I hs he r _ z2
/-- .. that looks whether all, or ends: E the names throughout -/
theorem xGo_all {σ : VE} (ok : okW ws σ) (p : α → Bool) (d : VV) : ∀ (l : List α), (∀ a ∈ l, ∃ σ2, stp b T fg (g a) σ = if p a = true then .nx σ else .rt d σ2) → (l.all p = true ∧ xGo b T ws fg (l.map g) σ = .nx σ) ∨ (l.all p = false ∧ ∃ σ2, xGo b T ws fg (l.map g) σ = .rt d σ2)
  | [], _ => .inl ⟨rfl, by rw [List.map_nil, xGo_nil ok]⟩
  | a :: r, h => by
    obtain ⟨σ2, e⟩ := h a List.mem_cons_self
    rw [List.map_cons, xGo_cons ok, e, List.all_cons]
    cases hp : p a with
    | true =>
      simp only [if_true, Bool.true_and]
      exact xGo_all ok p d r fun c hc => h c (List.mem_cons_of_mem _ hc)
    | false =>
      simp only [Bool.false_eq_true, if_false, Bool.false_and]
      exact .inr ⟨trivial, σ2, rfl⟩
variable {c : VM Bool} {e : VM VV} {vs : List Nat}
theorem wc_nil {σ : VE} {acc : List PyData} (ok : okW ws σ) : wcGo T ws c e vs [] acc σ = .ok acc σ := by unfold wcGo; rw [if_pos ok]
/-- a comprehension that changes nothing -/
theorem wc_pure {σ : VE} (ok : okW ws σ) (cond : α → Bool) (elt : α → PyData) : ∀ (l : List α) (acc : List PyData), (∀ a ∈ l, ∃ σ1, wasg T (g a) σ = some σ1 ∧ c σ1 = .ok (cond a) σ1 ∧ (cond a = true → e σ1 = .ok (.im (elt a)) σ1) ∧ wV σ1 vs = σ) → acc.length + l.length ≤ 16777216 →
    wcGo T ws c e vs (l.map g) acc σ = .ok (acc ++ (l.filter cond).map elt) σ
  | [], acc, _, _ => by rw [List.map_nil, wc_nil ok]; simp
  | a :: r, acc, h, hl => by
    obtain ⟨σ1, e1, e2, e3, e4⟩ := h a List.mem_cons_self
    have h' := fun b hb => h b (List.mem_cons_of_mem a hb)
    simp only [List.length_cons] at hl
    rw [List.map_cons, wcGo, if_pos ok, e1]
    simp only [e2]
    cases hc : cond a with
    | true =>
      have ln : acc.length < 16777216 := by omega
      simp only [if_true, e3 hc, if_pos ln, e4]
      rw [wc_pure ok cond elt r _ h' (by rw [List.length_append, List.length_singleton]; omega)]
      simp [List.filter_cons, hc]
    | false =>
      simp only [Bool.false_eq_true, if_false, e4]
      rw [wc_pure ok cond elt r _ h' (by omega)]
      simp [List.filter_cons, hc]
theorem wc_map {σ : VE} (ok : okW ws σ) (elt : α → PyData) (l : List α) (h : ∀ a ∈ l, ∃ σ1, wasg T (g a) σ = some σ1 ∧ e σ1 = .ok (.im (elt a)) σ1 ∧ wV σ1 vs = σ) (hl : l.length ≤ 16777216) : wcGo T ws wTrue e vs (l.map g) [] σ = .ok (l.map elt) σ := by
  have := wc_pure (c := wTrue) (e := e) ok (fun _ => true) elt l [] (fun a ha => by
    obtain ⟨σ1, e1, e2, e3⟩ := h a ha
    exact ⟨σ1, e1, rfl, fun _ => e2, e3⟩) (by simpa using hl)
  rw [show l.filter (fun _ => true) = l from List.filter_eq_self.mpr fun _ _ => rfl] at this
  simpa using this
theorem wc_fil {σ : VE} (ok : okW ws σ) (cond : α → Bool) (elt : α → PyData) (l : List α) (h : ∀ a ∈ l, ∃ σ1, wasg T (g a) σ = some σ1 ∧ c σ1 = .ok (cond a) σ1 ∧ (cond a = true → e σ1 = .ok (.im (elt a)) σ1) ∧ wV σ1 vs = σ) (hl : l.length ≤ 16777216) : wcGo T ws c e vs (l.map g) [] σ = .ok ((l.filter cond).map elt) σ := by
  have := wc_pure ok cond elt l [] h (by simpa using hl)
  simpa using this
/-- a comprehension, by an invariant -/
theorem wc_inv (J : List α → List PyData → VE → Prop)
    (hs : ∀ a r acc σ, J (a :: r) acc σ → okW ws σ ∧ acc.length < 16777216 ∧ ∃ σ1, wasg T (g a) σ = some σ1 ∧ ∃ k σ2, c σ1 = .ok k σ2 ∧
      ((k = true ∧ ∃ d σ3, e σ2 = .ok (.im d) σ3 ∧ J r (acc ++ [d]) (wV σ3 vs)) ∨ (k = false ∧ J r acc (wV σ2 vs))))
    (he : ∀ acc σ, J [] acc σ → okW ws σ) : ∀ (l : List α) (acc : List PyData) (σ : VE), J l acc σ → ∃ acc' σ', wcGo T ws c e vs (l.map g) acc σ = .ok acc' σ' ∧ J [] acc' σ'
  | [], acc, σ, j => ⟨acc, σ, by rw [List.map_nil, wc_nil (he acc σ j)], j⟩
  | a :: r, acc, σ, j => by
    obtain ⟨ok, ln, σ1, e1, k, σ2, e2, z⟩ := hs a r acc σ j
    rw [List.map_cons, wcGo, if_pos ok, e1]
    simp only [e2]
    rcases z with ⟨rfl, d, σ3, e3, j2⟩ | ⟨rfl, j2⟩
    · simp only [if_true, e3, if_pos ln]
      exact wc_inv J hs he r _ _ j2
    · simp only [Bool.false_eq_true, if_false]
      exact wc_inv J hs he r acc _ j2
end
end NT

set_option Elab.async false
set_option linter.all false
set_option maxRecDepth 100000
set_option autoImplicit false

namespace NT
open PySem PySem.Spec PyProof.Rows L2 PySem.W

/-! ### a module's constants -/
section
variable {X : Cx} {W : WK} {x : Str} {pos : Pos} {i : Int} {t : Tok} {s : Str}
theorem je_globI (hm : ∃ t, X.mg x = some (.int i t)) (hg : Gl X x) (hd : (x == ("__debug__" : Str)) = false := by decide) : JE X W (.Name x pos) (eC (.int i)) := by
  obtain ⟨t, hm⟩ := hm
  exact je_const (pe_glob (v := .int i) hg hm ⟨t, rfl⟩ hd) fun _ _ => .int i
theorem je_globS (hm : ∃ t, X.mg x = some (.str s t)) (hg : Gl X x) (hd : (x == ("__debug__" : Str)) = false := by decide) : JE X W (.Name x pos) (eC (.str s)) := by
  obtain ⟨t, hm⟩ := hm
  exact je_const (pe_glob (v := .str s) hg hm ⟨t, rfl⟩ hd) fun _ _ => .str s
end

/-! ### raise X('..'), X a class of the program's own -/
def sRaise (c : Str) : SM := fun _ _ _ => .er c
structure Err (K : PySem.W.Frag) (mg : Str → Option Value) (x : Str) (C : Addr) : Prop where
  g : mg x = some (.ref C)
  q : PySem.W.excIn K C [.type "ValueError", .type "Exception", .type "BaseException", .type "object"] "ValueError.__new__" = true
  k : PySem.W.keepIn K (.ref C) = true
  b : PySem.W.subIn K (.ref C) (.type "BaseException") = some true
  t : PySem.W.typeIn K (.ref C) = some (.type "type")
section
variable {X : Cx} {W : WK} {x m : Str} {j : Nat} {p p2 pos pos' : Pos} {C : Addr}
theorem js_raise (K : Ctx X W) (E : Err X.K X.mg x C) (hg : Gl X x) (hdb : (x == ("__debug__" : Str)) = false := by decide) : JS X W (.Raise (some (.Call (.Name x p) [.Constant (.str m) j p2] [] pos)) none pos') (sRaise x) :=
  PS.imp (ps_raise K.calm K.tk (pmk_own PySem.F.excBase_ValueError E.q E.g E.k (raises_own E.b E.t) hg hdb)) fun D σ H t => by
    obtain ⟨G, F, ι, p, ρ, h, R, S, hp, d⟩ := t
    have d' : ∀ H', (∀ b o, G b = some o → H' b = some o) → LamX.Tabs W.T.l H' → W x H' := d
    exact ⟨x, C, E.g, rfl, rfl, d' H R.g R.tabs⟩
end

/-! ### a, b, .. = e -/
def sUnp (T : Tg) (a : Ev) : SM := fun _ ρ h => match a ρ h with
  | .ok (.im d) h1 => (match T.asg (.im d) ρ with
    | some ρ1 => .nx ρ1 (trunc h.length h1)
    | none => .no)
  | .er c => .er c
  | _ => .no
section
variable {X : Cx} {W : WK} {tg e : Expr} {T : Tg} {me : Ev} {pos : Pos}
theorem Tg.len {T : Tg} {v : Val} {ρ ρ1 : En} (q : T.asg v ρ = some ρ1) : True := trivial
theorem js_unp (hg : JG X tg T) (he : JE X W e me) (hs : swapsWithSole [tg] e pos.line X.env = pure false := by rfl) (hw : swappedStores [tg] e X.env = pure none := by rfl)
    (h1 : (assignEach [tg] X.env).map (·.2) = [assign tg X.env] := by rfl) : JS X W (.Assign [tg] e pos) (sUnp T me) := PS.imp (ps_asg he hg hs hw h1) fun D σ H t => by
  obtain ⟨G, F, ι, p, ρ, h, R, S, hp, d⟩ := t
  unfold sUnp at d
  refine stS R S hp (fun v h1 ee F1 ι1 H1 x R1 E1 l1 V1 S1 => ?_) (fun c ee => by rw [ee] at d; exact d) fun ee => by rw [ee] at d; exact d
  rw [ee] at d
  cases v with
  | ref k => exact d.elim
  | im dd =>
    simp only at d
    cases et : T.asg (.im dd) ρ with
    | none => rw [et] at d; exact d.elim
    | some ρ1 =>
      rw [et] at d
      have S2 : SR (cst X W) ι1 F1 h1.length σ ρ := S1.mono (fun _ _ z => z) (fun _ _ => rfl) l1
      have lt := trunc_len (h := h1) l1
      have S3 : SR (cst X W) ι1 F1 (trunc h.length h1).length σ ρ := S1.mono (fun _ _ z => z) (fun _ _ => rfl) lt
      have V2 : RV (cst X W) ι1 F1 (trunc h.length h1).length x (.im dd) := by
        cases V1 with
        | im z => exact .im z
      obtain ⟨σ', S4, hgq, _⟩ := Tg.ok (R1.trunc l1) V2 S3 et
      exact hgq _ (d F1 ι1 H1 σ' (R1.trunc l1) E1 (Nat.le_trans hp lt) S4)
end

/-! ### tuple * int -/
def vMulT (v u : Val) (h : Hs) : Res Val := match v, u with
  | .im (.tuple ds), .im (.int n) => if 2 ≤ n ∧ n ≤ 1000 ∧ ds.length ≤ 1000 ∧ 1 ≤ ds.length then .ok (.im (.tuple (List.replicate n.toNat ds).flatten)) h else .no
  | _, _ => .no
theorem dp_rep {K : PySem.W.Frag} {F : Hp} {xs : List V} {ds : List PyData} (z : DpAll K F xs ds) : ∀ n : Nat, DpAll K F (List.replicate n xs).flatten (List.replicate n ds).flatten
  | 0 => .nil
  | n + 1 => by
    rw [List.replicate_succ, List.replicate_succ, List.flatten_cons, List.flatten_cons]
    exact dpAll_app z (dp_rep z n)
theorem o_mulT {X : Cx} {W : WK} : OpR X (binaryOp .Mult) (rOf2 (cst X W) W vMulT) := OpR.imp op_repT fun x y H Q t => by
  obtain ⟨G, F, ι, h, v, u, R, V1, V2, D⟩ := t
  unfold vMulT at D
  split at D
  · split at D
    · rename_i ds n hz
      cases V1 with
      | im z1 =>
        cases z1 with
        | tup s1 p1 =>
          cases V2 with
          | im z2 =>
            cases z2
            have ln := dp_len p1
            refine ⟨_, n, _, rfl, rfl, tupF R.f s1, fun e => ?_, hz.1, hz.2.1, by rw [ln]; exact hz.2.2.1, fun p hp => fin_newT R D (dp_rep p1 _) p hp⟩
            rw [e] at ln
            simp at ln
            rw [← ln] at hz
            omega
    · exact D.elim
  · exact D.elim
end NT

set_option Elab.async false
set_option linter.all false
set_option maxRecDepth 100000
set_option autoImplicit false

namespace NT
open PySem PySem.Spec PyProof.Rows L2 PySem.W
def xRaise (c : Str) : WS := fun _ => .er c
@[simp] theorem r_raise (c : Str) (σ : VE) : xRaise c σ = .er c := rfl
theorem ss_raise {c : Str} : SimS [] (sRaise c) (xRaise c) := fun fr p ρ h σ S hf hp => rfl
def unpA (T : Tg) (D : VV) (σ : VE) : WRS := match D with
  | .im d => (match wasg T d σ with
    | some σ1 => .nx σ1
    | none => .no)
  | _ => .no
def xUnp (T : Tg) (a : VM VV) : WS := fun σ => match a σ with
  | .ok D σ1 => unpA T D σ1
  | .er c => .er c
  | .no => .no
@[simp] theorem r_unp (T : Tg) (a : VM VV) (σ : VE) : xUnp T a σ = match a σ with | .ok D σ1 => unpA T D σ1 | .er c => .er c | .no => .no := rfl
@[simp] theorem unpA_im (T : Tg) (d : PyData) (σ : VE) : unpA T (.im d) σ = match wasg T d σ with | some σ1 => .nx σ1 | none => .no := rfl
theorem ss_unp {T : Tg} {b : Bool} {a : Ev} {va : VM VV} (ha : SimE b a va) : SimS T.slots (sUnp T a) (xUnp T va) := fun fr p ρ h σ S hf hp => by
  have z := ha fr ρ h σ S
  unfold sUnp xUnp
  cases e : va σ with
  | er c => rw [e] at z; rw [show a ρ h = _ from z]; rfl
  | no => trivial
  | ok D σ1 =>
    rw [e] at z
    obtain ⟨x, h1, e1, l1, S1, r⟩ := z
    rw [e1]
    cases D with
    | lst _ => trivial
    | dct _ => trivial
    | im d =>
      have := res_im r
      subst this
      simp only [unpA]
      cases ea : wasg T d σ1 with
      | none => trivial
      | some σ2 =>
        have S2 := S1.cut S.bl S.frl l1
        obtain ⟨ρ2, e2, S3, q⟩ := asg_sim S2 ea
        rw [e2]
        exact ⟨ρ2, _, rfl, S3, Nat.le_trans hp (trunc_len l1), q⟩
def wMulT (d e : VV) : WO := match d, e with
  | .im (.tuple ds), .im (.int n) => if 2 ≤ n ∧ n ≤ 1000 ∧ ds.length ≤ 1000 ∧ 1 ≤ ds.length then .ok (.im (.tuple (List.replicate n.toNat ds).flatten)) else .no
  | _, _ => .no
theorem op_wMulT : Op2 vMulT wMulT := fun h x y d e r1 r2 => by
  unfold wMulT
  split
  · have := rd_im r1; subst this; have := rd_im r2; subst this
    split
    · rename_i hc; exact ops_im (if_pos hc)
    · trivial
  · trivial
/-- two readings, the first of something new -/
def w2F (a b : VM VV) (g : VV → VV → WO) : VM VV := fun σ => (a σ).bind fun d σ1 => (b σ1).bind fun e σ2 => (g d e).at σ2
@[simp] theorem r_2F (a b : VM VV) (g : VV → VV → WO) (σ : VE) : w2F a b g σ = (a σ).bind fun d σ1 => (b σ1).bind fun e σ2 => (g d e).at σ2 := rfl
theorem keepN {fr : Fr} {ρ : En} {n : Nat} {h1 : Hs} {σ1 : VE} {x : Val} {d : VV} (S1 : St fr ρ h1 σ1) (bl : ∀ (i k : Nat), ρ[i]? = some (some (.ref k)) → k < n) (r : ResV true ρ n h1 σ1 x d) :
    ∃ fr' : Fr, (∀ p ∈ fr, p ∈ fr') ∧ St fr' ρ h1 σ1 ∧ ∀ h2 σ2, St fr' ρ h2 σ2 → ResV true ρ n h2 σ2 x d := by
  cases r with
  | im e => exact ⟨fr, fun _ z => z, S1, fun _ _ _ => .im e⟩
  | @new k d m e l => exact ⟨(k, d.cell) :: fr, fun _ z => List.mem_cons_of_mem _ z, S1.push bl l e, fun h2 σ2 S2 => .new m (S2.fr _ List.mem_cons_self) l⟩
  | old q => cases q
theorem sv_2F {b' : Bool} {a c : Ev} {va vc : VM VV} {f : Val → Val → Hs → Res Val} {g : VV → VV → WO} (o : Op2 f g) (ha : SimE true a va) (hc : SimE b' c vc) : SimE true (e2 a c f) (w2F va vc g) := fun fr ρ h σ S =>
  sv_bind ha S fun x d h1 σ1 l1 S1 r => by
    obtain ⟨fr', hf, S1', keep⟩ := keepN S1 S.bl r
    refine Out.mp (fr' := fr') (n := h.length) (R := ResV true) ?_ hf (Nat.le_refl _) fun _ _ _ _ r => r
    have z := hc fr' ρ h1 σ1 S1'
    cases e : vc σ1 with
    | er ec => rw [e] at z; rw [show c ρ h1 = _ from z]; rfl
    | no => trivial
    | ok d2 σ2 =>
      rw [e] at z
      obtain ⟨y, h2, e2, l2, S2, r2⟩ := z
      rw [e2]
      exact op_fin S2 (Nat.le_trans l1 l2) (o h2 x y d d2 (keep h2 σ2 S2).rd r2.rd)
/-- a name, and what may change it -/
def w2V (i : Nat) (b : VM VV) (g : VV → VV → WO) : VM VV := fun σ => match σ[i]? with
  | some (some _) => (b σ).bind fun e σ2 => (match σ2[i]? with
    | some (some d) => (g d e).at σ2
    | _ => .no)
  | _ => .no
@[simp] theorem r_2V (i : Nat) (b : VM VV) (g : VV → VV → WO) (σ : VE) : w2V i b g σ = match σ[i]? with | some (some _) => ((b σ).bind fun e σ2 => (match σ2[i]? with | some (some d) => (g d e).at σ2 | _ => .no)) | _ => .no := rfl
theorem st_val {fr : Fr} {ρ : En} {h : Hs} {σ : VE} {i : Nat} {d : VV} (S : St fr ρ h σ) (e : σ[i]? = some (some d)) : ∃ u, ρ[i]? = some (some u) ∧ Rd h u d := by
  cases d with
  | im q => exact ⟨_, S.im i q e, .im q⟩
  | lst l => obtain ⟨k, a, b, _⟩ := S.mu i _ e rfl; exact ⟨_, a, .ref rfl b⟩
  | dct l => obtain ⟨k, a, b, _⟩ := S.mu i _ e rfl; exact ⟨_, a, .ref rfl b⟩
theorem sv_2V {b' : Bool} {i : Nat} {c : Ev} {vc : VM VV} {f : Val → Val → Hs → Res Val} {g : VV → VV → WO} (o : Op2 f g) (hc : SimE b' c vc) : SimE true (e2 (eVar i) c f) (w2V i vc g) := fun fr ρ h σ S => by
  unfold w2V
  cases e0 : σ[i]? with
  | none => trivial
  | some o0 =>
    cases o0 with
    | none => trivial
    | some d0 =>
      simp only
      obtain ⟨u, hu, _⟩ := st_val S e0
      have ev : eVar i ρ h = .ok u h := by simp only [eVar, hu]
      show Out _ fr ρ h.length ((eVar i ρ h).bind _) _
      rw [ev]
      simp only [bind_ok]
      refine sv_bind hc S fun y e h2 σ2 l2 S2 r2 => ?_
      cases e1 : σ2[i]? with
      | none => trivial
      | some o1 =>
        cases o1 with
        | none => trivial
        | some d =>
          simp only
          obtain ⟨u', hu', rd⟩ := st_val S2 e1
          rw [hu] at hu'
          injection hu' with hu'
          injection hu' with hu'
          subst hu'
          exact op_fin S2 l2 (o h2 u y d e rd r2.rd)
end NT

set_option Elab.async false
set_option linter.all false
set_option maxRecDepth 100000
set_option autoImplicit false

namespace NT
open PySem PySem.Spec PyProof.Rows L2 PySem.W

/-! ### {}, {k: v}, k not in d, d.get(k), len(d) (tuple keys) -/
def eNewD : Ev := fun _ h => .ok (.ref h.length) (h ++ [.dct []])
def eDisp (a b : Ev) : Ev := fun ρ h => (a ρ h).bind fun x h1 => (b ρ h1).bind fun y h2 => match x with
  | .im d => if isKeyB d = true then .ok (.ref h2.length) (h2 ++ [.dct [(d, y)]]) else .no
  | .ref _ => .no
section
variable {X : Cx} {W : WK} {G F : Hp} {ι : Nat → Addr} {h : Hs} {H : Hp} {pins : List (Addr × Obj)} {σ : L2.St} {s : Shared} {pos : Pos} {a b : Expr} {ma mb : Ev}
theorem dictP_new (hb : sysModules < s.heap.objs.size) : dictP s.heap.objs.size [] (s.heap.push { cls := .type "dict", data := .dict #[] }) :=
  ⟨beq_eq_false_iff_ne.mpr (Nat.ne_of_gt hb), _, #[], 0, Heap.get?_push_size _ rfl, ⟨rfl, rfl, rfl⟩, rfl, .nil⟩
theorem laid_new (I : Inv X pins σ H s) : Inv X pins σ (upd H s.heap.objs.size (.ext (dictP s.heap.objs.size []))) { s with heap := s.heap.push { cls := .type "dict", data := .dict #[] } } :=
  I.laid (a := s.heap.objs.size) (o := .ext (dictP s.heap.objs.size [])) (t' := s.toks) (fun _ _ q => Heap.get?_push_of_some _ q) (Nat.le_refl _)
    ⟨dictP_new I.big, ⟨_, Heap.get?_push_size _ rfl⟩, fun h1 h2 p k => dictP_stays p k⟩
theorem upd_keep {G : Hp} {D : Addr} {z : HO} (g : G D = none) {b : Addr} {o : HO} (e : G b = some o) : upd G D z b = some o := by
  rw [upd_ne fun q => by rw [q, g] at e; cases e]; exact e
theorem je_newD : JE X W (.Dict [] [] pos) eNewD := ⟨fun pins s σ H Q I t => by
  obtain ⟨G, F, ι, ρ, h, R, S, D⟩ := t
  exact wpAny_Dict_empty ⟨.ref s.heap.objs.size, _, laid_new I, rfl, fin_newD (L := []) R D (I.hok.fresh (Nat.le_refl _)) (Nat.zero_le _) .nil⟩⟩
theorem ext_at {a : Addr} {o : HO} {F' : Hp} {ι' : Nat → Addr} {h' : Hs} {H' : Hp} {C : Cst} (R : Rel C (upd G a o) F' ι' h' H') : H' a = some o := R.g a o upd_same
theorem je_disp (K : Ctx X W) (ha : JE X W a ma) (hb : JE X W b mb) : JE X W (.Dict [some a] [b] pos) (eDisp ma mb) := ⟨fun pins s σ H Q I t => by
  obtain ⟨G, F, ι, ρ, h, R, S, D⟩ := t
  have hfr := I.hok.fresh (Nat.le_refl s.heap.objs.size)
  have ap : Apart G F ι h s.heap.objs.size := ⟨R.freeG hfr, R.freeF hfr, fun i c e l => R.ne e l hfr⟩
  have I1 := laid_new I
  have R1 : Rel (cst X W) (upd G s.heap.objs.size (.ext (dictP s.heap.objs.size []))) F ι h (upd H s.heap.objs.size (.ext (dictP s.heap.objs.size []))) := (R.updD ap (.none hfr)).withD ap upd_same (.dct upd_same)
  have hu := K.hu
  rw [arm_eval_Dict, zip_pairTrees [some a] [b] X.env pos rfl rfl, dictDisplay_pairs (pairTrees [some a] [b] X.env pos) (by simp [pairTrees]) (by simp [pairTrees])]
  refine wpAny_bind (wpAny_standAt (wpAny_bind (wpAny_subDictH (knd := nestedKind X.prog X.w) (Q := fun d s' => wpAny (model X.prog X.w) X.A (pure (Value.ref d)) (EP X pins σ Q) X.xe s') (show X.A.units + 8 < cLine by omega) (by simp [pairTrees]) ?_)))
  refine thn ((pps_cons ha hb pps_nil).run pins _ σ _ (fun ps H' => ∃ x y d w F' ι' h', ps = [(x, y)] ∧ Rel (cst X W) (upd G s.heap.objs.size (.ext (dictP s.heap.objs.size []))) F' ι' h' H' ∧ Ext G F ι h.length F' ι' ∧ h.length ≤ h'.length ∧ F' s.heap.objs.size = none ∧ RV (cst X W) ι' F' h'.length x (.im d) ∧ RV (cst X W) ι' F' h'.length y w ∧ isKeyB d = true ∧
    Done (repV (cst X W)) (cst X W) W G F' ι' h'.length (.ok (.ref h'.length) (h' ++ [.dct [(d, w)]])) Q) I1 ?_) ?_
  · -- the key and the value are read
    refine ⟨_, F, ι, ρ, h, R1, S, ?_⟩
    unfold eDisp at D
    cases e1 : ma ρ h with
    | no => rw [e1] at D; exact D.elim
    | er c => rw [e1] at D; exact fun H' k => D H' fun b o e => k b o (upd_keep ap.g e)
    | ok v h1 =>
      rw [e1] at D
      intro F1 ι1 H1 x R2 E1 l1 V1
      have D1 := Done.mono D E1.lessD l1
      refine ⟨_, F1, ι1, ρ, h1, R2, S.mono E1.le E1.ag l1, ?_⟩
      simp only [bind_ok] at D1
      cases e2 : mb ρ h1 with
      | no => rw [e2] at D1; exact D1.elim
      | er c => rw [e2] at D1; exact fun H' k => D1 H' fun b o e => k b o (upd_keep ap.g e)
      | ok u h2 =>
        rw [e2] at D1
        intro F2 ι2 H2 y R3 E2 l2 V2
        have D2 := Done.mono D1 E2.lessD l2
        simp only [bind_ok] at D2
        have V1' : RV (cst X W) ι2 F2 h2.length x v := RV.mono V1 E2.le E2.ag l2
        cases v with
        | ref k => exact D2.elim
        | im d =>
          simp only at D2
          split at D2
          · rename_i kb
            refine ⟨x, y, d, u, F2, ι2, h2, rfl, R3, (E1.lessD.trans E2.lessD l1), Nat.le_trans l1 l2, ?_, V1', V2, kb, D2⟩
            have hG : (upd G s.heap.objs.size (.ext (dictP s.heap.objs.size []))) s.heap.objs.size ≠ none := by rw [upd_same]; exact fun z => nomatch z
            rw [E2.out _ hG, E1.out _ hG]; exact ap.f
          · exact D2.elim
  · rintro vs s1 ⟨ps, H1, I2, rel, x, y, d, w, F', ι', h', rfl, R2, E, ln, fD, V1, V2, kb, D'⟩
    cases rel with
    | @cons p q _ _ r1 r2 =>
      cases r2
      obtain ⟨q1, q2⟩ := q
      obtain ⟨rk, rv⟩ := r1
      have R3 := R2.lessD ap.g
      obtain ⟨ad, k, eu, ek, ki, zd⟩ := key_is I2 R3 V1 rk kb
      have eu' : q1 = .ref ad := eu
      subst eu'
      obtain ⟨⟨_, o, es, ep, ho, hx, hd, pe⟩, _⟩ := I2.hok _ _ (ext_at R2)
      have pe' : es.toList = [] := by
        have := Paired.length pe
        exact List.eq_nil_of_length_eq_zero this.symm
      have dd0 : s1.heap.DictOfH (nestedKind X.prog X.w) s.heap.objs.size [] := ⟨o, es, ep, ho, hx, hd, by rw [pe']; rfl, (fun _ z => by cases z), .nil⟩
      refine ⟨[(k, ad, q2)], ⟨rfl, rfl, ki, trivial⟩, dd0, fun h2 tk dd sb => wpAny_pure ?_⟩
      have PP : Paired (EnR X W ι' F' h'.length) (storedAllH [] [(k, ad, q2)]) [(d, w)] := by
        have : storedAllH ([] : List (NestedKey × Addr × Value)) [(k, ad, q2)] = [(k, ad, q2)] := rfl
        rw [this]
        exact .cons ⟨ek, zd, y, V2, rv⟩ .nil
      obtain ⟨L, l1, l2, l3⟩ := lay_ents PP
      obtain ⟨o', es', ep', ho', hx', hd', he', _, _⟩ := dd
      have low : (s.heap.objs.size == sysModules) = false := beq_eq_false_iff_ne.mpr (Nat.ne_of_gt I.big)
      have dp : dictP s.heap.objs.size L h2 := ⟨low, o', es', ep', ho', hx', hd', by rw [he']; exact l2⟩
      have ap' : Apart G F' ι' h' s.heap.objs.size := ⟨ap.g, fD, R2.apartD⟩
      refine ⟨.ref s.heap.objs.size, upd H1 s.heap.objs.size (.ext (dictP s.heap.objs.size L)), I2.write (e := s.heap.objs.size) (t' := tk) (by rw [ext_at R2]; trivial) (.inl rfl) (fun b u hb q => (sb.2 b hb).trans q) ⟨o', ho'⟩ ⟨dp, ⟨o', ho'⟩, fun h1 h2 p k => dictP_stays p k⟩, rfl, ?_⟩
      -- the dict becomes a cell
      have R4 := R3.updD (o := .ext (dictP s.heap.objs.size L)) ap' (.dct (ext_at R2))
      have old : ∀ {i : Nat} {c' : Cell}, h'[i]? = some c' → putI ι' h'.length s.heap.objs.size i = ι' i := fun e => putI_lt (List.getElem?_eq_some_iff.mp e).1
      have R5 : Rel (cst X W) G F' (putI ι' h'.length s.heap.objs.size) (h' ++ [.dct [(d, w)]]) (upd H1 s.heap.objs.size (.ext (dictP s.heap.objs.size L))) := by
        refine ⟨R4.g, R4.f, fun i j c1 c2 e1 e2 l1 l2 z => ?_, fun i c1 e1 l1 => ?_, fun i c1 e1 l1 => ?_, fun i c1 e1 => ?_, R4.tb, R4.ng, R4.nf⟩
        · rcases get_snoc e1 with ⟨h1, e1⟩ | ⟨h1, e1⟩
          · rcases get_snoc e2 with ⟨h2, e2⟩ | ⟨h2, e2⟩
            · rw [old e1, old e2] at z
              exact R4.inj i j c1 c2 e1 e2 l1 l2 z
            · rw [old e1, h2, putI_same] at z
              exact (ap'.l i c1 e1 l1 z).elim
          · rcases get_snoc e2 with ⟨h2, e2⟩ | ⟨h2, e2⟩
            · rw [old e2, h1, putI_same] at z
              exact (ap'.l j c2 e2 l2 z.symm).elim
            · rw [h1, h2]
        · rcases get_snoc e1 with ⟨h1, e1⟩ | ⟨h1, e1⟩
          · rw [old e1]; exact R4.gl i c1 e1 l1
          · rw [h1, putI_same]; exact ap'.g
        · rcases get_snoc e1 with ⟨h1, e1⟩ | ⟨h1, e1⟩
          · rw [old e1]; exact R4.fl i c1 e1 l1
          · rw [h1, putI_same]; exact ap'.f
        · rw [List.length_append, List.length_singleton]
          rcases get_snoc e1 with ⟨h1, e1⟩ | ⟨h1, e1⟩
          · rw [old e1]
            exact CellR.mono (R4.cell i c1 e1) (fun _ _ z => z) (fun j hj => putI_lt hj) (Nat.le_succ _)
          · rw [h1, putI_same, ← e1]
            refine ⟨L, upd_same, ?_, Paired.mapP l3 fun _ _ z => ⟨z.1, z.2.1.mono (fun _ _ q => q) (fun i hi => putI_lt hi) (Nat.le_succ _), z.2.2⟩⟩
            have hl : L.length = 1 := l1
            rw [hl, SZ_eq]; decide
      refine D' F' _ _ _ R5 ⟨fun _ _ q => q, fun i hi => putI_lt hi, fun _ _ => rfl⟩ (by simp) ?_
      have z : RV (cst X W) (putI ι' h'.length s.heap.objs.size) F' (h' ++ [Cell.dct [(d, w)]]).length (.ref (putI ι' h'.length s.heap.objs.size h'.length)) (.ref h'.length) := .ref (by simp)
      rw [putI_same] at z
      exact z⟩
theorem o_notInD (K : Ctx X W) : OpR X (compareOp .NotIn) (rOf2 (cst X W) W (vInD true)) := by
  intro pins s σ H x y v u Q I rx ry t
  obtain ⟨G, F, ι, h, v1, u1, R, V1, V2, D⟩ := t
  unfold vInD at D
  split at D
  · rename_i d j
    split at D
    · rename_i w kvs hc
      split at D
      · rename_i hh
        rw [Bool.and_eq_true] at hh
        obtain ⟨a, k, rfl, ek, ki, _⟩ := key_is I R V1 rx hh.2
        obtain ⟨xs, low, dd, hz, P⟩ := R.dict I hc hh.1
        cases V2 with
        | ref hj =>
          obtain rfl : u = .ref (ι j) := ry
          have hu := K.hu
          have e2 : (atKey xs k).isSome = (dlook kvs d).isSome := by
            rcases look_of ek P with ⟨l1, l2⟩ | ⟨p, v, w, l1, l2, _, _⟩
            · rw [l1, l2]; rfl
            · rw [l1, l2]; rfl
          show wpAny _ _ (do return Value.bool (!(← contains (.ref (ι j)) (.ref a)))) _ _ s
          refine wpAny_bind (wpAny_contains_heap (knd := nestedKind X.prog X.w) (show X.A.units + 1 + 8 < cLine by omega) ki low dd (wpAny_pure ?_))
          rw [e2]
          rw [Bool.true_xor] at D
          exact ⟨.bl _, H, I.tok _, rfl, fin_im R D (.bl _)⟩
      · exact D.elim
    · exact D.elim
  · exact D.elim
def mGetD (v : Val) (us : List Val) (h : Hs) : Res Val := match v, us with
  | .ref j, [.im d] => match h[j]? with
    | some (.dct kvs) => if (keysB kvs && isKeyB d) = true then (match dlook kvs d with
      | some w => .ok w h
      | none => .ok (.im .none) h) else .no
    | _ => .no
  | _, _ => .no
theorem o_getD (K : Ctx X W) : MtR X "dict.get" (rOfM (cst X W) W mGetD) := by
  intro pins s σ H x xs v us Q I rx rxs t
  obtain ⟨G, F, ι, h, u1, v1, R, V1, V2, D⟩ := t
  unfold mGetD at D
  split at D
  · rename_i j d
    split at D
    · rename_i w kvs hc
      split at D
      · rename_i hh
        rw [Bool.and_eq_true] at hh
        cases V2 with
        | cons va vb =>
          cases vb
          obtain ⟨u, rfl, ru⟩ := vals1 rxs
          obtain ⟨a, k, rfl, ek, ki, _⟩ := key_is I R va ru hh.2
          obtain ⟨es, low, dd, hz, P⟩ := R.dict I hc hh.1
          cases V1 with
          | ref hj =>
            obtain rfl : v = .ref (ι j) := rx
            have hu := K.hu
            refine get_keyed (knd := nestedKind X.prog X.w) (show X.A.units + 1 + 8 < cLine by omega) ki low ⟨es, dd, rfl⟩ ?_
            rw [valueAt_pairsH]
            rcases look_of ek P with ⟨l1, l2⟩ | ⟨p, v', w2, l1, l2, l3, l4⟩
            · rw [l2]
              rw [l1] at D
              exact ⟨.non, H, I.tok _, rfl, fin_im R D .non⟩
            · rw [l1]
              rw [l2] at D
              exact ⟨v', H, I.tok _, l4, D F ι H v' R Ext.refl (Nat.le_refl _) l3⟩
      · exact D.elim
    · exact D.elim
  · exact D.elim
end
end NT

set_option Elab.async false
set_option linter.all false
set_option maxRecDepth 100000
set_option autoImplicit false

namespace NT
open PySem PySem.Spec PyProof.Rows L2 PySem.W
def wNewD : VM VV := fun σ => .ok (.dct []) σ
@[simp] theorem r_newD (σ : VE) : wNewD σ = .ok (.dct []) σ := rfl
theorem sv_newD : SimE true eNewD wNewD := fun fr ρ h σ S => ⟨_, _, rfl, by simp, S.grow _, .new rfl (by simp [VV.cell]) (Nat.le_refl _)⟩
def dispA (D E : VV) (σ : VE) : VR VV := match D, E with
  | .im d, .im v => if isKeyB d = true then .ok (.dct [(d, v)]) σ else .no
  | _, _ => .no
def wDisp (a b : VM VV) : VM VV := fun σ => (a σ).bind fun d σ1 => (b σ1).bind fun v σ2 => dispA d v σ2
@[simp] theorem r_disp (a b : VM VV) (σ : VE) : wDisp a b σ = (a σ).bind fun d σ1 => (b σ1).bind fun v σ2 => dispA d v σ2 := rfl
@[simp] theorem dispA_im (d v : PyData) (σ : VE) : dispA (.im d) (.im v) σ = if isKeyB d = true then .ok (.dct [(d, v)]) σ else .no := rfl
theorem sv_disp {b b' : Bool} {a c : Ev} {va vc : VM VV} (ha : SimE b a va) (hc : SimE b' c vc) : SimE true (eDisp a c) (wDisp va vc) := fun fr ρ h σ S =>
  sv_bind ha S fun x d h1 σ1 l1 S1 r => sv_two hc S1 S.bl l1 r fun y e h2 σ2 l2 l12 S2 r2 kp => by
    cases d with
    | lst _ => trivial
    | dct _ => trivial
    | im d =>
      cases e with
      | lst _ => trivial
      | dct _ => trivial
      | im v =>
        have := res_im r
        subst this
        have := res_im r2
        subst this
        refine out_if fun hk => ?_
        exact ⟨.ref h2.length, h2 ++ [.dct [(d, .im v)]], by simp only [hk, if_true], by rw [List.length_append]; omega, S2.grow _, .new rfl (by simp [VV.cell, dval]) l2⟩
def gGetD : WMe := fun d us => match d, us with
  | .dct l, [.im d] => if (keysW l && isKeyB d) = true then some ((wlook l d).getD .none, .dct l) else none
  | _, _ => none
theorem set_self {α : Type} : ∀ {l : List α} {k : Nat} {a : α}, l[k]? = some a → l.set k a = l
  | [], _, _, e => by cases e
  | _ :: _, 0, _, e => by simp at e; subst e; rfl
  | _ :: l, k + 1, _, e => by rw [List.set_cons_succ, set_self (l := l) (k := k) (by simpa using e)]
theorem om_getD : OpM mGetD gGetD := fun h k d us ds q d' e m p z => by
  unfold gGetD at z
  split at z
  · rename_i l a
    split at z
    · rename_i hc
      cases z
      cases p with
      | cons a b =>
        cases b
        have := rd_im a; subst this
        rw [set_self e]
        simp only [mGetD, show h[k]? = some (.dct (l.map dval)) from e, keys_dval, hc, if_true, look_dval]
        cases wlook l _ <;> rfl
    · cases z
  · cases z
/-- f(..).get(k) -/
def getA (D : VV) (us : List VV) (σ : VE) : VR VV := match gGetD D us with
  | some (q, _) => .ok (.im q) σ
  | none => .no
def wGetT (a : VM VV) (r : VM (List VV)) : VM VV := fun σ => (a σ).bind fun d σ1 => if isDW d = true then (r σ1).bind fun us σ2 => getA d us σ2 else .no
@[simp] theorem r_getT (a : VM VV) (r : VM (List VV)) (σ : VE) : wGetT a r σ = (a σ).bind fun d σ1 => if isDW d = true then (r σ1).bind fun us σ2 => getA d us σ2 else .no := rfl
theorem sv_getT {a : Ev} {va : VM VV} {r : M (List Val)} {vr : VM (List VV)} {wb : List (Option Nat)} (ha : SimE true a va) (hr : SimL wb r vr) : SimE true (eM isDct a r mGetD) (wGetT va vr) := fun fr ρ h σ S => by
  refine sv_bind ha S fun x d h1 σ1 l1 S1 q => ?_
  refine out_if fun hd => ?_
  cases d with
  | im _ => cases hd
  | lst _ => cases hd
  | dct l =>
    obtain ⟨fr', hf, S1', keep⟩ := keepN S1 S.bl q
    obtain ⟨k, rfl, ek⟩ := res_ref q rfl
    have ty := ty_isD h1 k (.dct l) ek rfl rfl
    simp only [ty, if_true]
    refine Out.mp (fr' := fr') (n := h.length) (R := ResV true) ?_ hf (Nat.le_refl _) fun _ _ _ _ r => r
    have z := hr fr' ρ h1 σ1 S1'
    cases e : vr σ1 with
    | no => trivial
    | er c => rw [e] at z; rw [show r ρ h1 = _ from z]; rfl
    | ok us σ2 =>
      rw [e] at z
      obtain ⟨xs, h2, e2, l2, S2, q2⟩ := z
      rw [e2]
      simp only [bind_ok, vbind_ok]
      obtain ⟨k', ek1, ek2⟩ := res_ref (keep h2 σ2 S2) rfl
      cases ek1
      unfold getA
      cases eg : gGetD (.dct l) us with
      | none => trivial
      | some p =>
        obtain ⟨w, d2⟩ := p
        have o := om_getD h2 k (.dct l) xs us w d2 ek2 rfl q2.1.rd eg
        have e3 : d2 = .dct l := by
          unfold gGetD at eg
          split at eg
          · rename_i q1
            split at eg
            · cases eg; exact q1.symm ▸ rfl
            · cases eg
          · cases eg
        rw [e3, set_self ek2] at o
        exact ⟨_, h2, o, Nat.le_trans l1 l2, S2, .im _⟩
end NT

set_option Elab.async false
set_option linter.all false
set_option maxRecDepth 100000
set_option autoImplicit false

namespace NT
open PySem PySem.Spec PyProof.Rows L2 PySem.W

/-! ### a module's tuple of ints -/
inductive IntsV : List Value → List Int → Prop
  | nil : IntsV [] []
  | cons {i : Int} {t : Tok} {us : List Value} {is : List Int} : IntsV us is → IntsV (.int i t :: us) (i :: is)
theorem IntsV.vals {us : List Value} {is : List Int} (z : IntsV us is) : Vals (is.map V.int) us := by
  induction z with
  | nil => exact .nil
  | cons z ih => exact .cons ⟨_, rfl⟩ ih
def TupG (K : PySem.W.Frag) (mg : Str → Option Value) (x : Str) (is : List Int) : Prop := ∃ A o its n, mg x = some (.ref A) ∧ K.lookup A = some o ∧ o.cls = .type "tuple" ∧ o.data = .seq its n ∧ its.size ≤ sizeLine ∧ IntsV its.toList is
section
variable {X : Cx} {W : WK} {x : Str} {pos : Pos} {is : List Int}
theorem je_globT (hm : TupG X.K X.mg x is) (hg : Gl X x) (hd : (x == ("__debug__" : Str)) = false := by decide) : JE X W (.Name x pos) (eC (.tuple (is.map .int))) := by
  obtain ⟨A, o, its, n, hm, hl, hc, hda, hz, hv⟩ := hm
  refine PE.imp (pe_glob (v := .ref A) hg hm rfl hd) fun σ H Q h => ?_
  obtain ⟨G, F, ι, ρ, h, R, S, D⟩ := h
  exact fin_im R D (.tup (.inr ⟨o, its, n, hl, hc, hda, hz, hv.vals⟩) (dp_ints is))
end

/-! ### list(x), x a list or tuple -/
def fList (us : List Val) (h : Hs) : Res Val := match us with
  | [v] => match itemsOf h v with
    | some vs => .ok (.ref h.length) (h ++ [.lst vs])
    | none => .no
  | _ => .no
section
variable {X : Cx} {W : WK}
theorem o_list : CallR X (.type "list") (rOfL (cst X W) W fList) := CallR.imp call_list_of fun xs H Q t => by
  obtain ⟨G, F, ι, h, v, R, V, D⟩ := t
  unfold fList at D
  split at D
  · rename_i v
    cases V with
    | cons a b =>
      cases b
      split at D
      · rename_i vs e
        obtain ⟨p, ys, rfl, s, P⟩ := R.items a e
        exact ⟨p, ys, rfl, s, fun l hl => fin_newL R D P l hl⟩
      · exact D.elim
  · exact D.elim
end

/-! ### x[::-1] -/
def vRev (v : Val) (h : Hs) : Res Val := match v with
  | .im (.tuple ds) => .ok (.im (.tuple ds.reverse)) h
  | v => match lstOf h v with
    | some vs => .ok (.ref h.length) (h ++ [.lst vs.reverse])
    | none => .no
section
variable {prog : Program} {w : World} {A : Around} {E : Value → Shared → Prop} {s : Shared}
theorem places_rev (n : Nat) : Builtin.Slice.slicePlaces ((n : Int) - 1) (-1) (-1) = n := by
  unfold Builtin.Slice.slicePlaces
  rw [if_neg (by decide)]
  by_cases h : (n : Int) - 1 > -1
  · rw [if_pos h, show (-(-1 : Int)) = 1 from rfl, Int.ediv_one]; omega
  · rw [if_neg h]; omega
theorem fm_some {α β : Type} {f : α → Option β} {g : α → β} : ∀ (l : List α), (∀ k ∈ l, f k = some (g k)) → l.filterMap f = l.map g
  | [], _ => rfl
  | a :: l, h => by
    rw [List.filterMap_cons_some (h a List.mem_cons_self), fm_some l fun k hk => h k (List.mem_cons_of_mem _ hk)]
    rfl
theorem pick_rev (xs : Array Value) : ((List.range xs.size).filterMap fun (m : Nat) => xs[((((xs.size : Nat) : Int) - 1) + (m : Int) * -1).toNat]?).toArray = xs.toList.reverse.toArray := by
  congr 1
  obtain ⟨l⟩ := xs
  simp only [List.size_toArray, List.getElem?_toArray]
  apply List.ext_getElem?
  intro m
  have e : (List.range l.length).filterMap (fun (m : Nat) => l[((((l.length : Nat) : Int) - 1) + (m : Int) * -1).toNat]?) = (List.range l.length).map fun m => l.reverse.getD m default := by
    refine fm_some _ fun k hk => ?_
    have hk := List.mem_range.mp hk
    have h1 : ((((l.length : Nat) : Int) - 1) + (k : Int) * -1).toNat = l.length - 1 - k := by omega
    rw [h1, List.getD_eq_getElem?_getD, List.getElem?_reverse hk, List.getElem?_eq_getElem (by omega)]
    try rfl
  rw [e]
  by_cases hm : m < l.length
  · rw [List.getElem?_map, List.getElem?_range hm, List.getElem?_eq_getElem (by simpa using hm)]
    simp [hm]
  · rw [List.getElem?_eq_none (by simpa using hm), List.getElem?_eq_none (by simpa using hm)]
theorem sliceApplied_rev {sl : Addr} {vl vu vs : Value} {n : Nat} {Q : Int × Int × Nat → Shared → Prop} (hs : s.heap.IsSliceOf sl vl vu vs) (pl : IsPart vl none) (pu : IsPart vu none) (ps : IsPart vs (some (-1)))
    (h : Q ((n : Int) - 1, -1, n) s) : wpAny (model prog w) A (Builtin.Slice.sliceApplied (.ref sl) (pure (n : Int))) Q E s := by
  obtain ⟨os, hos, hcs, hds⟩ := id hs
  unfold Builtin.Slice.sliceApplied Builtin.Slice.sliceFields
  refine wpAny_bind (wpAny_bind (wpAny_field hos hds (x := vl) rfl (wpAny_bind (wpAny_field hos hds (x := vu) rfl (wpAny_bind (wpAny_field hos hds (x := vs) rfl (wpAny_pure ?_)))))))
  refine wpAny_bind (HT.slicePart_ ps ?_)
  show wpAny _ _ (if ((-1 : Int) == 0) = true then _ else _) _ _ s
  rw [if_neg (by decide)]
  refine wpAny_bind (HT.slicePart_ pl (wpAny_bind (HT.slicePart_ pu (wpAny_bind (wpAny_pure ?_)))))
  show wpAny _ _ (pure ((n : Int) - 1, (-1 : Int), Builtin.Slice.slicePlaces ((n : Int) - 1) (-1) (-1))) _ _ s
  rw [places_rev]
  exact wpAny_pure h
theorem getItem_tuple_rev {t sl : Addr} {items : Array Value} {vl vu vs : Value} {Q : Value → Shared → Prop} (ht : IsTup s.heap t items) (hs : s.heap.IsSliceOf sl vl vu vs) (pl : IsPart vl none) (pu : IsPart vu none) (ps : IsPart vs (some (-1)))
    (h : Q (.ref s.heap.objs.size) { s with heap := s.heap.push { cls := .type "tuple", data := .seq items.toList.reverse.toArray } })
    (hsz : items.size ≤ sizeLine) : wpAny (model prog w) A (getItem (.ref t) (.ref sl)) Q E s := by
  have htake : sizeOk (.seq items.toList.reverse.toArray) := by
    show items.toList.reverse.toArray.size ≤ sizeLine
    rw [List.size_toArray, List.length_reverse, Array.length_toList]
    exact hsz
  obtain ⟨os, hos, hcs, hds⟩ := id hs
  have hTs : s.TypeIs (.ref sl) "slice" := ⟨os, hos, hcs⟩
  unfold getItem
  try with_reducible refine wpAny_holding ?_
  first | refine wpAny_bind (wpAny_pure ?_) | skip
  refine wpAny_bind (wpAny_sequenceKey ht.typeIs (by decide) ?_)
  refine wpAny_bind (wpAny_callSpecial?_slot (name := Str.ofString "__getitem__") ht.typeIs PyProof.Rows.slot_tuple_getitem
    (wpAny_call_entry PyProof.Rows.slot_tuple_getitem ht.typeIs PyProof.Rows.entry_tuple_getitem ?_ (PyProof.Rows.args_tuple_getitem _ _)))
  show wpAny _ _ (Builtin.Tuple.tupleItemsOf (.ref t) >>= _) _ _ s
  refine wpAny_bind (PyProof.Rows.tupleItemsOf_ ht ?_)
  refine wpAny_bind (wpAny_typeOf hTs ?_)
  rw [if_pos (by decide)]
  refine wpAny_bind (sliceApplied_rev hs pl pu ps ?_)
  have hno : ¬ ((((items.size : Int) - 1) == 0 && (-1 : Int) == 1 && items.size == items.size) = true) := by
    rw [show ((-1 : Int) == 1) = false from by decide, Bool.and_false, Bool.false_and]
    exact Bool.false_ne_true
  show wpAny _ _ (if (((items.size : Int) - 1) == 0 && (-1 : Int) == 1 && items.size == items.size) = true then _ else _) _ _ s
  rw [if_neg hno, pick_rev]
  first
    | exact wpAny_bind (m := Builtin.Tuple.tupleExact _) (wpAny_newObj_type (wpAny_pure ⟨_, rfl, wpAny_pure h⟩) htake)
    | exact wpAny_bind (m := Builtin.Tuple.tupleExact _) (wpAny_newObj_type (wpAny_bind (wpAny_pure (wpAny_pure ⟨_, rfl, wpAny_pure h⟩))) htake)
    | exact wpAny_bind (wpAny_bind (m := Builtin.Tuple.tupleExact _) (wpAny_newObj_type (wpAny_pure (wpAny_pure ⟨_, rfl, wpAny_pure h⟩)) htake))
    | exact wpAny_bind (wpAny_bind (m := Builtin.Tuple.tupleExact _) (wpAny_newObj_type (wpAny_pure ⟨_, rfl, wpAny_pure h⟩) htake))
end
section
variable {X : Cx} {W : WK}
def tRevA (K : PySem.W.Frag) (te : TE) : TE := fun σ H Q => te σ H fun x H1 => ∃ a xs, x = .ref a ∧ ((SqL K H1 a xs ∧ ∀ p, H1 p = none → Q (.ref p) (upd H1 p (.lst xs.reverse))) ∨ (SqT K H1 a xs ∧ ∀ p, H1 p = none → Q (.ref p) (upd H1 p (.tup xs.reverse))))
theorem pe_revA {e : Expr} {te : TE} {k : Nat} {p1 p2 p3 pos : Pos} (he : PE X e te) : PE X (.Subscript e (.Slice none none (some (.UnaryOp .USub (.Constant (.int 1) k p1) p2)) p3) pos) (tRevA X.K te) := by
  refine ⟨fun pins s σ H Q I h => ?_⟩
  refine Subscript_ (thn (he.run pins s σ H _ I h) fun v s1 ⟨x, H1, I1, r1, q1⟩ => ?_)
  obtain ⟨a, xs, ex, q⟩ := q1
  subst ex
  cases r1
  have hst : PO X (some (.UnaryOp .USub (.Constant (.int 1) k p1) p2)) (tPart (tUn (rU fun i => .int (-i)) (tC (.int 1)))) := po_some (pe_un un_neg pe_int)
  refine wpAny_Slice (thn (po_none.run pins s1 σ H1 (fun o H2 => o = none ∧ H2 = H1) I1 ⟨rfl, rfl⟩) fun vl s2 ⟨l, H2, I2, pl, el, e2⟩ => ?_)
  subst el e2
  refine thn (po_none.run pins s2 σ H2 (fun o H3 => o = none ∧ H3 = H2) I2 ⟨rfl, rfl⟩) fun vu s3 ⟨u, H3, I3, pu, eu, e3⟩ => ?_
  subst eu e3
  refine thn (hst.run pins s3 σ H3 (fun o H4 => o = some (-1) ∧ H4 = H3) I3 ⟨1, rfl, -1, rfl, rfl, rfl⟩) fun vs s4 ⟨o, H4, I4, ps, eo, e4⟩ => ?_
  subst eo e4
  have I5 : Inv X pins σ H4 { s4 with heap := s4.heap.push { cls := .type "slice", data := .fields #[vl, vu, vs] } } := I4.kept (t' := s4.toks) fun b ob q => Heap.get?_push_of_some _ q
  show wpAny (model X.prog X.w) X.A (subscriptTail e (.Slice none none (some (.UnaryOp .USub (.Constant (.int 1) k p1) p2)) p3) (.ref a) (.ref s4.heap.objs.size)) (EP X pins σ Q) X.xe { s4 with heap := s4.heap.push { cls := .type "slice", data := .fields #[vl, vu, vs] } }
  rcases q with ⟨hx, q⟩ | ⟨hx, q⟩
  · obtain ⟨its, r, ht, hz⟩ := I5.list hx
    have hlen := r.length
    refine tail_any (ops := [.ref a, .ref s4.heap.objs.size]) ht.isList.typeIs (PySem.slot_list_getitem.lookup) ?_ (by with_unfolding_all rfl)
    refine wpAny_getItem_list_slice ht.isList (Heap.IsSliceOf.new _ vl vu vs) pl pu ps (by decide) ?_ (by rw [List.size_toArray]; omega)
    rw [PySem.W.krv_pick]
    refine ⟨.ref _, _, I5.laid (t' := s4.toks) (o := .lst xs.reverse) (fun b ob q => Heap.get?_push_of_some _ q) (Nat.le_refl _) ?_, rfl, q _ (I5.hok.fresh (Nat.le_refl _))⟩
    exact ⟨by rw [List.length_reverse]; exact hz, _, 0, r.reverse, Heap.get?_push_size _ rfl⟩
  · obtain ⟨its, r, ht, hz⟩ := I5.tuple hx
    have hlen : its.toArray.size = xs.length := by rw [List.size_toArray]; exact r.length.symm
    refine tail_any (ops := [.ref a, .ref s4.heap.objs.size]) ht.typeIs (PyProof.Rows.slot_tuple_getitem.lookup) ?_ (by with_unfolding_all rfl)
    refine getItem_tuple_rev ht (Heap.IsSliceOf.new _ vl vu vs) pl pu ps ?_ (by rw [hlen]; exact hz)
    refine ⟨.ref _, _, I5.laid (t' := s4.toks) (o := .tup xs.reverse) (fun b ob q => Heap.get?_push_of_some _ q) (Nat.le_refl _) ?_, rfl, q _ (I5.hok.fresh (Nat.le_refl _))⟩
    exact ⟨by rw [List.length_reverse]; exact hz, _, r.reverse, IsTup.new _ _⟩
theorem dp_rev {K : PySem.W.Frag} {F : Hp} {xs : List V} {ds : List PyData} (z : DpAll K F xs ds) : DpAll K F xs.reverse ds.reverse := by
  induction xs generalizing ds with
  | nil => cases z; exact .nil
  | cons x xs ih =>
    cases z with
    | cons a b =>
      rw [List.reverse_cons, List.reverse_cons]
      exact dpAll_app (ih b) (.cons a .nil)
theorem paired_app' {α β : Type} {P : α → β → Prop} : ∀ {xs : List α} {ys : List β} {us : List α} {vs : List β}, Paired P xs ys → Paired P us vs → Paired P (xs ++ us) (ys ++ vs)
  | _, _, _, _, .nil, q => q
  | _, _, _, _, .cons a b, q => .cons a (paired_app' b q)
theorem paired_rev {α β : Type} {P : α → β → Prop} : ∀ {xs : List α} {ys : List β}, Paired P xs ys → Paired P xs.reverse ys.reverse
  | _, _, .nil => .nil
  | _, _, .cons a b => by
    rw [List.reverse_cons, List.reverse_cons]
    exact paired_app' (paired_rev b) (.cons a .nil)
theorem je_rev {e : Expr} {me : Ev} {k : Nat} {p1 p2 p3 pos : Pos} (he : JE X W e me) : JE X W (.Subscript e (.Slice none none (some (.UnaryOp .USub (.Constant (.int 1) k p1) p2)) p3) pos) (e1 me vRev) := PE.imp (pe_revA he) fun σ H Q t => by
  obtain ⟨G, F, ι, ρ, h, R, S, D⟩ := t
  refine st1 R S D fun F1 ι1 h1 H1 x v R1 E1 l1 V1 D1 => ?_
  unfold vRev at D1
  split at D1
  · cases V1 with
    | im z =>
      cases z with
      | tup s p => exact ⟨_, _, rfl, .inr ⟨tupF R1.f s, fun q hq => fin_newT R1 D1 (dp_rev p) q hq⟩⟩
  · split at D1
    · rename_i vs e
      obtain ⟨a, xs, rfl, s, P⟩ := R1.lsts V1 e
      exact ⟨a, xs, rfl, .inl ⟨s, fun q hq => fin_newL R1 D1 (paired_rev P) q hq⟩⟩
    · exact D1.elim
end

/-! ### t.index(i), t a tuple of ints -/
def isT (v : Val) (_ : Hs) : Bool := match v with
  | .im (.tuple _) => true
  | _ => false
def dInts : List PyData → Option (List Int)
  | [] => some []
  | .int i :: r => (dInts r).map (i :: ·)
  | _ => none
def gIdx (d : PyData) (es : List PyData) : Option PyData := match d, es with
  | .tuple ds, [.int i] => (dInts ds).bind fun ns => if ns.contains i = true then some (.int (ns.idxOf i : Nat)) else none
  | _, _ => none
/-- a method that changes nothing, by data -/
def mP (g : PyData → List PyData → Option PyData) (v : Val) (vs : List Val) (h : Hs) : Res Val := match v, imsOf vs with
  | .im d, some es => match g d es with
    | some r => .ok (.im r) h
    | none => .no
  | _, _ => .no
section
variable {X : Cx} {W : WK}
theorem mt_tup_indexI : MtR X "tuple.index" (fun x xs H Q => ∃ p, ∃ ys : List Int, ∃ z j, x = .ref p ∧ xs = [.int z] ∧ SqT X.K H p (ys.map V.int) ∧ ys[j]? = some z ∧ (∀ m, m < j → ys[m]? ≠ some z) ∧ Q (.int (j : Nat)) H) := by
  intro pins s σ H x xs v us Q I rx rs h
  obtain ⟨p, ys, z, j, rfl, rfl, hq, hy, hno, q⟩ := h
  cases rx
  obtain ⟨u, rfl, t, rfl⟩ := vals1 rs
  obtain ⟨its, r, pl, hz⟩ := I.tuple hq
  obtain ⟨⟨cls, dd, dt, sl⟩, ho, hc, n, hd⟩ := pl
  simp only at hc hd
  subst hc
  subst hd
  have hl : its.toArray.size = ys.length := by rw [List.size_toArray, ← r.length, List.length_map]
  have hj : j < its.toArray.size := by rw [hl]; exact (List.getElem?_eq_some_iff.mp hy).1
  have at' : ∀ (m : Nat) (hm : m < its.toArray.size), ∃ y t', ys[m]? = some y ∧ its.toArray[m] = Value.int y t' := fun m hm => by
    have hm' : m < ys.length := by rw [← hl]; exact hm
    obtain ⟨w, hw, t', hw'⟩ := r.get (i := m) (x := .int ys[m]) (by simp [hm'])
    refine ⟨ys[m], t', List.getElem?_eq_getElem hm', ?_⟩
    have e := (List.getElem?_eq_some_iff.mp hw).2
    rw [← hw', ← e]
    simp
  have fl : (ys.map V.int).all flatV = true := by rw [List.all_map]; exact List.all_eq_true.mpr fun _ _ => rfl
  refine call_meets PySem.F.slot_tuple_index ⟨_, ho, rfl⟩ PySem.F.entry_tuple_index (PySem.F.args_tuple_index_2 _ _) (TI.tuple_indexAt p its.toArray n dd sl (.int z t) (eqU (.int z)) j hj ?_ ?_)
    ⟨ho, fun w hw => mem_eqAt (x := .int z) ⟨t, rfl⟩ rfl r fl w (by simpa using hw), ⟨.int (j : Nat), H, I.tok _, ⟨_, rfl⟩, q⟩⟩
  · obtain ⟨y, t', h1, h2⟩ := at' j hj
    rw [hy] at h1
    cases h1
    rw [h2]
    show (z == z) = true
    exact beq_self_eq_true z
  · intro m hm hmj
    obtain ⟨y, t', h1, h2⟩ := at' m hm
    rw [h2]
    show (y == z) = false
    exact beq_eq_false_iff_ne.mpr fun e => hno m hmj (e ▸ h1)
def tyT (K : PySem.W.Frag) : V → Hp → Prop := fun x H => ∃ a xs, x = .ref a ∧ SqT K H a xs
theorem dInts_dp {K : PySem.W.Frag} {F : Hp} : ∀ {ds : List PyData} {xs : List V} {ns : List Int}, DpAll K F xs ds → dInts ds = some ns → xs = ns.map V.int
  | [], _, _, z, e => by cases z; cases e; rfl
  | .int i :: r, _, ns, z, e => by
    cases z with
    | cons a b =>
      cases a
      simp only [dInts, Option.map_eq_some_iff] at e
      obtain ⟨ms, e1, rfl⟩ := e
      rw [dInts_dp b e1]
      rfl
  | .none :: _, _, _, _, e => by simp [dInts] at e
  | .bool _ :: _, _, _, _, e => by simp [dInts] at e
  | .str _ :: _, _, _, _, e => by simp [dInts] at e
  | .list _ :: _, _, _, _, e => by simp [dInts] at e
  | .tuple _ :: _, _, _, _, e => by simp [dInts] at e
  | .dict _ :: _, _, _, _, e => by simp [dInts] at e
theorem o_index : MtR X "tuple.index" (rOfM (cst X W) W (mP gIdx)) := MtR.imp mt_tup_indexI fun x xs H Q t => by
  obtain ⟨G, F, ι, h, u, v, R, V, VS, D⟩ := t
  unfold mP at D
  split at D
  · rename_i d es ei
    split at D
    · rename_i r er
      have es' := ims_of ei
      subst es'
      unfold gIdx at er
      split at er
      · rename_i ds i
        simp only [Option.bind_eq_some_iff] at er
        obtain ⟨ns, en, er⟩ := er
        split at er
        · rename_i hc
          cases er
          cases V with
          | im z =>
            cases z with
            | tup s p =>
              have e := dInts_dp p en
              subst e
              cases VS with
              | cons a b =>
                cases b
                cases a with
                | im z2 =>
                  cases z2
                  have hm : i ∈ ns := List.contains_iff_mem.mp hc
                  have hl : ns.idxOf i < ns.length := List.idxOf_lt_length_of_mem hm
                  refine ⟨_, ns, i, ns.idxOf i, rfl, rfl, tupF R.f s, ?_, fun m hm' e => ?_, fin_im R D (.int _)⟩
                  · rw [List.getElem?_eq_getElem hl, List.getElem_idxOf hl]
                  · have := List.not_of_lt_findIdx (p := (· == i)) (xs := ns) (i := m) hm'
                    obtain ⟨h1, h2⟩ := List.getElem?_eq_some_iff.mp e
                    rw [h2] at this
                    simp at this
        · cases er
      · cases er
    · exact D.elim
  · exact D.elim
end
end NT

set_option Elab.async false
set_option linter.all false
set_option maxRecDepth 100000
set_option autoImplicit false

namespace NT
open PySem PySem.Spec PyProof.Rows L2 PySem.W

/-! ### o[i], q[j] = e -/
def sPut2 (te mo1 mi1 mo2 mi2 : Ev) : SM := fun p ρ h => match te ρ h with
  | .ok (.im (.tuple [d1, d2])) h1 => sSeq (sPut mo1 mi1 (eC d1)) (sPut mo2 mi2 (eC d2)) p ρ h1
  | .er c => .er c
  | _ => .no
section
variable {X : Cx} {W : WK} {o i o2 i2 e : Expr} {mo mi mo2 mi2 te : Ev} {pos pos1 pos2 pos3 : Pos} {G F : Hp} {ι : Nat → Addr} {p : Nat} {h : Hs} {H : Hp} {σ : L2.St} {ρ : En} {x : V} {dd : PyData} {D : Ends}
theorem put_sub (R1 : Rel (cst X W) G F ι h H) (S : SR (cst X W) ι F h.length σ ρ) (V1 : RV (cst X W) ι F h.length x (.im dd)) (hp : p ≤ h.length) (d : DoneS (cst X W) W G F ι p (sPut mo mi (eC dd) p ρ h) D) :
    gSub (tOf (repV (cst X W)) (cst X W) W mo) (tOf (repV (cst X W)) (cst X W) W mi) rSetL x σ H D.nx := by
  refine ⟨G, F, ι, ρ, h, R1, S, ?_⟩
  simp only [sPut, eC] at d
  cases e2 : mo ρ h with
  | no => rw [e2] at d; exact d
  | er c => rw [e2] at d; exact d
  | ok ov h2 =>
    rw [e2] at d
    intro F2 ι2 H2 y R2 E2 l2 V2
    have S2 := S.mono E2.le E2.ag l2
    refine ⟨G, F2, ι2, ρ, h2, R2, S2, ?_⟩
    simp only at d
    cases e3 : mi ρ h2 with
    | no => rw [e3] at d; exact d
    | er c => rw [e3] at d; exact d
    | ok iv h3 =>
      rw [e3] at d
      intro F3 ι3 H3 z R3 E3 l3 V3
      simp only at d
      split at d
      · rename_i k i'
        split at d
        · rename_i vs hc
          split at d
          · rename_i j hj
            obtain ⟨ys, hH, P⟩ := R3.at_lst hc
            have V2' : RV (cst X W) ι2 F2 h2.length y (.ref k) := V2
            have V3' : RV (cst X W) ι3 F3 h3.length z (.im (.int i')) := V3
            have W1 := RV.mono (RV.mono V1 E2.le E2.ag l2) E3.le E3.ag l3
            have W2 := RV.mono V2' E3.le E3.ag l3
            cases W2 with
            | ref hk =>
              cases V3' with
              | im z3 =>
                cases z3
                refine ⟨_, ys, i', j, rfl, rfl, hH, by rw [Paired.length P]; exact hj, ?_⟩
                have R4 := R3.setL (xs := ys.set j x) hc (paired_set j P W1)
                have ll : h.length ≤ (h3.set k (.lst (vs.set j (.im dd)))).length := by rw [List.length_set]; omega
                refine d F3 ι3 _ σ (R4.trunc ll) ((E2.trans E3 l2).down hp) (Nat.le_trans hp (trunc_len ll)) ?_
                exact S.mono (fun b o e => E3.le _ _ (E2.le _ _ e)) (fun i hi => by rw [E3.ag i (by omega), E2.ag i hi]) (trunc_len ll)
          · exact d.elim
        · exact d.elim
      · exact d.elim
theorem put_nx {m : Ev} {r : RS} (e : sPut mo mi m p ρ h = r) : (∃ h', r = .nx ρ h') ∨ (∃ c, r = .er c) ∨ r = .no := by
  subst e
  unfold sPut
  split
  · split
    · split
      · split
        · split
          · split
            · exact .inl ⟨_, rfl⟩
            · exact .inr (.inr rfl)
          · exact .inr (.inr rfl)
        · exact .inr (.inr rfl)
      · exact .inr (.inl ⟨_, rfl⟩)
      · exact .inr (.inr rfl)
    · exact .inr (.inl ⟨_, rfl⟩)
    · exact .inr (.inr rfl)
  · exact .inr (.inl ⟨_, rfl⟩)
  · exact .inr (.inr rfl)
theorem js_put2 {k : Nat} (K : Ctx X W) (hg1 : PG X (.Subscript o i pos1) (gSub (tOf (repV (cst X W)) (cst X W) W mo) (tOf (repV (cst X W)) (cst X W) W mi) rSetL)) (hg2 : PG X (.Subscript o2 i2 pos2) (gSub (tOf (repV (cst X W)) (cst X W) W mo2) (tOf (repV (cst X W)) (cst X W) W mi2) rSetL)) (he : JE X W e te)
    (hc1 : (assignEach [.Subscript o i pos1, .Subscript o2 i2 pos2] X.env).map (·.2) = assign (.Subscript o i pos1) X.env :: (assignEach [.Subscript o2 i2 pos2] X.env).map (·.2) := by rfl)
    (hc2 : (assignEach [.Subscript o2 i2 pos2] X.env).map (·.2) = assign (.Subscript o2 i2 pos2) X.env :: (assignEach [] X.env).map (·.2) := by rfl)
    (hn : (assignEach [.Subscript o i pos1, .Subscript o2 i2 pos2] X.env).length = 2 := by rfl) (hst : (assignEach [.Subscript o i pos1, .Subscript o2 i2 pos2] X.env).findIdx? (·.1) = none := by rfl)
    (hs : swapsWithSole [.Tuple [.Subscript o i pos1, .Subscript o2 i2 pos2] k pos3] e pos.line X.env = pure false := by rfl) (hw : swappedStores [.Tuple [.Subscript o i pos1, .Subscript o2 i2 pos2] k pos3] e X.env = pure none := by rfl)
    (h1 : (assignEach [.Tuple [.Subscript o i pos1, .Subscript o2 i2 pos2] k pos3] X.env).map (·.2) = [assign (.Tuple [.Subscript o i pos1, .Subscript o2 i2 pos2] k pos3) X.env] := by rfl) :
    JS X W (.Assign [.Tuple [.Subscript o i pos1, .Subscript o2 i2 pos2] k pos3] e pos) (sPut2 te mo mi mo2 mi2) :=
  PS.imp (ps_asg he (pg_tup K.calm (pgs_cons hg1 (pgs_cons hg2 pgs_nil hc2) hc1) hn hst) hs hw h1) fun D σ H t => by
  obtain ⟨G, F, ι, p, ρ, h, R, S, hp, d⟩ := t
  unfold sPut2 at d
  refine ⟨G, F, ι, ρ, h, R, S, ?_⟩
  cases e1 : te ρ h with
  | no => rw [e1] at d; exact d
  | er c => rw [e1] at d; exact d
  | ok v h1 =>
    rw [e1] at d
    intro F1 ι1 H1 x R1 E1 l1 V1
    have S1 := S.mono E1.le E1.ag l1
    have V1' : RV (cst X W) ι1 F1 h1.length x v := V1
    split at d
    · rename_i d1 d2 hv q
      cases q
      cases V1' with
      | im z =>
        cases z with
        | tup s pz =>
          cases pz with
          | @cons x1 xs1 _ _ z1 pz =>
            cases pz with
            | @cons x2 xs2 _ _ z2 pz =>
              cases pz
              refine ⟨_, _, rfl, tupF R1.f s, rfl, _, _, rfl, ?_⟩
              have hp1 : p ≤ h1.length := Nat.le_trans hp l1
              have d' := DoneS.mono d (E1.down hp)
              let D' : Ends := { D with nx := fun σ' H' => gCons (gSub (tOf (repV (cst X W)) (cst X W) W mo2) (tOf (repV (cst X W)) (cst X W) W mi2) rSetL) gNil [x2] σ' H' D.nx }
              refine put_sub (D := D') (p := p) R1 S1 (.im z1) hp1 ?_
              unfold sSeq at d'
              rcases put_nx (m := eC d1) (mo := mo) (mi := mi) (p := p) (ρ := ρ) (h := h1) rfl with ⟨h', e⟩ | ⟨c, e⟩ | e
              · rw [e] at d' ⊢
                intro F' ι' H' σ' R' E' l' S'
                refine ⟨_, _, rfl, ?_⟩
                have V2 : RV (cst X W) ι' F' h'.length x2 (.im d2) := .im (Dp.le E'.le _ _ z2)
                have := put_sub (D := { D with nx := fun σ2 H2 => gNil [] σ2 H2 D.nx }) (p := p) R' S' V2 l' (mo := mo2) (mi := mi2) (W := W) ?_
                · exact this
                · have d2' := DoneS.mono d' E'
                  rcases put_nx (m := eC d2) (mo := mo2) (mi := mi2) (p := p) (ρ := ρ) (h := h') rfl with ⟨h3, e3⟩ | ⟨c, e3⟩ | e3
                  · simp only [e3] at d2' ⊢
                    intro F4 ι4 H4 σ4 R4 E4 l4 S4
                    exact ⟨rfl, d2' F4 ι4 H4 σ4 R4 E4 l4 S4⟩
                  · simp only [e3] at d2' ⊢
                    exact d2'
                  · simp only [e3] at d2'
                    exact d2'.elim
              · rw [e] at d' ⊢; exact d'
              · rw [e] at d'; exact d'.elim
    · rename_i q; cases q
    · exact d.elim
end
end NT

set_option Elab.async false
set_option linter.all false
set_option maxRecDepth 100000
set_option autoImplicit false

namespace NT
open PySem PySem.Spec PyProof.Rows L2 PySem.W
/-! ### list(x), x[::-1] -/
def wList1 (d : VV) : WO := match itemsW d with
  | some l => .ok (.lst l)
  | none => .no
def wList := one1 wList1
theorem op_wList : OpL fList wList := opl_one fun h x d r => by
  unfold wList1
  cases e : itemsW d with
  | none => trivial
  | some l =>
    have e1 := rd_items r e
    refine ops_ref rfl ?_
    simp only [fList, e1]
    rfl
def wRev (d : VV) : WO := match d with
  | .im (.tuple l) => .ok (.im (.tuple l.reverse))
  | d => match lstW d with
    | some l => .ok (.lst l.reverse)
    | none => .no
theorem op_wRev : Op1 vRev wRev := fun h x d r => by
  unfold wRev
  split
  · have := rd_im r; subst this; exact ops_im rfl
  · rename_i n1
    cases e : lstW d with
    | none => trivial
    | some l =>
      have e1 := rd_lst r e
      refine ops_ref rfl ?_
      unfold vRev
      split
      · exfalso; cases r with | im w => exact n1 _ rfl
      · simp only [e1, ← List.map_reverse]; rfl
/-! ### a method that changes nothing -/
def wPM (ty : PyData → Bool) (g : PyData → List PyData → Option PyData) (a : VM VV) (r : VM (List VV)) : VM VV := fun σ => (a σ).bind fun d σ1 => match d with
  | .im w => if ty w = true then (r σ1).bind fun ds σ2 => (match ims ds with
    | some es => (match g w es with
      | some z => .ok (.im z) σ2
      | none => .no)
    | none => .no) else .no
  | _ => .no
theorem sv_pm {ty : PyData → Bool} {tyH : Val → Hs → Bool} {g : PyData → List PyData → Option PyData} {b b' : Bool} {a : Ev} {va : VM VV} {r : M (List Val)} {vr : VM (List VV)} (ht : ∀ w h, ty w = true → tyH (.im w) h = true) (ha : SimE b a va) (hr : SimA b' r vr) : SimE true (eM tyH a r (mP g)) (wPM ty g va vr) := fun fr ρ h σ S =>
  sv_bind ha S fun x d h1 σ1 l1 S1 q => by
    cases d with
    | lst _ => trivial
    | dct _ => trivial
    | im w =>
      have := res_im q
      subst this
      refine out_if fun hw => ?_
      simp only [ht w h1 hw, if_true]
      have z := hr fr ρ h1 σ1 S1
      cases e : vr σ1 with
      | no => trivial
      | er c => rw [e] at z; rw [show r ρ h1 = _ from z]; rfl
      | ok ds σ2 =>
        rw [e] at z
        obtain ⟨xs, h2, e2, l2, S2, q2⟩ := z
        rw [e2]
        simp only [bind_ok, vbind_ok]
        cases ei : ims ds with
        | none => trivial
        | some es =>
          have := ims_paired ei q2
          subst this
          simp only
          cases eg : g w es with
          | none => trivial
          | some zz => exact ⟨_, h2, by simp only [mP, imsOf_map, eg], Nat.le_trans l1 l2, S2, .im _⟩
def isTP : PyData → Bool
  | .tuple _ => true
  | _ => false
theorem ty_isT : ∀ w h, isTP w = true → isT (.im w) h = true := fun w h e => by cases w <;> first | rfl | cases e
/-! ### a[i], b[j] = e -/
def xPut2 (i1 i2 : Nat) (vt v1 v2 : VM VV) : WS := fun σ => match vt σ with
  | .ok (.im (.tuple [d1, d2])) σ1 => xSeq (xPut i1 v1 (wC d1)) (xPut i2 v2 (wC d2)) σ1
  | .er c => .er c
  | _ => .no
theorem ss_put2 {i1 i2 : Nat} {b b1 b2 : Bool} {te m1 m2 : Ev} {vt v1 v2 : VM VV} (ht : SimE b te vt) (h1 : SimE b1 m1 v1) (h2 : SimE b2 m2 v2) : SimS [] (sPut2 te (eVar i1) m1 (eVar i2) m2) (xPut2 i1 i2 vt v1 v2) := fun fr p ρ h σ S hf hp => by
  have z := ht fr ρ h σ S
  unfold xPut2
  cases e : vt σ with
  | no => trivial
  | er c => rw [e] at z; unfold sPut2; rw [show te ρ h = _ from z]; rfl
  | ok d σ1 =>
    rw [e] at z
    obtain ⟨x, h', e1, l1, S1, r⟩ := z
    split
    · rename_i d1 d2 σ2 q
      cases q
      have := res_im r
      subst this
      unfold sPut2
      rw [e1]
      exact (ss_seq (A := []) (B := []) (ss_put h1 (sv_c (d := d1))) (ss_put h2 (sv_c (d := d2)))) fr p ρ h' σ1 S1 hf (Nat.le_trans hp l1)
    · rename_i q; cases q
    · trivial
section
variable (σ : VE)
@[simp] theorem r_pm (ty : PyData → Bool) (g : PyData → List PyData → Option PyData) (a : VM VV) (r : VM (List VV)) : wPM ty g a r σ = (a σ).bind fun d σ1 => match d with
  | .im w => if ty w = true then (r σ1).bind fun ds σ2 => (match ims ds with
    | some es => (match g w es with
      | some z => .ok (.im z) σ2
      | none => .no)
    | none => .no) else .no
  | _ => .no := rfl
@[simp] theorem r_put2 (i1 i2 : Nat) (vt v1 v2 : VM VV) : xPut2 i1 i2 vt v1 v2 σ = match vt σ with
  | .ok (.im (.tuple [d1, d2])) σ1 => xSeq (xPut i1 v1 (wC d1)) (xPut i2 v2 (wC d2)) σ1
  | .er c => .er c
  | _ => .no := rfl
@[simp] theorem r_list1 (d : VV) : wList1 d = match itemsW d with | some l => .ok (.lst l) | none => .no := rfl
@[simp] theorem r_revT (l : List PyData) : wRev (.im (.tuple l)) = .ok (.im (.tuple l.reverse)) := rfl
@[simp] theorem r_revL (l : List PyData) : wRev (.lst l) = .ok (.lst l.reverse) := rfl
@[simp] theorem isTP_t (l : List PyData) : isTP (.tuple l) = true := rfl
end
end NT

set_option Elab.async false
set_option linter.all false
set_option maxRecDepth 100000
set_option maxHeartbeats 4000000
set_option autoImplicit false

namespace NT
open PySem PySem.Spec PyProof.Rows L2 PySem.W

/-! ### tuple * 1 -/
theorem tuple_mul1 (l : Addr) (items : Array Value) (n : Nat) (dd : Option Addr) (sl : Array (Option Value)) (u : Tok) :
    Meets (Builtin.«tuple.__mul__» ⟨[.ref l, .int 1 u], []⟩) (fun _ R s => s.heap.get? l = some { cls := .type "tuple", dict := dd, data := .seq items n, slots := sl } ∧ R (.ok (.ret (Value.ref l))) s) :=
  .of_wp fun prog w A R s h => by
    obtain ⟨hp, g, d, tk, os⟩ := s
    obtain ⟨hl, h⟩ := h
    have f1 := AutoSeq1.idx_int
    have c0 : (decide ((1 : Int) < -(2 ^ 63)) || decide ((1 : Int) ≥ 2 ^ 63)) = false := by decide
    have c1 : (items.isEmpty || (1 : Int) == 1) = true := by rw [show ((1 : Int) == 1) = true from by decide, Bool.or_true]
    wp_walk using wpAny_loadPart' hl
    repeat (first
      | (refine wpAny_ite_false (decide_eq_false (by rw [c0]; exact Bool.false_ne_true)) ?_; wp_walk using wpAny_loadPart' hl)
      | (refine wpAny_ite_true (decide_eq_true (by rw [c1])) ?_; wp_walk using wpAny_loadPart' hl))
    exact ⟨_, rfl, h⟩
def rRep1 (K : PySem.W.Frag) : R2 := fun x y H Q => ∃ l xs, x = .ref l ∧ y = .int 1 ∧ SqT K H l xs ∧ Q (.ref l) H
section
variable {X : Cx} {W : WK}
theorem op_rep1 : OpR X (binaryOp .Mult) (rRep1 X.K) := by
  intro pins s σ H x y v u Q I rx ry h
  obtain ⟨l, xs, rfl, rfl, hT, q⟩ := h
  cases rx
  obtain ⟨t, rfl⟩ := ry
  obtain ⟨its, r, ⟨⟨cls, dd, data, sl⟩, ho, hc, n, hd⟩, hs⟩ := I.tuple hT
  simp only at hc hd
  subst hc hd
  refine wpAny_binaryOp_repeat_ref (T := "tuple") (U := "int") (by decide) ⟨_, ho, rfl⟩ (fun s' => typeIs_int s' 1 t) noFill_tuple_mul F.fills_int_mul F.slot_int_rmul repeat_tuple F.slot_int_index.lookup
    (call_meets F.slot_int_rmul (typeIs_int s 1 t) F.entry_int_rmul (F.args_int_rmul_2 _ _) (int_rmul_tuple 1 t l its.toArray n dd sl)
      ⟨ho, rfl, ⟨_, ho, rfl⟩, call_meets F.slot_tuple_mul ⟨_, ho, rfl⟩ F.entry_tuple_mul (F.args_tuple_mul_2 _ _) (tuple_mul1 l its.toArray n dd sl t) ⟨ho, ?_⟩⟩)
  exact ⟨.ref l, _, I, rfl, q⟩
def vMulT1 (v u : Val) (h : Hs) : Res Val := match v, u with
  | .im (.tuple ds), .im (.int n) => if n = 1 then .ok (.im (.tuple ds)) h else if 2 ≤ n ∧ n ≤ 1000 ∧ ds.length ≤ 1000 ∧ 1 ≤ ds.length then .ok (.im (.tuple (List.replicate n.toNat ds).flatten)) h else .no
  | _, _ => .no
theorem o_mulT1 : OpR X (binaryOp .Mult) (rOf2 (cst X W) W vMulT1) := OpR.imp (OpR.or' op_rep1 o_mulT) fun x y H Q t => by
  obtain ⟨G, F, ι, h, v, u, R, V1, V2, D⟩ := t
  unfold vMulT1 at D
  split at D
  · rename_i ds n
    split at D
    · rename_i e
      subst e
      cases V1 with
      | im z1 =>
        have z1' := z1
        cases z1 with
        | tup s1 p1 =>
          cases V2 with
          | im z2 =>
            cases z2
            exact .inl ⟨_, _, rfl, rfl, tupF R.f s1, fin_im R D z1'⟩
    · exact .inr ⟨G, F, ι, h, _, _, R, V1, V2, D⟩
  · exact D.elim
end
end NT

set_option Elab.async false
set_option linter.all false
set_option maxRecDepth 100000
set_option autoImplicit false

namespace NT
open PySem PySem.Spec PyProof.Rows L2 PySem.W
def wMulT1 (d e : VV) : WO := match d, e with
  | .im (.tuple ds), .im (.int n) => if n = 1 then .ok (.im (.tuple ds)) else if 2 ≤ n ∧ n ≤ 1000 ∧ ds.length ≤ 1000 ∧ 1 ≤ ds.length then .ok (.im (.tuple (List.replicate n.toNat ds).flatten)) else .no
  | _, _ => .no
theorem op_wMulT1 : Op2 vMulT1 wMulT1 := fun h x y d e r1 r2 => by
  unfold wMulT1
  split
  · have := rd_im r1; subst this; have := rd_im r2; subst this
    split
    · rename_i hc; exact ops_im (if_pos hc)
    · rename_i hc
      split
      · rename_i hd; exact ops_im (by simp only [vMulT1, if_neg hc, if_pos hd])
      · trivial
  · trivial
@[simp] theorem r_mulT1 (ds : List PyData) (n : Int) : wMulT1 (.im (.tuple ds)) (.im (.int n)) = if n = 1 then .ok (.im (.tuple ds)) else if 2 ≤ n ∧ n ≤ 1000 ∧ ds.length ≤ 1000 ∧ 1 ≤ ds.length then .ok (.im (.tuple (List.replicate n.toNat ds).flatten)) else .no := rfl
end NT

set_option Elab.async false
set_option linter.all false
set_option maxRecDepth 100000
set_option autoImplicit false

namespace NT
open PySem PySem.Spec PyProof.Rows L2 PySem.W
/-! ### an argument that later ones change -/
def wVarL (i : Nat) (t : VM (List VV)) : VM (List VV) := fun σ => match σ[i]? with
  | some (some d) => if d.mu = true then (t σ).bind fun ds σ2 => (match σ2[i]? with
    | some (some d2) => if d2.mu = true then .ok (d2 :: ds) σ2 else .no
    | _ => .no) else (t σ).bind fun ds σ2 => .ok (d :: ds) σ2
  | _ => .no
theorem sl_varL {i : Nat} {wb : List (Option Nat)} {r : M (List Val)} {vr : VM (List VV)} (hr : SimL wb r vr) : SimL (some i :: wb) (mCons (eVar i) r) (wVarL i vr) := fun fr ρ h σ S => by
  show Out _ fr ρ h.length ((eVar i ρ h).bind _) (wVarL i vr σ)
  unfold wVarL
  cases e : σ[i]? with
  | none => trivial
  | some o =>
    cases o with
    | none => trivial
    | some d =>
      simp only
      cases hm : d.mu with
      | false =>
        cases d with
        | lst _ => cases hm
        | dct _ => cases hm
        | im w =>
          have ex : eVar i ρ h = .ok (.im w) h := by simp only [eVar, S.im i w e]
          rw [ex]
          simp only [bind_ok, Bool.false_eq_true, if_false]
          have z := hr fr ρ h σ S
          cases ev : vr σ with
          | no => trivial
          | er c => rw [ev] at z; rw [show r ρ h = _ from z]; rfl
          | ok ds σ2 =>
            rw [ev] at z
            obtain ⟨ys, h2, e2, l2, S2, r2⟩ := z
            rw [e2]
            exact ⟨_, h2, rfl, l2, S2, .cons (.im _ w) r2.1, fun nd => r2.2 (by simpa [wbN, VV.mu] using nd)⟩
      | true =>
      simp only [if_true]
      obtain ⟨k, a1, a2, _⟩ := S.mu i d e hm
      have ex : eVar i ρ h = .ok (.ref k) h := by simp only [eVar, a1]
      rw [ex]
      simp only [bind_ok]
      have z := hr fr ρ h σ S
      cases ev : vr σ with
      | no => trivial
      | er c => rw [ev] at z; rw [show r ρ h = _ from z]; rfl
      | ok ds σ2 =>
        rw [ev] at z
        obtain ⟨ys, h2, e2, l2, S2, r2⟩ := z
        rw [e2]
        simp only [bind_ok, vbind_ok]
        cases e3 : σ2[i]? with
        | none => trivial
        | some o2 =>
          cases o2 with
          | none => trivial
          | some d2 =>
            simp only
            refine out_if fun m => ?_
            obtain ⟨k', b1, b2, _⟩ := S2.mu i d2 e3 m
            rw [a1] at b1
            injection b1 with b1
            injection b1 with b1
            injection b1 with b1
            subst b1
            refine ⟨_, h2, rfl, l2, S2, .cons (.own m b2 a1 e3) r2.1, fun nd => ?_⟩
            simp only [wbN, m, if_true, List.nodup_cons] at nd
            refine List.nodup_cons.mpr ⟨fun hk => ?_, r2.2 nd.2⟩
            rcases args_ref r2.1 hk with z | ⟨j, z1, z2, e', z3, m'⟩
            · have := S.bl i k a1; omega
            · have := S2.sep i j d2 e' k e3 z3 m m' a1 z2
              rw [this] at nd
              exact nd.1 z1
@[simp] theorem r_varL (i : Nat) (t : VM (List VV)) (σ : VE) : wVarL i t σ = match σ[i]? with
  | some (some d) => if d.mu = true then (t σ).bind fun ds σ2 => (match σ2[i]? with
    | some (some d2) => if d2.mu = true then .ok (d2 :: ds) σ2 else .no
    | _ => .no) else (t σ).bind fun ds σ2 => .ok (d :: ds) σ2
  | _ => .no := rfl
end NT

set_option Elab.async false
set_option linter.all false
set_option maxRecDepth 100000
set_option autoImplicit false

namespace NT
open PySem PySem.Spec PyProof.Rows L2 PySem.W

/-! ### an exception kept by a name of the def -/
/-- at a lies an exception of the class D -/
def ExO (D a : Addr) : HO := .ext fun h => ∃ (oe : Obj) (vs : Array Value), h.get? a = some oe ∧ oe.cls = .ref D ∧ oe.dict = none ∧ oe.data = .fields vs
section
variable {X : Cx} {pins : List (Addr × Obj)} {σ : L2.St} {H : Hp} {s : Shared} {a D : Addr} {oe : Obj} {vs : Array Value}
theorem keep_exc (I : Inv X pins σ H s) (he : s.heap.get? a = some oe) (hz : Zc (.ref D) none oe) (hd : oe.data = .fields vs) (na : H a = none) (nL : a ≠ X.env.locals) (n0 : X.s_0.heap.get? a = none) (np : ∀ p ∈ X.pn ++ pins, p.1 ≠ a) : Inv X pins σ (upd H a (ExO D a)) s := by
  have ne : ∀ {b : Addr} {u : HO}, H b = some u → b ≠ a := fun e z => by rw [z, na] at e; cases e
  refine ⟨I.ok, I.os, I.bare, ⟨I.base.keep, I.base.slot, fun b o e n hx => ?_, I.base.there, fun b xs e => ?_, fun b o u e => ?_, fun b ps e => ?_⟩, I.loc, I.cell, ?_, fun x c e => ?_, fun p hp => ?_, fun b u e => ?_, I.len⟩
  · rw [upd_ne fun z => by rw [z, n0] at e; cases e]; exact I.base.free b o e n hx
  · have q := I.base.tups b xs e
    rw [upd_ne (ne q)]; exact q
  · have q := I.base.frzs b o u e
    rw [upd_ne (ne q)]; exact q
  · obtain ⟨more, q⟩ := I.base.tbls b ps e
    exact ⟨more, by rw [upd_ne (ne q)]; exact q⟩
  · rw [upd_ne (Ne.symm nL)]; exact I.free
  · rw [upd_ne fun z => ?_]
    · exact I.freeC x c e
    · obtain ⟨v, o, e1, e2⟩ := I.cell x c e
      rw [z, he] at e1
      cases e1
      rw [hd] at e2
      cases e2
  · obtain ⟨h1, h2, h3⟩ := I.pin p hp
    exact ⟨h1, by rw [upd_ne (np p hp)]; exact h2, h3⟩
  · by_cases hb : b = a
    · subst hb
      rw [upd_same] at e
      cases e
      exact ⟨⟨oe, vs, he, hz.1, hz.2, hd⟩, ⟨oe, he⟩, fun h1 h2 ⟨o, w, q1, q2⟩ k => ⟨o, w, k o q1, q2⟩⟩
    · rw [upd_ne hb] at e
      exact (I.hok b u e).stay (fun _ _ _ q => q) (fun d q => by rw [upd_ne (ne q)]; exact q) fun d xs q => by rw [upd_ne (ne q)]; exact q
end
/-- what `try: body / except x as n: m = n` asks of an exception of the body: it lies at a fresh place, m (slot j) tells it -/
def wKeep (K : PySem.W.Frag) (c : Value) (i j n : Nat) (D : Ends) : WX := fun cls d σ H => d = none ∧ ∃ C : Addr, cls = .ref C ∧ PySem.W.exmOne K cls c = some true ∧ (σ.length = n → ∀ a, H a = none → D.nx (((σ.set i (some (.ref a))).set j (some (.ref a))).set i none) (upd H a (ExO C a)))
section
variable {X : Cx} {x n m : Str} {c : Value} {i j : Nat} {body : List Stmt} {np mp vp ap pos pos' : Pos} {tb : WX → TS}
theorem ps_keep (hs : X.stack = X.env :: X.outer) (hf : X.env.frame = some X.env.locals) (hex : X.ex = []) (hN : X.N.Nodup) (hi : X.N[i]? = some n) (hj : X.N[j]? = some m) (hln : X.env.kindOf n = some .local) (hlm : X.env.kindOf m = some .local) (hc : Names X x c)
    (nd : (n == ("__debug__" : Str)) = false) (ncd : (n == ("__classdict__" : Str)) = false) (hij : i < X.N.length)
    (hsw : swapsWith (.Name n vp) (some (.Name m mp)) ap.line X.env = pure false)
    (hb : ∀ (W : WX) (pn : List (Addr × Obj)) (xe : Value → Shared → Prop), Takes (X.tr pn xe) W → PassesOwn (model X.prog X.w) X.A X.env xe → PSs (X.tr pn xe) body (tb W)) :
    PS X (.Try body [.ExceptHandler (some (.Name x np)) (some n) [.Assign [.Name m mp] (.Name n vp) ap] pos'] [] [] pos) (fun D σ H => tb (wKeep X.K c i j X.N.length D) D σ H) := by
  refine ⟨fun pins s σ H D I h => ?_⟩
  have ok := I.ok
  have fr : X.A.frames = some (X.env :: X.outer) := by rw [ok.frames, hs]
  refine wpAny_Try_except (wpAny_mono ((hb (wKeep X.K c i j X.N.length D) (X.pn ++ pins) (fun e s1 => wpAny (model X.prog X.w) X.A (noteFrame e X.env) (fun _ s2 => wpAny (model X.prog X.w) X.A (setFlight e none) (fun _ s3 =>
    wpAny (model X.prog X.w) X.A (handleBy e X.env [.ExceptHandler (some (.Name x np)) (some n) [.Assign [.Name m mp] (.Name n vp) ap] pos']) (SP X pins D) X.xe s3) X.xe s2) X.xe s1) (fun u s' z => ?_) PassesOwn.looking).run [] s σ H D (I.toTry _) h) (fun fl s1 q => ?_) fun _ _ z => z)
  · obtain ⟨a, B, sI, pn', σ', H', cls, d, rfl, J0, nb, up, sky, na, os, ag, rfl, C, rfl, yes, cont⟩ := z
    have J : Inv X pins σ' H' sI := J0.ofTry ok
    rw [hs] at sky nb
    show wpAny (model X.prog X.w) X.A (noteFrame (.ref a) X.env) _ _ _
    refine Sky.land Zc.steady fr hf sky fun g fly up2 => ?_
    have Ba : B.get? a = none := fly.2.1
    have Jg : Inv X pins σ' H' { s' with heap := g } := J.landed (by rw [hs]; exact nb) fly.1 (up.trans up2) os ag
    obtain ⟨o1, v1, e1, z1, d1⟩ := fly.there
    have out : ∀ {k : Heap} {o : Obj} {vs : Array Value}, k.FunFrames B (X.env :: X.outer) → k.get? a = some o → o.data = .fields vs → a ∉ frs (X.env :: X.outer) := fun ff e dd hm => by
      obtain ⟨_, o', e', w⟩ := ff.mem hm
      rw [e] at e'
      cases e'
      exact w _ dd
    have na1 := out fly.2.2.1 e1 d1
    have nL : a ≠ X.env.locals := fun q => na1 (List.mem_filterMap.mpr ⟨X.env, List.mem_cons_self, by rw [hf, q]⟩)
    have nF : a ∉ X.fs := fun hm => by
      obtain ⟨e, he, q⟩ := List.mem_filterMap.mp hm
      exact na1 (List.mem_filterMap.mpr ⟨e, List.mem_cons_of_mem _ he, q⟩)
    have old : ∀ {b : Addr} {o : Obj}, sI.heap.get? b = some o → b ≠ a := fun e q => by
      subst q
      have := nb _ _ e na1
      rw [Ba] at this
      cases this
    have n0 : X.s_0.heap.get? a = none := by
      cases q : X.s_0.heap.get? a with
      | none => rfl
      | some o =>
        obtain ⟨o', q2⟩ := J.base.there a o q (by rw [hex]; simp)
        exact (old q2 rfl).elim
    have np2 : ∀ p ∈ X.pn ++ pins, p.1 ≠ a := fun p hp => old (J.pin p hp).1
    have S1 := Jg.suite e1 d1 na nL nF
    refine wpAny_handleBy_cons (codeAny_handlers_test ?_) (by intro q; cases q)
    have LT : PySem.W.Looks (model X.prog X.w) g (typeOf (.ref a)) (.ref C) := fun A Q E t k q => wpAny_typeOf_ref (k _ _ e1) (by rw [z1.1]; exact q)
    have LM := PySem.W.exm_one (M := model X.prog X.w) Jg.kIn LT yes
    have ask : ∀ {Q E : Value → Shared → Prop}, Q c { s' with heap := g } → wpAny (model X.prog X.w) (X.A.mark (some (.ref a))) (eval (.Name x np) X.env) Q E { s' with heap := g } := fun {Q E} q => by
      obtain ⟨hg, hdb, hm | ⟨hm, hv, hn2⟩⟩ := hc
      · exact ld_glob (X := X.suite a ((a, o1) :: (X.pn ++ pins))) S1 hg hm q hdb
      · exact ld_blt (X := X.suite a ((a, o1) :: (X.pn ++ pins))) S1 hg hm hv q hn2 hdb
    refine ask (LM.here ?_)
    refine codeAny_handlers_suite_as (HandSPX.lands_againZ fly fun g2 fly2 up3 => ?_)
    have J2 : Inv X pins σ' H' { s' with heap := g2 } := J.landed (by rw [hs]; exact nb) fly2.1 ((up.trans up2).trans up3) os ag
    obtain ⟨o2, v2, e2, z2, d2⟩ := fly2.there
    have S2 := J2.suite e2 d2 na nL nF
    refine store_ok (X := X.suite a ((a, o2) :: (X.pn ++ pins))) (v := .ref a) S2 hN hi (.inl hln) rfl (fun s5 S5 => ?_) (.inr hln)
    have suite : PSs (X.suite a ((a, o2) :: (X.pn ++ pins))) [.Assign [.Name m mp] (.Name n vp) ap] (tAsg (tVar i) (gName j)) :=
      pss_one (ps_set (X := X.suite a ((a, o2) :: (X.pn ++ pins))) hN hj (.inl hlm) (pe_var hi (.inl hln) nd ncd) hsw (.inr hlm))
    have hσ : i < σ'.length := by rw [J2.len]; exact hij
    refine wpAny_mono (suite.run [] s5 _ H' { nx := fun σ6 H6 => σ6 = (σ'.set i (some (.ref a))).set j (some (.ref a)) ∧ H6 = H', rt := fun _ _ => False, bk := fun _ _ => False, ct := fun _ _ => False } S5 ?_) (fun fl s6 z => ?_) (fun _ _ z => False.elim z)
    · exact ⟨.ref a, by rw [List.getElem?_set_self hσ], rfl, rfl⟩
    · cases fl with
      | next =>
        obtain ⟨σ6, H6, S6, rfl, rfl⟩ := z
        obtain ⟨e6, _⟩ := S6.pin (a, o2) (List.mem_append.mpr (.inl List.mem_cons_self))
        have J6 := keep_exc (D := C) (S6.unsuite ok) e6 z2 d2 na nL n0 np2
        exact gone_ok J6 hN hi hln fun s7 J7 => ⟨_, _, J7, cont J2.len a na⟩
      | brk => obtain ⟨_, _, _, z⟩ := z; exact z.elim
      | cont => obtain ⟨_, _, _, z⟩ := z; exact z.elim
      | ret u => obtain ⟨_, _, _, _, _, z⟩ := z; exact z.elim
  · cases fl with
    | next => obtain ⟨σ1, H1, J1, w⟩ := q; exact wpAny_execs_nil ⟨σ1, H1, J1.ofTry ok, w⟩
    | brk => obtain ⟨σ1, H1, J1, w⟩ := q; exact ⟨σ1, H1, J1.ofTry ok, w⟩
    | cont => obtain ⟨σ1, H1, J1, w⟩ := q; exact ⟨σ1, H1, J1.ofTry ok, w⟩
    | ret u => obtain ⟨y, σ1, H1, J1, r, w⟩ := q; exact ⟨y, σ1, H1, J1.ofTry ok, r, w⟩
/-- isinstance of a kept exception -/
def rIsX (K : PySem.W.Frag) : List V → Hp → VK → Prop := fun xs H Q => ∃ (a D : Addr) (u : V) (cv : Value) (b : Bool), xs = [.ref a, u] ∧ H a = some (ExO D a) ∧ ExcC K D ∧ (∀ w, RelV u w → w = cv) ∧ PySem.W.kitOne K (.ref D) cv = some b ∧ Q (.bl b) H
theorem call_isX : CallR X (.builtin "isinstance") (rIsX X.K) := by
  intro pins s σ H xs us Q I r h
  obtain ⟨a, D, u, cv, b, rfl, hH, C, hcv, e, q⟩ := h
  cases r with
  | cons rx rr =>
    cases rr with
    | cons rt rr =>
      cases rr
      cases rx
      have ec := hcv _ rt
      subst ec
      obtain ⟨⟨oe, vs, h1, h2, h3, h4⟩, _⟩ := I.hok a _ hH
      have J : PySem.W.InstAt s.heap a oe D none := by
        obtain ⟨oc, od, oda, osl⟩ := oe
        dsimp only at h2 h3 h4
        subst h2 h3 h4
        exact ⟨h1, rfl, rfl, trivial⟩
      exact PySem.W.kia_one (PySem.W.handS_kitx_exc C.hg C.hk C.hs C.hd C.ha C.hn C.ht C.hm) I.kIn J e (fun z => nomatch z) fun tk => ⟨.bl b, H, I.kept (t' := tk) fun _ _ z => z, rfl, q⟩
/-- isinstance of a kept exception, or of None -/
def rIsX2 (K : PySem.W.Frag) : List V → Hp → VK → Prop := fun xs H Q => rIsX K xs H Q ∨ rIsi K xs H Q
theorem call_isX2 : CallR X (.builtin "isinstance") (rIsX2 X.K) := call_isX.or call_isi
end
end NT

set_option Elab.async false
set_option linter.all false
set_option maxRecDepth 100000
set_option autoImplicit false

namespace NT
open PySem PySem.Spec PyProof.Rows L2 PySem.W

/-! ### _law_refused: what a lambda's exception is -/
def tIsX (K : PySem.W.Frag) (i : Nat) (u : V) : TE := tCB (rIsX2 K) (tCons (tVar i) (tCons (tC u) tNil))
theorem isX_go {K : PySem.W.Frag} {i : Nat} {u : V} {cv : Value} {σ : L2.St} {H : Hp} {Q : VK} {a D : Addr} {b : Bool} (e : σ[i]? = some (some (.ref a))) (hH : H a = some (ExO D a)) (C : ExcC K D) (hcv : ∀ w, RelV u w → w = cv) (k : PySem.W.kitOne K (.ref D) cv = some b) (q : Q (.bl b) H) : tIsX K i u σ H Q :=
  ⟨_, e, .inl ⟨a, D, u, cv, b, rfl, hH, C, hcv, k, q⟩⟩
theorem isN_go {K : PySem.W.Frag} {i : Nat} {u : V} {cv : Value} {σ : L2.St} {H : Hp} {Q : VK} {b : Bool} (e : σ[i]? = some (some .non)) (hcv : ClsV u cv) (k : PySem.W.kitOne K (.type "NoneType") cv = some b) (q : Q (.bl b) H) : tIsX K i u σ H Q :=
  ⟨_, e, .inr ⟨.non, u, .type "NoneType", cv, b, rfl, hcv, .base .non, k, q⟩⟩
/-- None is none of them -/
structure SrtN (K : PySem.W.Frag) (c0 c1 c2 c3 c4 : Addr) : Prop where
  k0 : PySem.W.kitOne K (.type "NoneType") (.ref c0) = some false
  k1 : PySem.W.kitOne K (.type "NoneType") (.ref c1) = some false
  k2 : PySem.W.kitOne K (.type "NoneType") (.ref c2) = some false
  k3 : PySem.W.kitOne K (.type "NoneType") (.ref c3) = some false
  k4 : PySem.W.kitOne K (.type "NoneType") (.ref c4) = some false
  kv : PySem.W.kitOne K (.type "NoneType") (.type "ValueError") = some false
def MonoT (tl : XK → Hp → VK → Prop) : Prop := ∀ (E : XK) (H : Hp) (P Q : VK), (∀ v H, P v H → Q v H) → tl E H P → tl E H Q
/-- five answers for an exception of the class D -/
structure Srt (K : PySem.W.Frag) (c0 c1 c2 c3 c4 D : Addr) (b0 b1 b2 b3 b4 : Bool) : Prop where
  x : ExcC K D
  k0 : PySem.W.kitOne K (.ref D) (.ref c0) = some b0
  k1 : PySem.W.kitOne K (.ref D) (.ref c1) = some b1
  k2 : PySem.W.kitOne K (.ref D) (.ref c2) = some b2
  k3 : PySem.W.kitOne K (.ref D) (.ref c3) = some b3
  k4 : PySem.W.kitOne K (.ref D) (.ref c4) = some b4
  kv : PySem.W.kitOne K (.ref D) (.type "ValueError") = some true
/-- free, or a table that is nobody's here -/
def FreeT (H : Hp) (r : Addr) : Prop := ∀ o, H r = some o → ∃ ps, o = .tbl ps
/-- what the def makes of the reading of what it got: an exception with these answers, and then the list told -/
def TTref (T : List (Addr × Str)) (K : PySem.W.Frag) (c0 c1 c2 c3 c4 cE : Addr) : (XK → Hp → VK → Prop) → Hp → VK → Prop := fun tl H Q => MonoT tl ∧
  tl (fun cls d H1 => d = none ∧ LamX.Tabs T H1 ∧ ∃ (D : Addr) (b0 b1 b2 b3 b4 : Bool), cls = .ref D ∧ PySem.W.exmOne K cls (.ref cE) = some true ∧ Srt K c0 c1 c2 c3 c4 D b0 b1 b2 b3 b4 ∧
    ∀ H2 r, LamX.ExtN H1 H2 → LamX.Tabs T H2 → FreeT H1 r → H2 r = some (.lst (((List.range 5).filter fun i => [b0, b1, b2, b3, b4].getD i false).map fun (i : Nat) => V.int i)) → Q (.ref r) H2) H fun _ H1 => LamX.Tabs T H1 ∧ ∀ H2, LamX.ExtN H1 H2 → LamX.Tabs T H2 → Q .non H2
section
variable {X : Cx} {x0 x1 x2 x3 x4 xE : Str} {c0 c1 c2 c3 c4 cE : Addr} {p1 p2 p3 p4 p5 p6 p7 p8 p9 : Pos} {s6 : Stmt} {t6 : TS}
theorem pe_isX {x : Str} {c : Addr} {p p1 p2 p3 : Pos} (hN : X.N[1]? = some ("_law_error" : Str)) (hv : Vis X.env.scope "_law_error") (hg : Gl X "isinstance") (hm : X.mg "isinstance" = none) (hgT : Gl X x) (hmT : X.mg x = some (.ref c)) (hd : (x == ("__debug__" : Str)) = false)
    (na : starEach [.Name "_law_error" p2, .Name x p3] X.env = (false, eval (.Name "_law_error" p2) X.env) :: starEach [.Name x p3] X.env := by rfl) (nb : starEach [Expr.Name x p3] X.env = (false, eval (.Name x p3) X.env) :: starEach [] X.env := by rfl) (hpl : (backTo p (starEach [Expr.Name x p3] X.env)).any (·.1) = false := by rfl) :
    PE X (.Call (.Name "isinstance" p1) [.Name "_law_error" p2, .Name x p3] [] p) (tIsX X.K 1 (.ref c)) :=
  pe_callB call_isX2 hg hm PyProof.Rows.boot_isinstance (pa_cons (pe_var hN hv (by decide) (by decide)) (pa_cons (pe_glob (v := .ref c) hgT hmT rfl hd) pa_nil nb) na) (he := na) (hpl := hpl)
theorem pe_isXT {p p1 p2 p3 : Pos} (hN : X.N[1]? = some ("_law_error" : Str)) (hv : Vis X.env.scope "_law_error") (hg : Gl X "isinstance") (hm : X.mg "isinstance" = none) (hgT : Gl X "ValueError") (hmT : X.mg "ValueError" = none)
    (na : starEach [.Name "_law_error" p2, .Name "ValueError" p3] X.env = (false, eval (.Name "_law_error" p2) X.env) :: starEach [.Name "ValueError" p3] X.env := by rfl) (nb : starEach [Expr.Name "ValueError" p3] X.env = (false, eval (.Name "ValueError" p3) X.env) :: starEach [] X.env := by rfl) (hpl : (backTo p (starEach [Expr.Name "ValueError" p3] X.env)).any (·.1) = false := by rfl) :
    PE X (.Call (.Name "isinstance" p1) [.Name "_law_error" p2, .Name "ValueError" p3] [] p) (tIsX X.K 1 (.ty "ValueError")) :=
  pe_callB call_isX2 hg hm PyProof.Rows.boot_isinstance (pa_cons (pe_var hN hv (by decide) (by decide)) (pa_cons (pe_bltn hgT hmT (by decide +kernel) (v := .ty "ValueError") rfl (by decide) (by decide)) pa_nil nb) na) (he := na) (hpl := hpl)
/-- the reading of the six statements -/
def tRef (K : PySem.W.Frag) (c0 c1 c2 c3 c4 cE : Addr) (tb : WX → TS) (t6 : TS) : TS :=
  tSeq (tAsg (tC .non) (gName 1)) (tSeq (fun D σ H => tb (wKeep K (.ref cE) 2 1 5 D) D σ H)
    (tSeq (tAsg (tLst (tCons (tIsX K 1 (.ref c0)) (tCons (tIsX K 1 (.ref c1)) (tCons (tIsX K 1 (.ref c2)) tNil)))) (gName 3))
    (tSeq (tAsg (tOp rCat (tVar 3) (tLst (tCons (tIsX K 1 (.ref c3)) (tCons (tIsX K 1 (.ref c4)) tNil)))) (gName 3))
    (tSeq (tIfS (tNot (tB (tIsX K 1 (.ty "ValueError")))) (tRet (tC .non)) tNext) t6))))
theorem ref_go {T : List (Addr × Str)} {K : PySem.W.Frag} {tl : XK → Hp → VK → Prop} {f c' : Addr} {q : Str} {H : Hp} {Q : VK} {nx : L2.St → Hp → Prop} (SN : SrtN K c0 c1 c2 c3 c4) (tt : TTref T K c0 c1 c2 c3 c4 cE tl H Q) (hc : H c' = some (LamX.CodeO c' q))
    (h6 : ∀ (σ : L2.St) (H : Hp) (p : Addr) (bs : List Bool) (D : Ends), LamX.Tabs T H → σ.length = 5 → σ[3]? = some (some (.ref p)) → H p = some (.lst (bs.map V.bl)) → bs.length = 5 →
      (∀ H2 r, (∀ b o, b ≠ p → H b = some o → (∀ ps, o ≠ .tbl ps) → H2 b = some o) → LamX.Tabs T H2 → (FreeT H r ∨ r = p) → H2 r = some (.lst (((List.range 5).filter fun i => bs.getD i false).map fun (i : Nat) => V.int i)) → D.rt (.ref r) H2) → t6 D σ H) :
    tRef K c0 c1 c2 c3 c4 cE (fun W D σ H => ∃ E : XK, (∀ cls d σ' H', E cls d H' → W cls d σ' H') ∧ σ[0]? = some (some (.ref f)) ∧ H c' = some (LamX.CodeO c' q) ∧ MonoT tl ∧ ∃ R : Hp → Prop, (tl E H fun _ H1 => R H1) ∧ ∀ H1, R H1 → D.nx σ H1) t6 { nx := nx, rt := Q } [some (.ref f), none, none, none, none] H := by
  refine ⟨_, fun cls d σ' H1 z => ?_, rfl, hc, tt.1, _, tt.2, fun H1 r1 => ?_⟩
  rotate_left
  · -- nothing is raised
    obtain ⟨tb1, cont⟩ := r1
    have s1 : ([some (.ref f), some V.non, none, none, none] : L2.St)[1]? = some (some V.non) := rfl
    show tSeq _ _ _ [some (.ref f), some V.non, none, none, none] H1
    refine isN_go s1 (.own c0) SN.k0 (isN_go s1 (.own c1) SN.k1 (isN_go s1 (.own c2) SN.k2 ⟨(by rw [SZ_eq]; simp), fun p hp => ?_⟩))
    have le1 : ∀ b o, H1 b = some o → upd H1 p (.lst [.bl false, .bl false, .bl false]) b = some o := fun b o e => by rw [upd_ne fun z => by rw [z, hp] at e; cases e]; exact e
    have hP : upd H1 p (.lst [.bl false, .bl false, .bl false]) p = some (.lst [.bl false, .bl false, .bl false]) := upd_same
    generalize upd H1 p (.lst [.bl false, .bl false, .bl false]) = HB at le1 hP
    have s2 : ([some (.ref f), some V.non, none, some (.ref p), none] : L2.St)[1]? = some (some V.non) := rfl
    show tSeq _ _ _ [some (.ref f), some V.non, none, some (.ref p), none] HB
    refine ⟨.ref p, rfl, isN_go s2 (.own c3) SN.k3 (isN_go s2 (.own c4) SN.k4 ⟨(by rw [SZ_eq]; simp), fun p2 hp2 => ?_⟩)⟩
    have np2 : p ≠ p2 := fun z => by rw [← z, hP] at hp2; cases hp2
    refine ⟨p, p2, [.bl false, .bl false, .bl false], [.bl false, .bl false], rfl, rfl, by rw [upd_ne np2]; exact hP, upd_same, (by rw [SZ_eq]; simp), fun p3 hp3 => ?_⟩
    have le2 : ∀ b o, HB b = some o → upd HB p2 (.lst [.bl false, .bl false]) b = some o := fun b o e => by rw [upd_ne fun z => by rw [z, hp2] at e; cases e]; exact e
    generalize upd HB p2 (.lst [.bl false, .bl false]) = HC at le2 hp3
    have le3 : ∀ b o, HC b = some o → upd HC p3 (.lst ([.bl false, .bl false, .bl false] ++ [.bl false, .bl false])) b = some o := fun b o e => by rw [upd_ne fun z => by rw [z, hp3] at e; cases e]; exact e
    have s3 : ([some (.ref f), some V.non, none, some (.ref p3), none] : L2.St)[1]? = some (some V.non) := rfl
    refine isN_go (σ := [some (.ref f), some V.non, none, some (.ref p3), none]) s3 (.ty _) SN.kv ⟨false, rfl, ?_⟩
    exact cont _ (fun b o e nt => le3 _ _ (le2 _ _ (le1 _ _ e))) (tb1.ext fun b o e => le3 _ _ (le2 _ _ (le1 _ _ e)))
  obtain ⟨rfl, tb1, D, b0, b1, b2, b3, b4, rfl, ex, S, cont⟩ := z
  refine ⟨rfl, D, rfl, ex, fun hl a na => ?_⟩
  have s1 : (((σ'.set 2 (some (V.ref a))).set 1 (some (V.ref a))).set 2 none)[1]? = some (some (V.ref a)) := by
    rw [List.getElem?_set_ne (by decide), List.getElem?_set_self (by rw [List.length_set]; omega)]
  have l1 : (((σ'.set 2 (some (V.ref a))).set 1 (some (V.ref a))).set 2 none).length = 5 := by simpa using hl
  generalize ((σ'.set 2 (some (V.ref a))).set 1 (some (V.ref a))).set 2 none = σ1 at s1 l1
  have hA : (upd H1 a (ExO D a)) a = some (ExO D a) := upd_same
  have le1 : ∀ b o, H1 b = some o → upd H1 a (ExO D a) b = some o := fun b o e => by rw [upd_ne fun z => by rw [z, na] at e; cases e]; exact e
  have fr1 : ∀ r, upd H1 a (ExO D a) r = none → H1 r = none := fun r e => by
    by_cases h : r = a
    · rw [h, upd_same] at e; cases e
    · rw [upd_ne h] at e; exact e
  generalize upd H1 a (ExO D a) = HA at hA le1 fr1
  refine isX_go s1 hA S.x (fun w r => r) S.k0 (isX_go s1 hA S.x (fun w r => r) S.k1 (isX_go s1 hA S.x (fun w r => r) S.k2 ?_))
  refine ⟨(by rw [SZ_eq]; simp), fun p hp => ?_⟩
  have s2 : (σ1.set 3 (some (V.ref p)))[1]? = some (some (V.ref a)) := by rw [List.getElem?_set_ne (by decide)]; exact s1
  have s3 : (σ1.set 3 (some (V.ref p)))[3]? = some (some (V.ref p)) := List.getElem?_set_self (by omega)
  have nap : a ≠ p := fun z => by rw [← z, hA] at hp; cases hp
  have hA2 : (upd HA p (.lst [.bl b0, .bl b1, .bl b2])) a = some (ExO D a) := by rw [upd_ne nap]; exact hA
  have hP2 : (upd HA p (.lst [.bl b0, .bl b1, .bl b2])) p = some (.lst [.bl b0, .bl b1, .bl b2]) := upd_same
  have le2 : ∀ b o, HA b = some o → upd HA p (.lst [.bl b0, .bl b1, .bl b2]) b = some o := fun b o e => by rw [upd_ne fun z => by rw [z, hp] at e; cases e]; exact e
  generalize upd HA p (.lst [.bl b0, .bl b1, .bl b2]) = HB at hA2 hP2 le2
  refine ⟨.ref p, s3, isX_go s2 hA2 S.x (fun w r => r) S.k3 (isX_go s2 hA2 S.x (fun w r => r) S.k4 ⟨(by rw [SZ_eq]; simp), fun p2 hp2 => ?_⟩)⟩
  have np2 : p ≠ p2 := fun z => by rw [← z, hP2] at hp2; cases hp2
  refine ⟨p, p2, [.bl b0, .bl b1, .bl b2], [.bl b3, .bl b4], rfl, rfl, by rw [upd_ne np2]; exact hP2, upd_same, (by rw [SZ_eq]; simp), fun p3 hp3 => ?_⟩
  have le3 : ∀ b o, HB b = some o → upd HB p2 (.lst [.bl b3, .bl b4]) b = some o := fun b o e => by rw [upd_ne fun z => by rw [z, hp2] at e; cases e]; exact e
  have hA3 := le3 _ _ hA2
  generalize upd HB p2 (.lst [.bl b3, .bl b4]) = HC at le3 hA3 hp3
  have nap3 : a ≠ p3 := fun z => by rw [← z, hA3] at hp3; cases hp3
  have s4 : ((σ1.set 3 (some (V.ref p))).set 3 (some (V.ref p3)))[1]? = some (some (V.ref a)) := by rw [List.getElem?_set_ne (by decide)]; exact s2
  have s5 : ((σ1.set 3 (some (V.ref p))).set 3 (some (V.ref p3)))[3]? = some (some (V.ref p3)) := List.getElem?_set_self (by rw [List.length_set]; omega)
  have le4 : ∀ b o, HC b = some o → upd HC p3 (.lst ([.bl b0, .bl b1, .bl b2] ++ [.bl b3, .bl b4])) b = some o := fun b o e => by rw [upd_ne fun z => by rw [z, hp3] at e; cases e]; exact e
  refine isX_go s4 (le4 _ _ hA3) S.x (fun w r => r) S.kv ⟨true, rfl, ?_⟩
  refine h6 _ _ p3 [b0, b1, b2, b3, b4] _ (tb1.ext fun b o e => le4 _ _ (le3 _ _ (le2 _ _ (le1 _ _ e)))) (by simpa using l1) s5 upd_same rfl fun H2 r k1 kt k2 k3 => ?_
  have non : ∀ {b : Addr}, HC b = none → H1 b = none := fun {b} e => by
    cases q : H1 b with
    | none => rfl
    | some o => rw [le3 _ _ (le2 _ _ (le1 _ _ q))] at e; cases e
  refine cont H2 r (fun b o e nt => ?_) kt ?_ k3
  · have e2 := le4 _ _ (le3 _ _ (le2 _ _ (le1 _ _ e)))
    refine k1 b o (fun z => ?_) e2 nt
    rw [z] at e
    rw [non hp3] at e
    cases e
  · rcases k2 with k2 | rfl
    · exact fun o e => k2 o (le4 _ _ (le3 _ _ (le2 _ _ (le1 _ _ e))))
    · exact fun o e => by rw [non hp3] at e; cases e
end
end NT

set_option Elab.async false
set_option linter.all false
set_option maxRecDepth 100000
set_option autoImplicit false

namespace NT
open PySem PySem.Spec PyProof.Rows L2 PySem.W
section
variable {α : Type} {s : Src} {T : Tg} {c : M Bool} {e : Ev} {ρ : En} {g : α → Val} {b : SM} {p : Nat}
abbrev CompStep (s : Src) (T : Tg) (c : M Bool) (e : Ev) (ρ : En) (g : α → Val) (J : List α → List PyData → Hs → Prop) : Prop := ∀ a r acc h, J (a :: r) acc h → s.okAt h ∧ acc.length < 16777216 ∧ ∃ ρ1, T.asg (g a) ρ = some ρ1 ∧ ∃ k h1, c ρ1 h = .ok k h1 ∧
      ((k = true ∧ ∃ d h2, e ρ1 (trunc h.length h1) = .ok (.im d) h2 ∧ J r (acc ++ [d]) (trunc (trunc h.length h1).length h2)) ∨ (k = false ∧ J r acc (trunc h.length h1)))
abbrev ForStep (b : SM) (p : Nat) (s : Src) (T : Tg) (g : α → Val) (J : List α → En → Hs → Prop) (Q : RS → Prop) : Prop := ∀ a r ρ h, J (a :: r) ρ h → s.okAt h ∧ ∃ ρ1, T.asg (g a) ρ = some ρ1 ∧ (match b p ρ1 h with
      | .nx ρ2 h2 => J r ρ2 h2
      | .ct ρ2 h2 => J r ρ2 h2
      | .bk ρ2 h2 => Q (.nx ρ2 h2)
      | x => Q x)
/-- a comprehension, by an invariant -/
theorem compGo_inv (J : List α → List PyData → Hs → Prop)
    (hs : ∀ a r acc h, J (a :: r) acc h → s.okAt h ∧ acc.length < 16777216 ∧ ∃ ρ1, T.asg (g a) ρ = some ρ1 ∧ ∃ k h1, c ρ1 h = .ok k h1 ∧
      ((k = true ∧ ∃ d h2, e ρ1 (trunc h.length h1) = .ok (.im d) h2 ∧ J r (acc ++ [d]) (trunc (trunc h.length h1).length h2)) ∨ (k = false ∧ J r acc (trunc h.length h1))))
    (he : ∀ acc h, J [] acc h → s.okAt h) : ∀ (l : List α) (acc : List PyData) (h : Hs), J l acc h → ∃ acc' h', compGo s T c e ρ (l.map g) (acc.map .im) h = .ok (acc'.map .im) h' ∧ J [] acc' h'
  | [], acc, h, j => ⟨acc, h, by rw [List.map_nil, compGo, if_pos (he acc h j)], j⟩
  | a :: r, acc, h, j => by
    obtain ⟨ok, ln, ρ1, e1, k, h1, e2, z⟩ := hs a r acc h j
    rw [List.map_cons, compGo, if_pos ok, e1]
    simp only [e2]
    rcases z with ⟨rfl, d, h2, e3, j2⟩ | ⟨rfl, j2⟩
    · simp only [if_true, e3, List.length_map, if_pos ln, truncV]
      have := compGo_inv J hs he r (acc ++ [d]) _ j2
      rw [List.map_append] at this
      exact this
    · simp only [Bool.false_eq_true, if_false]
      exact compGo_inv J hs he r acc _ j2
/-- .. that changes nothing -/
theorem compGo_pure {h : Hs} (cond : α → Bool) (elt : α → PyData) (ok : s.okAt h) :
    ∀ (l : List α) (acc : List PyData), (∀ a ∈ l, ∃ ρ1, T.asg (g a) ρ = some ρ1 ∧ ∃ h1, c ρ1 h = .ok (cond a) h1 ∧ trunc h.length h1 = h ∧ (cond a = true → ∃ h2, e ρ1 h = .ok (.im (elt a)) h2 ∧ trunc h.length h2 = h)) → acc.length + l.length ≤ 16777216 → compGo s T c e ρ (l.map g) (acc.map .im) h = .ok ((acc ++ (l.filter cond).map elt).map .im) h
  | [], acc, _, _ => by rw [List.map_nil, compGo, if_pos ok]; simp
  | a :: r, acc, hs, hl => by
    obtain ⟨ρ1, e1, h1, e2, e3, z⟩ := hs a List.mem_cons_self
    have hs' := fun b hb => hs b (List.mem_cons_of_mem a hb)
    rw [List.map_cons, compGo, if_pos ok, e1]
    simp only [List.length_cons] at hl
    simp only [e2, e3]
    cases hc : cond a with
    | true =>
      obtain ⟨h2, e4, e5⟩ := z hc
      have ln : acc.length < 16777216 := by omega
      simp only [if_true, e4, List.length_map, if_pos ln, truncV, e5]
      have := compGo_pure cond elt ok r (acc ++ [elt a]) hs' (by rw [List.length_append, List.length_singleton]; omega)
      rw [List.map_append] at this
      simpa [List.filter_cons, hc] using this
    | false =>
      simp only [Bool.false_eq_true, if_false]
      have := compGo_pure cond elt ok r acc hs' (by omega)
      simpa [List.filter_cons, hc] using this
theorem compGo_map {h : Hs} (elt : α → PyData) (ok : s.okAt h) (l : List α) (hs : ∀ a ∈ l, ∃ ρ1, T.asg (g a) ρ = some ρ1 ∧ ∃ h2, e ρ1 h = .ok (.im (elt a)) h2 ∧ trunc h.length h2 = h) (hl : l.length ≤ 16777216) :
    compGo s T mTrue e ρ (l.map g) [] h = .ok (l.map fun a => .im (elt a)) h := by
  have := compGo_pure (c := mTrue) (fun _ => true) elt ok l [] (fun a ha => by
    obtain ⟨ρ1, h1, h2, h3, h4⟩ := hs a ha
    exact ⟨ρ1, h1, h, rfl, trunc_self h, fun _ => ⟨h2, h3, h4⟩⟩) (by simpa using hl)
  rw [show l.filter (fun _ => true) = l from List.filter_eq_self.mpr fun _ _ => rfl] at this
  simpa [Function.comp_def] using this
theorem compGo_fil {h : Hs} (cond : α → Bool) (elt : α → PyData) (ok : s.okAt h) (l : List α) (hs : ∀ a ∈ l, ∃ ρ1, T.asg (g a) ρ = some ρ1 ∧ ∃ h1, c ρ1 h = .ok (cond a) h1 ∧ trunc h.length h1 = h ∧ (cond a = true → ∃ h2, e ρ1 h = .ok (.im (elt a)) h2 ∧ trunc h.length h2 = h)) (hl : l.length ≤ 16777216) :
    compGo s T c e ρ (l.map g) [] h = .ok ((l.filter cond).map fun a => .im (elt a)) h := by
  have := compGo_pure cond elt ok l [] hs (by simpa using hl)
  simpa [Function.comp_def] using this
theorem forGo_inv (J : List α → En → Hs → Prop) (Q : RS → Prop)
    (hs : ∀ a r ρ h, J (a :: r) ρ h → s.okAt h ∧ ∃ ρ1, T.asg (g a) ρ = some ρ1 ∧ (match b p ρ1 h with
      | .nx ρ2 h2 => J r ρ2 h2
      | .ct ρ2 h2 => J r ρ2 h2
      | .bk ρ2 h2 => Q (.nx ρ2 h2)
      | x => Q x))
    (he : ∀ ρ h, J [] ρ h → s.okAt h ∧ Q (.nx ρ h)) : ∀ (l : List α) (ρ : En) (h : Hs), J l ρ h → Q (forGo b T s p (l.map g) ρ h)
  | [], ρ, h, j => by rw [List.map_nil, forGo, if_pos (he ρ h j).1]; exact (he ρ h j).2
  | a :: r, ρ, h, j => by
    obtain ⟨ok, ρ1, e1, z⟩ := hs a r ρ h j
    rw [List.map_cons, forGo, if_pos ok, e1]
    simp only
    cases eb : b p ρ1 h with
    | nx ρ2 h2 => rw [eb] at z; exact forGo_inv J Q hs he r ρ2 h2 z
    | ct ρ2 h2 => rw [eb] at z; exact forGo_inv J Q hs he r ρ2 h2 z
    | bk ρ2 h2 => rw [eb] at z; exact z
    | rt v h2 => rw [eb] at z; exact z
    | er c => rw [eb] at z; exact z
    | no => rw [eb] at z; exact z
end
@[simp] theorem okAt_nil (items : List Val) (h : Hs) : Src.okAt ⟨items, []⟩ h := fun _ z => by cases z
@[simp] theorem pin_VI (l : List Int) (n : Nat) : Src.pin ⟨l.map VI, []⟩ n = 0 := by simp [Src.pin, VI, Function.comp_def]
@[simp] theorem pin_im {α : Type} (f : α → PyData) (l : List α) (n : Nat) : Src.pin ⟨l.map (fun a => .im (f a)), []⟩ n = 0 := by simp [Src.pin, Function.comp_def]
theorem okAt_one {items vs : List Val} {m : Nat} {h : Hs} (e : h[m]? = some (.lst vs)) : Src.okAt ⟨items, [(m, vs)]⟩ h := fun p hp => by
  rcases List.mem_cons.mp hp with rfl | hp
  · exact e
  · cases hp
theorem q_eComp (ms : M Src) (T : Tg) (c : M Bool) (e : Ev) (vs : List Nat) (ρ : En) (h : Hs) : eComp ms T c e vs ρ h = (ms ρ h).bind fun src h1 => (compGo src T c e (wE ρ vs) src.items [] h1).bind fun acc h2 => .ok (.ref h2.length) (h2 ++ [.lst acc]) := rfl
theorem q_sFor (ms : M Src) (T : Tg) (b : SM) (p : Nat) (ρ : En) (h : Hs) : sFor ms T b p ρ h = match ms ρ h with
  | .ok src h1 => forGo b T src (max p (src.pin h1.length)) src.items ρ h1
  | .er c => .er c
  | .no => .no := rfl
@[simp] theorem q_mSeq (a : Ev) (ρ : En) (h : Hs) : mSeq a ρ h = (a ρ h).bind fun v h1 => seqSrc h.length v h1 := rfl
@[simp] theorem q_mRng1 (m : M (List Val)) (ρ : En) (h : Hs) : mRng1 m ρ h = (m ρ h).bind fun vs h1 => match vs with
  | [.im (.int j)] => if smallI j = true then .ok ⟨rangeI 0 j.toNat, []⟩ (trunc h.length h1) else .no
  | _ => .no := rfl
@[simp] theorem q_mRng2 (m : M (List Val)) (ρ : En) (h : Hs) : mRng2 m ρ h = (m ρ h).bind fun vs h1 => match vs with
  | [.im (.int i), .im (.int j)] => if (smallI i && smallI j) = true then .ok ⟨rangeI i (j - i).toNat, []⟩ (trunc h.length h1) else .no
  | _ => .no := rfl
@[simp] theorem wE_nil (ρ : En) : wE ρ [] = ρ := rfl
@[simp] theorem wE_cons (ρ : En) (v : Nat) (vs : List Nat) : wE ρ (v :: vs) = (wE ρ vs).set v none := rfl
@[simp] theorem asg_nm (i : Nat) (v : Val) (ρ : En) : Tg.asg (.nm i) v ρ = some (ρ.set i (some v)) := rfl
theorem imsOf_mapf {α : Type} (f : α → PyData) : ∀ l : List α, imsOf (l.map fun a => .im (f a)) = some (l.map f)
  | [] => rfl
  | a :: r => by simp [imsOf, imsOf_mapf f r]
theorem seq_new {α : Type} (f : α → PyData) (l : List α) {h : Hs} (hb : h.all (Cell.below h.length) = true) : seqSrc h.length (.ref h.length) (h ++ [.lst (l.map fun a => .im (f a))]) = .ok ⟨l.map fun a => .im (f a), []⟩ h := by
  have e : (h ++ [Cell.lst (l.map fun a => .im (f a))])[h.length]? = some (.lst (l.map fun a => .im (f a))) := by simp
  have e2 : (h ++ [Cell.lst (l.map fun a => .im (f a))]).set h.length (.fz (.list (l.map f))) = h ++ [.fz (.list (l.map f))] := by simp
  simp only [seqSrc, e, imsOf_mapf, Nat.le_refl, if_true, e2]
  rw [trunc_take (by rw [List.take_left]; exact hb), List.take_left]
  simp [Function.comp_def]
/-- small ranges by their numbers -/
def rg (lo : Int) (n : Nat) : List Int := (List.range n).map fun (i : Nat) => lo + (i : Int)
theorem rangeI_eq (lo : Int) (n : Nat) : rangeI lo n = (rg lo n).map VI := by unfold rangeI rg; rw [List.map_map]; rfl
theorem rg_mem {lo x : Int} {n : Nat} (h : x ∈ rg lo n) : lo ≤ x ∧ x < lo + n := by
  unfold rg at h
  obtain ⟨i, hi, rfl⟩ := List.mem_map.mp h
  have := List.mem_range.mp hi
  omega
theorem rg_len (lo : Int) (n : Nat) : (rg lo n).length = n := by simp [rg]
theorem smallI_of {i : Int} (h : -1000 ≤ i ∧ i ≤ 1000) : smallI i = true := by
  simp only [smallI, decide_eq_true_eq]; omega
theorem src_rng2 {ms : M (List Val)} {ρ : En} {h : Hs} {i j : Int} (e : ms ρ h = .ok [VI i, VI j] h) (si : smallI i = true) (sj : smallI j = true) : mRng2 ms ρ h = .ok ⟨(rg i (j - i).toNat).map VI, []⟩ h := by
  rw [q_mRng2, e]
  simp only [bind_ok, si, sj, Bool.and_self, if_true, trunc_self, rangeI_eq]
theorem src_rng1 {ms : M (List Val)} {ρ : En} {h : Hs} {j : Int} (e : ms ρ h = .ok [VI j] h) (sj : smallI j = true) : mRng1 ms ρ h = .ok ⟨(rg 0 j.toNat).map VI, []⟩ h := by
  rw [q_mRng1, e]
  simp only [bind_ok, sj, if_true, trunc_self, rangeI_eq]
end NT

set_option Elab.async false
set_option linter.all false
set_option maxRecDepth 100000
set_option autoImplicit false

namespace NT
open PySem PySem.Spec PyProof.Rows L2 PySem.W

/-! ### what is known stays where only tables grow -/
section
variable {C : Cst} {W : WK} {G F F' : Hp} {ι ι' : Nat → Addr} {n p q : Nat} {h h' : Hs} {H H' H1 : Hp} {σ σ' : L2.St} {ρ ρ' : En} {r : Addr}
theorem Rel.extN (R : Rel C G F ι h H) (e : LamX.ExtN H H1) (t : LamX.Tabs C.T H1) : Rel C G F ι h H1 := by
  refine ⟨fun b o z => e b o (R.g b o z) fun ps w => ?_, fun b o z => e b o (R.f b o z) fun ps w => ?_, R.inj, R.gl, R.fl, fun i c ei => ?_, fun x hx => ⟨(R.tb x hx).1, (R.tb x hx).2.1, t x hx⟩, R.ng, R.nf⟩
  · subst w; exact R.ng b ps z
  · subst w; exact R.nf b ps z
  · refine CellR.at' (R.cell i c ei) fun l => ?_
    obtain ⟨o, w⟩ := R.there ei l
    rw [w]
    exact e _ _ w fun ps z => (R.notTab ei l).1 ps (by rw [w, z])
theorem FreeT.apart (R : Rel C G F ι h H) (hr : FreeT H r) : Apart G F ι h r := by
  refine ⟨?_, ?_, fun i c e l z => ?_⟩
  · cases w : G r with
    | none => rfl
    | some o =>
      obtain ⟨ps, z⟩ := hr o (R.g r o w)
      subst z
      exact (R.ng r ps w).elim
  · cases w : F r with
    | none => rfl
    | some o =>
      obtain ⟨ps, z⟩ := hr o (R.f r o w)
      subst z
      exact (R.nf r ps w).elim
  · obtain ⟨o, w⟩ := R.there e l
    obtain ⟨ps, y⟩ := hr o (by rw [← z]; exact w)
    exact (R.notTab e l).1 ps (by rw [w, y])
/-- the data that names hold; lists are out of sight -/
def cl (ρ : En) : En := ρ.map fun o => match o with
  | some (.im d) => some (.im d)
  | _ => none
theorem SR.cl (S : SR C ι F n σ ρ) : SR C ι F 0 σ (cl ρ) := by
  refine ⟨by unfold NT.cl; rw [List.length_map]; exact S.len, fun i v e => ?_⟩
  unfold NT.cl at e
  rw [List.getElem?_map] at e
  cases w : ρ[i]? with
  | none => rw [w] at e; cases e
  | some o =>
    rw [w] at e
    cases o with
    | none => cases e
    | some u =>
      cases u with
      | ref k => cases e
      | im d =>
        cases e
        obtain ⟨x, h1, h2⟩ := S.at' i _ w
        exact ⟨x, h1, h2.flat rfl⟩
/-- _law_refused(lambda: m), where m raises -/
def eRefused (srt : Str → Option (List Nat)) (m : Ev) : Ev := fun ρ h => match m (cl ρ) [] with
  | .er c => (match srt c with
    | some l => .ok (.ref h.length) (h ++ [.lst (l.map fun (i : Nat) => .im (.int i))])
    | none => .no)
  | .ok _ _ => .ok (.im .none) h
  | .no => .no
open Classical in
/-- all that is known but the tables -/
noncomputable def noTabs (T : List (Addr × Str)) (H : Hp) : Hp := fun b => if (∃ x ∈ T, b = x.1) ∨ ∃ ps, H b = some (.tbl ps) then none else H b
theorem noTabs_le {T : List (Addr × Str)} {b : Addr} {o : HO} (e : noTabs T H b = some o) : H b = some o := by
  unfold noTabs at e
  split at e
  · cases e
  · exact e
theorem noTabs_eq {T : List (Addr × Str)} {b : Addr} (h : ¬ ((∃ x ∈ T, b = x.1) ∨ ∃ ps, H b = some (.tbl ps))) : noTabs T H b = H b := if_neg h
theorem noTabs_T {T : List (Addr × Str)} {x : Addr × Str} (h : x ∈ T) : noTabs T H x.1 = none := if_pos (.inl ⟨x, h, rfl⟩)
theorem noTabs_t {T : List (Addr × Str)} {b : Addr} {ps : Array Value} : noTabs T H b ≠ some (.tbl ps) := fun z => by
  have z2 : noTabs T H b = none := if_pos (.inr ⟨ps, noTabs_le z⟩)
  rw [z2] at z; cases z
theorem noTabs_ext {T : List (Addr × Str)} {H2 : Hp} (t : LamX.Tabs T H) (le : ∀ b o, noTabs T H b = some o → H2 b = some o) : LamX.ExtN H H2 := fun b o e nt => le b o (by
  rw [noTabs_eq]
  · exact e
  · rintro (⟨x, hx, z⟩ | ⟨ps, z⟩)
    · obtain ⟨ps, z2, _⟩ := t x hx
      rw [← z, e] at z2
      cases z2
      exact nt ps rfl
    · rw [e] at z; cases z; exact nt ps rfl)
theorem ints_pair : ∀ {l : List Nat}, Paired (RV C ι F n) (l.map fun (i : Nat) => V.int i) (l.map fun (i : Nat) => Val.im (.int i))
  | [] => .nil
  | a :: l => .cons (.im (.int a)) ints_pair
end
section
variable {X : Cx} {W : WK} {c0 c1 c2 c3 c4 cE : Addr} {srt : Str → Option (List Nat)} {m : Ev} {σ : L2.St} {H : Hp} {Q : VK}
/-- what is known of the refusals' classes -/
def SrtOk (K : PySem.W.Frag) (mg : Str → Option Value) (c0 c1 c2 c3 c4 cE : Addr) (srt : Str → Option (List Nat)) : Prop :=
  ∀ c l, srt c = some l → ∀ D, mg c = some (.ref D) → ∃ b0 b1 b2 b3 b4, PySem.W.exmOne K (.ref D) (.ref cE) = some true ∧ Srt K c0 c1 c2 c3 c4 D b0 b1 b2 b3 b4 ∧ l = (List.range 5).filter fun i => [b0, b1, b2, b3, b4].getD i false
theorem refused_r (hs : SrtOk X.K X.mg c0 c1 c2 c3 c4 cE srt) (t : tOf (repV (cst X W)) (cst X W) W (eRefused srt m) σ H Q) :
    LamX.tLam W.T.l (TTref W.T.l X.K c0 c1 c2 c3 c4 cE) (fun E => tOf (repV (cst X W)) (cst X W) (wOf ⟨W.T.l, false⟩ X.mg E) m) σ H Q := by
  obtain ⟨G, F, ι, ρ, h, R, S, D⟩ := t
  refine ⟨R.tabs, fun H1 eN T1 => ⟨fun E H P P' k t => ?_, ?_⟩⟩
  · obtain ⟨G, F, ι, ρ, h, R, S, d⟩ := t
    refine ⟨G, F, ι, ρ, h, R, S, ?_⟩
    cases em : m ρ h with
    | ok v h' => rw [em] at d; exact fun F' ι' H' x a1 a2 a3 a4 => k _ _ (d F' ι' H' x a1 a2 a3 a4)
    | er c => rw [em] at d; exact d
    | no => rw [em] at d; exact d
  have R1 := R.extN eN T1
  unfold eRefused at D
  cases em : m (cl ρ) [] with
  | ok v h' =>
    rw [em] at D
    refine ⟨noTabs W.T.l H1, F, ι, cl ρ, [], ⟨fun b o e => noTabs_le e, R1.f, fun i j c c' e1 => by simp at e1, fun i c e1 => by simp at e1, fun i c e1 => by simp at e1, fun i c e1 => by simp at e1, fun x hx => ⟨noTabs_T hx, (R1.tb x hx).2⟩, fun b ps => noTabs_t, R1.nf⟩, S.cl, ?_⟩
    rw [em]
    intro F' ι' H2 x R' _ _ _
    refine ⟨R'.tabs, fun H3 eN3 T3 => ?_⟩
    have R2 : Rel (cst X W) G F ι h H2 := R1.extN (noTabs_ext T1 fun b o e => R'.g b o e) R'.tabs
    exact D F ι H3 .non (R2.extN eN3 T3) Ext.refl (Nat.le_refl _) (.im .non)
  | no => rw [em] at D; exact D.elim
  | er c =>
    rw [em] at D
    cases es : srt c with
    | none => simp only [es] at D; exact D.elim
    | some l =>
      simp only [es] at D
      refine ⟨noTabs W.T.l H1, F, ι, cl ρ, [], ⟨fun b o e => noTabs_le e, R1.f, fun i j c c' e1 => by simp at e1, fun i c e1 => by simp at e1, fun i c e1 => by simp at e1, fun i c e1 => by simp at e1, fun x hx => ⟨noTabs_T hx, (R1.tb x hx).2⟩, fun b ps => noTabs_t, R1.nf⟩, S.cl, ?_⟩
      rw [em]
      intro H2 le2 T2 Dc hD
      obtain ⟨b0, b1, b2, b3, b4, k1, k2, rfl⟩ := hs c l es Dc hD
      refine ⟨rfl, T2, Dc, b0, b1, b2, b3, b4, rfl, k1, k2, fun H3 r eN3 T3 fr e3 => ?_⟩
      have R2 : Rel (cst X W) G F ι h H2 := by
        have le : ∀ b o, H1 b = some o → (∀ ps, o ≠ .tbl ps) → (∀ x ∈ W.T.l, b ≠ x.1) → H2 b = some o := fun b o e nt nT => le2 b o (by
          rw [noTabs_eq]
          · exact e
          · rintro (⟨x, hx, z⟩ | ⟨ps, z⟩)
            · exact nT x hx z
            · rw [e] at z; cases z; exact nt ps rfl)
        refine R1.extN (fun b o e nt => le b o e nt fun x hx z => ?_) T2
        obtain ⟨ps, z2, _⟩ := T1 x hx
        rw [← z, e] at z2
        cases z2
        exact nt ps rfl
      have R3 : Rel (cst X W) G F ι h H3 := R2.extN eN3 T3
      have ap := fr.apart R2
      refine D F (putI ι h.length r) H3 (.ref r) (R3.adopt ap e3 ints_pair) ⟨fun _ _ z => z, fun i hi => putI_lt hi, fun _ _ => rfl⟩ (by rw [List.length_append]; omega) ?_
      have z : RV (cst X W) (putI ι h.length r) F (h ++ [Cell.lst ((List.filter (fun i => [b0, b1, b2, b3, b4].getD i false) (List.range 5)).map fun (i : Nat) => Val.im (.int i))]).length (.ref (putI ι h.length r h.length)) (.ref h.length) := .ref (by rw [List.length_append, List.length_singleton]; exact Nat.lt_succ_self _)
      rw [putI_same] at z
      exact z
theorem Ctx.lam (K : Ctx X W) {A : Around} {outer : List Env} {s : Shared} {E : XK} {scope : Scope} {f c' : Addr} {k : Nat} (hr : Room k (A.deeper (LamX.lamEnv X scope s.heap.objs.size f c'))) : Ctx (LamX.lamCx X A outer s H E scope f c') (wOf ⟨W.T.l, false⟩ X.mg E) :=
  ⟨rfl, K.nd, (show (A.deeper (LamX.lamEnv X scope s.heap.objs.size f c')).units + 65 < cLine by have := hr.un; omega), (fun z => by cases z),
    Takes.imp (takes_of (E₁ := fun e s' => L2.CX X.prog X.w outer H s E e s') (E := E) rfl rfl rfl rfl) fun cls d σ H z => by
      obtain ⟨c, Ca, h1, rfl, rfl, h4⟩ := z
      exact h4 Ca h1⟩
end
end NT

set_option Elab.async false
set_option linter.all false
set_option maxRecDepth 100000
set_option autoImplicit false

namespace NT
open PySem PySem.Spec PyProof.Rows L2 PySem.W

/-! ### _law_refused, the def -/
abbrev refN : List Str := ["_law_call", "_law_error", "e", "_law_sorts", "_law_k"]
def refNames : List (Str × NameKind) := [("_law_call", .local), ("_law_error", .local), ("e", .local), ("_law_sorts", .cell), ("TurnError", .globalImplicit), ("isinstance", .globalImplicit), ("TooMany", .globalImplicit), ("NoTie", .globalImplicit),
  ("NoPlaces", .globalImplicit), ("NoName", .globalImplicit), ("BadNote", .globalImplicit), ("ValueError", .globalImplicit), ("range", .globalImplicit)]
def refCsc : Scope := { kind := .function, names := [(".0", .local), ("_law_k", .local), ("_law_sorts", .free)], isGenerator := false, isCoroutine := false, more := [] }
noncomputable def refComp : Ev := eComp (mRng1 (mCons (eC (.int 5)) mNil)) (.nm 4) (tst (e2 (eVar 3) (eVar 4) vIdx)) (eVar 4) [4]
theorem ref_eval {bs : List Bool} (hl : bs.length = 5) : refComp [none, none, none, some (.ref 0), none] [.lst (bs.map fun b => .im (.bool b))] = .ok (.ref 1) [.lst (bs.map fun b => .im (.bool b)), .lst (((List.range 5).filter fun i => bs.getD i false).map fun (i : Nat) => .im (.int i))] := by
  unfold refComp
  rw [q_eComp, src_rng1 (j := 5) (by simp) (by decide)]
  simp only [bind_ok, wE_cons, wE_nil, List.set_cons_succ, List.set_cons_zero]
  match bs, hl with
  | [a, b, c, d, e], _ =>
    rw [compGo_fil (g := VI) (fun x => [a, b, c, d, e].getD x.toNat false) (fun i => .int i) (by simp) _ (fun x hx => ⟨_, rfl, [.lst ([a, b, c, d, e].map fun b => .im (.bool b))], ?_, by simp, fun _ => ⟨[.lst ([a, b, c, d, e].map fun b => .im (.bool b))], by simp, by simp⟩⟩) (by decide)]
    · have e0 : rg 0 (5 : Int).toNat = [0, 1, 2, 3, 4] := by decide
      rw [e0]
      cases a <;> cases b <;> cases c <;> cases d <;> cases e <;> rfl
    · have e0 : rg 0 (5 : Int).toNat = [0, 1, 2, 3, 4] := by decide
      rw [e0] at hx
      simp only [List.mem_cons, List.not_mem_nil, or_false] at hx
      rcases hx with rfl | rfl | rfl | rfl | rfl <;> rfl
section
variable {X : Cx} {T : List (Addr × Str)} {c0 c1 c2 c3 c4 cE : Addr} {sg : Scope}
/-- the names that _law_refused asks for -/
structure RefM (K : PySem.W.Frag) (mg : Str → Option Value) (c0 c1 c2 c3 c4 cE : Addr) (srt : Str → Option (List Nat)) : Prop where
  i : mg "isinstance" = none
  r : mg "range" = none
  v : mg "ValueError" = none
  m0 : mg "TooMany" = some (.ref c0)
  m1 : mg "NoTie" = some (.ref c1)
  m2 : mg "NoPlaces" = some (.ref c2)
  m3 : mg "NoName" = some (.ref c3)
  m4 : mg "BadNote" = some (.ref c4)
  mE : mg "TurnError" = some (.ref cE)
  srt : SrtOk K mg c0 c1 c2 c3 c4 cE srt
  n : SrtN K c0 c1 c2 c3 c4
theorem refused_gives {srt : Str → Option (List Nat)} (M : RefM X.K X.mg c0 c1 c2 c3 c4 cE srt) (hn : sg.names = refNames) (hk : sg.kind = .function) (hT : T ≠ []) {k : Nat} (hr : Room (k + 1) X.A) (bo : BlkOk refN sg refCsc [("_law_k", 4)]) {g : Addr} {cdg : Value} {q : Str}
    {p1 p2 p3 p4 p5 p6 p7 p8 p9 p10 p11 p12 p13 p14 p15 p16 p17 p18 p19 p20 p21 p22 p23 p24 p25 p26 p27 p28 p29 p30 p31 p32 p33 p34 p35 p36 p37 p38 p39 p40 p41 p42 p43 p44 p45 p46 p47 p48 p49 p50 p51 p52 p53 p54 p55 p56 p57 p58 : Pos} {n1 n2 n3 n4 : Nat} :
    LamX.GivesTo X refN "_law_refused" sg g cdg
      [.Assign [.Name "_law_error" p1] (.Constant .none n1 p2) p3,
       .Try [.Expr (.Call (.Name "_law_call" p4) [] [] p5) p6] [.ExceptHandler (some (.Name "TurnError" p7)) (some "e") [.Assign [.Name "_law_error" p8] (.Name "e" p9) p10] p11] [] [] p12,
       .Assign [.Name "_law_sorts" p13] (.List [.Call (.Name "isinstance" p14) [.Name "_law_error" p15, .Name "TooMany" p16] [] p17, .Call (.Name "isinstance" p18) [.Name "_law_error" p19, .Name "NoTie" p20] [] p21, .Call (.Name "isinstance" p22) [.Name "_law_error" p23, .Name "NoPlaces" p24] [] p25] p26) p27,
       .Assign [.Name "_law_sorts" p28] (.BinOp (.Name "_law_sorts" p29) .Add (.List [.Call (.Name "isinstance" p30) [.Name "_law_error" p31, .Name "NoName" p32] [] p33, .Call (.Name "isinstance" p34) [.Name "_law_error" p35, .Name "BadNote" p36] [] p37] p38) p39) p40,
       .If (.UnaryOp .Not (.Call (.Name "isinstance" p41) [.Name "_law_error" p42, .Name "ValueError" p43] [] p44) p45) [.Return (some (.Constant .none n2 p46)) p47] [] p48,
       .Return (some (.ListComp (.Name "_law_k" p49) [⟨.Name "_law_k" p50, .Call (.Name "range" p51) [.Constant (.int 5) n3 p52] [] p53, [.Subscript (.Name "_law_sorts" p54) (.Name "_law_k" p55) p56], 0⟩] refCsc p57)) p58]
      "_law_call" q (TTref T X.K c0 c1 c2 c3 c4 cE) := by
  intro f c' s H Q tl act hc tt
  let Y : Cx := (cxOf C8.CX0 X.prog X.w X.K X.mg X.base refN "_law_refused" sg g cdg X.A X.stack s H C8.E0).nox
  have lk : ∀ x kd, refNames.lookup x = some kd → sg.names.lookup x = some kd := fun x kd e => by rw [hn]; exact e
  have gl : ∀ x, refNames.lookup x = some .globalImplicit → Gl Y x := fun x e => by
    have : Y.env.kindOf x = sg.names.lookup x := rfl
    show Y.env.kindOf x = _
    rw [this]; exact lk x _ e
  have lE : Loc Y.env.scope "_law_error" := .inl (lk _ _ rfl)
  have lS : Loc Y.env.scope "_law_sorts" := .inr (lk _ _ rfl)
  have hr' : Room k Y.A := hr.deeper _
  have KY : Ctx Y (W0 ⟨T, false⟩) := ⟨rfl, show refN.Nodup by decide, (by have := hr'.un; omega), (fun z => by cases z), Takes.imp LamX.takes0 fun c d σ H z => by
    obtain ⟨_, _, _, _, _, z⟩ := z
    exact z⟩
  have vS : ∀ (cl : List (Str × Addr)) (C : Addr), (PySem.compEnvC refCsc cl C Y.env).scope.names.lookup ("_law_sorts" : Str) = some .cell := fun cl C => by
    show List.lookup ("_law_sorts" : Str) [((".0" : Str), NameKind.local), (("_law_k" : Str), NameKind.local), if ((NameKind.free == NameKind.free) && (sg.kind == ScopeKind.function) && (Y.env.kindOf "_law_sorts" == some .cell)) = true then (("_law_sorts" : Str), NameKind.cell) else (("_law_sorts" : Str), NameKind.free)] = _
    rw [hk, show Y.env.kindOf "_law_sorts" = some .cell from lk _ _ rfl]
    rfl
  have s6 : JS Y (W0 ⟨T, false⟩) (.Return (some (.ListComp (.Name "_law_k" p49) [⟨.Name "_law_k" p50, .Call (.Name "range" p51) [.Constant (.int 5) n3 p52] [] p53, [.Subscript (.Name "_law_sorts" p54) (.Name "_law_k" p55) p56], 0⟩] refCsc p57)) p58) (sRet refComp) :=
    js_ret (je_comp (own := [(("_law_k" : Str), 4)]) KY (ji_rng1 (gl _ rfl) M.r (ja_cons je_int ja_nil)) bo (by decide) (fun _ _ _ _ _ => jg_name (Ctx.blk KY) (i := 4) rfl (by first | exact Or.inl rfl | exact Or.inr rfl)) (fun _ _ _ _ _ => jtsOne (jt_val (je_idx (je_var (i := 3) (x := "_law_sorts") rfl (.inr (.inl (vS _ _)))) (je_var (i := 4) (x := "_law_k") rfl (.inl (show List.lookup ("_law_k" : Str) refCsc.names = some .local from rfl)))))) (fun _ _ _ _ _ => je_var (i := 4) (x := "_law_k") rfl (.inl (show List.lookup ("_law_k" : Str) refCsc.names = some .local from rfl))))
  refine ⟨tRef X.K c0 c1 c2 c3 c4 cE (fun W D σ H => ∃ E : XK, (∀ cls d σ' H', E cls d H' → W cls d σ' H') ∧ σ[0]? = some (some (.ref f)) ∧ H c' = some (LamX.CodeO c' q) ∧ MonoT tl ∧ ∃ R : Hp → Prop, (tl E H fun _ H1 => R H1) ∧ ∀ H1, R H1 → D.nx σ H1) (tOfS (cst Y (W0 ⟨T, false⟩)) (W0 ⟨T, false⟩) (sRet refComp)), ?_, ref_go M.n tt hc ?_⟩
  · refine pss_cons (ps_set (X := Y) (show refN.Nodup by decide) rfl lE pe_non rfl (.inr (lk _ _ rfl))) (pss_cons (ps_keep (X := Y) (x := "TurnError") (n := "e") (m := "_law_error") (i := 2) (j := 1) (c := .ref cE) rfl rfl rfl (show refN.Nodup by decide) rfl rfl (lk _ _ rfl) (lk _ _ rfl) ⟨gl _ rfl, by decide, .inl M.mE⟩ (by decide) (by decide) (show 2 < refN.length by decide) rfl (tb := fun W D σ H => ∃ E : XK, (∀ cls d σ' H', E cls d H' → W cls d σ' H') ∧ σ[0]? = some (some (.ref f)) ∧ H c' = some (LamX.CodeO c' q) ∧ MonoT tl ∧ ∃ R : Hp → Prop, (tl E H fun _ H1 => R H1) ∧ ∀ H1, R H1 → D.nx σ H1) fun W pn xe tk own => ?_)
      (pss_cons (ps_set (X := Y) (show refN.Nodup by decide) rfl lS (pe_lst (pa_cons (pe_isX rfl (.inl (lk _ _ rfl)) (gl _ rfl) M.i (gl _ rfl) M.m0 (by decide)) (pa_cons (pe_isX rfl (.inl (lk _ _ rfl)) (gl _ rfl) M.i (gl _ rfl) M.m1 (by decide)) (pa_cons (pe_isX rfl (.inl (lk _ _ rfl)) (gl _ rfl) M.i (gl _ rfl) M.m2 (by decide)) pa_nil)))) rfl (.inl rfl))
      (pss_cons (ps_set (X := Y) (show refN.Nodup by decide) rfl lS (pe_op op_cat (pe_var rfl (.inr (.inl (lk _ _ rfl)))) (pe_lst (pa_cons (pe_isX rfl (.inl (lk _ _ rfl)) (gl _ rfl) M.i (gl _ rfl) M.m3 (by decide)) (pa_cons (pe_isX rfl (.inl (lk _ _ rfl)) (gl _ rfl) M.i (gl _ rfl) M.m4 (by decide)) pa_nil)))) rfl (.inl rfl))
      (pss_cons (ps_if (pt_not (pt_val (pe_isXT rfl (.inl (lk _ _ rfl)) (gl _ rfl) M.i (gl _ rfl) M.v))) (pss_one (ps_ret pe_non)) pss_nil) (pss_one s6)))))
    refine ⟨fun pins s' σ H' D I h' => ?_⟩
    obtain ⟨E, hW, h1, h2, mo, R, h3, h4⟩ := h'
    refine wpAny_mono ((pss_one (ps_expr (act W pn xe E _ _ tk hW))).run pins s' σ H' { nx := fun σ' H1 => σ' = σ ∧ R H1, rt := fun _ _ => False, bk := fun _ _ => False, ct := fun _ _ => False } I ⟨h1, h2, mo E H' _ _ (fun _ _ r => ⟨rfl, r⟩) h3⟩) (fun fl s2 z => ?_) fun _ _ z => z
    cases fl with
    | next => obtain ⟨σ1, H1, J, rfl, z⟩ := z; exact ⟨_, H1, J, h4 _ z⟩
    | brk => obtain ⟨_, _, _, z⟩ := z; exact z.elim
    | cont => obtain ⟨_, _, _, z⟩ := z; exact z.elim
    | ret u => obtain ⟨_, _, _, _, _, z⟩ := z; exact z.elim
  · intro σ H2 p bs D tabs hl h3 hp hb cont
    let G : Hp := fun b => open Classical in if b = p then none else noTabs T H2 b
    have Gp : G p = none := if_pos rfl
    have Ge : ∀ b, b ≠ p → G b = noTabs T H2 b := fun b hb => if_neg hb
    have Gle : ∀ b o, G b = some o → H2 b = some o := fun b o e => by
      by_cases hb : b = p
      · rw [hb, Gp] at e; cases e
      · rw [Ge b hb] at e; exact noTabs_le e
    have bl : ∀ l : List Bool, Paired (RV (cst Y (W0 ⟨T, false⟩)) (fun _ => p) (fun _ => none) 1) (l.map V.bl) (l.map fun b => Val.im (.bool b)) := fun l => by
      induction l with
      | nil => exact .nil
      | cons a l ih => exact .cons (.im (.bl a)) ih
    have R : Rel (cst Y (W0 ⟨T, false⟩)) G (fun _ => none) (fun _ => p) [.lst (bs.map fun b => .im (.bool b))] H2 := by
      have one : ∀ {i : Nat} {c : Cell}, ([.lst (bs.map fun b => .im (.bool b))] : Hs)[i]? = some c → i = 0 ∧ c = .lst (bs.map fun b => .im (.bool b)) := fun {i c} e => by
        cases i with
        | zero => exact ⟨rfl, by simpa using e.symm⟩
        | succ i => simp at e
      refine ⟨Gle, fun _ _ z => (by cases z), fun i j c c' e1 e2 _ _ _ => (by rw [(one e1).1, (one e2).1]), fun _ _ _ _ => Gp, fun _ _ _ _ => rfl, fun i c e => ?_, fun x hx => ⟨?_, rfl, tabs x hx⟩, fun b ps z => ?_, fun _ _ z => (by cases z)⟩
      · obtain ⟨rfl, rfl⟩ := one e
        exact ⟨_, hp, bl bs⟩
      · by_cases hb : x.1 = p
        · rw [hb]; exact Gp
        · rw [Ge _ hb]; exact noTabs_T hx
      · by_cases hb : b = p
        · rw [hb, Gp] at z; cases z
        · rw [Ge b hb] at z; exact noTabs_t z
    have S : SR (cst Y (W0 ⟨T, false⟩)) (fun _ => p) (fun _ => none) 1 σ [none, none, none, some (.ref 0), none] := by
      refine ⟨hl.symm, fun i v e => ?_⟩
      match i, e with
      | 0, e => simp at e
      | 1, e => simp at e
      | 2, e => simp at e
      | 3, e =>
        have : v = .ref 0 := by simpa using e.symm
        subst this
        exact ⟨_, h3, .ref (ι := fun _ => p) (by decide)⟩
      | 4, e => simp at e
      | n + 5, e => simp at e
    refine ⟨G, fun _ => none, fun _ => p, 1, _, _, R, S, Nat.le_refl _, ?_⟩
    rw [q_sRet, ref_eval hb]
    intro F' ι' H' x R' E' l' V'
    cases V' with
    | ref hv =>
      obtain ⟨xs, e1, P⟩ := R'.cell 1 _ rfl
      have P : Paired (RV (cst Y (W0 ⟨T, false⟩)) ι' F' 2) xs (((List.range 5).filter fun i => bs.getD i false).map fun (i : Nat) => Val.im (.int i)) := P
      have xe : ∀ {l : List Nat} {xs : List V}, Paired (RV (cst Y (W0 ⟨T, false⟩)) ι' F' 2) xs (l.map fun (i : Nat) => Val.im (.int i)) → xs = l.map fun (i : Nat) => V.int i := fun {l} => by
        induction l with
        | nil => intro xs P; cases P; rfl
        | cons a l ih =>
          intro xs P
          cases P with
          | cons a b => cases a with | im z => cases z; rw [ih b]; rfl
      rw [xe P] at e1
      refine cont H' (ι' 1) (fun b o nb e nt => R'.g b o ?_) R'.tabs ?_ e1
      · rw [Ge b nb, noTabs_eq]
        · exact e
        · rintro (⟨y, hy, z⟩ | ⟨ps, z⟩)
          · obtain ⟨ps, z2, _⟩ := tabs y hy
            rw [← z, e] at z2
            cases z2
            exact nt ps rfl
          · rw [e] at z; cases z; exact nt ps rfl
      · by_cases hb : ι' 1 = p
        · exact .inr hb
        · refine .inl fun o e => ?_
          have g1 := R'.gl 1 _ rfl rfl
          rw [Ge _ hb] at g1
          refine Classical.byContradiction fun nt => ?_
          rw [noTabs_eq] at g1
          · rw [e] at g1; cases g1
          · rintro (⟨y, hy, z⟩ | ⟨ps, z⟩)
            · exact R'.tabCell (p := y) hy (k := 1) rfl rfl z.symm
            · rw [e] at z; cases z; exact nt ⟨ps, rfl⟩
end
end NT

set_option Elab.async false
set_option linter.all false
set_option maxRecDepth 100000
set_option autoImplicit false

namespace NT
open PySem PySem.Spec PyProof.Rows L2 PySem.W

/-! ### the classes of refusals -/
def excB (K : PySem.W.Frag) (D : Addr) : Bool :=
  (PySem.W.findIn K (.ref D) "__getattribute__" == some (some (.builtin "BaseException.__getattribute__"))) && (PySem.W.findIn K (.ref D) "__getattr__" == some none) && (PySem.W.subIn K (.ref D) (.type "BaseException") == some true) &&
  PySem.W.hasDictIn K D && (PySem.W.findIn K (.ref D) "__class__" == some (some (.builtin "object.__class__"))) && (PySem.W.specialIn K (.builtin "object.__class__") "__get__" == some (some (.builtin "getset_descriptor.__get__"))) &&
  (PySem.W.takesIn K (.builtin "object.__class__") == some true) && (PySem.W.mroIn K D (.type "object") == some true)
theorem excB_ok {K : PySem.W.Frag} {D : Addr} (h : excB K D = true) : ExcC K D := by
  unfold excB at h
  simp only [Bool.and_eq_true, beq_iff_eq] at h
  obtain ⟨⟨⟨⟨⟨⟨⟨h1, h2⟩, h3⟩, h4⟩, h5⟩, h6⟩, h7⟩, h8⟩ := h
  exact ⟨h1, h2, h3, h4, h5, h6, h7, h8⟩
def refOneB (K : PySem.W.Frag) (c0 c1 c2 c3 c4 cE D : Addr) (b0 b1 b2 b3 b4 : Bool) : Bool :=
  excB K D && (PySem.W.exmOne K (.ref D) (.ref cE) == some true) && (PySem.W.kitOne K (.ref D) (.ref c0) == some b0) && (PySem.W.kitOne K (.ref D) (.ref c1) == some b1) && (PySem.W.kitOne K (.ref D) (.ref c2) == some b2) &&
  (PySem.W.kitOne K (.ref D) (.ref c3) == some b3) && (PySem.W.kitOne K (.ref D) (.ref c4) == some b4) && (PySem.W.kitOne K (.ref D) (.type "ValueError") == some true)
theorem refOneB_ok {K : PySem.W.Frag} {c0 c1 c2 c3 c4 cE D : Addr} {b0 b1 b2 b3 b4 : Bool} (h : refOneB K c0 c1 c2 c3 c4 cE D b0 b1 b2 b3 b4 = true) : PySem.W.exmOne K (.ref D) (.ref cE) = some true ∧ Srt K c0 c1 c2 c3 c4 D b0 b1 b2 b3 b4 := by
  unfold refOneB at h
  simp only [Bool.and_eq_true, beq_iff_eq] at h
  obtain ⟨⟨⟨⟨⟨⟨⟨h1, h2⟩, h3⟩, h4⟩, h5⟩, h6⟩, h7⟩, h8⟩ := h
  exact ⟨h2, ⟨excB_ok h1, h3, h4, h5, h6, h7, h8⟩⟩
def refKB (K : PySem.W.Frag) (c0 c1 c2 c3 c4 cE : Addr) : Bool :=
  refOneB K c0 c1 c2 c3 c4 cE c0 true false false false false && refOneB K c0 c1 c2 c3 c4 cE c1 false true false false false && refOneB K c0 c1 c2 c3 c4 cE c2 false false true false false &&
  refOneB K c0 c1 c2 c3 c4 cE c3 false false false true false && refOneB K c0 c1 c2 c3 c4 cE c4 false false false false true &&
  ((PySem.W.kitOne K (.type "NoneType") (.ref c0) == some false) && (PySem.W.kitOne K (.type "NoneType") (.ref c1) == some false) && (PySem.W.kitOne K (.type "NoneType") (.ref c2) == some false) &&
   (PySem.W.kitOne K (.type "NoneType") (.ref c3) == some false) && (PySem.W.kitOne K (.type "NoneType") (.ref c4) == some false) && (PySem.W.kitOne K (.type "NoneType") (.type "ValueError") == some false))
def refSrt (c : Str) : Option (List Nat) :=
  if c = "TooMany" then some [0] else if c = "NoTie" then some [1] else if c = "NoPlaces" then some [2] else if c = "NoName" then some [3] else if c = "BadNote" then some [4] else none
theorem refM_mk {K : PySem.W.Frag} {mg : Str → Option Value} {c0 c1 c2 c3 c4 cE : Addr} (h : refKB K c0 c1 c2 c3 c4 cE = true) (hi : mg "isinstance" = none) (hr : mg "range" = none) (hv : mg "ValueError" = none)
    (m0 : mg "TooMany" = some (.ref c0)) (m1 : mg "NoTie" = some (.ref c1)) (m2 : mg "NoPlaces" = some (.ref c2)) (m3 : mg "NoName" = some (.ref c3)) (m4 : mg "BadNote" = some (.ref c4)) (mE : mg "TurnError" = some (.ref cE)) : RefM K mg c0 c1 c2 c3 c4 cE refSrt := by
  unfold refKB at h
  rw [Bool.and_eq_true] at h
  obtain ⟨h, hN⟩ := h
  refine ⟨hi, hr, hv, m0, m1, m2, m3, m4, mE, fun c l e D hD => ?_, by
    simp only [Bool.and_eq_true, beq_iff_eq] at hN
    obtain ⟨⟨⟨⟨⟨n0, n1⟩, n2⟩, n3⟩, n4⟩, nv⟩ := hN
    exact ⟨n0, n1, n2, n3, n4, nv⟩⟩
  simp only [Bool.and_eq_true] at h
  obtain ⟨⟨⟨⟨h0, h1⟩, h2⟩, h3⟩, h4⟩ := h
  have go : ∀ {b0 b1 b2 b3 b4 : Bool} {D' : Addr} {x : Str} {l' : List Nat}, c = x → mg x = some (.ref D') → refOneB K c0 c1 c2 c3 c4 cE D' b0 b1 b2 b3 b4 = true → some l' = some l → l' = ((List.range 5).filter fun i => [b0, b1, b2, b3, b4].getD i false) →
      ∃ b0 b1 b2 b3 b4, PySem.W.exmOne K (.ref D) (.ref cE) = some true ∧ Srt K c0 c1 c2 c3 c4 D b0 b1 b2 b3 b4 ∧ l = (List.range 5).filter fun i => [b0, b1, b2, b3, b4].getD i false := fun {b0 b1 b2 b3 b4 D' x l'} ex em ek el e2 => by
    subst ex
    rw [em] at hD
    cases hD
    cases el
    exact ⟨_, _, _, _, _, (refOneB_ok ek).1, (refOneB_ok ek).2, e2⟩
  unfold refSrt at e
  split at e
  · rename_i ex; exact go ex m0 h0 e rfl
  · split at e
    · rename_i ex; exact go ex m1 h1 e rfl
    · split at e
      · rename_i ex; exact go ex m2 h2 e rfl
      · split at e
        · rename_i ex; exact go ex m3 h3 e rfl
        · split at e
          · rename_i ex; exact go ex m4 h4 e rfl
          · cases e
/-! ### the call -/
/-- _law_refused as its callers use it -/
structure RefU (K : PySem.W.Frag) (mg : Str → Option Value) (st : Stmt) (g : Addr) (fd : FuncData) (c0 c1 c2 c3 c4 cE : Addr) : Prop where
  F : Fun K "_law_refused" "_law_refused" st g fd
  hm : mg "_law_refused" = some (.ref g)
  bind : Binds K fd ["_law_call"] []
  S : FnScope refN ["_law_call"] (defScope st)
  gives : ∀ (X : Cx) (T : List (Addr × Str)) (k : Nat) (g : Addr) (cdg : Value) (q : Str), X.K = K → X.mg = mg → T ≠ [] → Room (k + 1) X.A → LamX.GivesTo X refN "_law_refused" (defScope st) g cdg (defBody st) "_law_call" q (TTref T X.K c0 c1 c2 c3 c4 cE)
  M : RefM K mg c0 c1 c2 c3 c4 cE refSrt
  va : Vis (defScope st) "_law_call"
/-- the def that makes lambdas: its code object, its table -/
structure LamU (T : List (Addr × Str)) (base : Heap) (mg : Str → Option Value) (c P : Addr) (q : Str) : Prop where
  tb : LamX.TabB base mg c P
  mem : (P, q) ∈ T
  un : ∀ p ∈ T, p.1 = P → p.2 = q
theorem LamU.ne {T : List (Addr × Str)} {base : Heap} {mg : Str → Option Value} {c P : Addr} {q : Str} (L : LamU T base mg c P q) : T ≠ [] := fun z => by
  have := L.mem
  rw [z] at this; cases this
theorem je_refused {X : Cx} {W : WK} {st : Stmt} {g c P : Addr} {fd : FuncData} {c0 c1 c2 c3 c4 cE : Addr} {k j : Nat} {m : Ev} {params : Arguments} {body : Expr} {scope : Scope} {p lpos pos : Pos} (K : Ctx X W) (U : RefU X.K X.mg st g fd c0 c1 c2 c3 c4 cE) (L : LamU W.T.l X.base X.mg c P (X.env.qual ++ "<lambda>"))
    (hcode : X.env.code = .ref c) (hr0 : Room j X.A) (hj : k + 2 ≤ j) (hg : Gl X "_law_refused") (S : LamX.LamS X.env.scope scope) (hdef : defaultsOf params X.env = ([], []))
    (hbind : ∀ (q : Str) (cl : List (Str × Addr)) (pm cv ctv : Value), bindArgs (PySem.W.kla_fn "<lambda>" q params body scope cl pm cv ctv) ⟨[], []⟩ = pure [])
    (hbody : ∀ (A : Around) (outer : List Env) (s : Shared) (H : Hp) (E : XK) (f c' : Addr), Room k (A.deeper (LamX.lamEnv X scope s.heap.objs.size f c')) → Ctx (LamX.lamCx X A outer s H E scope f c') (wOf ⟨W.T.l, false⟩ X.mg E) → JE (LamX.lamCx X A outer s H E scope f c') (wOf ⟨W.T.l, false⟩ X.mg E) body m) :
    JE X W (.Call (.Name "_law_refused" p) [.Lambda params body scope lpos] [] pos) (eRefused refSrt m) := by
  obtain ⟨oc, od, kV, doc, pm, an, cdv, ct, osl, rfl, lk, hcd⟩ := U.F.ex
  have hr : Room (k + 2) X.A := hr0.mono hj
  refine PE.imp (LamX.pe_lamcall (T := W.T.l) (TT := TTref W.T.l X.K c0 c1 c2 c3 c4 cE) (t := fun E => tOf (repV (cst X W)) (cst X W) (wOf ⟨W.T.l, false⟩ X.mg E) m) hg U.hm U.F.kp lk hcd U.bind U.S rfl U.va (U.gives X W.T.l (k + 1) g cdv _ rfl rfl L.ne hr) L.tb hcode L.mem L.un hr S hdef hbind fun A outer s H E f c' hr2 => ?_) fun σ H Q t => refused_r U.M.srt t
  exact hbody A outer s H E f c' hr2 (K.lam hr2)
/-! ### the end, with tables -/
theorem good_fnOk {T : List (Addr × Str)} {P : Program} {w : World} {K : PySem.W.Frag} {mg : Str → Option Value} {base : Heap} {k : Nat} {f : Addr} {fd : FuncData} {ps : List Str} {s : Fn} (hT : T ≠ []) (F : Good ⟨T, false⟩ P w K mg base k f fd ps s) : FnOk P w K mg base (L2.CX P w) k f fd ps (spOf ps.length ⟨P, w, K, T⟩ mg s) :=
  ⟨fun vs H Q E h => h.1, fun A outer s H args us vs Q E hr e0 b r h => F.run A outer s H args us vs Q E hr (fun z => by cases z) e0 b r h⟩
theorem walk_goodT {l : PySem.W.OpenLaw} {n k : Nat} {q : Program} {loose : List Str} {XP : (Str → Option Value) → Heap → Prop} {YP : World → Heap → Prop} {d : DefRec} {K : Params → PySem.W.Frag} {f : Fn} {x : Str}
    (hn : l.most = some n) (hn2 : n ≤ sizeLine) (hdf : d.params.defaults = []) (room : Room k callerA)
    (inn : ∀ (w : World) (h : Heap), YP w h → (K w.params).In h)
    (F : ∀ (w : World) (m : Str → Option Value) (fa : Addr) (h : Heap), YP w h → (K w.params).In h → h.Ns mainGlobals m → m d.name = some (.ref fa) →
      ∃ (fd : FuncData) (cs : List (Addr × Addr)) (T : List (Addr × Str)), T ≠ [] ∧ (∀ p ∈ T, p.1 ∈ cs.map (·.2)) ∧ (∀ p ∈ cs, h.get? p.2 = some { cls := .none, data := .fields #[] }) ∧ (∀ p ∈ cs, (K w.params).lookup p.2 = none) ∧ (∀ p ∈ cs, PySem.W.CodeHd h p.1 p.2) ∧
        (∀ (s : Shared) (u : Value), BindsTo s fd ⟨[u], []⟩ [(x, u)]) ∧ ∀ base : Heap, (K w.params).In base → base.Ns mainGlobals m → (∀ p ∈ cs, LamX.TabB base m p.1 p.2) → Good ⟨T, false⟩ l.prog w (K w.params) m base k fa fd [x] f)
    (L : ∀ ns : List Int, ns.length ≤ n → ∃ h', f [.im (.list (ns.map .int))] [] = .ok (.im (.bool true)) h') :
    PySem.W.WalkO q loose XP YP l.row.toRowW d [] (fun f vs => PySem.call f vs) := by
  refine LamX.walk_ofTs (x := x) (CX := fun w => L2.CX l.prog w) hn hn2 hdf room inn (fun w mg fa h Y KX hns hmg => ?_) fun w H s e s' z => ?_
  · obtain ⟨fd, cs, T, hT, hTc, h1, h2, h3, bd, G⟩ := F w mg fa h Y KX hns hmg
    refine ⟨fd, cs, spOf 1 ⟨l.prog, w, K w.params, T⟩ mg f, h1, h2, h3, bd, fun H a ns hl _ hH hS => ?_, fun base kb nb tb => good_fnOk hT (G base kb nb tb)⟩
    obtain ⟨h', eL⟩ := L ns hl
    have tab : ∀ p ∈ T, H p.1 = some (.tbl #[]) := fun p hp => by
      obtain ⟨y, hy, e⟩ := List.mem_map.mp (hTc p hp)
      rw [← e]; exact hH y hy
    have S2 : SqL (K w.params) (noTabs T H) a (ns.map V.int) := by
      have nt : ∀ {o : HO}, H a = some o → (∀ ps, o ≠ .tbl ps) → noTabs T H a = some o := fun {o} e h => by
        rw [noTabs_eq]
        · exact e
        · rintro (⟨y, hy, z⟩ | ⟨ps, z⟩)
          · have := tab y hy
            rw [← z, e] at this
            cases this
            exact h _ rfl
          · rw [e] at z; cases z; exact h _ rfl
      rcases hS with (z | ⟨o, z⟩) | z
      · exact .inl (.inl (nt z fun ps q => by cases q))
      · exact .inl (.inr ⟨o, nt z fun ps q => by cases q⟩)
      · exact .inr z
    have R : Rel ⟨l.prog, w, K w.params, T⟩ (noTabs T H) (noTabs T H) (fun _ => 0) [] H := ⟨fun _ _ z => noTabs_le z, fun _ _ z => noTabs_le z, fun _ _ _ _ z => by simp at z, fun _ _ z => by simp at z, fun _ _ z => by simp at z, fun _ _ z => by simp at z, fun p hp => ⟨noTabs_T hp, noTabs_T hp, .nil (tab p hp)⟩, fun _ _ => noTabs_t, fun _ _ => noTabs_t⟩
    refine ⟨rfl, noTabs T H, noTabs T H, fun _ => 0, [], _, R, .cons (.im (.lst S2 (dp_ints ns))) .nil, ?_⟩
    rw [eL]
    intro F' ι' H' y _ _ _ V
    cases V with
    | im z => cases z; rfl
  · obtain ⟨_, _, _, _, _, _, _, _, _, _, _, _, q⟩ := z
    exact q.elim
end NT

set_option Elab.async false
set_option linter.all false
set_option maxRecDepth 100000
set_option autoImplicit false

namespace NT
open PySem PySem.Spec PyProof.Rows L2 PySem.W

/-! ### the end, with tables, where the law's own defs ask for repr -/
/-- the script and the tables, all that is tracked at the start -/
structure ScrT (P : Program) (w : World) (K : PySem.W.Frag) (h : Heap) (a : Addr) (ns : List Int) (TS : List Addr) (H : Hp) : Prop where
  only : ∀ b, H b = none ∨ (b ∈ TS ∧ H b = some (.tbl #[])) ∨ (b = a ∧ b ∉ TS ∧ K.lookup a = none ∧ ∃ o xs, H b = some (.frz o (.lst xs)))
  tab : ∀ b ∈ TS, H b = some (.tbl #[])
  seq : SqL K (fun b => open Classical in if b ∈ TS then none else H b) a (ns.map V.int)
  ok : HOk P w H h
open Classical in
theorem scr_tabs {P : Program} {w : World} {K : PySem.W.Frag} {h : Heap} {a : Addr} {vs : List Value} {ns : List Int} {TS : List Addr} (kin : K.In h) (e : h.get? a = some { cls := .type "list", data := .seq vs.toArray }) (is : IntsAre vs ns) (few : ns.length ≤ sizeLine)
    (ht : ∀ b ∈ TS, h.get? b = some { cls := .none, data := .fields #[] }) : ∃ H, ScrT P w K h a ns TS H := by
  obtain ⟨H, S⟩ := scr_of (P := P) (w := w) kin e is few
  have na : a ∉ TS := fun z => by
    have := ht a z
    rw [e] at this
    have := congrArg Obj.data (Option.some.inj this)
    exact Data.noConfusion this
  let G : Hp := fun b => if b ∈ TS then some (.tbl #[]) else H b
  have Gi : ∀ {b}, b ∈ TS → G b = some (.tbl #[]) := fun m => if_pos m
  have Go : ∀ {b}, b ∉ TS → G b = H b := fun m => if_neg m
  refine ⟨G, fun b => ?_, fun b m => Gi m, ?_, fun b u z => ?_⟩
  · rcases Classical.em (b ∈ TS) with m | m
    · exact .inr (.inl ⟨m, Gi m⟩)
    · rw [Go m]
      rcases S.only b with q | ⟨o, xs, q⟩
      · exact .inl q
      · have hb := S.just b (by rw [q]; exact fun z => nomatch z)
        exact .inr (.inr ⟨hb, m, S.out (by rw [← hb, q]; exact fun z => nomatch z), o, xs, q⟩)
  · have eq : (if a ∈ TS then none else G a) = H a := (if_neg na).trans (Go na)
    rcases S.seq with (q | ⟨o, q⟩) | q
    · exact .inl (.inl (eq.trans q))
    · exact .inl (.inr ⟨o, eq.trans q⟩)
    · exact .inr q
  · rcases Classical.em (b ∈ TS) with m | m
    · rw [Gi m] at z
      cases z
      exact ht b m
    · rw [Go m] at z
      rcases S.only b with q | ⟨o, xs, q⟩
      · rw [q] at z; cases z
      · have := S.ok b u z
        rw [q] at z
        cases z
        exact this
theorem top_callG {P : Program} {w : World} {K : PySem.W.Frag} {mg mb : Str → Option Value} {k : Nat} {fa a : Addr} {fd : FuncData} {x : Str} {f : Fn} {s : Shared} {vs : List Value} {ns : List Int} {cs : List (Addr × Addr)} {T : List (Addr × Str)}
    (kin : K.In s.heap) (nm : s.heap.Ns mainGlobals mg) (nb : s.heap.Ns builtinsNs mb) (boot : ∀ x : Str, x ≠ "__name__" → mb x = bootBuiltins x) (free : s.heap.NoLimit) (gens : s.gens = #[])
    (ht : ∀ p ∈ cs, s.heap.get? p.2 = some { cls := .none, data := .fields #[] }) (hk : ∀ p ∈ cs, K.lookup p.2 = none) (hc : ∀ p ∈ cs, PySem.W.CodeHd s.heap p.1 p.2)
    (hbm : ∃ (bm : Addr) (ob : Obj), mg "__builtins__" = some (.ref bm) ∧ bm ≠ builtinsNs ∧ s.heap.get? bm = some ob ∧ ob.cls = .type "module" ∧ ob.dict = some builtinsNs ∧ ob.data = .plain)
    (e : s.heap.get? a = some { cls := .type "list", data := .seq vs.toArray }) (is : IntsAre vs ns) (few : ns.length ≤ sizeLine) (room : Room k callerA) (hT : ∀ p ∈ T, p.1 ∈ cs.map (·.2))
    (F : ∀ base : Heap, K.In base → base.Ns mainGlobals mg → (∀ p ∈ cs, LamX.TabB base mg p.1 p.2) → Good ⟨T, true⟩ P w K mg base k fa fd [x] f) (bd : ∀ (s : Shared) (u : Value), BindsTo s fd ⟨[u], []⟩ [(x, u)])
    (L : ∃ h', f [.im (.list (ns.map .int))] [] = .ok (.im (.bool true)) h') :
    codeAny (model P w) callerA (.call (.ref fa) ⟨[.ref a], []⟩) (fun r s' => r = .ok (.ret (.bool true)) ∧ OldK s.heap s'.heap ∧ s'.os = s.os ∧ AllBare s'.gens) s := by
  have tabAt : ∀ b ∈ cs.map (·.2), s.heap.get? b = some { cls := .none, data := .fields #[] } := fun b m => by
    obtain ⟨p, hp, rfl⟩ := List.mem_map.mp m
    exact ht p hp
  obtain ⟨H, S⟩ := scr_tabs (P := P) (w := w) kin e is few tabAt
  -- a thing that is no list and no empty table stays in sight
  have sees : ∀ {b : Addr} {o : Obj}, s.heap.get? b = some o → (∀ vs n, o.data ≠ .seq vs n) → o.data ≠ .fields #[] → (hidT s.heap H).get? b = some o := fun {b o} z h1 h2 => hidT_get z (by
    rcases S.only b with q | ⟨m, q⟩ | ⟨rfl, _⟩
    · exact q
    · rw [tabAt b m] at z
      cases z
      exact (h2 rfl).elim
    · rw [e] at z
      cases z
      exact (h1 _ _ rfl).elim)
  have nsB : ∀ {b : Addr} {m : Str → Option Value}, s.heap.Ns b m → (hidT s.heap H).Ns b m := fun {b m} ⟨o, es, ep, z, d, r⟩ =>
    ⟨o, es, ep, sees z (fun _ _ q => by rw [d] at q; cases q) (fun q => by rw [d] at q; cases q), d, r⟩
  have kinB : K.In (hidT s.heap H) := fun b o z => hidT_get (kin b o z) (by
    rcases S.only b with q | ⟨m, q⟩ | ⟨rfl, _, q, _⟩
    · exact q
    · obtain ⟨p, hp, rfl⟩ := List.mem_map.mp m
      rw [hk p hp] at z; cases z
    · rw [q] at z; cases z)
  have md : Mod K mg (hidT s.heap H) := ⟨kinB, nsB nm, ⟨mb, nsB nb, boot⟩, let ⟨mc, h1, h2⟩ := free; ⟨mc, nsB h1, h2⟩⟩
  have ev : Env0 P w K mg (hidT s.heap H) callerA [] s H := ⟨rfl, md, fun _ _ z => of_hidT z, Nat.le_of_eq (hidT_size _ _), trivial, fun b hb => absurd (show b ∈ ([] : List Addr) from hb) (by simp), S.ok, AllBare.of_eq gens⟩
  have tb : ∀ p ∈ cs, LamX.TabB (hidT s.heap H) mg p.1 p.2 := fun p hp => by
    have tp := ht p hp
    refine ⟨?_, ?_, fun z => ?_⟩
    · obtain ⟨o, us, v1, v2, v3, v4, v5, v6, v7, g1, g2, g3, g4, more⟩ := hc p hp
      refine ⟨o, us, v1, v2, v3, v4, v5, v6, v7, sees g1 (fun _ _ q => by rw [g3] at q; cases q) (fun q => ?_), g2, g3, g4, more⟩
      rw [g3] at q
      cases q
      simp at g4
    · obtain ⟨bm, ob, q1, q2, q3, q4, q5, q6⟩ := hbm
      refine ⟨bm, ob, q1, q2, fun z => ?_, fun z => ?_, sees q3 (fun _ _ q => by rw [q6] at q; cases q) (fun q => by rw [q6] at q; cases q), q4, q5, q6⟩
      · obtain ⟨o, es, ep, g, d, _⟩ := nm
        rw [z, g] at q3
        cases q3
        rw [d] at q6; cases q6
      · rw [z, tp] at q3
        cases q3
        cases q6
    · obtain ⟨o, es, ep, g, d, _⟩ := nm
      rw [z, tp] at g
      cases g
      cases d
  obtain ⟨h', eL⟩ := L
  let G : Hp := fun b => open Classical in if b ∈ cs.map (·.2) then none else H b
  have Gle : ∀ b o, G b = some o → H b = some o := fun b o z => by
    rcases Classical.em (b ∈ cs.map (·.2)) with m | m
    · rw [show G b = none from if_pos m] at z; cases z
    · rw [show G b = H b from if_neg m] at z; exact z
  have Gn : ∀ b ps, G b ≠ some (.tbl ps) := fun b ps z => by
    rcases Classical.em (b ∈ cs.map (·.2)) with m | m
    · rw [show G b = none from if_pos m] at z; cases z
    · rw [show G b = H b from if_neg m] at z
      rcases S.only b with q | ⟨m2, _⟩ | ⟨_, _, _, o, xs, q⟩
      · rw [q] at z; cases z
      · exact m m2
      · rw [q] at z; cases z
  have Gt : ∀ p ∈ T, G p.1 = none := fun p hp => if_pos (hT p hp)
  have R : Rel ⟨P, w, K, T⟩ G G (fun _ => 0) [] H := ⟨Gle, Gle, fun _ _ _ _ z => by simp at z, fun _ _ z => by simp at z, fun _ _ z => by simp at z, fun _ _ z => by simp at z, fun p hp => ⟨Gt p hp, Gt p hp, .nil (S.tab p.1 (hT p hp))⟩, Gn, Gn⟩
  have sp : spOf 1 ⟨P, w, K, T⟩ mg f [.ref a] H (fun v _ => v = .bl true) (fun _ _ _ => False) := ⟨rfl, G, G, fun _ => 0, [], _, R, .cons (.im (.lst S.seq (dp_ints ns))) .nil, by
    rw [eL]
    intro F' ι' H' y _ _ _ V
    cases V with
    | im z => cases z; rfl⟩
  refine codeAny_mono ((F _ kinB (nsB nm) tb).run callerA [] s H ⟨[.ref a], []⟩ [.ref a] [.ref a] _ _ room (fun _ => rfl) ev (bd s (.ref a)) (.cons rfl .nil) sp) ?_
  rintro (er | fl) s' z
  · obtain ⟨_, _, _, _, _, _, _, _, _, _, _, _, q⟩ := z
    exact q.elim
  · cases fl with
    | next | brk | cont => exact z.elim
    | ret u =>
      obtain ⟨v, H', os, bare, un, hok', rv, q⟩ := z
      obtain rfl : v = .bl true := q
      obtain rfl : u = .bool true := rv
      have stays : ∀ b o, b ∉ cs.map (·.2) → s.heap.get? b = some o → s'.heap.get? b = some o := fun b o m z => by
        rcases S.only b with q | ⟨m2, _⟩ | ⟨_, _, _, ob, xs, q⟩
        · exact un.keep b o z q (fun z => by cases z) (by simp)
        · exact (m m2).elim
        · have o1 := (S.ok b _ q).1
          have o2 := (hok' b _ (un.frzs b ob _ q)).1
          rw [z] at o1
          cases o1
          exact o2
      have grows : ∀ p ∈ cs, ∃ ps : Array Value, s'.heap.get? p.2 = some { cls := .none, data := .fields ps } := fun p hp => by
        obtain ⟨more, g⟩ := un.tbls p.2 #[] (S.tab p.2 (List.mem_map_of_mem hp))
        exact ⟨_, hok' p.2 _ g⟩
      refine ⟨rfl, ⟨fun b o z => ?_, fun b o z => ?_⟩, os, bare⟩
      · rcases Classical.em (b ∈ cs.map (·.2)) with m | m
        · obtain ⟨p, hp, rfl⟩ := List.mem_map.mp m
          obtain ⟨ps, g⟩ := grows p hp
          rw [ht p hp] at z
          cases z
          exact .inr (.inl ⟨((hc p hp).tab (ht p hp)).isCodeTable, rfl, #[], ps, rfl, by rw [Array.empty_append]; exact g⟩)
        · exact .inl (stays b o m z)
      · rcases Classical.em (b ∈ cs.map (·.2)) with m | m
        · obtain ⟨p, hp, rfl⟩ := List.mem_map.mp m
          obtain ⟨ps, g⟩ := grows p hp
          exact ⟨_, g⟩
        · exact ⟨o, stays b o m z⟩
theorem walk_goodG {l : PySem.W.OpenLaw} {n k : Nat} {q : Program} {loose : List Str} {XP : (Str → Option Value) → Heap → Prop} {YP : World → Heap → Prop} {d : DefRec} {K : Params → PySem.W.Frag} {f : Fn} {x : Str}
    (hn : l.most = some n) (hn2 : n ≤ sizeLine) (hdf : d.params.defaults = []) (room : Room k callerA)
    (inn : ∀ (w : World) (h : Heap), YP w h → (K w.params).In h)
    (F : ∀ (w : World) (m : Str → Option Value) (fa : Addr) (h : Heap), YP w h → (K w.params).In h → h.Ns mainGlobals m → m d.name = some (.ref fa) →
      ∃ (fd : FuncData) (cs : List (Addr × Addr)) (T : List (Addr × Str)), T ≠ [] ∧ (∀ p ∈ T, p.1 ∈ cs.map (·.2)) ∧ (∀ p ∈ cs, h.get? p.2 = some { cls := .none, data := .fields #[] }) ∧ (∀ p ∈ cs, (K w.params).lookup p.2 = none) ∧ (∀ p ∈ cs, PySem.W.CodeHd h p.1 p.2) ∧
        (∀ (s : Shared) (u : Value), BindsTo s fd ⟨[u], []⟩ [(x, u)]) ∧ ∀ base : Heap, (K w.params).In base → base.Ns mainGlobals m → (∀ p ∈ cs, LamX.TabB base m p.1 p.2) → Good ⟨T, true⟩ l.prog w (K w.params) m base k fa fd [x] f)
    (L : ∀ ns : List Int, ns.length ≤ n → ∃ h', f [.im (.list (ns.map .int))] [] = .ok (.im (.bool true)) h') :
    PySem.W.WalkO q loose XP YP l.row.toRowW d [] (fun f vs => PySem.call f vs) := by
  refine Att.attach_call hn hdf fun w s₀ s₁ mg mb fa o pm cd doc a vs ns G Y _ _ _ hmg hob is hl gens => ?_
  obtain ⟨fd, cs, T, _, h1, h2, h3, h4, bd, FF⟩ := F w mg fa _ Y (inn w _ Y) G.T.g hmg
  exact top_callG (inn w _ Y) G.T.g G.T.b G.T.builtins G.T.nolimit gens h2 h3 h4 G.T.bmain hob is (Nat.le_trans hl hn2) room h1 FF bd (L ns hl)
end NT

set_option Elab.async false
set_option linter.all false
set_option maxRecDepth 100000
set_option autoImplicit false

namespace NT
open PySem PySem.Spec PyProof.Rows L2 PySem.W
/-! ### _law_refused(lambda: ..) over values -/
def clV (σ : VE) : VE := σ.map fun o => match o with
  | some (.im d) => some (.im d)
  | _ => none
def wRefused (v : VM VV) : VM VV := fun σ => match v (clV σ) with
  | .er c => (match refSrt c with
    | some l => .ok (.lst (l.map fun (i : Nat) => .int i)) σ
    | none => .no)
  | .ok _ _ => .ok (.im .none) σ
  | .no => .no
theorem st_cl {fr : Fr} {ρ : En} {h : Hs} {σ : VE} (S : St fr ρ h σ) : St [] (cl ρ) [] (clV σ) := by
  have g : ∀ {i : Nat} {d : VV}, (clV σ)[i]? = some (some d) → ∃ e, d = .im e ∧ σ[i]? = some (some (.im e)) := fun {i d} e => by
    unfold clV at e
    rw [List.getElem?_map] at e
    cases w : σ[i]? with
    | none => rw [w] at e; cases e
    | some o =>
      rw [w] at e
      cases o with
      | none => cases e
      | some u => cases u <;> cases e; exact ⟨_, rfl, rfl⟩
  have r : ∀ {i k : Nat}, (cl ρ)[i]? = some (some (Val.ref k)) → False := fun {i k} e => by
    unfold cl at e
    rw [List.getElem?_map] at e
    cases w : ρ[i]? with
    | none => rw [w] at e; cases e
    | some o =>
      rw [w] at e
      cases o with
      | none => cases e
      | some u => cases u <;> cases e
  refine ⟨by unfold cl clV; rw [List.length_map, List.length_map]; exact S.len, fun i d e => ?_, fun i d e m => ?_, fun i j d e k e1 _ m => ?_, fun i k e => (r e).elim, fun _ z => by cases z⟩
  · obtain ⟨u, h1, h2⟩ := g e
    cases h1
    unfold cl
    rw [List.getElem?_map, S.im i _ h2]
    rfl
  · obtain ⟨u, h1, h2⟩ := g e
    subst h1
    cases m
  · obtain ⟨u, h1, h2⟩ := g e1
    subst h1
    cases m
theorem sv_refused {b : Bool} {m : Ev} {v : VM VV} (s : SimE b m v) : SimE true (eRefused refSrt m) (wRefused v) := fun fr ρ h σ S => by
  have z := s [] (cl ρ) [] (clV σ) (st_cl S)
  unfold wRefused eRefused
  cases e : v (clV σ) with
  | ok d σ' =>
    rw [e] at z
    obtain ⟨x, h', q, _⟩ := z
    rw [q]
    exact ⟨.im .none, h, rfl, Nat.le_refl _, S, .im .none⟩
  | no => trivial
  | er c =>
    rw [e] at z
    have z : m (cl ρ) [] = .er c := z
    rw [z]
    simp only
    cases hs : refSrt c with
    | none => trivial
    | some l =>
      simp only
      refine ⟨.ref h.length, h ++ [.lst (l.map fun (i : Nat) => .im (.int i))], rfl, by rw [List.length_append]; omega, S.grow _, .new rfl (by simp [VV.cell]) (Nat.le_refl _)⟩
end NT

set_option Elab.async false
set_option linter.all false
set_option maxRecDepth 100000
set_option autoImplicit false

namespace NT
open PySem PySem.Spec PyProof.Rows L2 PySem.W
/-! ### a name's list asked behind an expression that changes other names -/
def w2LA (i : Nat) (d : VV) (g : VV → VV → WO) (e : VV) (σ2 : VE) : VR VV := if d.mu = false then (g d e).at σ2 else match σ2[i]? with
  | some (some d2) => if d2.mu = true then (g d2 e).at σ2 else .no
  | _ => .no
def w2L (i : Nat) (b : VM VV) (g : VV → VV → WO) : VM VV := fun σ => match σ[i]? with
  | some (some d) => (b σ).bind (w2LA i d g)
  | _ => .no
@[simp] theorem r_2L (i : Nat) (b : VM VV) (g : VV → VV → WO) (σ : VE) : w2L i b g σ = match σ[i]? with
  | some (some d) => (b σ).bind (w2LA i d g)
  | _ => .no := rfl
@[simp] theorem w2LA_im (i : Nat) (d : PyData) (g : VV → VV → WO) (e : VV) (σ2 : VE) : w2LA i (.im d) g e σ2 = (g (.im d) e).at σ2 := rfl
@[simp] theorem w2LA_lst (i : Nat) (l : List PyData) (g : VV → VV → WO) (e : VV) (σ2 : VE) : w2LA i (.lst l) g e σ2 = match σ2[i]? with
  | some (some d2) => if d2.mu = true then (g d2 e).at σ2 else .no
  | _ => .no := rfl
theorem sv_2L {i : Nat} {b' : Bool} {c : Ev} {vc : VM VV} {f : Val → Val → Hs → Res Val} {g : VV → VV → WO} (o : Op2 f g) (hc : SimE b' c vc) : SimE true (e2 (eVar i) c f) (w2L i vc g) := fun fr ρ h σ S => by
  show Out _ fr ρ h.length ((eVar i ρ h).bind fun x h1 => (c ρ h1).bind fun y h2 => f x y h2) (w2L i vc g σ)
  unfold w2L
  cases e : σ[i]? with
  | none => trivial
  | some od =>
    cases od with
    | none => trivial
    | some d =>
      simp only
      cases hm : d.mu with
      | false =>
        cases d with
        | lst _ => cases hm
        | dct _ => cases hm
        | im w =>
          have ex : eVar i ρ h = .ok (.im w) h := by simp only [eVar, S.im i w e]
          rw [ex]
          simp only [bind_ok]
          have z := hc fr ρ h σ S
          cases ev : vc σ with
          | no => trivial
          | er k => rw [ev] at z; rw [show c ρ h = _ from z]; rfl
          | ok u σ2 =>
            rw [ev] at z
            obtain ⟨y, h2, q, l2, S2, r2⟩ := z
            rw [q]
            exact op_fin S2 l2 (o h2 (.im w) y (.im w) u (.im w) r2.rd)
      | true =>
        obtain ⟨k, a1, a2, _⟩ := S.mu i d e hm
        have ex : eVar i ρ h = .ok (.ref k) h := by simp only [eVar, a1]
        rw [ex]
        simp only [bind_ok]
        have z := hc fr ρ h σ S
        cases ev : vc σ with
        | no => trivial
        | er k' => rw [ev] at z; rw [show c ρ h = _ from z]; rfl
        | ok u σ2 =>
          rw [ev] at z
          obtain ⟨y, h2, q, l2, S2, r2⟩ := z
          rw [q]
          simp only [bind_ok, vbind_ok, w2LA, hm, Bool.true_eq_false, if_false]
          cases e2 : σ2[i]? with
          | none => trivial
          | some od2 =>
            cases od2 with
            | none => trivial
            | some d2 =>
              simp only
              cases hm2 : d2.mu with
              | false => trivial
              | true =>
                simp only [if_true]
                obtain ⟨k2, b1, b2, _⟩ := S2.mu i d2 e2 hm2
                rw [a1] at b1
                cases b1
                exact op_fin S2 l2 (o h2 (.ref k) y d2 u (.ref hm2 b2) r2.rd)
end NT

set_option Elab.async false
set_option linter.all false
set_option maxRecDepth 100000
set_option autoImplicit false

namespace NT
open PySem PySem.Spec PyProof.Rows L2 PySem.W
/-! ### [a, [b], ..]: lists that stand in a list, as they are -/
def eLstZ (m : M (List Val)) : Ev := fun ρ h => (m ρ h).bind fun vs h1 => match frzL vs h1 with
  | some (ds, h2) => if ds.length ≤ 16777216 then .ok (.ref h2.length) (h2 ++ [.lst (ds.map .im)]) else .no
  | none => .no
theorem je_lstZ {X : Cx} {W : WK} {es : List Expr} {ms : M (List Val)} {pos : Pos} (ha : JA X W es ms) : JE X W (.List es pos) (eLstZ ms) := by
  refine PE.imp (pe_lst ha) fun σ H Q t => ?_
  obtain ⟨G, F, ι, ρ, h, R, S, D⟩ := t
  refine st1 R S D fun F1 ι1 h1 H1 x v R1 E1 l1 V1 D1 => ?_
  split at D1
  · rename_i ds h2 ef
    split at D1
    · rename_i hz
      obtain ⟨F2, R2, E2, l2, z2⟩ := Rel.frzVs R1 V1 ef
      have l2' : h1.length ≤ h2.length := by rw [l2]; exact Nat.le_refl _
      exact ⟨by rw [dp_len z2, SZ_eq]; exact hz, fun p hp => fin_newL R2 (Done.mono D1 E2 l2') (rvs_of z2) p hp⟩
    · exact D1.elim
  · exact D1.elim
end NT

set_option Elab.async false
set_option linter.all false
set_option maxRecDepth 100000
set_option autoImplicit false

namespace NT
open PySem PySem.Spec PyProof.Rows L2 PySem.W
def wLstZ (r : VM (List VV)) : VM VV := fun σ => (r σ).bind fun ds σ1 => match datas ds with
  | some l => if l.length ≤ 16777216 then .ok (.lst l) σ1 else .no
  | none => .no
@[simp] theorem r_lstZ (r : VM (List VV)) (σ : VE) : wLstZ r σ = (r σ).bind fun ds σ1 => match datas ds with | some l => (if l.length ≤ 16777216 then .ok (.lst l) σ1 else .no) | none => .no := rfl
theorem sv_lstZ {r : M (List Val)} {vr : VM (List VV)} (hr : SimA true r vr) : SimE true (eLstZ r) (wLstZ vr) := fun fr ρ h σ S =>
  sv_bind hr S fun xs ds h1 σ1 l1 S1 p => by
    cases e : datas ds with
    | none => trivial
    | some l =>
      obtain ⟨h2, a1, a2, a3⟩ := frz_sim S.bl S.frl xs ds l h1 e (res_fz e p) S1 l1
      refine out_if fun hl => ?_
      exact ⟨.ref h2.length, h2 ++ [.lst (l.map .im)], by simp only [a1, hl, if_true], by rw [List.length_append]; omega, a2.grow _, .new rfl (by simp [VV.cell]) (by omega)⟩
end NT

set_option Elab.async false
set_option linter.all false
set_option maxRecDepth 100000
set_option autoImplicit false

namespace NT
open PySem PySem.Spec PyProof.Rows L2 PySem.W

/-! ### d.update(pairs), list(d) -/
def mUpdD (v : Val) (us : List Val) (h : Hs) : Res Val := match v, us with
  | .ref j, [u] => match h[j]? with
    | some (.dct kvs) => match lstOf h u with
      | some vs => match imsOf vs with
        | some ds => match pairsOfD ds with
          | some ps => if (keysB kvs && (ps.all fun p => isKeyB p.1) && decide (kvs.length + ps.length < 16777216)) = true then .ok (.im .none) (h.set j (.dct (dputs kvs ps))) else .no
          | none => .no
        | none => .no
      | none => .no
    | _ => .no
  | _, _ => .no
def fListD (us : List Val) (h : Hs) : Res Val := match us with
  | [.ref j] => match h[j]? with
    | some (.dct kvs) => if keysB kvs = true then .ok (.ref h.length) (h ++ [.lst ((kvs.map (·.1)).map .im)]) else .no
    | _ => .no
  | _ => .no
section
variable {X : Cx} {W : WK} {G F : Hp} {ι : Nat → Addr} {h : Hs} {H : Hp} {pins : List (Addr × Obj)} {σ : L2.St} {s : Shared}
/-- the dict's object is another one, all else is kept -/
theorem Rel.rewriteK (I : Inv X pins σ H s) (R : Rel (cst X W) G F ι h H) {j : Nat} {kvs kvs' : List (PyData × Val)} {xs' : List (NestedKey × Addr × Value)} {h' : Heap} {tk : Nat} (e : h[j]? = some (.dct kvs)) (low : (ι j == sysModules) = false)
    (dd : h'.DictOfH (nestedKind X.prog X.w) (ι j) xs') (sb : ∀ b o, b ≠ ι j → b ∉ ([] : List Addr) → s.heap.get? b = some o → h'.get? b = some o) (hz : xs'.length ≤ sizeLine) (P : Paired (EnR X W ι F h.length) xs' kvs') :
    ∃ H', Inv X pins σ H' { s with heap := h', toks := tk } ∧ Rel (cst X W) G F ι (h.set j (.dct kvs')) H' := by
  obtain ⟨L, l1, l2, l3⟩ := lay_ents P
  obtain ⟨o, es, ep, ho, hx, hd, he, _, _⟩ := dd
  obtain ⟨L0, hH, _, _⟩ := R.cell j _ e
  have dp : dictP (ι j) L h' := ⟨low, o, es, ep, ho, hx, hd, by rw [he]; exact l2⟩
  refine ⟨upd H (ι j) (.ext (dictP (ι j) L)), I.write (e := ι j) (t' := tk) (by rw [hH]; trivial) (.inl rfl) (fun b u hb q => sb b u hb (fun z => by cases z) q) ⟨o, ho⟩ ⟨dp, ⟨o, ho⟩, fun h1 h2 p k => dictP_stays p k⟩, ?_⟩
  exact R.setC e rfl rfl ⟨L, rfl, by rw [l1]; exact hz, l3⟩
theorem stored_all_len : ∀ (ps acc : List (NestedKey × Addr × Value)), (storedAllH acc ps).length ≤ acc.length + ps.length := fun ps acc => by
  have := storedAllH_length ps acc
  omega
theorem o_updD (K : Ctx X W) : MtR X "dict.update" (rOfM (cst X W) W mUpdD) := by
  intro pins s σ H x xs v us Q I rx rxs t
  obtain ⟨G, F, ι, h, u1, v1, R, V1, V2, D⟩ := t
  unfold mUpdD at D
  split at D
  · rename_i j u
    split at D
    · rename_i w kvs hc
      split at D
      · rename_i vs e
        split at D
        · rename_i ds ei
          split at D
          · rename_i ps ep
            split at D
            · rename_i hh
              rw [Bool.and_eq_true, Bool.and_eq_true, decide_eq_true_eq] at hh
              obtain ⟨⟨kb, ka⟩, hlen⟩ := hh
              cases V2 with
              | cons va vb =>
                cases vb
                obtain ⟨p, ys, rfl, s', P⟩ := R.lsts va e
                obtain ⟨uv, rfl, ru⟩ := vals1 rxs
                obtain rfl : uv = .ref p := ru
                obtain ⟨its, rv, pl, hz⟩ := I.list s'
                rw [ims_of ei] at P
                obtain ⟨es, Ts, h1, h2, h3, h4, h5⟩ := pairs_at I R ep ka (dpAll_of P) rv
                obtain ⟨es0, low, dd, hz0, P0⟩ := R.dict I hc kb
                have el : es.length = ps.length := Paired.length h5
                have el0 : es0.length = kvs.length := Paired.length P0
                have hu := K.hu
                cases V1 with
                | ref hj =>
                  obtain rfl : v = .ref (ι j) := rx
                  have dd0 := dd
                  obtain ⟨od, esd, epd, hod, hxd, hdd, hed, hisd, _⟩ := dd0
                  have ok : PlainSeq "list" s.heap p its.toArray ∧ PairItems s.heap its.toArray (fun j => Ts.getD j 0) (es.map fun e => (Value.ref e.2.1, e.2.2)) := by
                    refine ⟨?_, ?_, fun j k v hj => ?_⟩
                    · obtain ⟨o, n, q1, q2, q3, q4⟩ := pl
                      exact ⟨o, n, q1, q2, q3, q4⟩
                    · rw [List.size_toArray, List.length_map, h1, List.length_map, h2]
                    · rw [List.getElem?_map] at hj
                      cases ej : es[j]? with
                      | none => rw [ej] at hj; cases hj
                      | some e' =>
                        rw [ej] at hj
                        cases hj
                        have lj := (List.getElem?_eq_some_iff.mp ej).1
                        have tj : Ts[j]? = some (Ts.getD j 0) := by rw [List.getD_eq_getElem?_getD, List.getElem?_eq_getElem (by omega)]; rfl
                        refine ⟨?_, .inl (h3 j _ e' tj ej)⟩
                        rw [List.getElem?_toArray, h1, List.getElem?_map, tj]
                        rfl
                  have notD : ∀ {b : Addr} {o : Obj} {xs : Array Value} {n : Nat}, s.heap.get? b = some o → o.data = .seq xs n → ι j ≠ b := fun {b o xs n} q1 q2 z => by
                    rw [← z, hod] at q1
                    cases q1
                    rw [hdd] at q2; cases q2
                  have far : ι j ∉ p :: (List.range (es.map fun e => (Value.ref e.2.1, e.2.2)).length).map (fun j => Ts.getD j 0) := fun hm => by
                    rcases List.mem_cons.mp hm with z | hm
                    · obtain ⟨o, n, q1, _, _, q3⟩ := ok.1
                      exact notD q1 q3 z
                    · obtain ⟨i, hi, z⟩ := List.mem_map.mp hm
                      have hi := List.mem_range.mp hi
                      rw [List.length_map] at hi
                      have tj : Ts[i]? = some (Ts.getD i 0) := by rw [List.getD_eq_getElem?_getD, List.getElem?_eq_getElem (by omega)]; rfl
                      obtain ⟨o, q1, _, n, q3⟩ := h3 i _ _ tj (List.getElem?_eq_getElem hi)
                      exact notD q1 q3 z.symm
                  refine call_update_pairsH (knd := nestedKind X.prog X.w) (ps := es) (PairArg.list p its.toArray (fun j => Ts.getD j 0) (es.map fun e => (Value.ref e.2.1, e.2.2))) (I.ok.hd K.calm) (show X.A.units + 1 + 8 < cLine by omega) ok far ⟨by rw [List.length_map], fun i key v hr => ?_⟩ (fun h' hk x hx => ?_) dd (by rw [List.length_map, el, el0, SZ_eq]; omega) fun h' tk dd' hk => ?_
                  · have hr' : (es.map fun e => (Value.ref e.2.1, e.2.2))[i]? = some (key, v) := hr
                    rw [List.getElem?_map] at hr'
                    cases ej : es[i]? with
                    | none => rw [ej] at hr'; cases hr'
                    | some e' =>
                      rw [ej] at hr'
                      cases hr'
                      exact ⟨e'.1, e'.2.1, rfl, rfl⟩
                  · refine HeapKind.Stays.but nestedKind_stays ⟨od, esd, epd, hod, hdd⟩ h' hk _ _ ?_
                    rcases List.mem_append.mp hx with hx | hx
                    · exact hisd x hx
                    · exact h4 x hx
                  · have PP := puts_of (W := W) (ι := ι) (n := h.length) h5 P0
                    obtain ⟨H', I', R'⟩ := R.rewriteK I (tk := tk) hc low dd' hk (by have := stored_all_len es es0; rw [SZ_eq]; omega) PP
                    exact ⟨.non, H', I', rfl, D F ι H' .non R' Ext.refl (by simp) (.im .non)⟩
            · exact D.elim
          · exact D.elim
        · exact D.elim
      · exact D.elim
    · exact D.elim
  · exact D.elim
theorem o_listD (K : Ctx X W) : CallR X (.type "list") (rOfL (cst X W) W fListD) := by
  intro pins s σ H xs us Q I r t
  obtain ⟨G, F, ι, h, v, R, V, D⟩ := t
  unfold fListD at D
  split at D
  · rename_i j
    split at D
    · rename_i w kvs hc
      split at D
      · rename_i kb
        cases V with
        | cons va vb =>
          cases vb
          cases va with
          | ref hj =>
            rw [Vals.ref1 r]
            obtain ⟨es, low, dd, hz, P⟩ := R.dict I hc kb
            obtain ⟨raw, ep, dr, rs, rk⟩ := dd.raw
            obtain ⟨dp, _⟩ := ents_dp P
            have hz' : es.length ≤ sizeLine := by rw [SZ_eq]; omega
            refine kdl_call (A := X.A) (KdlSrc.rawDict (es := raw) (ep := ep) low) (I.ok.hd K.calm) dr (by rw [rs]; exact hz') fun h' tk acc c' hk hl hacc => ?_
            have eacc : acc = (es.map fun x => Value.ref x.2.1).toArray := by
              refine Array.ext' (List.ext_getElem? fun i => ?_)
              rw [List.getElem?_map]
              by_cases hi : i < es.length
              · have hi2 : i < acc.size := by rw [hacc.1, rs]; exact hi
                have e1 : acc.toList[i]? = some (acc[i]) := by rw [Array.getElem?_toList, Array.getElem?_eq_getElem hi2]
                obtain ⟨hi3, e2⟩ := hacc.2 i acc[i] (Array.getElem?_eq_getElem hi2)
                obtain ⟨y, y1, y2, _, _⟩ := rk i hi3
                rw [e1, e2, y1, y2]
                rfl
              · rw [List.getElem?_eq_none (by rw [Array.length_toList, hacc.1, rs]; omega), List.getElem?_eq_none (by omega)]
                rfl
            have hfr := I.hok.fresh (Nat.le_refl s.heap.objs.size)
            exact ⟨.ref s.heap.objs.size, upd H s.heap.objs.size (.lst (es.map fun x => V.ref x.2.1)), I.laid (t' := tk) hk (Nat.le_refl _) ⟨by rw [List.length_map]; exact hz', _, c', refs_vals es, by rw [hl, eacc]⟩, rfl, fin_newL R D (rvs_of dp) _ hfr⟩
      · exact D.elim
    · exact D.elim
  · exact D.elim
end
end NT

set_option Elab.async false
set_option linter.all false
set_option maxRecDepth 100000
set_option autoImplicit false

namespace NT
open PySem PySem.Spec PyProof.Rows L2 PySem.W
/-! ### d.update(pairs), list(d) -/
def gUpdD : WMe := fun d us => match d, us with
  | .dct l, [u] => match lstW u with
    | some r => match pairsOfD r with
      | some ps => if (keysW l && (ps.all fun p => isKeyB p.1) && decide (l.length + ps.length < 16777216)) = true then some (.none, .dct (wputs l ps)) else none
      | none => none
    | none => none
  | _, _ => none
theorem om_updD : OpM mUpdD gUpdD := fun h k d us ds q d' e m p z => by
  unfold gUpdD at z
  split at z
  · rename_i l u
    split at z
    · rename_i r er
      split at z
      · rename_i ps ep
        split at z
        · rename_i hc
          cases z
          cases p with
          | cons a b =>
            cases b
            have hl : (l.map dval).length = l.length := List.length_map _
            simp only [mUpdD, show h[k]? = some (.dct (l.map dval)) from e, rd_lst a er, imsOf_map, ep, keys_dval, hl, hc, if_true, VV.cell, puts_dval]
        · cases z
      · cases z
    · cases z
  · cases z
def wListD := one1 fun d => match d with
  | .dct l => if keysW l = true then .ok (.lst (l.map (·.1))) else .no
  | _ => .no
theorem op_wListD : OpL fListD wListD := opl_one fun h x d r => by
  split
  · rename_i l
    obtain ⟨k, rfl, ek⟩ := rd_ref r rfl
    have mm : (l.map dval).map (·.1) = l.map (·.1) := by simp only [List.map_map]; rfl
    split
    · rename_i hc
      refine ops_ref (d := .lst (l.map (·.1))) rfl ?_
      simp only [fListD, show h[k]? = some (.dct (l.map dval)) from ek, keys_dval, mm, hc, if_true, VV.cell]
    · trivial
  · trivial
end NT

set_option Elab.async false
set_option linter.all false
set_option maxRecDepth 100000
set_option autoImplicit false

namespace NT
open PySem PySem.Spec PyProof.Rows L2 PySem.W
/-! ### {} and {0: 1} where nobody writes at them: data -/
section
variable {X : Cx} {W : WK} {pos p1 p2 : Pos}
theorem fin_odd {C : Cst} {G F : Hp} {ι : Nat → Addr} {h : Hs} {H : Hp} {Q : VK} (R : Rel C G F ι h H) (l : List (Int × Int)) (D : Done (repV C) C W G F ι h.length (.ok (.im (.dict (l.map pI))) h) Q) (p : Addr) (hp : H p = none) : Q (.ref p) (upd H p (.dK (l.map kI))) :=
  D _ _ _ _ (R.newF hp (.dK (l.map kI))) (Ext.newF R hp (.dK (l.map kI))) (Nat.le_refl _) (.im (.dic rfl upd_same))
theorem je_odd0 : JE X W (.Dict [] [] pos) (eC (.dict [])) := PE.imp pe_dnewK fun σ H Q t => by
  obtain ⟨G, F, ι, ρ, h, R, S, D⟩ := t
  exact fin_odd R [] D
theorem je_odd1 {i j : Int} {a b : Expr} (ha : PE X a (tC (.int i))) (hb : PE X b (tC (.int j))) : JE X W (.Dict [some a] [b] pos) (eC (.dict [(.int i, .int j)])) :=
  PE.imp (pe_disp (pps_cons ha hb pps_nil) rfl rfl (by simp) (by simp)) fun σ H Q t => by
    obtain ⟨G, F, ι, ρ, h, R, S, D⟩ := t
    intro p hp
    refine ⟨upd_same, [(.inl i, .int j)], rfl, by simp, ?_⟩
    have e : upd (upd H p (.dK [])) p (.dK (mergeK [] [(.inl i, .int j)])) = upd H p (.dK ([(i, j)].map kI)) := by
      funext q
      unfold upd
      split <;> rfl
    rw [e]
    exact fin_odd R [(i, j)] D p hp
end
end NT

set_option Elab.async false
set_option linter.all false
set_option maxRecDepth 100000
set_option autoImplicit false

namespace NT
open PySem PySem.Spec PyProof.Rows L2 PySem.W
/-! ### sorted of a tuple -/
def fSortedT (us : List Val) (h : Hs) : Res Val := match us with
  | [.im (.tuple ds)] => if (alikeB ds && sortB ds && ds.all (okD 8)) = true then .ok (.ref h.length) (h ++ [.lst ((srt ds).map .im)]) else .no
  | _ => .no
section
variable {prog : Program} {w : World} {A : Around} {E : Value → Shared → Prop} {s : Shared} {β : Type} {vs : List Value} {bs : List β} {enc : β → PyData} {R : Value → β → Prop}
theorem coll_tup {l : Addr} {Q : List Value → Shared → Prop} (ht : IsTup s.heap l vs.toArray) (hsz : vs.length ≤ sizeLine)
    (hq : Q vs { s with heap := (s.heap.push (seqObj "list" #[] 0)).update s.heap.objs.size (Obj.mapSeq (· ++ vs.toArray)) }) : wpAny (model prog w) A (collect (.ref l)) Q E s := by
  obtain ⟨ob, h1, h2, n, h3⟩ := id ht
  have up : (s.heap.push (seqObj "list" #[] 0)).get? l = some ob := Heap.get?_push_of_some _ h1
  have fr : (s.heap.push (seqObj "list" #[] 0)).get? s.heap.objs.size = some (seqObj "list" #[] 0) := Heap.get?_push_size _ rfl
  have tt : ((Value.type "tuple" == Value.type "list") || (Value.type "tuple" == Value.type "tuple")) = true := by decide +kernel
  unfold collect
  refine wpAny_bind (wpAny_runValue (codeAny_builtin entry_proto_collect' ?_)); show wpAny _ _ (do again (.builtin "list.__iadd__" ⟨[← newList [], .ref l], []⟩)) _ _ s
  refine wpAny_bind (wpAny_newList (wpAny_pure ⟨Code.quiet_builtin _ (by decide +kernel), codeAny_builtin entry_list_iadd' ?_⟩)); show wpAny _ _ (Builtin.List.listExtendWith (.ref s.heap.objs.size) (.ref l) (.ref s.heap.objs.size)) _ _ { s with heap := s.heap.push (seqObj "list" #[] 0) }
  unfold Builtin.List.listExtendWith
  refine wpAny_bind (wpAny_typeOf (T := "tuple") ⟨ob, up, h2⟩ ?_)
  rw [if_pos (by rw [Bool.or_assoc, tt, Bool.or_true])]
  refine wpAny_bind (listItems_at up h3 (wpAny_bind (listItems_at (xs := #[]) (n := 0) fr rfl ?_)))
  rw [if_neg (by simp)]
  refine wpAny_bind (listUpdate_at (xs := #[]) (n := 0) fr rfl (wpAny_pure ?_) (Nat.zero_le _) (by show (#[] ++ vs.toArray).size ≤ sizeLine + 1; simp only [Array.size_append, List.size_toArray, List.length_nil]; omega))
  refine wpAny_bind (wpAny_load (get?_update_seq fr _) ?_)
  show wpAny _ _ (pure ((#[] : Array Value) ++ vs.toArray).toList) Q E _
  have nil : ((#[] : Array Value) ++ vs.toArray).toList = vs := by simp
  rw [nil]
  exact wpAny_pure hq
theorem sortT_data {l : Addr} {Q : Value → Shared → Prop} (ht : IsTup s.heap l vs.toArray) (e : EachIs R vs bs) (er : EachIs (fun v b => ∃ as, Reads s.heap v (enc b) as) vs bs) (ha : AllAlike (bs.map enc)) (hs : PySem.W.Sortable (bs.map enc)) (hL : bs.length ≤ sizeLine)
    (hu : ∀ b, b ∈ bs → A.units + 2 + (enc b).depth < cLine) (hq : ∀ out, EachIs R out (bs.mergeSort (dataLe false enc)) → Q (.ref (s.heap.objs.size + 1)) { s with heap := sortedAll s.heap vs (List.toArray out) }) :
    wpAny (model prog w) A (call (.builtin "sorted") [.ref l]) Q E s := by
  have e2 : EachIs (fun v b => ∃ as, Reads (sortingHeap (copyHeap s.heap vs) (s.heap.objs.size + 1) vs) v (enc b) as) vs bs := er.mono fun _ _ ⟨as, r⟩ => ⟨as, PyProof.Rows.Reads.keeps (fun _ _ => sorting_copy_old) r⟩
  have hl : vs.length ≤ sizeLine := by rw [e.length]; exact hL
  have sz : ((s.heap.push (seqObj "list" #[] 0)).update s.heap.objs.size (Obj.mapSeq (· ++ vs.toArray))).objs.size = s.heap.objs.size + 1 := by rw [Heap.size_update, size_push']
  refine Calls.call_function_entry kind_sorted plain_sorted entry_sorted (args_sorted1 _) ?_
  unfold Builtin.«sorted»
  refine wpAny_bind (m := checkCount "sorted" 1 1 _) (wpAny_pure (wpAny_bind (coll_tup ht hl (wpAny_bind (wpAny_newList ?_ hl)))))
  show wpAny _ _ _ _ _ { s with heap := copyHeap s.heap vs }
  rw [sz]
  have S := SortsAt.data (prog := prog) (w := w) (A := A.in1.in1) (s := { s with heap := sortingHeap (copyHeap s.heap vs) (s.heap.objs.size + 1) vs }) (each_map (R := fun v d => ∃ as, Reads (sortingHeap (copyHeap s.heap vs) (s.heap.objs.size + 1) vs) v d as) enc e2) ha hs (bound_map hu)
  refine wpAny_bind (wpAny_holding (wpAny_call_entry slot_list_sort ⟨_, copyHeap_at s.heap vs, rfl⟩ entry_list_sort (list_sort_vals (s := { s with heap := copyHeap s.heap vs }) (copyHeap_at s.heap vs) S hl ⟨_, rfl, wpAny_pure ⟨_, rfl, ?_⟩⟩) (args_list_sort _)))
  exact hq _ (sortVals_data false e e2 ha)
end
section
variable {X : Cx} {W : WK}
theorem o_sortedT (K : Ctx X W) : CallR X (.builtin "sorted") (rOfL (cst X W) W fSortedT) := by
  intro pins s σ H xs us Q I r t
  obtain ⟨G, F, ι, h, v, R, V, D⟩ := t
  unfold fSortedT at D
  split at D
  · rename_i ds
    split at D
    · rename_i hh
      simp only [Bool.and_eq_true] at hh
      obtain ⟨⟨h1, h2⟩, h3⟩ := hh
      cases V with
      | cons a b =>
        cases b
        cases a with
        | im z =>
          cases z with
          | tup sq P =>
            obtain ⟨its, rv, ht, hz⟩ := I.tuple (tupF R.f sq)
            obtain ⟨bs, rfl, rfl, hb⟩ := dp_zip P
            rw [Vals.ref1 r]
            have ev := each_v rv
            have bl : bs.length ≤ sizeLine := by rw [List.length_map] at hz; exact hz
            refine sortT_data (enc := fun b : V × PyData => b.2) ht ev (each_r (fun d v u => Dp.reads I d v u) (fun b hb' => R.dp (hb b hb')) ev) (alike_ok h1) (sort_ok h2) bl (fun b hb' => ?_) fun out eo => ?_
            · have := okD_dep (List.all_eq_true.mp h3 _ (List.mem_map_of_mem hb'))
              have hu := K.hu
              omega
            · have hm : (bs.mergeSort (dataLe false fun b : V × PyData => b.2)).map (·.2) = srt (bs.map (·.2)) := List.map_mergeSort fun a _ b _ => rfl
              obtain ⟨ep, he⟩ := PyProof.Rows.sortedAll_at s.heap its out.toArray
              have hn : ((bs.mergeSort (dataLe false fun b : V × PyData => b.2)).map (·.1)).length ≤ sizeLine := by rw [List.length_map, List.length_mergeSort]; exact bl
              refine ⟨.ref _, upd H (s.heap.objs.size + 1) (.lst ((bs.mergeSort (dataLe false fun b : V × PyData => b.2)).map (·.1))), I.laid (t' := s.toks) (fun _ _ => PyProof.Rows.sortedAll_old) (Nat.le_succ _) ⟨hn, out, ep, v_each eo, he⟩, rfl, fin_newL R D ?_ _ (I.hok.fresh (Nat.le_succ _))⟩
              rw [← hm]
              exact rvs_of (dp_unzip fun b hb' => hb b (List.mem_mergeSort.mp hb'))
    · exact D.elim
  · exact D.elim
end
end NT

set_option Elab.async false
set_option linter.all false
set_option maxRecDepth 100000
set_option autoImplicit false

namespace NT
open PySem PySem.Spec PyProof.Rows L2 PySem.W
/-! ### sorted of a tuple -/
def wSortedT := one1 fun d => match d with
  | .im (.tuple l) => if (alikeB l && sortB l && l.all (okD 8)) = true then .ok (.lst (srt l)) else .no
  | _ => .no
theorem op_wSortedT : OpL fSortedT wSortedT := opl_one fun h x d r => by
  split
  · rename_i l
    have := rd_im r; subst this
    split
    · rename_i hc
      exact ops_ref (d := .lst (srt l)) rfl (by simp only [fSortedT, hc, if_true, VV.cell])
    · trivial
  · trivial
theorem sorted_tP {l r : List PI2} (h : srt (l.map pD) = r.map pD) : wSortedT [.im (.tuple (l.map pD))] = .ok (.lst (r.map pD)) := by
  have c : (alikeB (l.map pD) && sortB (l.map pD) && (l.map pD).all (okD 8)) = true := by
    have c1 : alikeB (l.map pD) = true := by simp [alikeB, pD, alike, alikeAll]
    have c2 : sortB (l.map pD) = true := by simp [sortB, pD]
    have c3 : (l.map pD).all (okD 8) = true := by simp [pD, okD]
    rw [c1, c2, c3]; rfl
  simp only [wSortedT, one1, c, if_true, h]
end NT

set_option Elab.async false
set_option linter.all false
set_option maxRecDepth 100000
set_option autoImplicit false

namespace NT
open PySem PySem.Spec PyProof.Rows L2 PySem.W
/-! ### a name's list goes over to another name -/
def xMov (i j : Nat) : WS := fun σ => match σ[j]? with
  | some (some d) => .nx ((if d.mu = true then σ.set j none else σ).set i (some d))
  | _ => .no
theorem ss_mov {i j : Nat} : SimS [i] (sSet i (eVar j)) (xMov i j) := fun fr p ρ h σ S hf hp => by
  have ei : i ∈ [i] := List.mem_singleton.mpr rfl
  have tr : trunc h.length h = h := by
    unfold trunc
    split
    · exact List.take_of_length_le (Nat.le_refl _)
    · rfl
  show OutS [i] fr ρ p (match eVar j ρ h with | .ok v h1 => asgn p i v h.length ρ h1 | .er c => .er c | .no => .no) (xMov i j σ)
  cases e : σ[j]? with
  | none => simp only [xMov, e]; trivial
  | some od =>
   cases od with
   | none => simp only [xMov, e]; trivial
   | some d =>
    simp only [xMov, e]
    cases hm : d.mu with
    | false =>
      cases d with
      | im q =>
        have r := S.im j q e
        have ev : eVar j ρ h = .ok (.im q) h := by simp [r]
        rw [ev]
        exact ⟨_, _, rfl, by rw [tr]; exact S.setIm i q, by rw [tr]; exact hp, set_eq ei⟩
      | _ => cases hm
    | true =>
      obtain ⟨k, r, c, z⟩ := S.mu j d e hm
      have kl := S.bl j k r
      have ev : eVar j ρ h = .ok (.ref k) h := by simp [r]
      rw [ev]
      simp only [asgn, if_pos kl, if_true, tr]
      refine ⟨_, _, rfl, (S.forget j).setRef i hm c (fun a e' ha g m' r' => ?_) z, hp, set_eq ei⟩
      rcases get_set g with ⟨na, g⟩ | ⟨_, g, _⟩
      · exact na (S.sep a j e' d k g e m' hm r' r)
      · cases g
@[simp] theorem r_mov (i j : Nat) (σ : VE) : xMov i j σ = match σ[j]? with
  | some (some d) => .nx ((if d.mu = true then σ.set j none else σ).set i (some d))
  | _ => .no := rfl
end NT

set_option Elab.async false
set_option linter.all false
set_option maxRecDepth 100000
set_option autoImplicit false

namespace NT
open PySem PySem.Spec PyProof.Rows L2 PySem.W PySem.SeqAt
/-! ### sorted of a list of tuples of which the first is empty -/
def isTupD : PyData → Bool
  | .tuple _ => true
  | _ => false
def firstE : List PyData → Bool
  | .tuple [] :: _ => true
  | _ => false
def fSortedE (us : List Val) (h : Hs) : Res Val := match us with
  | [v] => match lstOf h v with
    | some vs => match imsOf vs with
      | some ds => if (alikeB ds && (ds.all isTupD && firstE ds) && ds.all (okD 8)) = true then .ok (.ref h.length) (h ++ [.lst ((srt ds).map .im)]) else .no
      | none => .no
    | none => .no
  | _ => .no
section
variable {A : Around} {s : Shared}
theorem tup_lt {prog : Program} {w : World} {E : Value → Shared → Prop} {Q : Value → Shared → Prop} {l b : Addr} {xs ys : Array Value} {e r : Nat → Bool} (hl : IsTup s.heap l xs) (hb : IsTup s.heap b ys)
    (he : ∀ j (h1 : j < xs.size) (h2 : j < ys.size), EqAt A.in1 s xs[j] ys[j] (e j)) (hr : ∀ j (h1 : j < xs.size) (h2 : j < ys.size), e j = false → RcLt A.in1 s xs[j] ys[j] (r j))
    (h : Q (.bool (firstLt e r (decide (xs.size < ys.size)) (List.range (min xs.size ys.size)))) s) : wpAny (model prog w) A (call (.builtin "tuple.__lt__") [.ref l, .ref b]) Q E s := by
  obtain ⟨⟨c1, d1, z1, s1⟩, o1, e1, n1, f1⟩ := id hl
  obtain ⟨⟨c2, d2, z2, s2⟩, o2, e2, n2, f2⟩ := id hb
  simp only at e1 f1 e2 f2
  subst e1 f1 e2 f2
  exact call_meets F.slot_tuple_lt ⟨_, o1, rfl⟩ F.entry_tuple_lt (F.args_tuple_lt_2 _ _) (tuple_ltAt l b xs ys n1 n2 d1 d2 s1 s2 e r) ⟨o1, o2, he, hr, h⟩
end
section
variable {prog : Program} {w : World} {A : Around} {E : Value → Shared → Prop} {s : Shared}
theorem one_tup {xs ys : List PyData} {a b : Value} {as bs : List Addr} {Q : Bool → Shared → Prop} (ra : Reads s.heap a (.tuple xs) as) (rb : Reads s.heap b (.tuple ys) bs) (h : alike (.tuple xs) (.tuple ys) = true)
    (hu : A.units + min (PyData.tuple xs).depth (PyData.tuple ys).depth < cLine) (hq : Q (dataLt (.tuple xs) (.tuple ys)) s) : wpAny (model prog w) A (oneLt' true a b) Q E s := by
  have hal : alikeAll xs ys = true := by simpa [alike] using h
  cases ra with
  | @tuple l o vs n _ as₁ h1 h2 h3 h4 =>
    cases rb with
    | @tuple l' o' vs' n' _ bs₁ k1 k2 k3 k4 =>
      have n1 : vs.size = xs.length := by simpa using ReadsAll.length _ _ _ h4
      have n2 : vs'.size = ys.length := by simpa using ReadsAll.length _ _ _ k4
      rw [dataLt_tuple, ← firstLt_toks xs ys hal, ← n1, ← n2] at hq
      rw [oneLt'_eq]
      simp only [if_true]
      refine wpAny_bind (wpAny_cRoomFor (room_here hu) (wpAny_bind (wpAny_callSpecialIfBound?_slot (T := "tuple") ⟨_, h1, h2⟩ F.slot_tuple_lt (tup_lt (e := pairEq xs ys) (r := fun j => dataLt (xs.getD j .none) (ys.getD j .none)) ⟨_, h1, h2, _, h3⟩ ⟨_, k1, k2, _, k3⟩ (fun j j1 j2 => ?_) (fun j j1 j2 hj => ?_) ?_))))
      · have z := eqAt_alikeAll xs ys A.in1 s vs.toList vs'.toList _ _ h4 k4 hal (room_in hu) j (by simpa using j1) (by simpa using j2)
        simpa using z
      · have z := rcLt_alikeAll xs ys A.in1 s vs.toList vs'.toList _ _ h4 k4 hal (room_in hu) j (by simpa using j1) (by simpa using j2) hj
        simpa using z
      · exact wpAny_truthy_bool hq
theorem firsts_tup {M : Model} : ∀ {vs : List Value} {ds : List PyData}, EachIs (fun v d => ∃ as, Reads s.heap v d as) vs ds → (∀ d ∈ ds, isTupD d = true) → ∃ rs : List (Option Value), (firstE ds = true → rs.head? = some none) ∧ ∀ (Q : List (Option Value) → Shared → Prop), Q rs s → wpAny M A (vs.mapM firstOfTuple') Q E s
  | _, _, .nil, _ => ⟨[], (fun h => nomatch h), fun Q h => (by rw [List.mapM_nil]; exact wpAny_pure h)⟩
  | v :: vs, d :: ds, .cons ⟨as, r⟩ t, hd => by
    obtain ⟨rs, _, h2⟩ := firsts_tup (M := M) t fun z hz => hd z (List.mem_cons_of_mem _ hz)
    cases d with
    | tuple xs =>
      cases r with
      | @tuple a o its n _ _ h1 hc h3 h4 =>
        refine ⟨its[0]? :: rs, fun he => ?_, fun Q hq => ?_⟩
        · cases xs with
          | nil =>
            have : its.size = 0 := by simpa using ReadsAll.length _ _ _ h4
            rw [Array.getElem?_eq_none (by omega)]
            rfl
          | cons _ _ => cases he
        · rw [List.mapM_cons]
          refine wpAny_bind ?_
          rw [kas_first_eq]
          refine wpAny_bind (Looks.here (show Looks M s.heap (typeOf (.ref a)) o.cls from (Looks.ld h1).andThen .now) ?_)
          rw [hc, if_neg (by first | decide | simp)]
          exact wpAny_bind (listItems_at h1 h3 (wpAny_pure (wpAny_bind (h2 (fun bs s' => wpAny M A (pure (its[0]? :: bs)) Q E s') (wpAny_pure hq)))))
    | _ => exact absurd (hd _ List.mem_cons_self) (by simp [isTupD])
theorem kind_tup {M : Model} {vs : List Value} {ds : List PyData} {Q : SortKind → Shared → Prop} (h2 : 2 ≤ vs.length) (e : EachIs (fun v d => ∃ as, Reads s.heap v d as) vs ds) (hd : ∀ d ∈ ds, isTupD d = true) (hf : firstE ds = true) (h : Q oneType' s) : wpAny M A (keyKind' vs.toArray) Q E s := by
  obtain ⟨rs, r1, r2⟩ := firsts_tup (M := M) (E := E) (A := A) e hd
  have r0 := r1 hf
  rw [keyKind'_eq, List.mapM_toArray, map_eq_pure_bind]
  refine wpAny_bind (wpAny_bind (r2 _ (wpAny_pure ?_)))
  cases rs with
  | nil => cases r0
  | cons x rs =>
    have x0 : x = none := by injection r0
    subst x0
    rw [if_neg (by simp), if_neg (by simp)]
    rw [oneTypeOnly'_eq, List.mapM_toArray, map_eq_pure_bind]
    have hT : ∀ v ∈ vs, Looks M s.heap (typeOf v) (Value.type "tuple") := fun v hv => by
      obtain ⟨d, hd', as, r⟩ := e.left v hv
      have := hd d hd'
      cases d with
      | tuple xs => exact looks_reads r
      | _ => cases this
    refine wpAny_bind (wpAny_bind (wpAny_bind (kas_mapM (r := Value.type "tuple") _ (fun v hv Q' hq => (hT v hv).here hq) (wpAny_pure ?_))))
    obtain ⟨v1, rest, rfl⟩ : ∃ v1 rest, vs = v1 :: rest := by
      cases vs with
      | nil => simp at h2
      | cons a r => exact ⟨a, r, rfl⟩
    have hall : ((List.map (fun _ => Value.type "tuple") (v1 :: rest)).toArray.all fun x => x == Value.type "tuple") = true := by
      simp only [List.all_toArray, List.all_map, List.all_eq_true]
      intro _ _
      exact beq_self_eq_true _
    have h0 : (List.map (fun _ => Value.type "tuple") (v1 :: rest)).toArray[0]? = some (Value.type "tuple") := by simp
    rw [h0]
    simp only [hall, if_true]
    exact wpAny_pure (wpAny_pure h)
theorem sortsAt_tup {vs : List Value} {ds : List PyData} (e : EachIs (fun v d => ∃ as, Reads s.heap v d as) vs ds) (hal : AllAlike ds) (hd : ∀ d ∈ ds, isTupD d = true) (hf : firstE ds = true) (hu : ∀ d, d ∈ ds → A.units + d.depth < cLine) : SortsAt prog w A s (dataKind s.heap ds) vs := by
  refine ⟨fun v hv => ?_, oneType', ?_, fun h2 E Q hq => kind_tup h2 e hd hf hq⟩
  · obtain ⟨d, hd', as, r⟩ := e.left v hv
    exact ⟨_, dataKind_some hal hd' r⟩
  · intro E x y a b Q ha hb hq
    obtain ⟨d, as, h1, ra, rfl⟩ := dataKind_inv ha
    obtain ⟨d', as', h1', rb, rfl⟩ := dataKind_inv hb
    have t1 := hd d h1
    have t2 := hd d' h1'
    rw [keyLt'_oneType]
    cases d with
    | tuple xs =>
      cases d' with
      | tuple ys => exact one_tup ra rb (hal _ h1 _ h1') (Nat.lt_of_le_of_lt (Nat.add_le_add_left (Nat.min_le_left _ _) _) (hu _ h1)) hq
      | _ => cases t2
    | _ => cases t1
theorem sortE_data {β : Type} {vs : List Value} {bs : List β} {enc : β → PyData} {R : Value → β → Prop} {l : Addr} {Q : Value → Shared → Prop} (hl : s.heap.IsList l vs.toArray) (e : EachIs R vs bs) (er : EachIs (fun v b => ∃ as, Reads s.heap v (enc b) as) vs bs) (ha : AllAlike (bs.map enc)) (ht : ∀ d ∈ bs.map enc, isTupD d = true) (hf : firstE (bs.map enc) = true)
    (hL : bs.length ≤ sizeLine) (hu : ∀ b, b ∈ bs → A.units + 2 + (enc b).depth < cLine) (hq : ∀ out, EachIs R out (bs.mergeSort (dataLe false enc)) → Q (.ref (s.heap.objs.size + 1)) { s with heap := sortedAll s.heap vs (List.toArray out) }) :
    wpAny (model prog w) A (call (.builtin "sorted") [.ref l]) Q E s := by
  have e2 : EachIs (fun v b => ∃ as, Reads (sortingHeap (copyHeap s.heap vs) (s.heap.objs.size + 1) vs) v (enc b) as) vs bs := er.mono fun _ _ ⟨as, r⟩ => ⟨as, PyProof.Rows.Reads.keeps (fun _ _ => sorting_copy_old) r⟩
  exact sorted_vals hl (sortsAt_tup (s := { s with heap := sortingHeap (copyHeap s.heap vs) (s.heap.objs.size + 1) vs }) (each_map (R := fun v d => ∃ as, Reads (sortingHeap (copyHeap s.heap vs) (s.heap.objs.size + 1) vs) v d as) enc e2) ha ht hf (bound_map hu)) (by rw [e.length]; exact hL) (hq _ (sortVals_data false e e2 ha))
end
section
variable {X : Cx} {W : WK}
theorem o_sortedE (K : Ctx X W) : CallR X (.builtin "sorted") (rOfL (cst X W) W fSortedE) := by
  intro pins s σ H xs us Q I r t
  obtain ⟨G, F, ι, h, v, R, V, D⟩ := t
  unfold fSortedE at D
  split at D
  · split at D
    · rename_i v vs e
      split at D
      · rename_i ds ei
        split at D
        · rename_i hh
          simp only [Bool.and_eq_true] at hh
          obtain ⟨⟨h1, h2, h2'⟩, h3⟩ := hh
          cases V with
          | cons a b =>
            cases b
            obtain ⟨p, ys, rfl, s', P⟩ := R.lsts a e
            obtain ⟨its, rv, hl, hz⟩ := I.list s'
            rw [ims_of ei] at P
            obtain ⟨bs, rfl, rfl, hb⟩ := dp_zip (dpAll_of P)
            rw [Vals.ref1 r]
            have ev := each_v rv
            have bl : bs.length ≤ sizeLine := by rw [List.length_map] at hz; exact hz
            refine sortE_data (enc := fun b : V × PyData => b.2) hl.isList ev (each_r (fun d v u => Dp.reads I d v u) (fun b hb' => R.dp (hb b hb')) ev) (alike_ok h1) (List.all_eq_true.mp h2) h2' bl (fun b hb' => ?_) fun out eo => ?_
            · have := okD_dep (List.all_eq_true.mp h3 _ (List.mem_map_of_mem hb'))
              have hu := K.hu
              omega
            · have hm : (bs.mergeSort (dataLe false fun b : V × PyData => b.2)).map (·.2) = srt (bs.map (·.2)) := List.map_mergeSort fun a _ b _ => rfl
              obtain ⟨ep, he⟩ := PyProof.Rows.sortedAll_at s.heap its out.toArray
              have hn : ((bs.mergeSort (dataLe false fun b : V × PyData => b.2)).map (·.1)).length ≤ sizeLine := by rw [List.length_map, List.length_mergeSort]; exact bl
              refine ⟨.ref _, upd H (s.heap.objs.size + 1) (.lst ((bs.mergeSort (dataLe false fun b : V × PyData => b.2)).map (·.1))), I.laid (t' := s.toks) (fun _ _ => PyProof.Rows.sortedAll_old) (Nat.le_succ _) ⟨hn, out, ep, v_each eo, he⟩, rfl, fin_newL R D ?_ _ (I.hok.fresh (Nat.le_succ _))⟩
              rw [← hm]
              exact rvs_of (dp_unzip fun b hb' => hb b (List.mem_mergeSort.mp hb'))
        · exact D.elim
      · exact D.elim
    · exact D.elim
  · exact D.elim
end
end NT

set_option Elab.async false
set_option linter.all false
set_option maxRecDepth 100000
set_option autoImplicit false

namespace NT
open PySem PySem.Spec PyProof.Rows L2 PySem.W
/-! ### sorted of a list of tuples of which the first is empty -/
def wSortedE := one1 fun d => match lstW d with
  | some l => if (alikeB l && (l.all isTupD && firstE l) && l.all (okD 8)) = true then .ok (.lst (srt l)) else .no
  | none => .no
theorem op_wSortedE : OpL fSortedE wSortedE := opl_one fun h x d r => by
  split
  · rename_i l e
    have e1 := rd_lst r e
    split
    · rename_i hc
      exact ops_ref (d := .lst (srt l)) rfl (by simp only [fSortedE, e1, imsOf_map, hc, if_true, VV.cell])
    · trivial
  · trivial
end NT

set_option Elab.async false
set_option linter.all false
set_option maxRecDepth 100000
set_option maxHeartbeats 1000000
set_option autoImplicit false

namespace NT
open PySem PySem.Spec PyProof.Rows L2 PySem.W
/-! ### dicts whose keys are whole numbers -/
def isIntD : PyData → Bool
  | .int _ => true
  | _ => false
def intB (kvs : List (PyData × Val)) : Bool := (kvs.all fun p => isIntD p.1) && decide ((kvs.map fun p => nkOf p.1).Nodup) && decide (kvs.length < 16777216)
def vInI (neg : Bool) (v u : Val) (h : Hs) : Res Val := match v, u with
  | .im d, .ref j => match h[j]? with
    | some (.dct kvs) => if (intB kvs && isIntD d) = true then .ok (.im (.bool (neg ^^ (dlook kvs d).isSome))) h else .no
    | _ => .no
  | _, _ => .no
def vGetI (v u : Val) (h : Hs) : Res Val := match v, u with
  | .ref j, .im d => match h[j]? with
    | some (.dct kvs) => if (intB kvs && isIntD d) = true then (match dlook kvs d with
      | some w => .ok w h
      | none => .no) else .no
    | _ => .no
  | _, _ => .no
def fListI (us : List Val) (h : Hs) : Res Val := match us with
  | [.ref j] => match h[j]? with
    | some (.dct kvs) => if intB kvs = true then .ok (.ref h.length) (h ++ [.lst ((kvs.map (·.1)).map .im)]) else .no
    | _ => .no
  | _ => .no
def fLenI (us : List Val) (h : Hs) : Res Val := match us with
  | [.ref j] => match h[j]? with
    | some (.dct kvs) => if intB kvs = true then .ok (.im (.int kvs.length)) h else .no
    | _ => .no
  | _ => .no
def eDispI (a b : Ev) : Ev := fun ρ h => (a ρ h).bind fun x h1 => (b ρ h1).bind fun y h2 => match x with
  | .im d => if isIntD d = true then .ok (.ref h2.length) (h2 ++ [.dct [(d, y)]]) else .no
  | _ => .no
def sPutI (mo mi me : Ev) : SM := fun _ ρ h => match me ρ h with
  | .ok v h1 => (match mo ρ h1 with
    | .ok o h2 => (match mi ρ h2 with
      | .ok i h3 => (match o, i with
        | .ref k, .im d => (match h3[k]? with
          | some (.dct kvs) => if (intB kvs && isIntD d) = true then .nx ρ (trunc h.length (h3.set k (.dct (dput kvs d v)))) else .no
          | _ => .no)
        | _, _ => .no)
      | .er c => .er c
      | .no => .no)
    | .er c => .er c
    | .no => .no)
  | .er c => .er c
  | .no => .no
section
variable {X : Cx} {W : WK} {G F : Hp} {ι : Nat → Addr} {h : Hs} {H : Hp} {pins : List (Addr × Obj)} {σ : L2.St} {s : Shared}
def EnI (X : Cx) (W : WK) (ι : Nat → Addr) (F : Hp) (n : Nat) (x : Int × Value) (p : PyData × Val) : Prop := p.1 = .int x.1 ∧ ∃ v, RV (cst X W) ι F n v p.2 ∧ RelV v x.2
theorem key_int {n : Nat} {x : V} {u : Value} {d : PyData} (z : RV (cst X W) ι F n x (.im d)) (rx : RelV x u) (kb : isIntD d = true) : ∃ k : Int, d = .int k ∧ (PySem.intKind X.prog X.w).is k u = true ∧ Dp X.K F (.int k) (.int k) := by
  cases d with
  | int k =>
    cases z with
    | im z =>
      cases z
      obtain ⟨t, rfl⟩ := rx
      exact ⟨k, rfl, beq_self_eq_true _, .int k⟩
  | _ => cases kb
theorem ents_I : ∀ {L : List (V × V × Int)} {es : List DictEntry} {kvs : List (PyData × Val)}, Paired (fun (x : V × V × Int) (e : DictEntry) => e.hash = x.2.2 ∧ RelV x.1 e.key ∧ RelV x.2.1 e.val) L es →
    Paired (fun (x : V × V × Int) (p : PyData × Val) => Dp X.K F x.1 p.1 ∧ RV (cst X W) ι F h.length x.2.1 p.2 ∧ ∀ k, nkOf p.1 = some k → x.2.2 = k.hash X.w) L kvs → (kvs.all fun p => isIntD p.1) = true →
    ∃ vs : List (Int × Value), Pairs (PySem.intKind X.prog X.w) es vs ∧ (∀ e ∈ es, ∃ k : Int, (PySem.intKind X.prog X.w).is k e.key = true ∧ e.hash = (PySem.intKind X.prog X.w).hash k) ∧ Paired (EnI X W ι F h.length) vs kvs
  | _, _, _, .nil, .nil, _ => ⟨[], .nil, (fun _ z => by cases z), .nil⟩
  | _, _, _, .cons (a := x) (b := e) a as, .cons (b := p) b bs, kb => by
    rw [List.all_cons, Bool.and_eq_true] at kb
    obtain ⟨vs, h1, h2, h3⟩ := ents_I as bs kb.2
    obtain ⟨a1, a2, a3⟩ := a
    obtain ⟨b1, b2, b3⟩ := b
    obtain ⟨x1, x2, x3⟩ := x
    obtain ⟨p1, p2⟩ := p
    simp only at a1 a2 a3 b1 b2 b3 kb
    cases p1 with
    | int k =>
      cases b1
      obtain ⟨t, et⟩ := a2
      have ki : (PySem.intKind X.prog X.w).is k e.key = true := by rw [et]; exact beq_self_eq_true _
      have eh : e.hash = (PySem.intKind X.prog X.w).hash k := by rw [a1, b3 (.num k) rfl]; rfl
      refine ⟨(k, e.val) :: vs, .cons ki rfl h1, fun y hy => ?_, .cons ⟨rfl, x2, b2, a3⟩ h3⟩
      rcases List.mem_cons.mp hy with rfl | hy
      · exact ⟨k, ki, eh⟩
      · exact h2 y hy
    | _ => cases kb.1
theorem keys_I {n : Nat} : ∀ {vs : List (Int × Value)} {kvs : List (PyData × Val)}, Paired (EnI X W ι F n) vs kvs → (kvs.map fun p => nkOf p.1) = vs.map fun x => some (NestedKey.num x.1)
  | _, _, .nil => rfl
  | _, _, .cons a b => by rw [List.map_cons, List.map_cons, keys_I b, a.1]; rfl
theorem Rel.dictI (I : Inv X pins σ H s) (R : Rel (cst X W) G F ι h H) {j : Nat} {kvs : List (PyData × Val)} (e : h[j]? = some (.dct kvs)) (kb : intB kvs = true) :
    ∃ vs : List (Int × Value), (ι j == sysModules) = false ∧ s.heap.DictOf (PySem.intKind X.prog X.w) (ι j) vs ∧ vs.length < 16777216 ∧ Paired (EnI X W ι F h.length) vs kvs := by
  unfold intB at kb
  rw [Bool.and_eq_true, Bool.and_eq_true, decide_eq_true_eq, decide_eq_true_eq] at kb
  obtain ⟨L, hH, hz, P⟩ := R.cell j _ e
  obtain ⟨⟨low, o, es, ep, ho, hx, hd, PE⟩, _⟩ := I.hok _ _ hH
  obtain ⟨vs, h1, h2, h3⟩ := ents_I PE P kb.1.1
  refine ⟨vs, low, ⟨o, es, ep, ho, hx, hd, fun e he => h2 e (Array.mem_toList_iff.mpr he), h1, ?_⟩, by rw [Paired.length h3]; exact kb.2, h3⟩
  have nd := kb.1.2
  rw [keys_I h3] at nd
  have : (vs.map fun x => some (NestedKey.num x.1)) = (vs.map (·.1)).map fun i => some (NestedKey.num i) := by rw [List.map_map]; rfl
  rw [this] at nd
  exact (List.pairwise_map.mp nd).imp fun h e => h (congrArg (fun i => some (NestedKey.num i)) e)
theorem lay_I {n : Nat} : ∀ {es : List DictEntry} {vs : List (Int × Value)} {kvs : List (PyData × Val)}, Pairs (PySem.intKind X.prog X.w) es vs → (∀ e ∈ es, ∃ k : Int, (PySem.intKind X.prog X.w).is k e.key = true ∧ e.hash = (PySem.intKind X.prog X.w).hash k) → Paired (EnI X W ι F n) vs kvs →
    ∃ L : List (V × V × Int), L.length = vs.length ∧ Paired (fun (x : V × V × Int) (e : DictEntry) => e.hash = x.2.2 ∧ RelV x.1 e.key ∧ RelV x.2.1 e.val) L es ∧
      Paired (fun (x : V × V × Int) (p : PyData × Val) => Dp X.K F x.1 p.1 ∧ RV (cst X W) ι F n x.2.1 p.2 ∧ ∀ k, nkOf p.1 = some k → x.2.2 = k.hash X.w) L kvs
  | _, _, _, .nil, _, .nil => ⟨[], rfl, .nil, .nil⟩
  | _, _, _, .cons (e := e) (kv := kv) pk pv ps, hk, .cons (b := p) a b => by
    obtain ⟨L, h1, h2, h3⟩ := lay_I ps (fun y hy => hk y (List.mem_cons_of_mem _ hy)) b
    obtain ⟨a1, v, a3, a4⟩ := a
    obtain ⟨k, k1, k2⟩ := hk e List.mem_cons_self
    have ek : k = kv.1 := Value.isInt_inj _ _ _ k1 pk
    subst ek
    obtain ⟨t, et⟩ := Value.isInt_shape pk
    obtain ⟨p1, p2⟩ := p
    simp only at a1 a3 a4
    subst a1
    refine ⟨(.int kv.1, v, e.hash) :: L, by simp [h1], .cons ⟨rfl, ⟨t, et⟩, by rw [pv]; exact a4⟩ h2, .cons ⟨.int _, a3, fun k e2 => ?_⟩ h3⟩
    cases e2
    exact k2
theorem Rel.rewriteI (I : Inv X pins σ H s) (R : Rel (cst X W) G F ι h H) {j : Nat} {kvs kvs' : List (PyData × Val)} {vs' : List (Int × Value)} {h' : Heap} {tk : Nat} (e : h[j]? = some (.dct kvs)) (low : (ι j == sysModules) = false)
    (dd : h'.DictOf (PySem.intKind X.prog X.w) (ι j) vs') (sb : Heap.SameBut (ι j) s.heap h') (hz : vs'.length ≤ sizeLine) (P : Paired (EnI X W ι F h.length) vs' kvs') :
    ∃ H', Inv X pins σ H' { s with heap := h', toks := tk } ∧ Rel (cst X W) G F ι (h.set j (.dct kvs')) H' := by
  obtain ⟨o, es, ep, ho, hx, hd, hk, he, _⟩ := dd
  obtain ⟨L, l1, l2, l3⟩ := lay_I he (fun e he => hk e (Array.mem_toList_iff.mp he)) P
  obtain ⟨L0, hH, _, _⟩ := R.cell j _ e
  have dp : dictP (ι j) L h' := ⟨low, o, es, ep, ho, hx, hd, l2⟩
  refine ⟨upd H (ι j) (.ext (dictP (ι j) L)), I.write (e := ι j) (t' := tk) (by rw [hH]; trivial) (.inl rfl) (fun b u hb q => (sb.2 b hb).trans q) ⟨o, ho⟩ ⟨dp, ⟨o, ho⟩, fun h1 h2 p k => dictP_stays p k⟩, ?_⟩
  exact R.setC e rfl rfl ⟨L, rfl, by rw [l1]; exact hz, l3⟩
theorem look_I {n : Nat} {k : Int} : ∀ {vs : List (Int × Value)} {kvs : List (PyData × Val)}, Paired (EnI X W ι F n) vs kvs →
    (dlook kvs (.int k) = none ∧ valueAt vs k = none) ∨ ∃ u v w, valueAt vs k = some u ∧ dlook kvs (.int k) = some w ∧ RV (cst X W) ι F n v w ∧ RelV v u
  | _, _, .nil => .inl ⟨rfl, rfl⟩
  | _, _, .cons (a := x) (b := q) a b => by
    obtain ⟨a1, v, a3, a4⟩ := a
    by_cases hk : x.1 = k
    · right
      refine ⟨x.2, v, q.2, ?_, ?_, a3, a4⟩
      · simp [valueAt, List.find?_cons, hk]
      · have : nkOf q.1 = nkOf (.int k) := by rw [a1, hk]
        simp [dlook, List.find?_cons, this]
    · have h1 : ¬ nkOf q.1 = nkOf (.int k) := by
        rw [a1]
        intro z
        have z' : some (NestedKey.num x.1) = some (NestedKey.num k) := z
        injection z' with z'
        injection z' with z'
        exact hk z'
      rcases look_I b with ⟨l1, l2⟩ | ⟨p, v', w', l1, l2, l3, l4⟩
      · left
        constructor
        · simp only [dlook, List.find?_cons, h1, decide_false]; exact l1
        · simp only [valueAt, List.find?_cons, hk, decide_false]; exact l2
      · right
        refine ⟨p, v', w', ?_, ?_, l3, l4⟩
        · simp only [valueAt, List.find?_cons, hk, decide_false]; exact l1
        · simp only [dlook, List.find?_cons, h1, decide_false]; exact l2
theorem isSome_I {n : Nat} {k : Int} {vs : List (Int × Value)} {kvs : List (PyData × Val)} (P : Paired (EnI X W ι F n) vs kvs) : (valueAt vs k).isSome = (dlook kvs (.int k)).isSome := by
  rcases look_I (k := k) P with ⟨l1, l2⟩ | ⟨p, v, w, l1, l2, _, _⟩
  · rw [l1, l2]; rfl
  · rw [l1, l2]; rfl
theorem o_inI (K : Ctx X W) : OpR X (compareOp .In) (rOf2 (cst X W) W (vInI false)) := by
  intro pins s σ H x y v u Q I rx ry t
  obtain ⟨G, F, ι, h, v1, u1, R, V1, V2, D⟩ := t
  unfold vInI at D
  split at D
  · rename_i d j
    split at D
    · rename_i w kvs hc
      split at D
      · rename_i hh
        rw [Bool.and_eq_true] at hh
        obtain ⟨k, rfl, ki, _⟩ := key_int V1 rx hh.2
        obtain ⟨vs, low, dd, hz, P⟩ := R.dictI I hc hh.1
        cases V2 with
        | ref hj =>
          obtain rfl : u = .ref (ι j) := ry
          refine wpAny_in_of (knd := PySem.intKind X.prog X.w) ki low dd.mapOf ?_
          rw [isSome_I P]
          rw [Bool.false_xor] at D
          exact ⟨.bl _, H, I.tok _, rfl, fin_im R D (.bl _)⟩
      · exact D.elim
    · exact D.elim
  · exact D.elim
theorem o_notInI (K : Ctx X W) : OpR X (compareOp .NotIn) (rOf2 (cst X W) W (vInI true)) := by
  intro pins s σ H x y v u Q I rx ry t
  obtain ⟨G, F, ι, h, v1, u1, R, V1, V2, D⟩ := t
  unfold vInI at D
  split at D
  · rename_i d j
    split at D
    · rename_i w kvs hc
      split at D
      · rename_i hh
        rw [Bool.and_eq_true] at hh
        obtain ⟨k, rfl, ki, _⟩ := key_int V1 rx hh.2
        obtain ⟨vs, low, dd, hz, P⟩ := R.dictI I hc hh.1
        cases V2 with
        | ref hj =>
          obtain rfl : u = .ref (ι j) := ry
          refine wpAny_notIn_of (knd := PySem.intKind X.prog X.w) ki low dd.mapOf ?_
          rw [isSome_I P]
          rw [Bool.true_xor] at D
          exact ⟨.bl _, H, I.tok _, rfl, fin_im R D (.bl _)⟩
      · exact D.elim
    · exact D.elim
  · exact D.elim
theorem i_dctI (K : Ctx X W) : IxR X (rOf2 (cst X W) W vGetI) := by
  intro va sl pins s σ H x y v u Q I rx ry t hs
  obtain ⟨G, F, ι, h, v1, u1, R, V1, V2, D⟩ := t
  unfold vGetI at D
  split at D
  · rename_i j d
    split at D
    · rename_i w kvs hc
      split at D
      · rename_i hh
        rw [Bool.and_eq_true] at hh
        split at D
        · rename_i w' hl
          obtain ⟨k, rfl, ki, _⟩ := key_int V2 ry hh.2
          obtain ⟨vs, low, dd, hz, P⟩ := R.dictI I hc hh.1
          cases V1 with
          | ref hj =>
            obtain rfl : v = .ref (ι j) := rx
            rcases look_I (k := k) P with ⟨l1, l2⟩ | ⟨p, v', w2, l1, l2, l3, l4⟩
            · rw [l1] at hl; cases hl
            · rw [l2] at hl
              cases hl
              have goal := wpAny_getItem_of (A := X.A) (E := X.xe) (knd := PySem.intKind X.prog X.w) (Q := EP X pins σ Q) ki dd.mapOf l1 ⟨v', H, I.tok _, l4, D F ι H v' R Ext.refl (Nat.le_refl _) l3⟩
              exact tail_any dd.typeIs slot_dict_getitem.lookup goal hs
        · exact D.elim
      · exact D.elim
    · exact D.elim
  · exact D.elim
theorem EnI.put {n : Nat} {k : Int} {w : Val} {v : V} {u : Value} (rv : RV (cst X W) ι F n v w) (ru : RelV v u) {vs : List (Int × Value)} {kvs : List (PyData × Val)} (P : Paired (EnI X W ι F n) vs kvs) : Paired (EnI X W ι F n) (stored vs k u) (dput kvs (.int k) w) := by
  have app : ∀ {vs : List (Int × Value)} {kvs : List (PyData × Val)}, Paired (EnI X W ι F n) vs kvs → Paired (EnI X W ι F n) (vs ++ [(k, u)]) (kvs ++ [(.int k, w)]) := fun {vs kvs} P => by
    induction P with
    | nil => exact .cons ⟨rfl, v, rv, ru⟩ .nil
    | cons a _ ih => exact .cons a ih
  have mp : ∀ {vs : List (Int × Value)} {kvs : List (PyData × Val)}, Paired (EnI X W ι F n) vs kvs → Paired (EnI X W ι F n) (vs.map fun kv => if kv.1 = k then (kv.1, u) else kv) (kvs.map fun p => if nkOf p.1 = nkOf (.int k) then (p.1, w) else p) := fun {vs kvs} P => by
    induction P with
    | nil => exact .nil
    | @cons x q xs ys a _ ih =>
      refine .cons ?_ ih
      obtain ⟨a1, v', a3, a4⟩ := a
      have iff : nkOf q.1 = nkOf (.int k) ↔ x.1 = k := by
        rw [a1]
        constructor
        · intro z
          have z' : some (NestedKey.num x.1) = some (NestedKey.num k) := z
          injection z' with z'
          injection z' with z'
        · intro z; rw [z]
      show EnI X W ι F n (if x.1 = k then (x.1, u) else x) (if nkOf q.1 = nkOf (.int k) then (q.1, w) else q)
      by_cases hk : x.1 = k
      · rw [if_pos hk, if_pos (iff.mpr hk)]
        exact ⟨a1, v, rv, ru⟩
      · rw [if_neg hk, if_neg fun z => hk (iff.mp z)]
        exact ⟨a1, v', a3, a4⟩
  have any : ∀ vs : List (Int × Value), (vs.any fun kv => kv.1 = k) = (valueAt vs k).isSome := fun vs => by
    unfold valueAt
    rw [Option.isSome_map]
    induction vs with
    | nil => rfl
    | cons x r ih =>
      rw [List.any_cons, List.find?_cons]
      by_cases hk : x.1 = k
      · simp [hk]
      · simp only [hk, decide_false, Bool.false_or]
        exact ih
  unfold stored dput
  rw [any, isSome_I P]
  by_cases c : (dlook kvs (.int k)).isSome = true
  · rw [if_pos c, if_pos c]; exact mp P
  · rw [if_neg c, if_neg c]; exact app P
def rPutI (X : Cx) (W : WK) : TSet := fun o i v H Q => ∃ G F ι h j kvs d w, Rel (cst X W) G F ι h H ∧ o = .ref (ι j) ∧ h[j]? = some (.dct kvs) ∧ RV (cst X W) ι F h.length i (.im d) ∧ RV (cst X W) ι F h.length v w ∧ intB kvs = true ∧ isIntD d = true ∧ ∀ H', Rel (cst X W) G F ι (h.set j (.dct (dput kvs d w))) H' → Q H'
theorem set_dctI (K : Ctx X W) : PSet X (rPutI X W) := by
  intro pins s σ H o i v ov iv u Q I ro ri rv t
  obtain ⟨G, F, ι, h, j, kvs, d, w, R, rfl, hc, V1, V2, kb, ki', q⟩ := t
  obtain rfl : ov = .ref (ι j) := ro
  obtain ⟨k, rfl, ki, _⟩ := key_int V1 ri ki'
  obtain ⟨vs, low, dd, hz, P⟩ := R.dictI I hc kb
  refine wpAny_setItem_pairs (knd := PySem.intKind X.prog X.w) ki dd (fun h' dd' sb => ?_) (by rw [SZ_eq]; omega)
  obtain ⟨H', I', R'⟩ := R.rewriteI I hc low dd' sb (by have := stored_length_le vs k u; rw [SZ_eq]; omega) (EnI.put V2 rv P)
  exact ⟨H', I', q H' R'⟩
theorem o_lenI (K : Ctx X W) : CallR X (.builtin "len") (rOfL (cst X W) W fLenI) := by
  intro pins s σ H xs us Q I r t
  obtain ⟨G, F, ι, h, v, R, V, D⟩ := t
  unfold fLenI at D
  split at D
  · rename_i j
    split at D
    · rename_i w kvs hc
      split at D
      · rename_i kb
        cases V with
        | cons va vb =>
          cases vb
          cases va with
          | ref hj =>
            rw [Vals.ref1 r]
            obtain ⟨vs, low, dd, hz, P⟩ := R.dictI I hc kb
            have el : (vs.length : Int) = kvs.length := by rw [Paired.length P]
            refine call_len_dict low dd (by omega) ?_
            rw [el]
            exact ⟨.int kvs.length, H, I.tok _, ⟨_, rfl⟩, fin_im R D (.int _)⟩
      · exact D.elim
    · exact D.elim
  · exact D.elim
theorem ints_dp {n : Nat} : ∀ {vs : List (Int × Value)} {kvs : List (PyData × Val)}, Paired (EnI X W ι F n) vs kvs → DpAll X.K F (vs.map fun x => V.int x.1) (kvs.map (·.1))
  | _, _, .nil => .nil
  | _, _, .cons a b => by
    rw [List.map_cons, List.map_cons, a.1]
    exact .cons (.int _) (ints_dp b)
theorem ints_vals : ∀ {es : List DictEntry} {vs : List (Int × Value)}, Pairs (PySem.intKind X.prog X.w) es vs → Vals (vs.map fun x => V.int x.1) (es.map (·.key))
  | _, _, .nil => .nil
  | _, _, .cons pk _ ps => by
    obtain ⟨t, et⟩ := Value.isInt_shape pk
    exact .cons ⟨t, et⟩ (ints_vals ps)
theorem o_listI (K : Ctx X W) : CallR X (.type "list") (rOfL (cst X W) W fListI) := by
  intro pins s σ H xs us Q I r t
  obtain ⟨G, F, ι, h, v, R, V, D⟩ := t
  unfold fListI at D
  split at D
  · rename_i j
    split at D
    · rename_i w kvs hc
      split at D
      · rename_i kb
        cases V with
        | cons va vb =>
          cases vb
          cases va with
          | ref hj =>
            rw [Vals.ref1 r]
            obtain ⟨vs, low, dd, hz, P⟩ := R.dictI I hc kb
            have dp := ints_dp P
            obtain ⟨o, es, ep, ho, hx, hd, hkk, he, nd⟩ := id dd
            have ll : es.toList.length = vs.length := Pairs.length he
            have hz' : es.size ≤ sizeLine := by rw [SZ_eq]; rw [Array.length_toList] at ll; omega
            refine kdl_call (A := X.A) (KdlSrc.rawDict (es := es) (ep := ep) low) (I.ok.hd K.calm) ⟨o, ho, hx, hd⟩ hz' fun h' tk acc c' hk hl hacc => ?_
            have eacc : acc = (es.toList.map (·.key)).toArray := by
              refine Array.ext' (List.ext_getElem? fun i => ?_)
              rw [List.getElem?_map]
              by_cases hi : i < es.size
              · have hi2 : i < acc.size := by rw [hacc.1]; exact hi
                obtain ⟨hi3, e2⟩ := hacc.2 i acc[i] (Array.getElem?_eq_getElem hi2)
                rw [show acc.toList[i]? = some (acc[i]) by rw [Array.getElem?_toList, Array.getElem?_eq_getElem hi2], e2, Array.getElem?_toList, Array.getElem?_eq_getElem hi3]
                rfl
              · rw [List.getElem?_eq_none (by rw [Array.length_toList, hacc.1]; omega), List.getElem?_eq_none (by rw [Array.length_toList]; omega)]
                rfl
            have hfr := I.hok.fresh (Nat.le_refl s.heap.objs.size)
            exact ⟨.ref s.heap.objs.size, upd H s.heap.objs.size (.lst (vs.map fun x => V.int x.1)), I.laid (t' := tk) hk (Nat.le_refl _) ⟨by rw [List.length_map]; rw [SZ_eq]; omega, _, c', ints_vals he, by rw [hl, eacc]⟩, rfl, fin_newL R D (rvs_of dp) _ hfr⟩
      · exact D.elim
    · exact D.elim
  · exact D.elim
variable {a b o i e : Expr} {es : List Expr} {ma mb mo mi me : Ev} {ms : M (List Val)} {pos pos2 : Pos}
theorem je_getI (K : Ctx X W) (ha : JE X W a ma) (hb : JE X W b mb) (hs : PlainIx b := by exact fun _ _ => rfl) : JE X W (.Subscript a b pos) (e2 ma mb vGetI) := PE.imp (pe_ix (i_dctI K) ha hb hs) fun _ _ _ t => two_r t
theorem js_putI (hg : PG X (.Subscript o i pos2) (gSub (tOf (repV (cst X W)) (cst X W) W mo) (tOf (repV (cst X W)) (cst X W) W mi) (rPutI X W))) (he : JE X W e me)
    (hs : swapsWithSole [.Subscript o i pos2] e pos.line X.env = pure false := by rfl) (hw : swappedStores [.Subscript o i pos2] e X.env = pure none := by rfl)
    (h1 : (assignEach [.Subscript o i pos2] X.env).map (·.2) = [assign (.Subscript o i pos2) X.env] := by rfl) : JS X W (.Assign [.Subscript o i pos2] e pos) (sPutI mo mi me) := PS.imp (ps_asg he hg hs hw h1) fun D σ H t => by
  obtain ⟨G, F, ι, p, ρ, h, R, S, hp, d⟩ := t
  unfold sPutI at d
  refine ⟨G, F, ι, ρ, h, R, S, ?_⟩
  cases e1 : me ρ h with
  | no => rw [e1] at d; exact d
  | er c => rw [e1] at d; exact d
  | ok v h1 =>
    rw [e1] at d
    intro F1 ι1 H1 x R1 E1 l1 V1
    have S1 := S.mono E1.le E1.ag l1
    refine ⟨G, F1, ι1, ρ, h1, R1, S1, ?_⟩
    simp only at d
    cases e2 : mo ρ h1 with
    | no => rw [e2] at d; exact d
    | er c => rw [e2] at d; exact d
    | ok ov h2 =>
      rw [e2] at d
      intro F2 ι2 H2 y R2 E2 l2 V2
      have S2 := S1.mono E2.le E2.ag l2
      refine ⟨G, F2, ι2, ρ, h2, R2, S2, ?_⟩
      simp only at d
      cases e3 : mi ρ h2 with
      | no => rw [e3] at d; exact d
      | er c => rw [e3] at d; exact d
      | ok iv h3 =>
        rw [e3] at d
        intro F3 ι3 H3 z R3 E3 l3 V3
        simp only at d
        split at d
        · rename_i k dk
          split at d
          · rename_i kvs hc
            split at d
            · rename_i hh
              rw [Bool.and_eq_true] at hh
              have V2' : RV (cst X W) ι2 F2 h2.length y (.ref k) := V2
              have W1 := RV.mono (RV.mono V1 E2.le E2.ag l2) E3.le E3.ag l3
              have W2 := RV.mono V2' E3.le E3.ag l3
              cases W2 with
              | ref hk =>
                refine ⟨G, F3, ι3, h3, k, kvs, dk, v, R3, rfl, hc, V3, W1, hh.1, hh.2, fun H4 R4 => ?_⟩
                have ll : h.length ≤ (h3.set k (.dct (dput kvs dk v))).length := by rw [List.length_set]; omega
                refine d F3 ι3 _ σ (R4.trunc ll) ((E1.trans (E2.trans E3 l2) l1).down hp) (Nat.le_trans hp (trunc_len ll)) ?_
                exact S.mono (fun b o e => E3.le _ _ (E2.le _ _ (E1.le _ _ e))) (fun i hi => by rw [E3.ag i (by omega), E2.ag i (by omega), E1.ag i hi]) (trunc_len ll)
            · exact d.elim
          · exact d.elim
        · exact d.elim
theorem je_dispI (K : Ctx X W) (ha : JE X W a ma) (hb : JE X W b mb) : JE X W (.Dict [some a] [b] pos) (eDispI ma mb) := ⟨fun pins s σ H Q I t => by
  obtain ⟨G, F, ι, ρ, h, R, S, D⟩ := t
  have hfr := I.hok.fresh (Nat.le_refl s.heap.objs.size)
  have ap : Apart G F ι h s.heap.objs.size := ⟨R.freeG hfr, R.freeF hfr, fun i c e l => R.ne e l hfr⟩
  have I1 := laid_new I
  have R1 : Rel (cst X W) (upd G s.heap.objs.size (.ext (dictP s.heap.objs.size []))) F ι h (upd H s.heap.objs.size (.ext (dictP s.heap.objs.size []))) := (R.updD ap (.none hfr)).withD ap upd_same (.dct upd_same)
  have hu := K.hu
  rw [arm_eval_Dict, zip_pairTrees [some a] [b] X.env pos rfl rfl, dictDisplay_pairs (pairTrees [some a] [b] X.env pos) (by simp [pairTrees]) (by simp [pairTrees])]
  refine wpAny_bind (wpAny_standAt (wpAny_bind (wpAny_subDict (knd := PySem.intKind X.prog X.w) (Q := fun d s' => wpAny (model X.prog X.w) X.A (pure (Value.ref d)) (EP X pins σ Q) X.xe s') (by simp [pairTrees]) ?_)))
  refine thn ((pps_cons ha hb pps_nil).run pins _ σ _ (fun ps H' => ∃ x y d w F' ι' h', ps = [(x, y)] ∧ Rel (cst X W) (upd G s.heap.objs.size (.ext (dictP s.heap.objs.size []))) F' ι' h' H' ∧ Ext G F ι h.length F' ι' ∧ h.length ≤ h'.length ∧ F' s.heap.objs.size = none ∧ RV (cst X W) ι' F' h'.length x (.im d) ∧ RV (cst X W) ι' F' h'.length y w ∧ isIntD d = true ∧
    Done (repV (cst X W)) (cst X W) W G F' ι' h'.length (.ok (.ref h'.length) (h' ++ [.dct [(d, w)]])) Q) I1 ?_) ?_
  · -- the key and the value are read
    refine ⟨_, F, ι, ρ, h, R1, S, ?_⟩
    unfold eDispI at D
    cases e1 : ma ρ h with
    | no => rw [e1] at D; exact D.elim
    | er c => rw [e1] at D; exact fun H' k => D H' fun b o e => k b o (upd_keep ap.g e)
    | ok v h1 =>
      rw [e1] at D
      intro F1 ι1 H1 x R2 E1 l1 V1
      have D1 := Done.mono D E1.lessD l1
      refine ⟨_, F1, ι1, ρ, h1, R2, S.mono E1.le E1.ag l1, ?_⟩
      simp only [bind_ok] at D1
      cases e2 : mb ρ h1 with
      | no => rw [e2] at D1; exact D1.elim
      | er c => rw [e2] at D1; exact fun H' k => D1 H' fun b o e => k b o (upd_keep ap.g e)
      | ok u h2 =>
        rw [e2] at D1
        intro F2 ι2 H2 y R3 E2 l2 V2
        have D2 := Done.mono D1 E2.lessD l2
        simp only [bind_ok] at D2
        have V1' : RV (cst X W) ι2 F2 h2.length x v := RV.mono V1 E2.le E2.ag l2
        cases v with
        | ref k => exact D2.elim
        | im d =>
          simp only at D2
          split at D2
          · rename_i kb
            refine ⟨x, y, d, u, F2, ι2, h2, rfl, R3, (E1.lessD.trans E2.lessD l1), Nat.le_trans l1 l2, ?_, V1', V2, kb, D2⟩
            have hG : (upd G s.heap.objs.size (.ext (dictP s.heap.objs.size []))) s.heap.objs.size ≠ none := by rw [upd_same]; exact fun z => nomatch z
            rw [E2.out _ hG, E1.out _ hG]; exact ap.f
          · exact D2.elim
  · rintro vs s1 ⟨ps, H1, I2, rel, x, y, d, w, F', ι', h', rfl, R2, E, ln, fD, V1, V2, kb, D'⟩
    cases rel with
    | @cons p q _ _ r1 r2 =>
      cases r2
      obtain ⟨q1, q2⟩ := q
      obtain ⟨rk, rv⟩ := r1
      have R3 := R2.lessD ap.g
      obtain ⟨k, rfl, ki, zd⟩ := key_int V1 rk kb
      obtain ⟨⟨_, o, es, ep, ho, hx, hd, pe⟩, _⟩ := I2.hok _ _ (ext_at R2)
      have pe' : es.toList = [] := by
        have := Paired.length pe
        exact List.eq_nil_of_length_eq_zero this.symm
      have dd0 : s1.heap.DictOf (PySem.intKind X.prog X.w) s.heap.objs.size [] := ⟨o, es, ep, ho, hx, hd, (fun e he => by rw [← Array.mem_toList_iff, pe'] at he; cases he), by rw [pe']; exact .nil, .nil⟩
      refine ⟨[(k, q2)], ⟨ki, rfl, trivial⟩, dd0, fun h2 dd sb => wpAny_pure ?_⟩
      have PP : Paired (EnI X W ι' F' h'.length) (merged [] [(k, q2)]) [(.int k, w)] := by
        have : merged ([] : List (Int × Value)) [(k, q2)] = [(k, q2)] := rfl
        rw [this]
        exact .cons ⟨rfl, y, V2, rv⟩ .nil
      obtain ⟨o', es', ep', ho', hx', hd', hk', he', _⟩ := dd
      obtain ⟨L, l1, l2, l3⟩ := lay_I he' (fun e he => hk' e (Array.mem_toList_iff.mp he)) PP
      have low : (s.heap.objs.size == sysModules) = false := beq_eq_false_iff_ne.mpr (Nat.ne_of_gt I.big)
      have dp : dictP s.heap.objs.size L h2 := ⟨low, o', es', ep', ho', hx', hd', l2⟩
      have ap' : Apart G F' ι' h' s.heap.objs.size := ⟨ap.g, fD, R2.apartD⟩
      refine ⟨.ref s.heap.objs.size, upd H1 s.heap.objs.size (.ext (dictP s.heap.objs.size L)), I2.write (e := s.heap.objs.size) (t' := _) (by rw [ext_at R2]; trivial) (.inl rfl) (fun b u hb q => (sb.2 b hb).trans q) ⟨o', ho'⟩ ⟨dp, ⟨o', ho'⟩, fun h1 h2 p k => dictP_stays p k⟩, rfl, ?_⟩
      -- the dict becomes a cell
      have R4 := R3.updD (o := .ext (dictP s.heap.objs.size L)) ap' (.dct (ext_at R2))
      have old : ∀ {i : Nat} {c' : Cell}, h'[i]? = some c' → putI ι' h'.length s.heap.objs.size i = ι' i := fun e => putI_lt (List.getElem?_eq_some_iff.mp e).1
      have R5 : Rel (cst X W) G F' (putI ι' h'.length s.heap.objs.size) (h' ++ [.dct [(.int k, w)]]) (upd H1 s.heap.objs.size (.ext (dictP s.heap.objs.size L))) := by
        refine ⟨R4.g, R4.f, fun i j c1 c2 e1 e2 l1 l2 z => ?_, fun i c1 e1 l1 => ?_, fun i c1 e1 l1 => ?_, fun i c1 e1 => ?_, R4.tb, R4.ng, R4.nf⟩
        · rcases get_snoc e1 with ⟨h1, e1⟩ | ⟨h1, e1⟩
          · rcases get_snoc e2 with ⟨h2, e2⟩ | ⟨h2, e2⟩
            · rw [old e1, old e2] at z
              exact R4.inj i j c1 c2 e1 e2 l1 l2 z
            · rw [old e1, h2, putI_same] at z
              exact (ap'.l i c1 e1 l1 z).elim
          · rcases get_snoc e2 with ⟨h2, e2⟩ | ⟨h2, e2⟩
            · rw [old e2, h1, putI_same] at z
              exact (ap'.l j c2 e2 l2 z.symm).elim
            · rw [h1, h2]
        · rcases get_snoc e1 with ⟨h1, e1⟩ | ⟨h1, e1⟩
          · rw [old e1]; exact R4.gl i c1 e1 l1
          · rw [h1, putI_same]; exact ap'.g
        · rcases get_snoc e1 with ⟨h1, e1⟩ | ⟨h1, e1⟩
          · rw [old e1]; exact R4.fl i c1 e1 l1
          · rw [h1, putI_same]; exact ap'.f
        · rw [List.length_append, List.length_singleton]
          rcases get_snoc e1 with ⟨h1, e1⟩ | ⟨h1, e1⟩
          · rw [old e1]
            exact CellR.mono (R4.cell i c1 e1) (fun _ _ z => z) (fun j hj => putI_lt hj) (Nat.le_succ _)
          · rw [h1, putI_same, ← e1]
            refine ⟨L, upd_same, ?_, Paired.mapP l3 fun _ _ z => ⟨z.1, z.2.1.mono (fun _ _ q => q) (fun i hi => putI_lt hi) (Nat.le_succ _), z.2.2⟩⟩
            have hl : L.length = 1 := l1
            rw [hl, SZ_eq]; decide
      refine D' F' _ _ _ R5 ⟨fun _ _ q => q, fun i hi => putI_lt hi, fun _ _ => rfl⟩ (by simp) ?_
      have z : RV (cst X W) (putI ι' h'.length s.heap.objs.size) F' (h' ++ [Cell.dct [(.int k, w)]]).length (.ref (putI ι' h'.length s.heap.objs.size h'.length)) (.ref h'.length) := .ref (by simp)
      rw [putI_same] at z
      exact z⟩
end
end NT

set_option Elab.async false
set_option linter.all false
set_option maxRecDepth 100000
set_option autoImplicit false

namespace NT
open PySem PySem.Spec PyProof.Rows L2 PySem.W
/-! ### sorted(whole numbers, reverse=True) -/
def sortR (ns : List Int) : List Int := ns.mergeSort fun a b => decide (b ≤ a)
def fSortedR (us : List Val) (h : Hs) : Res Val := match us with
  | [v] => match lstOf h v with
    | some vs => match intsOf vs with
      | some ns => .ok (.ref h.length) (h ++ [.lst ((sortR ns).map fun i => .im (.int i))])
      | none => .no
    | none => .no
  | _ => .no
theorem sortR_one {ns ms : List Int} (p : ms.Perm ns) (o : ms.Pairwise (· ≥ ·)) : ms = sortR ns := by
  have q : (sortR ns).Pairwise fun a b => decide (b ≤ a) = true := List.pairwise_mergeSort (fun a b c h1 h2 => by simp only [decide_eq_true_eq] at *; omega) (fun a b => by simp only [Bool.or_eq_true, decide_eq_true_eq]; omega) ns
  have q2 : (sortR ns).Pairwise (· ≥ ·) := q.imp fun h => by simp only [decide_eq_true_eq] at h; exact h
  exact List.Perm.eq_of_pairwise (fun a b _ _ (h1 : a ≥ b) (h2 : b ≥ a) => by omega) o q2 (p.trans (List.mergeSort_perm ns _).symm)
section
variable {X : Cx} {W : WK} {x : Str} {p pos kpos cpos : Pos} {e : Expr} {es : List Expr} {ms : M (List Val)} {j : Nat}
theorem ints_rv {C : Cst} {ι : Nat → Addr} {F : Hp} {n : Nat} : ∀ l : List Int, Paired (RV C ι F n) (l.map V.int) (l.map fun i => .im (.int i))
  | [] => .nil
  | i :: l => .cons (.im (.int i)) (ints_rv l)
theorem je_sortedR (hg : Gl X "sorted") (hm : X.mg "sorted" = none) (ha : JA X W (e :: es) ms) (hv : bootBuiltins "sorted" = some (.builtin "sorted") := by decide +kernel)
    (he : backTo pos (starEach (e :: es) X.env) = (false, eval e X.env) :: backTo pos (starEach es X.env) := by rfl) (hpl : (backTo pos (starEach (e :: es) X.env)).any (·.1) = false := by rfl)
    (hall : (backToKw pos (keywordEach [⟨some "reverse", .Constant (.bool true) j cpos, kpos⟩] X.env)).all (·.1.isSome) = true := by rfl) (hnone : (backToKw pos (keywordEach [⟨some "reverse", .Constant (.bool true) j cpos, kpos⟩] X.env)).any (·.1.isNone) = false := by rfl)
    (hks : (backToKw pos (keywordEach [⟨some "reverse", .Constant (.bool true) j cpos, kpos⟩] X.env)).filterMap (·.1) = [Str.ofString "reverse"] := by rfl) :
    JE X W (.Call (.Name "sorted" p) (e :: es) [⟨some "reverse", .Constant (.bool true) j cpos, kpos⟩] pos) (eB ms fSortedR) :=
  PE.imp (pe_callBK (cr_sortedRev (b := true)) hg hm hv ha (pk_cons pe_bl pk_nil) (by decide) (by decide) he hpl hall hnone hks) fun σ H Q t => by
    obtain ⟨G, F, ι, ρ, h, R, S, D⟩ := t
    refine st1 R S D fun F1 ι1 h1 H1 xs vs R1 E1 l1 V1 D1 => ?_
    show rSortedKw X.K true [.bl true] xs [.bl true] H1 Q
    unfold fSortedR at D1
    split at D1
    · split at D1
      · rename_i v vs' e'
        split at D1
        · rename_i ns ei
          cases V1 with
          | cons a b =>
            cases b
            obtain ⟨q, ys, rfl, s', P⟩ := R1.lsts a e'
            rw [ints_of ei] at P
            rw [int_vs P] at s'
            refine ⟨q, ns, rfl, rfl, s', fun ns' p' pm od hp => ?_⟩
            have od' : ns'.Pairwise (· ≥ ·) := od
            rw [sortR_one pm od']
            exact fin_newL R1 D1 (ints_rv _) p' hp
        · exact D1.elim
      · exact D1.elim
    · exact D1.elim
end
/-! ### tuple(range(n)) -/
def vRgT (v : Val) (h : Hs) : Res Val := match v with
  | .im (.int n) => if n ≤ 16777216 then (if -16777216 ≤ n then .ok (.im (.tuple ((List.range n.toNat).map fun i => .int (i : Nat)))) h else .no) else .no
  | _ => .no
section
variable {X : Cx} {W : WK}
theorem rg_dp {K : PySem.W.Frag} {F : Hp} {n : Int} : DpAll K F (rgV 0 n) ((List.range n.toNat).map fun i => .int (i : Nat)) := by
  unfold rgV
  rw [Int.sub_zero]
  generalize List.range n.toNat = l
  induction l with
  | nil => exact .nil
  | cons a l ih =>
    rw [List.map_cons, List.map_cons]
    have : (0 : Int) + (a : Int) = (a : Int) := by omega
    rw [this]
    exact .cons (.int _) ih
theorem je_tupRg1 {a : Expr} {ma : Ev} {p p2 pos pos2 : Pos} (K : Ctx X W) (hg : Gl X "tuple") (hm : X.mg "tuple" = none) (hg2 : Gl X "range") (hm2 : X.mg "range" = none) (ha : JE X W a ma)
    (na : starEach [a] X.env = (false, eval a X.env) :: starEach [] X.env := by rfl) (na2 : starEach [Expr.Call (.Name "range" p2) [a] [] pos2] X.env = (false, eval (.Call (.Name "range" p2) [a] [] pos2) X.env) :: starEach [] X.env := by rfl) :
    JE X W (.Call (.Name "tuple" p) [.Call (.Name "range" p2) [a] [] pos2] [] pos) (e1 ma vRgT) := PE.imp (pe_tupRg K.calm hg hm (prg_1 hg2 hm2 ha na) na2) fun σ H Q t => by
  obtain ⟨G, F, ι, ρ, h, R, S, D⟩ := t
  refine st1 R S D fun F1 ι1 h1 H1 x v R1 E1 l1 V1 D1 => ?_
  unfold vRgT at D1
  split at D1
  · split at D1
    · split at D1
      · rename_i n h1 h2
        cases V1 with
        | im z =>
          cases z
          exact ⟨n, rfl, ⟨by omega, by omega, by omega, by omega, by omega⟩, fun q hq => fin_newT R1 D1 rg_dp q hq⟩
      · exact D1.elim
    · exact D1.elim
  · exact D1.elim
end
end NT

set_option Elab.async false
set_option linter.all false
set_option maxRecDepth 100000
set_option autoImplicit false

namespace NT
open PySem PySem.Spec PyProof.Rows L2 PySem.W
/-! ### dicts whose keys are whole numbers, as values -/
def intW (l : List (PyData × PyData)) : Bool := (l.all fun p => isIntD p.1) && decide ((l.map fun p => nkOf p.1).Nodup) && decide (l.length < 16777216)
theorem int_dval (l : List (PyData × PyData)) : intB (l.map dval) = intW l := by
  simp only [intB, intW, List.all_map, List.map_map, List.length_map]
  rfl
def wInI (neg : Bool) (d e : VV) : WO := match d, e with
  | .im d, .dct l => if (intW l && isIntD d) = true then .ok (.im (.bool (neg ^^ (wlook l d).isSome))) else .no
  | _, _ => .no
theorem op_wInI {neg : Bool} : Op2 (vInI neg) (wInI neg) := fun h x y d e r1 r2 => by
  unfold wInI
  split
  · rename_i a l
    have := rd_im r1; subst this
    obtain ⟨k, rfl, ek⟩ := rd_ref r2 rfl
    split
    · rename_i hc
      exact ops_im (by simp only [vInI, show h[k]? = some (.dct (l.map dval)) from ek, int_dval, hc, if_true, look_dval, Option.isSome_map])
    · trivial
  · trivial
def wGetI (d e : VV) : WO := match d, e with
  | .dct l, .im d => if (intW l && isIntD d) = true then (match wlook l d with
    | some w => .ok (.im w)
    | none => .no) else .no
  | _, _ => .no
theorem op_wGetI : Op2 vGetI wGetI := fun h x y d e r1 r2 => by
  unfold wGetI
  split
  · rename_i l a
    have := rd_im r2; subst this
    obtain ⟨k, rfl, ek⟩ := rd_ref r1 rfl
    split
    · rename_i hc
      split
      · rename_i w ew
        exact ops_im (by simp only [vGetI, show h[k]? = some (.dct (l.map dval)) from ek, int_dval, hc, if_true, look_dval, ew, Option.map_some])
      · trivial
    · trivial
  · trivial
def putJ (i : Nat) (v : PyData) (j : VV) (σ2 : VE) : WRS := match j, σ2[i]? with
  | .im d, some (some (.dct l)) => if (intW l && isIntD d) = true then .nx (σ2.set i (some (.dct (wput l d v)))) else .no
  | _, _ => .no
def xPutI (i : Nat) (mi me : VM VV) : WS := fun σ => match me σ with
  | .ok (.im v) σ1 => (match σ1[i]? with
    | some (some _) => (match mi σ1 with
      | .ok j σ2 => putJ i v j σ2
      | .er c => .er c
      | .no => .no)
    | _ => .no)
  | .er c => .er c
  | _ => .no
theorem ss_putI {mi me : Ev} {vi ve : VM VV} {bi be : Bool} {i : Nat} (hi : SimE bi mi vi) (he : SimE be me ve) : SimS [] (sPutI (eVar i) mi me) (xPutI i vi ve) := fun fr p ρ h σ S hf hp => by
  have z := he fr ρ h σ S
  unfold sPutI xPutI
  cases e : ve σ with
  | er c => rw [e] at z; rw [show me ρ h = _ from z]; rfl
  | no => trivial
  | ok d σ1 =>
    rw [e] at z
    obtain ⟨x, h1, e1, l1, S1, r⟩ := z
    cases d with
    | lst _ => trivial
    | dct _ => trivial
    | im w =>
      have := res_im r
      subst this
      rw [e1]
      simp only
      cases e0 : σ1[i]? with
      | none => trivial
      | some o =>
        cases o with
        | none => trivial
        | some d0 =>
          simp only
          have hv : ∃ u, ρ[i]? = some (some u) := by
            cases hm : d0.mu with
            | true => obtain ⟨k, a, _⟩ := S1.mu i d0 e0 hm; exact ⟨_, a⟩
            | false => cases d0 with
              | im q => exact ⟨_, S1.im i q e0⟩
              | lst _ => cases hm
              | dct _ => cases hm
          obtain ⟨u, hu⟩ := hv
          have ev : eVar i ρ h1 = .ok u h1 := by simp only [eVar, hu]
          simp only [ev]
          have z := hi fr ρ h1 σ1 S1
          cases e2 : vi σ1 with
          | no => trivial
          | er c => rw [e2] at z; rw [show mi ρ h1 = _ from z]; rfl
          | ok d2 σ2 =>
            rw [e2] at z
            obtain ⟨y, h2, e3, l2, S2, r2⟩ := z
            rw [e3]
            simp only
            cases d2 with
            | lst _ => trivial
            | dct _ => trivial
            | im q =>
              have := res_im r2
              subst this
              unfold putJ
              cases e4 : σ2[i]? with
              | none => trivial
              | some o =>
                cases o with
                | none => trivial
                | some d3 =>
                  cases d3 with
                  | im _ => trivial
                  | lst _ => trivial
                  | dct l =>
                    obtain ⟨k, a1, a2, _⟩ := S2.mu i _ e4 rfl
                    rw [hu] at a1
                    injection a1 with a1
                    injection a1 with a1
                    subst a1
                    have a2' : h2[k]? = some (.dct (l.map dval)) := a2
                    simp only [a2', int_dval]
                    by_cases hc : (intW l && isIntD q) = true
                    · rw [if_pos hc, if_pos hc]
                      have W := S2.write (e := .dct (wput l q w)) e4 rfl hu rfl
                      have eq : VV.cell (.dct (wput l q w)) = .dct (dput (l.map dval) q (.im w)) := by simp [VV.cell, put_dval]
                      rw [eq] at W
                      refine ⟨ρ, _, rfl, W.cut S.bl S.frl (by rw [List.length_set]; omega), ?_, fun _ _ => rfl⟩
                      exact Nat.le_trans hp (trunc_len (by rw [List.length_set]; omega))
                    · rw [if_neg hc, if_neg hc]; trivial
def dispJ (D E : VV) (σ : VE) : VR VV := match D, E with
  | .im d, .im v => if isIntD d = true then .ok (.dct [(d, v)]) σ else .no
  | _, _ => .no
def wDispI (a b : VM VV) : VM VV := fun σ => (a σ).bind fun d σ1 => (b σ1).bind fun v σ2 => dispJ d v σ2
@[simp] theorem r_dispI (a b : VM VV) (σ : VE) : wDispI a b σ = (a σ).bind fun d σ1 => (b σ1).bind fun v σ2 => dispJ d v σ2 := rfl
@[simp] theorem dispJ_im (d v : PyData) (σ : VE) : dispJ (.im d) (.im v) σ = if isIntD d = true then .ok (.dct [(d, v)]) σ else .no := rfl
theorem sv_dispI {b b' : Bool} {a c : Ev} {va vc : VM VV} (ha : SimE b a va) (hc : SimE b' c vc) : SimE true (eDispI a c) (wDispI va vc) := fun fr ρ h σ S =>
  sv_bind ha S fun x d h1 σ1 l1 S1 r => sv_two hc S1 S.bl l1 r fun y e h2 σ2 l2 l12 S2 r2 kp => by
    cases d with
    | lst _ => trivial
    | dct _ => trivial
    | im d =>
      cases e with
      | lst _ => trivial
      | dct _ => trivial
      | im v =>
        have := res_im r
        subst this
        have := res_im r2
        subst this
        refine out_if fun hk => ?_
        exact ⟨.ref h2.length, h2 ++ [.dct [(d, .im v)]], by simp only [hk, if_true], by rw [List.length_append]; omega, S2.grow _, .new rfl (by simp [VV.cell, dval]) l2⟩
def wListI := one1 fun d => match d with
  | .dct l => if intW l = true then .ok (.lst (l.map (·.1))) else .no
  | _ => .no
theorem op_wListI : OpL fListI wListI := opl_one fun h x d r => by
  split
  · rename_i l
    obtain ⟨k, rfl, ek⟩ := rd_ref r rfl
    have mm : (l.map dval).map (·.1) = l.map (·.1) := by simp only [List.map_map]; rfl
    split
    · rename_i hc
      refine ops_ref (d := .lst (l.map (·.1))) rfl ?_
      simp only [fListI, show h[k]? = some (.dct (l.map dval)) from ek, int_dval, mm, hc, if_true, VV.cell]
    · trivial
  · trivial
def wLenI := one1 fun d => match d with
  | .dct l => if intW l = true then .ok (.im (.int l.length)) else .no
  | _ => .no
theorem op_wLenI : OpL fLenI wLenI := opl_one fun h x d r => by
  split
  · rename_i l
    obtain ⟨k, rfl, ek⟩ := rd_ref r rfl
    split
    · rename_i hc
      exact ops_im (by simp only [fLenI, show h[k]? = some (.dct (l.map dval)) from ek, int_dval, hc, if_true, List.length_map])
    · trivial
  · trivial
def wRgT (d : VV) : WO := match d with
  | .im (.int n) => if n ≤ 16777216 then (if -16777216 ≤ n then .ok (.im (.tuple ((List.range n.toNat).map fun i => .int (i : Nat)))) else .no) else .no
  | _ => .no
theorem op_wRgT : Op1 vRgT wRgT := fun h x d r => by
  unfold wRgT
  split
  · have := rd_im r; subst this
    split
    · rename_i c1
      split
      · rename_i c2
        exact ops_im (by simp only [vRgT, c1, c2, if_true])
      · trivial
    · trivial
  · trivial
def wSortedR := one1 fun d => match lstW d with
  | some l => (match intsD l with
    | some ns => .ok (.lst ((sortR ns).map .int))
    | none => .no)
  | none => .no
theorem op_wSortedR : OpL fSortedR wSortedR := opl_one fun h x d r => by
  split
  · rename_i l e
    have e1 := rd_lst r e
    split
    · rename_i ns en
      exact ops_ref (d := .lst ((sortR ns).map .int)) rfl (by simp only [fSortedR, e1, ints_map en, VV.cell, List.map_map]; rfl)
    · trivial
  · trivial
end NT

set_option Elab.async false
set_option linter.all false
set_option maxRecDepth 100000
set_option autoImplicit false

namespace NT
open PySem PySem.Spec PyProof.Rows L2 PySem.W
/-! ### max(whole numbers), list.count(a whole number) -/
def maxI (ns : List Int) : Int := ns.foldl max (ns.headD 0)
theorem fold_max : ∀ (l : List Int) (a : Int), a ≤ l.foldl max a ∧ (∀ y ∈ l, y ≤ l.foldl max a) ∧ (l.foldl max a = a ∨ l.foldl max a ∈ l)
  | [], a => ⟨Int.le_refl _, by simp, .inl rfl⟩
  | b :: l, a => by
    obtain ⟨h1, h2, h3⟩ := fold_max l (max a b)
    refine ⟨by simp only [List.foldl_cons]; omega, fun y hy => ?_, ?_⟩
    · rcases List.mem_cons.mp hy with rfl | hy
      · simp only [List.foldl_cons]; omega
      · exact h2 y hy
    · simp only [List.foldl_cons]
      rcases h3 with h3 | h3
      · rw [h3]
        by_cases c : a ≤ b
        · right; rw [show max a b = b from by omega]; exact List.mem_cons_self
        · left; omega
      · exact .inr (List.mem_cons_of_mem _ h3)
theorem maxI_mem {ns : List Int} (h : 0 < ns.length) : maxI ns ∈ ns := by
  cases ns with
  | nil => cases h
  | cons a l =>
    obtain ⟨h1, h2, h3⟩ := fold_max (a :: l) a
    unfold maxI
    rcases h3 with h3 | h3
    · rw [show (a :: l).headD 0 = a from rfl, h3]; exact List.mem_cons_self
    · exact h3
theorem maxI_ge {ns : List Int} {y : Int} (h : y ∈ ns) : y ≤ maxI ns := (fold_max ns _).2.1 y h
theorem maxI_one {ns : List Int} {m : Int} (h1 : m ∈ ns) (h2 : ∀ y ∈ ns, y ≤ m) : m = maxI ns := by
  have a := maxI_ge h1
  have b := h2 _ (maxI_mem (List.length_pos_of_mem h1))
  omega
def fMaxL (us : List Val) (h : Hs) : Res Val := match us with
  | [v] => match lstOf h v with
    | some vs => match intsOf vs with
      | some ns => if 0 < ns.length then .ok (.im (.int (maxI ns))) h else .no
      | none => .no
    | none => .no
  | _ => .no
def mCount (v : Val) (us : List Val) (h : Hs) : Res Val := match us with
  | [.im (.int i)] => match lstOf h v with
    | some vs => match intsOf vs with
      | some ns => .ok (.im (.int (ns.count i : Nat))) h
      | none => .no
    | none => .no
  | _ => .no
section
variable {X : Cx} {W : WK}
theorem o_maxL (K : Ctx X W) : CallR X (.builtin "max") (rOfL (cst X W) W fMaxL) := CallR.imp (cr_max K.calm) fun xs H Q t => by
  obtain ⟨G, F, ι, h, v, R, V, D⟩ := t
  unfold fMaxL at D
  split at D
  · split at D
    · rename_i v vs e
      split at D
      · rename_i ns ei
        split at D
        · rename_i hn
          cases V with
          | cons a b =>
            cases b
            obtain ⟨p, ys, rfl, s', P⟩ := R.lsts a e
            rw [ints_of ei] at P
            rw [int_vs P] at s'
            exact ⟨p, ns, rfl, s', hn, fun m h1 h2 => by rw [maxI_one h1 h2]; exact fin_im R D (.int _)⟩
        · exact D.elim
      · exact D.elim
    · exact D.elim
  · exact D.elim
theorem o_lcount : MtR X "list.count" (rOfM (cst X W) W mCount) := MtR.imp mt_lcount fun x xs H Q t => by
  obtain ⟨G, F, ι, h, u, v, R, V1, V2, D⟩ := t
  unfold mCount at D
  split at D
  · rename_i i
    split at D
    · rename_i vs e
      split at D
      · rename_i ns ei
        obtain ⟨p, ys, rfl, s', P⟩ := R.lsts V1 e
        rw [ints_of ei] at P
        rw [int_vs P] at s'
        cases V2 with
        | cons a b =>
          cases b
          cases a with
          | im z =>
            cases z
            exact ⟨p, ns, i, rfl, rfl, s', fin_im R D (.int _)⟩
      · exact D.elim
    · exact D.elim
  · exact D.elim
end
end NT

set_option Elab.async false
set_option linter.all false
set_option maxRecDepth 100000
set_option autoImplicit false

namespace NT
open PySem PySem.Spec PyProof.Rows L2 PySem.W
def wMaxL := one1 fun d => match lstW d with
  | some l => (match intsD l with
    | some ns => if 0 < ns.length then .ok (.im (.int (maxI ns))) else .no
    | none => .no)
  | none => .no
theorem op_wMaxL : OpL fMaxL wMaxL := opl_one fun h x d r => by
  split
  · rename_i l e
    have e1 := rd_lst r e
    split
    · rename_i ns en
      split
      · rename_i hn
        exact ops_im (by simp only [fMaxL, e1, ints_map en, hn, if_true])
      · trivial
    · trivial
  · trivial
def gCount : WMe := fun d us => match d, us with
  | .lst l, [.im (.int i)] => match intsD l with
    | some ns => some (.int (ns.count i : Nat), .lst l)
    | none => none
  | _, _ => none
theorem set_same {α : Type} {l : List α} {k : Nat} {a : α} (h : l[k]? = some a) : l.set k a = l := by
  obtain ⟨h1, h2⟩ := List.getElem?_eq_some_iff.mp h
  rw [← h2, List.set_getElem_self]
theorem om_count : OpM mCount gCount := fun h k d us ds q d' e m p z => by
  unfold gCount at z
  split at z
  · split at z
    · rename_i hc
      cases z
      cases p with
      | cons a b =>
        cases b
        have := rd_im a; subst this
        rw [set_same (show h[k]? = some (VV.cell (.lst _)) from e)]
        simp only [mCount, lstOf, show h[k]? = some (.lst _) from e, ints_map hc]
    · cases z
  · cases z
end NT

set_option Elab.async false
set_option linter.all false
set_option maxRecDepth 100000
set_option autoImplicit false

namespace NT
open PySem PySem.Spec PyProof.Rows L2 PySem.W
/-! ### d.update(e), both with whole numbers for keys -/
def dputv (kvs more : List (PyData × Val)) : List (PyData × Val) := more.foldl (fun acc p => dput acc p.1 p.2) kvs
def mUpdI (v : Val) (us : List Val) (h : Hs) : Res Val := match v, us with
  | .ref j, [.ref i] => if j = i then .no else match h[j]?, h[i]? with
    | some (.dct kvs), some (.dct more) => if (intB kvs && intB more && decide (kvs.length + more.length < 16777216)) = true then .ok (.im .none) (h.set j (.dct (dputv kvs more))) else .no
    | _, _ => .no
  | _, _ => .no
section
variable {X : Cx} {W : WK} {G F : Hp} {ι : Nat → Addr} {h : Hs} {H : Hp} {pins : List (Addr × Obj)} {σ : L2.St} {s : Shared}
theorem merged_I {n : Nat} : ∀ {more : List (Int × Value)} {moreV : List (PyData × Val)} {vs : List (Int × Value)} {kvs : List (PyData × Val)}, Paired (EnI X W ι F n) more moreV → Paired (EnI X W ι F n) vs kvs → Paired (EnI X W ι F n) (merged vs more) (dputv kvs moreV)
  | _, _, _, _, .nil, P => P
  | _, _, vs, kvs, .cons (a := x) (b := p) a as, P => by
    obtain ⟨a1, v, a3, a4⟩ := a
    have P2 := EnI.put (k := x.1) a3 a4 P
    have z := merged_I as P2
    obtain ⟨p1, p2⟩ := p
    simp only at a1
    subst a1
    exact z
theorem merged_len : ∀ (more vs : List (Int × Value)), (merged vs more).length ≤ vs.length + more.length
  | [], vs => by simp [merged]
  | x :: r, vs => by
    have h1 := merged_len r (stored vs x.1 x.2)
    have h2 := stored_length_le vs x.1 x.2
    have e : merged vs (x :: r) = merged (stored vs x.1 x.2) r := rfl
    rw [e, List.length_cons]
    omega
theorem o_updI (K : Ctx X W) : MtR X "dict.update" (rOfM (cst X W) W mUpdI) := by
  intro pins s σ H x xs v us Q I rx rxs t
  obtain ⟨G, F, ι, h, u1, v1, R, V1, V2, D⟩ := t
  unfold mUpdI at D
  split at D
  · rename_i j i
    split at D
    · exact D.elim
    · rename_i hne
      split at D
      · rename_i kvs more hc hm
        split at D
        · rename_i hh
          rw [Bool.and_eq_true, Bool.and_eq_true, decide_eq_true_eq] at hh
          obtain ⟨⟨kb, kb2⟩, hlen⟩ := hh
          obtain ⟨vs, low, dd, hz, P⟩ := R.dictI I hc kb
          obtain ⟨vs2, low2, dd2, hz2, P2⟩ := R.dictI I hm kb2
          have na : ι j ≠ ι i := fun z => hne (R.inj _ _ _ _ hc hm rfl rfl z)
          cases V1 with
          | ref hj =>
            obtain rfl : v = .ref (ι j) := rx
            cases V2 with
            | cons va vb =>
              cases vb
              cases va with
              | ref hi =>
                obtain ⟨uv, rfl, ru⟩ := vals1 rxs
                obtain rfl : uv = .ref (ι i) := ru
                have el := Paired.length P
                have el2 := Paired.length P2
                refine call_meetsIn PySem.F.slot_dict_update dd.typeIs PySem.F.entry_dict_update (PySem.F.args_dict_update_2 _ _) (meets_dict_update (PySem.intKind X.prog X.w) (ι j) (ι i) na low2)
                  ⟨vs, vs2, dd, dd2, by rw [SZ_eq]; omega, fun h' dd' _ sb => ?_⟩
                obtain ⟨H', I', R'⟩ := R.rewriteI I (tk := s.toks) hc low dd' sb (by have := merged_len vs2 vs; rw [SZ_eq]; omega) (merged_I P2 P)
                exact ⟨.non, H', I', rfl, D F ι H' .non R' Ext.refl (by simp) (.im .non)⟩
        · exact D.elim
      · exact D.elim
  · exact D.elim
end
end NT

set_option Elab.async false
set_option linter.all false
set_option maxRecDepth 100000
set_option autoImplicit false

namespace NT
open PySem PySem.Spec PyProof.Rows L2 PySem.W
/-! ### d.update(a fresh dict) -/
abbrev OpMN (f : Val → List Val → Hs → Res Val) (g : WMe) : Prop := ∀ h k d us ds q d', h[k]? = some (VV.cell d) → d.mu = true → k ∉ refs us → Paired (Rd h) us ds → g d ds = some (q, d') → f (.ref k) us h = .ok (.im q) (h.set k d'.cell)
theorem sv_methN {i : Nat} {r : M (List Val)} {vr : VM (List VV)} {ty : Val → Hs → Bool} {tyV : VV → Bool} {f : Val → List Val → Hs → Res Val} {g : WMe} (ht : ∀ h k d, h[k]? = some (VV.cell d) → d.mu = true → tyV d = true → ty (.ref k) h = true) (o : OpMN f g) (hr : SimL [none] r vr) : SimE true (eM ty (eVar i) r f) (wMeth i tyV g vr) := fun fr ρ h σ S => by
  unfold wMeth
  cases e0 : σ[i]? with
  | none => trivial
  | some o1 =>
    cases o1 with
    | none => trivial
    | some d =>
      simp only
      refine out_if fun hm => ?_
      simp only [Bool.and_eq_true] at hm
      obtain ⟨k, a1, a2, _⟩ := S.mu i d e0 hm.1
      have kl : k < h.length := (List.getElem?_eq_some_iff.mp a2).1
      have ev : eVar i ρ h = .ok (.ref k) h := by simp only [eVar, a1]
      show Out _ fr ρ h.length ((eVar i ρ h).bind _) _
      rw [ev]
      simp only [bind_ok, ht h k d a2 hm.1 hm.2, if_true]
      refine sv_bind hr S fun xs ds h1 σ1 l1 S1 q => ?_
      cases e1 : σ1[i]? with
      | none => trivial
      | some o1 =>
        cases o1 with
        | none => trivial
        | some d1 =>
          simp only
          refine out_if fun hm1 => ?_
          obtain ⟨k', b1, b2, _⟩ := S1.mu i d1 e1 hm1
          rw [a1] at b1
          injection b1 with b1
          injection b1 with b1
          injection b1 with b1
          subst b1
          have far : k ∉ refs xs := fun hk => by
            rcases args_ref q.1 hk with z | ⟨i, z, _⟩
            · omega
            · cases ds with
              | nil => cases z
              | cons d ds => cases z
          cases eg : g d1 ds with
          | none => trivial
          | some p =>
            obtain ⟨w, d2⟩ := p
            simp only
            refine out_if fun hm2 => ?_
            have := o h1 k d1 xs ds w d2 b2 hm1 far q.1.rd eg
            exact ⟨_, _, this, by rw [List.length_set]; exact l1, S1.write e1 hm1 a1 hm2, .im _⟩
def gUpdI : WMe := fun d us => match d, us with
  | .dct l, [.dct r] => if (intW l && intW r && decide (l.length + r.length < 16777216)) = true then some (.none, .dct (wputs l r)) else none
  | _, _ => none
theorem putv_dval : ∀ (r l : List (PyData × PyData)), dputv (l.map dval) (r.map dval) = (wputs l r).map dval
  | [], _ => rfl
  | p :: r, l => by
    show dputv (dput (l.map dval) p.1 (.im p.2)) (r.map dval) = _
    rw [put_dval, putv_dval r]
    rfl
theorem om_updI : OpMN mUpdI gUpdI := fun h k d us ds q d' e m nk p z => by
  unfold gUpdI at z
  split at z
  · rename_i l r
    split at z
    · rename_i hc
      cases z
      cases p with
      | cons a b =>
        cases b
        obtain ⟨j, rfl, ej⟩ := rd_ref a rfl
        have ne : ¬ k = j := fun z => nk (by rw [z]; exact List.mem_cons_self)
        have e1 : h[k]? = some (.dct (l.map dval)) := e
        have e2 : h[j]? = some (.dct (r.map dval)) := ej
        simp only [mUpdI, ne, if_false, e1, e2, int_dval, List.length_map, hc, if_true, VV.cell, putv_dval]
    · cases z
  · cases z
end NT

set_option Elab.async false
set_option linter.all false
set_option maxRecDepth 100000
set_option autoImplicit false

namespace NT
open PySem PySem.Spec PyProof.Rows L2 PySem.W
/-! ### sum(a tuple of whole numbers) -/
def intsT : List PyData → Option (List Int)
  | [] => some []
  | .int i :: r => (intsT r).map (i :: ·)
  | _ => none
theorem intsT_map : ∀ ns : List Int, intsT (ns.map .int) = some ns
  | [] => rfl
  | i :: ns => by rw [List.map_cons, intsT, intsT_map ns]; rfl
def fSumT (us : List Val) (h : Hs) : Res Val := match us with
  | [.im (.tuple ds)] => match intsT ds with
    | some ns => .ok (.im (.int ns.sum)) h
    | none => .no
  | _ => .no
section
variable {X : Cx} {W : WK}
theorem intsT_eq : ∀ {ds : List PyData} {ns : List Int}, intsT ds = some ns → ds = ns.map .int
  | [], ns, e => by
    simp only [intsT] at e
    cases e
    rfl
  | .int i :: r, ns, e => by
    simp only [intsT] at e
    obtain ⟨l, e1, e2⟩ := Option.map_eq_some_iff.mp e
    rw [← e2, intsT_eq e1]
    rfl
  | .none :: _, _, e => by cases e
  | .bool _ :: _, _, e => by cases e
  | .str _ :: _, _, e => by cases e
  | .list _ :: _, _, e => by cases e
  | .tuple _ :: _, _, e => by cases e
  | .dict _ :: _, _, e => by cases e
theorem dp_intsT {K : PySem.W.Frag} {F : Hp} : ∀ {vs : List V} {ns : List Int}, DpAll K F vs (ns.map .int) → vs = ns.map V.int
  | _, [], .nil => rfl
  | _, i :: ns, .cons a b => by
    cases a
    rw [dp_intsT b]
    rfl
theorem o_sumT (K : Ctx X W) : CallR X (.builtin "sum") (rOfL (cst X W) W fSumT) := by
  intro pins s σ H xs us Q I r t
  obtain ⟨G, F, ι, h, v, R, V, D⟩ := t
  unfold fSumT at D
  split at D
  · rename_i ds
    split at D
    · rename_i ns en
      rw [intsT_eq en] at V
      cases V with
      | cons a b =>
        cases b
        cases a with
        | im z =>
          cases z with
          | tup sq P =>
            have ev := dp_intsT P
            subst ev
            obtain ⟨its, rv, ht, hz⟩ := I.tuple (tupF R.f sq)
            rw [Vals.ref1 r]
            obtain ⟨ys, e⟩ := rv.ints.allInts.items
            have hn : numsOf its.toArray.toList = ns := by rw [show its.toArray.toList = its from rfl, rv.ints.numsOf]
            rw [e] at ht hn
            rw [nums_intItems] at hn
            refine ktm_sumG (I.ok.hd K.calm) ht fun h' tk t' hk => ?_
            rw [preSum_eq, List.take_of_length_le (by simp), hn]
            exact ⟨.int _, H, I.kept hk, ⟨_, rfl⟩, fin_im R D (.int _)⟩
    · exact D.elim
  · exact D.elim
end
end NT

set_option Elab.async false
set_option linter.all false
set_option maxRecDepth 100000
set_option autoImplicit false

namespace NT
open PySem PySem.Spec PyProof.Rows L2 PySem.W
def wSumT := one1 fun d => match d with
  | .im (.tuple l) => (match intsT l with
    | some ns => .ok (.im (.int ns.sum))
    | none => .no)
  | _ => .no
theorem op_wSumT : OpL fSumT wSumT := opl_one fun h x d r => by
  split
  · rename_i l
    have := rd_im r; subst this
    split
    · rename_i ns en
      exact ops_im (by simp only [fSumT, en])
    · trivial
  · trivial
end NT

set_option Elab.async false
set_option linter.all false
set_option maxRecDepth 100000
set_option autoImplicit false

namespace NT
open PySem PySem.Spec PyProof.Rows L2 PySem.W
/-! ### texts: join, split, a text in a text, str(number), int(text) -/
def eStr (a c : Ev) (f : Val → Val → Hs → Res Val) : Ev := fun ρ h => (a ρ h).bind fun x h1 => if isS x h1 = true then (c ρ h1).bind fun y h2 => f x y h2 else .no
def strsOf : List Val → Option (List Str)
  | [] => some []
  | .im (.str z) :: r => (strsOf r).map (z :: ·)
  | _ => none
def vSplit (v u : Val) (h : Hs) : Res Val := match v, u with
  | .im (.str a), .im (.str b) => if ((b.length == 0) == false && decide (a.length + 2 ≤ 16777216)) = true then .ok (.ref h.length) (h ++ [.lst ((Txt.split a b).map fun z => .im (.str z))]) else .no
  | _, _ => .no
def vJoin (v u : Val) (h : Hs) : Res Val := match v with
  | .im (.str a) => match itemsOf h u with
    | some vs => match strsOf vs with
      | some ys => if (ys.map (·.length)).sum + ys.length * a.length ≤ 16777216 then .ok (.im (.str (Txt.join a ys))) h else .no
      | none => .no
    | none => .no
  | _ => .no
def vInT (neg : Bool) (v u : Val) (h : Hs) : Res Val := match v, u with
  | .im (.str a), .im (.str b) => .ok (.im (.bool (neg ^^ !(Builtin.Str.occurrences b a 0 b.length 1).isEmpty))) h
  | _, _ => .no
def fStr (us : List Val) (h : Hs) : Res Val := match us with
  | [.im (.int i)] => if i.natAbs.log2 < 1920 then .ok (.im (.str (Str.ofString (toString i)))) h else .no
  | _ => .no
def fIntT (us : List Val) (h : Hs) : Res Val := match us with
  | [.im (.str a)] => match PySem.intText? a with
    | some n => if a.length ≤ 640 then .ok (.im (.int n)) h else .no
    | none => .no
  | _ => .no
section
variable {C : Cst} {W : WK} {G F F' : Hp} {ι ι' : Nat → Addr} {n n' q : Nat} {h h' : Hs} {H H' : Hp} {σ : L2.St} {ρ : En}
theorem strs_of : ∀ {vs : List Val} {ys : List Str}, strsOf vs = some ys → vs = ys.map fun z => .im (.str z)
  | [], _, e => by cases e; rfl
  | .im (.str z) :: r, ys, e => by
    simp only [strsOf] at e
    cases q : strsOf r with
    | none => rw [q] at e; cases e
    | some l => rw [q] at e; cases e; rw [strs_of q]; rfl
  | .im .none :: _, _, e => by cases e
  | .im (.bool _) :: _, _, e => by cases e
  | .im (.int _) :: _, _, e => by cases e
  | .im (.tuple _) :: _, _, e => by cases e
  | .im (.list _) :: _, _, e => by cases e
  | .im (.dict _) :: _, _, e => by cases e
  | .ref _ :: _, _, e => by cases e
theorem str_vs : ∀ {xs : List V} {ys : List Str}, Paired (RV C ι F n) xs (ys.map fun z => .im (.str z)) → xs = ys.map V.str
  | _, [], r => by cases r; rfl
  | _, y :: ys, r => by
    cases r with
    | cons a b =>
      cases a with
      | im z => cases z; rw [str_vs b]; rfl
theorem str_rv : ∀ ys : List Str, Paired (RV C ι F n) (ys.map V.str) (ys.map fun z => .im (.str z))
  | [] => .nil
  | y :: ys => .cons (.im (.str y)) (str_rv ys)
end
section
variable {X : Cx} {W : WK} {o e : Expr} {mo me : Ev} {name : Str} {apos pos : Pos} {f : Val → Val → Hs → Res Val} {r : V → List V → Hp → VK → Prop}
theorem str_t {σ : L2.St} {H : Hp} {Q : VK} (hr : ∀ x y H Q, rOf2 (cst X W) W f x y H Q → r x [y] H Q) (t : tOf (repV (cst X W)) (cst X W) W (eStr mo me f) σ H Q) : tM1 r (tOf (repV (cst X W)) (cst X W) W mo) (tOf (repV (cst X W)) (cst X W) W me) σ H Q := by
  obtain ⟨G, F, ι, ρ, h, R, S, D⟩ := t
  refine st1 R S D fun F1 ι1 h1 H1 x v R1 E1 l1 V1 D1 => ?_
  split at D1
  · rename_i hh
    have hv : ∃ a, v = .im (.str a) := by
      unfold isS at hh
      split at hh
      · exact ⟨_, rfl⟩
      · cases hh
    obtain ⟨a, rfl⟩ := hv
    have V1' := V1
    cases V1 with
    | im z =>
      cases z
      refine ⟨⟨a, rfl⟩, ?_⟩
      refine st1 R1 (S.mono E1.le E1.ag l1) D1 fun F2 ι2 h2 H2 y u R2 E2 l2 V2 D2 => ?_
      exact hr _ _ _ _ ⟨G, F2, ι2, h2, .im (.str a), u, R2, .im (.str a), V2, D2⟩
  · exact D1.elim
theorem je_split (ho : JE X W o mo) (he : JE X W e me) (hs : starEach [e] X.env = [(false, eval e X.env)] := by rfl) (hbase : attributeBase o "split" X.env (eval o X.env) = eval o X.env := by rfl) (hline : (apos.endLine == pos.line) = true := by rfl) :
    JE X W (.Call (.Attribute o "split" apos) [e] [] pos) (eStr mo me vSplit) := PE.imp (pe_split ho he hs hbase hline) fun σ H Q t => str_t (fun x y H Q t => by
  obtain ⟨G, F, ι, h, v, u, R, V1, V2, D⟩ := t
  unfold vSplit at D
  split at D
  · rename_i a b
    split at D
    · rename_i hc
      rw [Bool.and_eq_true, decide_eq_true_eq] at hc
      cases V1 with
      | im z1 =>
        cases z1
        cases V2 with
        | im z2 =>
          cases z2
          refine ⟨a, b, rfl, rfl, ?_, by rw [SZ_eq]; exact hc.2, fun p hp => fin_newL R D (str_rv _) p hp⟩
          have := hc.1
          cases q : (b.length == 0) with
          | false => rfl
          | true => rw [q] at this; cases this
    · exact D.elim
  · exact D.elim) t
theorem je_join (ho : JE X W o mo) (he : JE X W e me) (hs : starEach [e] X.env = [(false, eval e X.env)] := by rfl) (hbase : attributeBase o "join" X.env (eval o X.env) = eval o X.env := by rfl) (hline : (apos.endLine == pos.line) = true := by rfl) :
    JE X W (.Call (.Attribute o "join" apos) [e] [] pos) (eStr mo me vJoin) := PE.imp (pe_join ho he hs hbase hline) fun σ H Q t => str_t (fun x y H Q t => by
  obtain ⟨G, F, ι, h, v, u, R, V1, V2, D⟩ := t
  unfold vJoin at D
  split at D
  · rename_i a
    split at D
    · rename_i vs ei
      split at D
      · rename_i ys es
        split at D
        · rename_i hc
          cases V1 with
          | im z1 =>
            cases z1
            obtain ⟨p, xs, rfl, sq, P⟩ := R.items V2 ei
            rw [strs_of es] at P
            have := str_vs P
            subst this
            exact ⟨a, p, ys, rfl, rfl, sq, hc, fin_im R D (.str _)⟩
        · exact D.elim
      · exact D.elim
    · exact D.elim
  · exact D.elim) t
theorem c_inT : OpR X (compareOp .In) (rOf2 (cst X W) W (vInT false)) := OpR.imp op_in_str fun x y H Q t => by
  obtain ⟨G, F, ι, h, v, u, R, V1, V2, D⟩ := t
  unfold vInT at D
  split at D
  · cases V1 with
    | im z1 =>
      cases z1
      cases V2 with
      | im z2 =>
        cases z2
        rw [Bool.false_xor] at D
        exact ⟨_, _, rfl, rfl, fin_im R D (.bl _)⟩
  · exact D.elim
theorem c_notInT : OpR X (compareOp .NotIn) (rOf2 (cst X W) W (vInT true)) := OpR.imp op_notIn_str fun x y H Q t => by
  obtain ⟨G, F, ι, h, v, u, R, V1, V2, D⟩ := t
  unfold vInT at D
  split at D
  · cases V1 with
    | im z1 =>
      cases z1
      cases V2 with
      | im z2 =>
        cases z2
        rw [Bool.true_xor] at D
        exact ⟨_, _, rfl, rfl, fin_im R D (.bl _)⟩
  · exact D.elim
theorem o_strI : CallR X (.type "str") (rOfL (cst X W) W fStr) := CallR.imp call_str_int fun xs H Q t => by
  obtain ⟨G, F, ι, h, v, R, V, D⟩ := t
  unfold fStr at D
  split at D
  · rename_i i
    split at D
    · rename_i hc
      cases V with
      | cons a b =>
        cases b
        cases a with
        | im z => cases z; exact ⟨i, rfl, hc, fin_im R D (.str _)⟩
    · exact D.elim
  · exact D.elim
theorem o_intT : CallR X (.type "int") (rOfL (cst X W) W fIntT) := CallR.imp call_int_str fun xs H Q t => by
  obtain ⟨G, F, ι, h, v, R, V, D⟩ := t
  unfold fIntT at D
  split at D
  · rename_i a
    split at D
    · rename_i n hn
      split at D
      · rename_i hc
        cases V with
        | cons a' b =>
          cases b
          cases a' with
          | im z => cases z; exact ⟨a, n, rfl, hn, hc, fin_im R D (.int _)⟩
      · exact D.elim
    · exact D.elim
  · exact D.elim
end
/-- a def of which nothing is promised -/
theorem good_no {T : TW} {P : Program} {w : World} {K : PySem.W.Frag} {mg : Str → Option Value} {base : Heap} {k : Nat} {f : Addr} {fd : FuncData} {ps : List Str} : Good T P w K mg base k f fd ps (fun _ _ => .no) :=
  ⟨fun A outer s H args us vs Q E hr hg e0 b rv h => by
    obtain ⟨_, _, _, _, _, _, _, _, D⟩ := h
    exact D.elim⟩
end NT

set_option Elab.async false
set_option linter.all false
set_option maxRecDepth 100000
set_option autoImplicit false

namespace NT
open PySem PySem.Spec PyProof.Rows L2 PySem.W
/-! ### texts -/
def strA (vc : VM VV) (g : VV → VV → WO) (d : VV) (σ1 : VE) : VR VV := match d with
  | .im (.str a) => (vc σ1).bind fun e σ2 => (g (.im (.str a)) e).at σ2
  | _ => .no
def wStrM (va vc : VM VV) (g : VV → VV → WO) : VM VV := fun σ => (va σ).bind (strA vc g)
theorem sv_str {b b' : Bool} {a c : Ev} {va vc : VM VV} {f : Val → Val → Hs → Res Val} {g : VV → VV → WO} (o : Op2 f g) (ha : SimE b a va) (hc : SimE b' c vc) : SimE true (eStr a c f) (wStrM va vc g) := fun fr ρ h σ S =>
  sv_bind ha S fun x d h1 σ1 l1 S1 r => by
    by_cases k : ∃ z, d = .im (.str z)
    · obtain ⟨z, rfl⟩ := k
      have := rd_im r.rd
      subst this
      have k : isS (.im (.str z)) h1 = true := rfl
      simp only [k, if_true, strA]
      exact sv_two hc S1 S.bl l1 r fun y e h2 σ2 l2 l12 S2 r2 kp => op_fin S2 l2 (o h2 _ y _ e (.im _) r2.rd)
    · have : strA vc g d σ1 = .no := by
        unfold strA
        split
        · exact absurd ⟨_, rfl⟩ k
        · rfl
      rw [this]
      trivial
def strsD : List PyData → Option (List Str)
  | [] => some []
  | .str z :: r => (strsD r).map (z :: ·)
  | _ => none
theorem strs_im : ∀ {l : List PyData} {ys : List Str}, strsD l = some ys → strsOf (l.map .im) = some ys
  | [], _, e => by cases e; rfl
  | .str z :: r, ys, e => by
    simp only [strsD] at e
    cases q : strsD r with
    | none => rw [q] at e; cases e
    | some l =>
      rw [q] at e; cases e
      simp only [List.map_cons, strsOf, strs_im q, Option.map_some]
  | .none :: _, _, e => by cases e
  | .bool _ :: _, _, e => by cases e
  | .int _ :: _, _, e => by cases e
  | .tuple _ :: _, _, e => by cases e
  | .list _ :: _, _, e => by cases e
  | .dict _ :: _, _, e => by cases e
@[simp] theorem strsD_map : ∀ ys : List Str, strsD (ys.map .str) = some ys
  | [] => rfl
  | y :: ys => by simp only [List.map_cons, strsD, strsD_map ys, Option.map_some]
def wSplit (d e : VV) : WO := match d, e with
  | .im (.str a), .im (.str b) => if ((b.length == 0) == false && decide (a.length + 2 ≤ 16777216)) = true then .ok (.lst ((Txt.split a b).map .str)) else .no
  | _, _ => .no
theorem op_wSplit : Op2 vSplit wSplit := fun h x y d e r1 r2 => by
  unfold wSplit
  split
  · have := rd_im r1; subst this; have := rd_im r2; subst this
    split
    · rename_i hc
      exact ops_ref (d := .lst _) rfl (by simp only [vSplit, hc, if_true, VV.cell, List.map_map]; rfl)
    · trivial
  · trivial
def wJoin (d e : VV) : WO := match d with
  | .im (.str a) => match itemsW e with
    | some l => match strsD l with
      | some ys => if (ys.map (·.length)).sum + ys.length * a.length ≤ 16777216 then .ok (.im (.str (Txt.join a ys))) else .no
      | none => .no
    | none => .no
  | _ => .no
theorem op_wJoin : Op2 vJoin wJoin := fun h x y d e r1 r2 => by
  unfold wJoin
  split
  · have := rd_im r1; subst this
    split
    · rename_i l el
      split
      · rename_i ys ey
        split
        · rename_i hc
          have e1 := rd_items r2 el
          exact ops_im (by simp only [vJoin, e1, strs_im ey, hc, if_true])
        · trivial
      · trivial
    · trivial
  · trivial
def wInT (neg : Bool) (d e : VV) : WO := match d, e with
  | .im (.str a), .im (.str b) => .ok (.im (.bool (neg ^^ !(Builtin.Str.occurrences b a 0 b.length 1).isEmpty)))
  | _, _ => .no
theorem op_wInT {neg : Bool} : Op2 (vInT neg) (wInT neg) := fun h x y d e r1 r2 => by
  unfold wInT
  split
  · have := rd_im r1; subst this; have := rd_im r2; subst this
    exact ops_im rfl
  · trivial
def wStr := one1 fun d => match d with
  | .im (.int i) => if i.natAbs.log2 < 1920 then .ok (.im (.str (Str.ofString (toString i)))) else .no
  | _ => .no
theorem op_wStr : OpL fStr wStr := opl_one fun h x d r => by
  split
  · have := rd_im r; subst this
    split
    · rename_i hc
      exact ops_im (by simp only [fStr, hc, if_true])
    · trivial
  · trivial
def wIntT := one1 fun d => match d with
  | .im (.str a) => (match PySem.intText? a with
    | some n => if a.length ≤ 640 then .ok (.im (.int n)) else .no
    | none => .no)
  | _ => .no
theorem op_wIntT : OpL fIntT wIntT := opl_one fun h x d r => by
  split
  · have := rd_im r; subst this
    split
    · rename_i n hn
      split
      · rename_i hc
        exact ops_im (by simp only [fIntT, hn, hc, if_true])
      · trivial
    · trivial
  · trivial
@[simp] theorem r_strM (va vc : VM VV) (g : VV → VV → WO) (σ : VE) : wStrM va vc g σ = (va σ).bind (strA vc g) := rfl
@[simp] theorem strA_s (vc : VM VV) (g : VV → VV → WO) (a : Str) (σ : VE) : strA vc g (.im (.str a)) σ = (vc σ).bind fun e σ2 => (g (.im (.str a)) e).at σ2 := rfl
end NT

set_option Elab.async false
set_option linter.all false
set_option maxRecDepth 100000
set_option maxHeartbeats 4000000
set_option autoImplicit false
namespace NT
open PySem PySem.Spec PyProof.Rows L2 PySem.W
def top (i : Nat) : Stmt := PySem.Challenge.pw_nearturns_k91_texts_written_and_read.main.body.getD i (.Pass ⟨0, 0, 0, 0⟩)
abbrev _law_cell_at_t : Stmt := top 17
abbrev _law_cell_at_N : List Str := ["_law_script", "_law_k"]
abbrev _law_cell_at_P : List Str := ["_law_script", "_law_k"]
noncomputable def _law_cell_at_s0 : SM := (sIf (tst (e2 (eVar 1) (eB (mCons (eVar 0) mNil) fLen) vLt)) (sRet (e2 (eVar 0) (eVar 1) vIdx)) sNil)
noncomputable def _law_cell_at_s1 : SM := (sRet (eC (.int 0)))
noncomputable def _law_cell_at_b : SM :=
  (sSeq _law_cell_at_s0
  _law_cell_at_s1)
noncomputable def _law_cell_at_f : Fn := fnOf 2 2 _law_cell_at_b
abbrev _law_state_t : Stmt := top 18
abbrev _law_state_N : List Str := ["_law_script", "_law_k", "_law_cell"]
abbrev _law_state_P : List Str := ["_law_script", "_law_k"]
noncomputable def _law_state_s0 : SM := (sSet 2 (eCall 2 _law_cell_at_f (mCons (eVar 0) (mCons (eVar 1) mNil))))
noncomputable def _law_state_s1 : SM := (sIf (tst (e2 (eVar 2) (e2 (eC (.int 10)) (eC (.int 18)) vPow) vGe)) (sRet (eLst (mCons (e2 (eVar 2) (e2 (eC (.int 10)) (eC (.int 18)) vPow) vSub) (mCons (eC (.bool true)) mNil)))) sNil)
noncomputable def _law_state_s2 : SM := (sRet (eLst (mCons (e2 (eVar 2) (eC (.int 2147483647)) vMod) (mCons (eC (.bool false)) mNil))))
noncomputable def _law_state_b : SM :=
  (sSeq _law_state_s0
  (sSeq _law_state_s1
  _law_state_s2))
noncomputable def _law_state_f : Fn := fnOf 2 3 _law_state_b
abbrev _law_take_t : Stmt := top 19
abbrev _law_take_N : List Str := ["_law_state_here", "_law_many", "_law_mixed", "_law_found"]
abbrev _law_take_P : List Str := ["_law_state_here", "_law_many"]
noncomputable def _law_take_s0 : SM := (sIf (tst (e2 (eVar 0) (eC (.int 1)) vIdx)) (sSeq (sSet 3 (e2 (e2 (eVar 0) (eC (.int 0)) vIdx) (eVar 1) vMod))
  (sSeq (sPut (eVar 0) (eC (.int 0)) (e2 (e2 (eVar 0) (eC (.int 0)) vIdx) (eVar 1) vFdiv))
  (sRet (eVar 3)))) sNil)
noncomputable def _law_take_s1 : SM := (sPut (eVar 0) (eC (.int 0)) (e2 (e2 (e2 (e2 (eVar 0) (eC (.int 0)) vIdx) (eC (.int 48271)) vMul) (eC (.int 29)) vAdd) (eC (.int 2147483647)) vMod))
noncomputable def _law_take_s2 : SM := (sSet 2 (e2 (e2 (e2 (e2 (e2 (eVar 0) (eC (.int 0)) vIdx) (e2 (eVar 0) (eC (.int 0)) vIdx) vMul) (e2 (eC (.int 39373)) (e2 (eVar 0) (eC (.int 0)) vIdx) vMul) vAdd) (eC (.int 7)) vAdd) (eC (.int 2147483629)) vMod))
noncomputable def _law_take_s3 : SM := (sSet 2 (e2 (e2 (e2 (eVar 2) (eVar 2) vMul) (e2 (eC (.int 16807)) (eVar 2) vMul) vAdd) (eC (.int 2147483587)) vMod))
noncomputable def _law_take_s4 : SM := (sRet (e2 (e2 (eVar 2) (eC (.int 8)) vFdiv) (eVar 1) vMod))
noncomputable def _law_take_b : SM :=
  (sSeq _law_take_s0
  (sSeq _law_take_s1
  (sSeq _law_take_s2
  (sSeq _law_take_s3
  _law_take_s4))))
noncomputable def _law_take_f : Fn := fnOf 2 4 _law_take_b
abbrev _law_order_t : Stmt := top 21
abbrev _law_order_N : List Str := ["_law_state_here", "_law_many", "_law_left", "_law_k"]
abbrev _law_order_P : List Str := ["_law_state_here", "_law_many"]
noncomputable def _law_order_s0 : SM := (sSet 2 (e1 (eVar 1) vRg1))
noncomputable def _law_order_c0 : Ev := eComp (mRng1 (mCons (eVar 1) mNil)) (.nm 3) mTrue (eM isL (eVar 2) (mCons (eCall 2 _law_take_f (mCons (eVar 0) (mCons (eB (mCons (eVar 2) mNil) fLen) mNil))) mNil) mPopAt) [3]
noncomputable def _law_order_s1 : SM := (sRet (eB (mCons _law_order_c0 mNil) fTuple))
noncomputable def _law_order_b : SM :=
  (sSeq _law_order_s0
  _law_order_s1)
noncomputable def _law_order_f : Fn := fnOf 2 4 _law_order_b
abbrev _law_pairs_t : Stmt := top 20
abbrev _law_pairs_N : List Str := ["_law_places", "_law_found", "_law_a", "_law_b"]
abbrev _law_pairs_P : List Str := ["_law_places"]
noncomputable def _law_pairs_s0 : SM := (sSet 1 (eLst mNil))
noncomputable def _law_pairs_c0 : Ev := eComp (mRng2 (mCons (e2 (eVar 2) (eC (.int 1)) vAdd) (mCons (eVar 0) mNil))) (.nm 3) mTrue (eTup (mCons (eVar 2) (mCons (eVar 3) mNil))) [3]
noncomputable def _law_pairs_l0 : SM := (sExpr (eM isL (eVar 1) (mCons _law_pairs_c0 mNil) mExtend))
noncomputable def _law_pairs_s1 : SM := (sFor (mRng1 (mCons (eVar 0) mNil)) (.nm 2) _law_pairs_l0)
noncomputable def _law_pairs_s2 : SM := (sRet (eVar 1))
noncomputable def _law_pairs_b : SM :=
  (sSeq _law_pairs_s0
  (sSeq _law_pairs_s1
  _law_pairs_s2))
noncomputable def _law_pairs_f : Fn := fnOf 1 4 _law_pairs_b
abbrev _law_web_t : Stmt := top 22
abbrev _law_web_N : List Str := ["_law_state_here", "_law_least", "_law_most", "_law_places", "_law_kind", "_law_order_here", "_law_full", "_law_ties", "_law_found", "_law_pair", "_law_a", "_law_b", "_law_place"]
abbrev _law_web_P : List Str := ["_law_state_here", "_law_least", "_law_most"]
noncomputable def _law_web_s0 : SM := (sSet 3 (e2 (eVar 1) (eCall 2 _law_take_f (mCons (eVar 0) (mCons (e2 (e2 (eVar 2) (eVar 1) vSub) (eC (.int 1)) vAdd) mNil))) vAdd))
noncomputable def _law_web_s1 : SM := (sSet 4 (eCall 2 _law_take_f (mCons (eVar 0) (mCons (eC (.int 8)) mNil))))
noncomputable def _law_web_s2 : SM := (sSet 5 (eCall 2 _law_order_f (mCons (eVar 0) (mCons (eVar 3) mNil))))
noncomputable def _law_web_s3 : SM := (sSet 6 (e2 (eLst (mCons (eC (.int 2)) (mCons (eC (.int 3)) (mCons (eC (.int 5)) (mCons (eC (.int 7)) mNil))))) (eCall 2 _law_take_f (mCons (eVar 0) (mCons (eC (.int 4)) mNil))) vIdx))
noncomputable def _law_web_c0 : Ev := eComp (mSeq (eCall 1 _law_pairs_f (mCons (eVar 3) mNil))) (.nm 9) (tst (e2 (eCall 2 _law_take_f (mCons (eVar 0) (mCons (eC (.int 8)) mNil))) (eVar 6) vLt)) (eVar 9) [9]
noncomputable def _law_web_s4 : SM := (sSet 7 _law_web_c0)
noncomputable def _law_web_c1 : Ev := eComp (mRng2 (mCons (eC (.int 1)) (mCons (eVar 3) mNil))) (.nm 12) mTrue (eTup (mCons (eCall 2 _law_take_f (mCons (eVar 0) (mCons (eVar 12) mNil))) (mCons (eVar 12) mNil))) [12]
noncomputable def _law_web_c2 : Ev := eComp (mSeq (eCall 1 _law_pairs_f (mCons (eVar 3) mNil))) (.nm 9) (tst (e2 (eCall 2 _law_take_f (mCons (eVar 0) (mCons (eC (.int 6)) mNil))) (eC (.int 0)) vEq)) (eVar 9) [9]
noncomputable def _law_web_s5 : SM := (sIf (tst (e2 (eVar 4) (eTup (mCons (eC (.int 1)) (mCons (eC (.int 2)) (mCons (eC (.int 3)) mNil)))) (vInS false))) (sSeq (sSet 7 _law_web_c1)
  (sIf (tst (e2 (eVar 4) (eC (.int 2)) vEq)) (sSet 7 (e2 (eVar 7) _law_web_c2 vAdd)) sNil)) sNil)
noncomputable def _law_web_c3 : Ev := eComp (mRng1 (mCons (e2 (eVar 3) (eC (.int 1)) vSub) mNil)) (.nm 12) mTrue (eTup (mCons (eVar 12) (mCons (e2 (eVar 12) (eC (.int 1)) vAdd) mNil))) [12]
noncomputable def _law_web_s6 : SM := (sIf (mAnd (tst (e2 (eVar 4) (eC (.int 4)) vEq)) (tst (e2 (eVar 3) (eC (.int 2)) vGt))) (sSet 7 (e2 _law_web_c3 (eLst (mCons (eTup (mCons (eC (.int 0)) (mCons (e2 (eVar 3) (eC (.int 1)) vSub) mNil))) mNil)) vAdd)) sNil)
noncomputable def _law_web_c4 : Ev := eComp (mRng2 (mCons (eC (.int 1)) (mCons (eVar 3) mNil))) (.nm 12) mTrue (eTup (mCons (eC (.int 0)) (mCons (eVar 12) mNil))) [12]
noncomputable def _law_web_s7 : SM := (sIf (tst (e2 (eVar 4) (eC (.int 5)) vEq)) (sSet 7 (e2 (eLst (mCons _law_web_c4 (mCons (eCall 1 _law_pairs_f (mCons (eVar 3) mNil)) mNil))) (eCall 2 _law_take_f (mCons (eVar 0) (mCons (eC (.int 2)) mNil))) vIdx)) sNil)
noncomputable def _law_web_c5 : Ev := eComp (mSeq (eVar 7)) (.tup [10, 11]) mTrue (eTup (mCons (eB (mCons (e2 (eVar 5) (eVar 10) vIdx) (mCons (e2 (eVar 5) (eVar 11) vIdx) mNil)) fMin2) (mCons (eB (mCons (e2 (eVar 5) (eVar 10) vIdx) (mCons (e2 (eVar 5) (eVar 11) vIdx) mNil)) fMax2) mNil))) [10, 11]
noncomputable def _law_web_s8 : SM := (sSet 8 _law_web_c5)
noncomputable def _law_web_s9 : SM := (sRet (eTup (mCons (eVar 3) (mCons (eB (mCons (eB (mCons (eVar 8) mNil) fSortSet) mNil) fTuple) mNil))))
noncomputable def _law_web_b : SM :=
  (sSeq _law_web_s0
  (sSeq _law_web_s1
  (sSeq _law_web_s2
  (sSeq _law_web_s3
  (sSeq _law_web_s4
  (sSeq _law_web_s5
  (sSeq _law_web_s6
  (sSeq _law_web_s7
  (sSeq _law_web_s8
  _law_web_s9)))))))))
noncomputable def _law_web_f : Fn := fnOf 3 13 _law_web_b
abbrev number_in_t : Stmt := top 11
abbrev number_in_N : List Str := ["word"]
abbrev number_in_P : List Str := ["word"]
noncomputable def number_in_s0 : SM := (sIf (mOr (tst (e2 (eB (mCons (eVar 0) mNil) fLen) (eC (.int 1)) vNe)) (tst (e2 (eVar 0) (eC (.str ("012345678" : Str))) (vInT true)))) (sRet (eC .none)) sNil)
noncomputable def number_in_s1 : SM := (sRet (eB (mCons (eVar 0) mNil) fIntT))
noncomputable def number_in_b : SM :=
  (sSeq number_in_s0
  number_in_s1)
noncomputable def number_in_f : Fn := fnOf 1 1 number_in_b
abbrev is_number_t : Stmt := top 5
abbrev is_number_N : List Str := ["thing", "least", "most"]
abbrev is_number_P : List Str := ["thing", "least", "most"]
noncomputable def is_number_s0 : SM := (sRet (eAnd (e1 (eVar 0) (vIsi "int")) (eAnd (eNot (e1 (eVar 0) (vIsi "bool"))) (eChain vLe vLe (eVar 1) (eVar 0) (eVar 2)))))
noncomputable def is_number_b : SM :=
  is_number_s0
noncomputable def is_number_f : Fn := fnOf 3 3 is_number_b
abbrev is_tie_t : Stmt := top 6
abbrev is_tie_N : List Str := ["thing", "places", "one"]
abbrev is_tie_P : List Str := ["thing", "places"]
noncomputable def is_tie_s0 : SM := (sIf (mOr (mNot (tst (e1 (eVar 0) (vIsi "tuple")))) (tst (e2 (eB (mCons (eVar 0) mNil) fLen) (eC (.int 2)) vNe))) (sRet (eC (.bool false))) sNil)
noncomputable def is_tie_c0 : Ev := eComp (mSeq (eVar 0)) (.nm 2) mTrue (eCall 3 is_number_f (mCons (eVar 2) (mCons (eC (.int 0)) (mCons (e2 (eVar 1) (eC (.int 1)) vSub) mNil)))) [2]
noncomputable def is_tie_s1 : SM := (sRet (eAnd (eB (mCons is_tie_c0 mNil) fAll) (e2 (e2 (eVar 0) (eC (.int 0)) vIdx) (e2 (eVar 0) (eC (.int 1)) vIdx) vLt)))
noncomputable def is_tie_b : SM :=
  (sSeq is_tie_s0
  is_tie_s1)
noncomputable def is_tie_f : Fn := fnOf 2 3 is_tie_b
abbrev is_web_t : Stmt := top 7
abbrev is_web_N : List Str := ["thing", "one", "other", "tie"]
abbrev is_web_P : List Str := ["thing"]
noncomputable def is_web_s0 : SM := (sIf (mOr (mNot (tst (e1 (eVar 0) (vIsi "tuple")))) (mOr (tst (e2 (eB (mCons (eVar 0) mNil) fLen) (eC (.int 2)) vNe)) (mNot (tst (eCall 3 is_number_f (mCons (e2 (eVar 0) (eC (.int 0)) vIdx) (mCons (eC (.int 1)) (mCons (eC (.int 8)) mNil)))))))) (sRet (eC (.bool false))) sNil)
noncomputable def is_web_c0 : Ev := eComp (mSeq (e2 (eVar 0) (eC (.int 1)) vIdx)) (.nm 3) mTrue (eCall 2 is_tie_f (mCons (eVar 3) (mCons (e2 (eVar 0) (eC (.int 0)) vIdx) mNil))) [3]
noncomputable def is_web_s1 : SM := (sIf (mOr (mNot (tst (e1 (e2 (eVar 0) (eC (.int 1)) vIdx) (vIsi "tuple")))) (mNot (tst (eB (mCons is_web_c0 mNil) fAll)))) (sRet (eC (.bool false))) sNil)
noncomputable def is_web_c1 : Ev := eComp (mZip (mCons (e2 (eVar 0) (eC (.int 1)) vIdx) (mCons (eSlice (e2 (eVar 0) (eC (.int 1)) vIdx) (mPart (eC (.int 1))) mNoPart) mNil))) (.tup [1, 2]) mTrue (e2 (eVar 1) (eVar 2) vLt) [1, 2]
noncomputable def is_web_s2 : SM := (sRet (eB (mCons is_web_c1 mNil) fAll))
noncomputable def is_web_b : SM :=
  (sSeq is_web_s0
  (sSeq is_web_s1
  is_web_s2))
noncomputable def is_web_f : Fn := fnOf 1 4 is_web_b
abbrev web_read_t : Stmt := top 14
abbrev web_read_N : List Str := ["text", "words", "ties", "found", "word", "part"]
abbrev web_read_P : List Str := ["text"]
noncomputable def web_read_s0 : SM := (sIf (mNot (tst (e1 (eVar 0) (vIsi "str")))) (sRaise "BadNote") sNil)
noncomputable def web_read_s1 : SM := (sSet 1 (eStr (eVar 0) (eC (.str (" " : Str))) vSplit))
noncomputable def web_read_s2 : SM := (sIf (tst (e2 (eSlice (e2 (eVar 1) (eC (.int 0)) vIdx) (mPart (e1 (eC (.int 1)) vNeg)) mNoPart) (eC (.str (":" : Str))) vNe)) (sRaise "BadNote") sNil)
noncomputable def web_read_c0 : Ev := eComp (mSeq (eStr (eVar 4) (eC (.str ("-" : Str))) vSplit)) (.nm 5) mTrue (eCall 1 number_in_f (mCons (eVar 5) mNil)) [5]
noncomputable def web_read_c1 : Ev := eComp (mSeq (eSlice (eVar 1) (mPart (eC (.int 1))) mNoPart)) (.nm 4) mTrue (eB (mCons web_read_c0 mNil) fTuple) [4]
noncomputable def web_read_s3 : SM := (sSet 2 (eB (mCons web_read_c1 mNil) fTuple))
noncomputable def web_read_s4 : SM := (sSet 3 (eTup (mCons (eCall 1 number_in_f (mCons (eSlice (e2 (eVar 1) (eC (.int 0)) vIdx) mNoPart (mPart (e1 (eC (.int 1)) vNeg))) mNil)) (mCons (eVar 2) mNil))))
noncomputable def web_read_s5 : SM := (sIf (mNot (tst (eCall 1 is_web_f (mCons (eVar 3) mNil)))) (sRaise "BadNote") sNil)
noncomputable def web_read_s6 : SM := (sRet (eVar 3))
noncomputable def web_read_b : SM :=
  (sSeq web_read_s0
  (sSeq web_read_s1
  (sSeq web_read_s2
  (sSeq web_read_s3
  (sSeq web_read_s4
  (sSeq web_read_s5
  web_read_s6))))))
noncomputable def web_read_f : Fn := fnOf 1 6 web_read_b
abbrev row_read_t : Stmt := top 15
abbrev row_read_N : List Str := ["text", "found", "word"]
abbrev row_read_P : List Str := ["text"]
noncomputable def row_read_s0 : SM := (sIf (mNot (tst (e1 (eVar 0) (vIsi "str")))) (sRaise "BadNote") sNil)
noncomputable def row_read_s1 : SM := (sIf (tst (e2 (eVar 0) (eC (.str ("none" : Str))) vEq)) (sRet (eTup mNil)) sNil)
noncomputable def row_read_c0 : Ev := eComp (mSeq (eStr (eVar 0) (eC (.str (" " : Str))) vSplit)) (.nm 2) mTrue (eCall 1 number_in_f (mCons (eVar 2) mNil)) [2]
noncomputable def row_read_s2 : SM := (sSet 1 (eB (mCons row_read_c0 mNil) fTuple))
noncomputable def row_read_s3 : SM := (sIf (mOr (tst (e2 (eC .none) (eVar 1) (vInS false))) (mOr (tst (e2 (eC (.int 8)) (eVar 1) (vInS false))) (tst (e2 (eB (mCons (eVar 1) mNil) fLen) (eC (.int 40)) vGt)))) (sRaise "BadNote") sNil)
noncomputable def row_read_s4 : SM := (sRet (eVar 1))
noncomputable def row_read_b : SM :=
  (sSeq row_read_s0
  (sSeq row_read_s1
  (sSeq row_read_s2
  (sSeq row_read_s3
  row_read_s4))))
noncomputable def row_read_f : Fn := fnOf 1 3 row_read_b
abbrev _law_web_text_t : Stmt := top 23
abbrev _law_web_text_N : List Str := ["_law_web_here", "_law_a", "_law_b"]
abbrev _law_web_text_P : List Str := ["_law_web_here"]
noncomputable def _law_web_text_c0 : Ev := eComp (mSeq (e2 (eVar 0) (eC (.int 1)) vIdx)) (.tup [1, 2]) mTrue (e2 (e2 (eB (mCons (eVar 1) mNil) fStr) (eC (.str ("-" : Str))) vAdd) (eB (mCons (eVar 2) mNil) fStr) vAdd) [1, 2]
noncomputable def _law_web_text_s0 : SM := (sRet (eStr (eC (.str (" " : Str))) (e2 (eLst (mCons (e2 (eB (mCons (e2 (eVar 0) (eC (.int 0)) vIdx) mNil) fStr) (eC (.str (":" : Str))) vAdd) mNil)) _law_web_text_c0 vAdd) vJoin))
noncomputable def _law_web_text_b : SM :=
  _law_web_text_s0
noncomputable def _law_web_text_f : Fn := fnOf 1 3 _law_web_text_b
abbrev _law_row_text_t : Stmt := top 24
abbrev _law_row_text_N : List Str := ["_law_row", "_law_place"]
abbrev _law_row_text_P : List Str := ["_law_row"]
noncomputable def _law_row_text_c0 : Ev := eComp (mSeq (eVar 0)) (.nm 1) mTrue (eB (mCons (eVar 1) mNil) fStr) [1]
noncomputable def _law_row_text_s0 : SM := (sRet (eIf (tst (e2 (eVar 0) (eTup mNil) vEq)) (eC (.str ("none" : Str))) (eStr (eC (.str (" " : Str))) _law_row_text_c0 vJoin)))
noncomputable def _law_row_text_b : SM :=
  _law_row_text_s0
noncomputable def _law_row_text_f : Fn := fnOf 1 2 _law_row_text_b
abbrev web_text_t : Stmt := top 12
abbrev web_text_N : List Str := ["web", "one", "other"]
abbrev web_text_P : List Str := ["web"]
noncomputable def web_text_c0 : Ev := eComp (mSeq (e2 (eVar 0) (eC (.int 1)) vIdx)) (.tup [1, 2]) mTrue (e2 (e2 (eB (mCons (eVar 1) mNil) fStr) (eC (.str ("-" : Str))) vAdd) (eB (mCons (eVar 2) mNil) fStr) vAdd) [1, 2]
noncomputable def web_text_s0 : SM := (sRet (eStr (eC (.str (" " : Str))) (e2 (eLst (mCons (e2 (eB (mCons (e2 (eVar 0) (eC (.int 0)) vIdx) mNil) fStr) (eC (.str (":" : Str))) vAdd) mNil)) web_text_c0 vAdd) vJoin))
noncomputable def web_text_b : SM :=
  web_text_s0
noncomputable def web_text_f : Fn := fnOf 1 3 web_text_b
abbrev row_text_t : Stmt := top 13
abbrev row_text_N : List Str := ["row", "place"]
abbrev row_text_P : List Str := ["row"]
noncomputable def row_text_s0 : SM := (sIf (tst (e2 (eVar 0) (eTup mNil) vEq)) (sRet (eC (.str ("none" : Str)))) sNil)
noncomputable def row_text_c0 : Ev := eComp (mSeq (eVar 0)) (.nm 1) mTrue (eB (mCons (eVar 1) mNil) fStr) [1]
noncomputable def row_text_s1 : SM := (sRet (eStr (eC (.str (" " : Str))) row_text_c0 vJoin))
noncomputable def row_text_b : SM :=
  (sSeq row_text_s0
  row_text_s1)
noncomputable def row_text_f : Fn := fnOf 1 2 row_text_b
abbrev _law_plain_r0_t : Stmt := top 25
abbrev _law_plain_r0_N : List Str := ["_law_thing", "_law_part"]
abbrev _law_plain_r0_P : List Str := ["_law_thing"]
noncomputable def _law_plain_r0_f : Fn := fun _ _ => .no
abbrev _law_plain_r1_t : Stmt := top 25
abbrev _law_plain_r1_N : List Str := ["_law_thing", "_law_part"]
abbrev _law_plain_r1_P : List Str := ["_law_thing"]
noncomputable def _law_plain_r1_c0 : Ev := eComp (mSeq (eVar 0)) (.nm 1) (mNot (tst (eCall 1 _law_plain_r0_f (mCons (eVar 1) mNil)))) (eVar 1) [1]
noncomputable def _law_plain_r1_s0 : SM := (sIf (tst (e1 (eVar 0) (vIsi "tuple"))) (sRet (e2 _law_plain_r1_c0 (eLst mNil) vEq)) sNil)
noncomputable def _law_plain_r1_s1 : SM := (sRet (eAnd (e1 (eVar 0) (vIsi "int")) (eNot (e1 (eVar 0) (vIsi "bool")))))
noncomputable def _law_plain_r1_b : SM :=
  (sSeq _law_plain_r1_s0
  _law_plain_r1_s1)
noncomputable def _law_plain_r1_f : Fn := fnOf 1 2 _law_plain_r1_b
abbrev _law_plain_r2_t : Stmt := top 25
abbrev _law_plain_r2_N : List Str := ["_law_thing", "_law_part"]
abbrev _law_plain_r2_P : List Str := ["_law_thing"]
noncomputable def _law_plain_r2_c0 : Ev := eComp (mSeq (eVar 0)) (.nm 1) (mNot (tst (eCall 1 _law_plain_r1_f (mCons (eVar 1) mNil)))) (eVar 1) [1]
noncomputable def _law_plain_r2_s0 : SM := (sIf (tst (e1 (eVar 0) (vIsi "tuple"))) (sRet (e2 _law_plain_r2_c0 (eLst mNil) vEq)) sNil)
noncomputable def _law_plain_r2_s1 : SM := (sRet (eAnd (e1 (eVar 0) (vIsi "int")) (eNot (e1 (eVar 0) (vIsi "bool")))))
noncomputable def _law_plain_r2_b : SM :=
  (sSeq _law_plain_r2_s0
  _law_plain_r2_s1)
noncomputable def _law_plain_r2_f : Fn := fnOf 1 2 _law_plain_r2_b
abbrev _law_plain_r3_t : Stmt := top 25
abbrev _law_plain_r3_N : List Str := ["_law_thing", "_law_part"]
abbrev _law_plain_r3_P : List Str := ["_law_thing"]
noncomputable def _law_plain_r3_c0 : Ev := eComp (mSeq (eVar 0)) (.nm 1) (mNot (tst (eCall 1 _law_plain_r2_f (mCons (eVar 1) mNil)))) (eVar 1) [1]
noncomputable def _law_plain_r3_s0 : SM := (sIf (tst (e1 (eVar 0) (vIsi "tuple"))) (sRet (e2 _law_plain_r3_c0 (eLst mNil) vEq)) sNil)
noncomputable def _law_plain_r3_s1 : SM := (sRet (eAnd (e1 (eVar 0) (vIsi "int")) (eNot (e1 (eVar 0) (vIsi "bool")))))
noncomputable def _law_plain_r3_b : SM :=
  (sSeq _law_plain_r3_s0
  _law_plain_r3_s1)
noncomputable def _law_plain_r3_f : Fn := fnOf 1 2 _law_plain_r3_b
abbrev _law_plain_t : Stmt := top 25
abbrev _law_plain_N : List Str := ["_law_thing", "_law_part"]
abbrev _law_plain_P : List Str := ["_law_thing"]
noncomputable def _law_plain_c0 : Ev := eComp (mSeq (eVar 0)) (.nm 1) (mNot (tst (eCall 1 _law_plain_r3_f (mCons (eVar 1) mNil)))) (eVar 1) [1]
noncomputable def _law_plain_s0 : SM := (sIf (tst (e1 (eVar 0) (vIsi "tuple"))) (sRet (e2 _law_plain_c0 (eLst mNil) vEq)) sNil)
noncomputable def _law_plain_s1 : SM := (sRet (eAnd (e1 (eVar 0) (vIsi "int")) (eNot (e1 (eVar 0) (vIsi "bool")))))
noncomputable def _law_plain_b : SM :=
  (sSeq _law_plain_s0
  _law_plain_s1)
noncomputable def _law_plain_f : Fn := fnOf 1 2 _law_plain_b
abbrev law_t : Stmt := top 26
abbrev law_N : List Str := ["_law_script", "_law_k", "_law_state_here", "_law_web_here", "_law_row", "_law_found", "_law_turn"]
abbrev law_P : List Str := ["_law_script"]
noncomputable def law_c0 : Ev := eComp (mRng1 (mCons (e2 (eLst (mCons (eC (.int 0)) (mCons (eC (.int 1)) (mCons (eC (.int 3)) (mCons (eC (.int 10)) (mCons (eC (.int 40)) mNil)))))) (eCall 2 _law_take_f (mCons (eVar 2) (mCons (eC (.int 5)) mNil))) vIdx) mNil)) (.nm 6) mTrue (eCall 2 _law_take_f (mCons (eVar 2) (mCons (eC (.int 8)) mNil))) [6]
noncomputable def law_l0 : SM := (sSeq (sSet 2 (eCall 2 _law_state_f (mCons (eVar 0) (mCons (eVar 1) mNil))))
  (sSeq (sSet 3 (eCall 3 _law_web_f (mCons (eVar 2) (mCons (eC (.int 1)) (mCons (eC (.int 8)) mNil)))))
  (sSeq (sSet 4 (eB (mCons law_c0 mNil) fTuple))
  (sSeq (sIf (mOr (tst (e2 (eCall 1 web_text_f (mCons (eVar 3) mNil)) (eCall 1 _law_web_text_f (mCons (eVar 3) mNil)) vNe)) (tst (e2 (eCall 1 row_text_f (mCons (eVar 4) mNil)) (eCall 1 _law_row_text_f (mCons (eVar 4) mNil)) vNe))) (sRet (eC (.bool false))) sNil)
  (sSeq (sSet 5 (eCall 1 web_read_f (mCons (eCall 1 _law_web_text_f (mCons (eVar 3) mNil)) mNil)))
  (sSeq (sIf (mOr (tst (e2 (eVar 5) (eVar 3) vNe)) (mNot (tst (eCall 1 _law_plain_f (mCons (eVar 5) mNil))))) (sRet (eC (.bool false))) sNil)
  (sSeq (sSet 5 (eCall 1 row_read_f (mCons (eCall 1 _law_row_text_f (mCons (eVar 4) mNil)) mNil)))
  (sIf (mOr (tst (e2 (eVar 5) (eVar 4) vNe)) (mNot (tst (eCall 1 _law_plain_f (mCons (eVar 5) mNil))))) (sRet (eC (.bool false))) sNil))))))))
noncomputable def law_s0 : SM := (sFor (mRng1 (mCons (eB (mCons (eC (.int 1)) (mCons (eB (mCons (eB (mCons (eVar 0) mNil) fLen) (mCons (eC (.int 12)) mNil)) fMin2) mNil)) fMax2) mNil)) (.nm 1) law_l0)
noncomputable def law_s1 : SM := (sRet (eAnd (e2 (eCall 1 web_text_f (mCons (eTup (mCons (eC (.int 1)) (mCons (eTup mNil) mNil))) mNil)) (eC (.str ("1:" : Str))) vEq) (e2 (eCall 1 row_text_f (mCons (eTup mNil) mNil)) (eC (.str ("none" : Str))) vEq)))
noncomputable def law_b : SM :=
  (sSeq law_s0
  law_s1)
noncomputable def law_f : Fn := fnOf 1 7 law_b
section
variable {P : Program} {w : World} {K : PySem.W.Frag} {mg : Str → Option Value} {base : Heap}
theorem _law_cell_at_sc : FnScope _law_cell_at_N _law_cell_at_P (defScope _law_cell_at_t) := ⟨rfl, rfl, rfl, by decide +kernel, rfl, by decide +kernel, by decide +kernel⟩
theorem _law_cell_at_use {a : Addr} {fd : FuncData} (F : Fun K "_law_cell_at" "_law_cell_at" _law_cell_at_t a fd) (hm : mg "_law_cell_at" = some (.ref a)) (hb : Binds K fd _law_cell_at_P []) (h_len : mg "len" = none)    : Use ⟨[], true⟩ P w K mg base "_law_cell_at" 1 _law_cell_at_P _law_cell_at_f a fd :=
  ⟨mk_good F _law_cell_at_sc fun cdv A outer s H E hcd B => show JSs _ _ _ _law_cell_at_b from ((jss_cons (js_if (jt_cmp (c_lt B.ctx) je_var (je_callB o_len rfl h_len (ja_cons je_var ja_nil))) (jss_one (js_ret (je_idx je_var je_var))) jss_nil)
  (jss_one (js_ret je_int)))), hm, F.kp, hb⟩
theorem _law_state_sc : FnScope _law_state_N _law_state_P (defScope _law_state_t) := ⟨rfl, rfl, rfl, by decide +kernel, rfl, by decide +kernel, by decide +kernel⟩
theorem _law_state_use {a : Addr} {fd : FuncData} (F : Fun K "_law_state" "_law_state" _law_state_t a fd) (hm : mg "_law_state" = some (.ref a)) (hb : Binds K fd _law_state_P [])    {a__law_cell_at : Addr} {d__law_cell_at : FuncData} (U__law_cell_at : Use ⟨[], true⟩ P w K mg base "_law_cell_at" 1 _law_cell_at_P _law_cell_at_f a__law_cell_at d__law_cell_at) : Use ⟨[], true⟩ P w K mg base "_law_state" 2 _law_state_P _law_state_f a fd :=
  ⟨mk_good F _law_state_sc fun cdv A outer s H E hcd B => show JSs _ _ _ _law_state_b from ((jss_cons (js_set B.ctx (i := 2) rfl (by first | exact Or.inl rfl | exact Or.inr rfl) (je_use B.ctx U__law_cell_at B.room (by decide) rfl (ja_cons je_var (ja_cons je_var ja_nil))))
  (jss_cons (js_if (jt_cmp (c_ge B.ctx) je_var (je_op o_pow je_int je_int)) (jss_one (js_ret (je_lst (ja_cons (je_op o_sub je_var (je_op o_pow je_int je_int)) (ja_cons je_bl ja_nil))))) jss_nil)
  (jss_one (js_ret (je_lst (ja_cons (je_op o_mod je_var je_int) (ja_cons je_bl ja_nil)))))))), hm, F.kp, hb⟩
theorem _law_take_sc : FnScope _law_take_N _law_take_P (defScope _law_take_t) := ⟨rfl, rfl, rfl, by decide +kernel, rfl, by decide +kernel, by decide +kernel⟩
theorem _law_take_use {a : Addr} {fd : FuncData} (F : Fun K "_law_take" "_law_take" _law_take_t a fd) (hm : mg "_law_take" = some (.ref a)) (hb : Binds K fd _law_take_P [])     : Use ⟨[], true⟩ P w K mg base "_law_take" 1 _law_take_P _law_take_f a fd :=
  ⟨mk_good F _law_take_sc fun cdv A outer s H E hcd B => show JSs _ _ _ _law_take_b from ((jss_cons (js_if (jt_val (je_idx je_var je_int)) (jss_cons (js_set B.ctx (i := 3) rfl (by first | exact Or.inl rfl | exact Or.inr rfl) (je_op o_mod (je_idx je_var je_int) je_var))
  (jss_cons (js_put (pg_sub je_var je_int set_list) (je_op o_fdiv (je_idx je_var je_int) je_var))
  (jss_one (js_ret je_var)))) jss_nil)
  (jss_cons (js_put (pg_sub je_var je_int set_list) (je_op o_mod (je_op o_add (je_op o_mul (je_idx je_var je_int) je_int) je_int) je_int))
  (jss_cons (js_set B.ctx (i := 2) rfl (by first | exact Or.inl rfl | exact Or.inr rfl) (je_op o_mod (je_op o_add (je_op o_add (je_op o_mul (je_idx je_var je_int) (je_idx je_var je_int)) (je_op o_mul je_int (je_idx je_var je_int))) je_int) je_int))
  (jss_cons (js_set B.ctx (i := 2) rfl (by first | exact Or.inl rfl | exact Or.inr rfl) (je_op o_mod (je_op o_add (je_op o_mul je_var je_var) (je_op o_mul je_int je_var)) je_int))
  (jss_one (js_ret (je_op o_mod (je_op o_fdiv je_var je_int) je_var)))))))), hm, F.kp, hb⟩
theorem _law_order_sc : FnScope _law_order_N _law_order_P (defScope _law_order_t) := ⟨rfl, rfl, rfl, by decide +kernel, rfl, by decide +kernel, by decide +kernel⟩
theorem _law_order_use {a : Addr} {fd : FuncData} (F : Fun K "_law_order" "_law_order" _law_order_t a fd) (hm : mg "_law_order" = some (.ref a)) (hb : Binds K fd _law_order_P []) (h_list : mg "list" = none) (h_range : mg "range" = none) (h_len : mg "len" = none) (h_tuple : mg "tuple" = none)   {a__law_take : Addr} {d__law_take : FuncData} (U__law_take : Use ⟨[], true⟩ P w K mg base "_law_take" 1 _law_take_P _law_take_f a__law_take d__law_take) : Use ⟨[], true⟩ P w K mg base "_law_order" 2 _law_order_P _law_order_f a fd :=
  ⟨mk_good F _law_order_sc fun cdv A outer s H E hcd B => show JSs _ _ _ _law_order_b from ((jss_cons (js_set B.ctx (i := 2) rfl (by first | exact Or.inl rfl | exact Or.inr rfl) (je_listRg1 B.ctx rfl h_list rfl h_range je_var))
  (jss_one (js_ret (je_callTy o_tuple rfl h_tuple (ja_cons (je_comp (own := [(("_law_k" : Str), 3)]) B.ctx (ji_rng1 rfl h_range (ja_cons je_var ja_nil)) (by first | exact blkOk_by (N := _law_order_N) (sc := defScope _law_order_t) (by decide +kernel) | exact blkOk_by (by kernel_rfl) | exact blkOk_by rfl) (by decide) (fun _ _ _ _ _ => (jg_name (Ctx.blk B.ctx) (i := 3) rfl (by first | exact Or.inl rfl | exact Or.inr rfl))) (fun _ _ _ _ _ => jtsTrue) (fun _ _ _ _ _ => (je_meth (fun R V e => isL_ty R V e) (pe_bm PySem.F.plainAttrs_list PySem.F.slot_list_pop PySem.F.type_list_pop o_popAt je_var (ja_cons (je_use (Ctx.blk B.ctx) U__law_take B.room (by decide) rfl (ja_cons je_var (ja_cons (je_callB o_len rfl h_len (ja_cons je_var ja_nil)) ja_nil))) ja_nil))))) ja_nil)))))), hm, F.kp, hb⟩
theorem _law_pairs_sc : FnScope _law_pairs_N _law_pairs_P (defScope _law_pairs_t) := ⟨rfl, rfl, rfl, by decide +kernel, rfl, by decide +kernel, by decide +kernel⟩
theorem _law_pairs_use {a : Addr} {fd : FuncData} (F : Fun K "_law_pairs" "_law_pairs" _law_pairs_t a fd) (hm : mg "_law_pairs" = some (.ref a)) (hb : Binds K fd _law_pairs_P []) (h_range : mg "range" = none)    : Use ⟨[], true⟩ P w K mg base "_law_pairs" 1 _law_pairs_P _law_pairs_f a fd :=
  ⟨mk_good F _law_pairs_sc fun cdv A outer s H E hcd B => show JSs _ _ _ _law_pairs_b from ((jss_cons (js_set B.ctx (i := 1) rfl (by first | exact Or.inl rfl | exact Or.inr rfl) (je_lst ja_nil))
  (jss_cons (js_for B.ctx B.pass (ji_rng1 rfl h_range (ja_cons je_var ja_nil)) (jg_name B.ctx (i := 2) rfl (by first | exact Or.inl rfl | exact Or.inr rfl)) (jss_one (js_expr (je_meth (fun R V e => isL_ty R V e) (pe_bm PySem.F.plainAttrs_list PySem.F.slot_list_extend PySem.F.type_list_extend o_extend je_var (ja_cons (je_comp (own := [(("_law_b" : Str), 3)]) B.ctx (ji_rng2 rfl h_range (ja_cons (je_op o_add je_var je_int) (ja_cons je_var ja_nil))) (by first | exact blkOk_by (N := _law_pairs_N) (sc := defScope _law_pairs_t) (by decide +kernel) | exact blkOk_by (by kernel_rfl) | exact blkOk_by rfl) (by decide) (fun _ _ _ _ _ => (jg_name (Ctx.blk B.ctx) (i := 3) rfl (by first | exact Or.inl rfl | exact Or.inr rfl))) (fun _ _ _ _ _ => jtsTrue) (fun _ _ _ _ _ => (je_tup (ja_cons je_var (ja_cons je_var ja_nil))))) ja_nil))))))
  (jss_one (js_ret je_var))))), hm, F.kp, hb⟩
theorem _law_web_sc : FnScope _law_web_N _law_web_P (defScope _law_web_t) := ⟨rfl, rfl, rfl, by decide +kernel, rfl, by decide +kernel, by decide +kernel⟩
theorem _law_web_use {a : Addr} {fd : FuncData} (F : Fun K "_law_web" "_law_web" _law_web_t a fd) (hm : mg "_law_web" = some (.ref a)) (hb : Binds K fd _law_web_P []) (h_range : mg "range" = none) (h_min : mg "min" = none) (h_max : mg "max" = none) (h_sorted : mg "sorted" = none) (h_set : mg "set" = none) (h_tuple : mg "tuple" = none)   {a__law_take : Addr} {d__law_take : FuncData} (U__law_take : Use ⟨[], true⟩ P w K mg base "_law_take" 1 _law_take_P _law_take_f a__law_take d__law_take) {a__law_order : Addr} {d__law_order : FuncData} (U__law_order : Use ⟨[], true⟩ P w K mg base "_law_order" 2 _law_order_P _law_order_f a__law_order d__law_order) {a__law_pairs : Addr} {d__law_pairs : FuncData} (U__law_pairs : Use ⟨[], true⟩ P w K mg base "_law_pairs" 1 _law_pairs_P _law_pairs_f a__law_pairs d__law_pairs) : Use ⟨[], true⟩ P w K mg base "_law_web" 3 _law_web_P _law_web_f a fd :=
  ⟨mk_good F _law_web_sc fun cdv A outer s H E hcd B => show JSs _ _ _ _law_web_b from ((jss_cons (js_set B.ctx (i := 3) rfl (by first | exact Or.inl rfl | exact Or.inr rfl) (je_op o_add je_var (je_use B.ctx U__law_take B.room (by decide) rfl (ja_cons je_var (ja_cons (je_op o_add (je_op o_sub je_var je_var) je_int) ja_nil)))))
  (jss_cons (js_set B.ctx (i := 4) rfl (by first | exact Or.inl rfl | exact Or.inr rfl) (je_use B.ctx U__law_take B.room (by decide) rfl (ja_cons je_var (ja_cons je_int ja_nil))))
  (jss_cons (js_set B.ctx (i := 5) rfl (by first | exact Or.inl rfl | exact Or.inr rfl) (je_use B.ctx U__law_order B.room (by decide) rfl (ja_cons je_var (ja_cons je_var ja_nil))))
  (jss_cons (js_set B.ctx (i := 6) rfl (by first | exact Or.inl rfl | exact Or.inr rfl) (je_idx (je_lst (ja_cons je_int (ja_cons je_int (ja_cons je_int (ja_cons je_int ja_nil))))) (je_use B.ctx U__law_take B.room (by decide) rfl (ja_cons je_var (ja_cons je_int ja_nil)))))
  (jss_cons (js_setLc (own := [(("_law_pair" : Str), 9)]) B.ctx (i := 7) rfl rfl (sw_true rfl rfl rfl (by first | decide +kernel | rfl)) (ji_seq (je_use B.ctx U__law_pairs B.room (by decide) rfl (ja_cons je_var ja_nil))) (by first | exact blkOk_by (N := _law_web_N) (sc := defScope _law_web_t) (by decide +kernel) | exact blkOk_by (by kernel_rfl) | exact blkOk_by rfl) (by decide) (fun _ _ _ _ _ => (jg_name (Ctx.blk B.ctx) (i := 9) rfl (by first | exact Or.inl rfl | exact Or.inr rfl))) (fun _ _ _ _ _ => (jtsOne (jt_cmp (c_lt (Ctx.blk B.ctx)) (je_use (Ctx.blk B.ctx) U__law_take B.room (by decide) rfl (ja_cons je_var (ja_cons je_int ja_nil))) je_var))) (fun _ _ _ _ _ => je_var))
  (jss_cons (js_if (jt_cmp (c_inS B.ctx) je_var (je_tup (ja_cons je_int (ja_cons je_int (ja_cons je_int ja_nil))))) (jss_cons (js_setLc (own := [(("_law_place" : Str), 12)]) B.ctx (i := 7) rfl rfl (sw_true rfl rfl rfl (by first | decide +kernel | rfl)) (ji_rng2 rfl h_range (ja_cons je_int (ja_cons je_var ja_nil))) (by first | exact blkOk_by (N := _law_web_N) (sc := defScope _law_web_t) (by decide +kernel) | exact blkOk_by (by kernel_rfl) | exact blkOk_by rfl) (by decide) (fun _ _ _ _ _ => (jg_name (Ctx.blk B.ctx) (i := 12) rfl (by first | exact Or.inl rfl | exact Or.inr rfl))) (fun _ _ _ _ _ => jtsTrue) (fun _ _ _ _ _ => (je_tup (ja_cons (je_use (Ctx.blk B.ctx) U__law_take B.room (by decide) rfl (ja_cons je_var (ja_cons je_var ja_nil))) (ja_cons je_var ja_nil)))))
  (jss_one (js_if (jt_cmp (c_eq B.ctx) je_var je_int) (jss_one (js_set B.ctx (i := 7) rfl (by first | exact Or.inl rfl | exact Or.inr rfl) (je_op o_add je_var (je_comp (own := [(("_law_pair" : Str), 9)]) B.ctx (ji_seq (je_use B.ctx U__law_pairs B.room (by decide) rfl (ja_cons je_var ja_nil))) (by first | exact blkOk_by (N := _law_web_N) (sc := defScope _law_web_t) (by decide +kernel) | exact blkOk_by (by kernel_rfl) | exact blkOk_by rfl) (by decide) (fun _ _ _ _ _ => (jg_name (Ctx.blk B.ctx) (i := 9) rfl (by first | exact Or.inl rfl | exact Or.inr rfl))) (fun _ _ _ _ _ => (jtsOne (jt_cmp (c_eq (Ctx.blk B.ctx)) (je_use (Ctx.blk B.ctx) U__law_take B.room (by decide) rfl (ja_cons je_var (ja_cons je_int ja_nil))) je_int))) (fun _ _ _ _ _ => je_var))))) jss_nil))) jss_nil)
  (jss_cons (js_if (jt_w (jw_and (jt_cmp (c_eq B.ctx) je_var je_int) (jw_and1 (jt_cmp (c_gt B.ctx) je_var je_int)))) (jss_one (js_set B.ctx (i := 7) rfl (by first | exact Or.inl rfl | exact Or.inr rfl) (je_op o_add (je_comp (own := [(("_law_place" : Str), 12)]) B.ctx (ji_rng1 rfl h_range (ja_cons (je_op o_sub je_var je_int) ja_nil)) (by first | exact blkOk_by (N := _law_web_N) (sc := defScope _law_web_t) (by decide +kernel) | exact blkOk_by (by kernel_rfl) | exact blkOk_by rfl) (by decide) (fun _ _ _ _ _ => (jg_name (Ctx.blk B.ctx) (i := 12) rfl (by first | exact Or.inl rfl | exact Or.inr rfl))) (fun _ _ _ _ _ => jtsTrue) (fun _ _ _ _ _ => (je_tup (ja_cons je_var (ja_cons (je_op o_add je_var je_int) ja_nil))))) (je_lst (ja_cons (je_tup (ja_cons je_int (ja_cons (je_op o_sub je_var je_int) ja_nil))) ja_nil))))) jss_nil)
  (jss_cons (js_if (jt_cmp (c_eq B.ctx) je_var je_int) (jss_one (js_set B.ctx (i := 7) rfl (by first | exact Or.inl rfl | exact Or.inr rfl) (je_idx (je_lst (ja_cons (je_comp (own := [(("_law_place" : Str), 12)]) B.ctx (ji_rng2 rfl h_range (ja_cons je_int (ja_cons je_var ja_nil))) (by first | exact blkOk_by (N := _law_web_N) (sc := defScope _law_web_t) (by decide +kernel) | exact blkOk_by (by kernel_rfl) | exact blkOk_by rfl) (by decide) (fun _ _ _ _ _ => (jg_name (Ctx.blk B.ctx) (i := 12) rfl (by first | exact Or.inl rfl | exact Or.inr rfl))) (fun _ _ _ _ _ => jtsTrue) (fun _ _ _ _ _ => (je_tup (ja_cons je_int (ja_cons je_var ja_nil))))) (ja_cons (je_use B.ctx U__law_pairs B.room (by decide) rfl (ja_cons je_var ja_nil)) ja_nil))) (je_use B.ctx U__law_take B.room (by decide) rfl (ja_cons je_var (ja_cons je_int ja_nil)))))) jss_nil)
  (jss_cons (js_setLc (own := [(("_law_a" : Str), 10), (("_law_b" : Str), 11)]) B.ctx (i := 8) rfl rfl (sw_true rfl rfl rfl (by first | decide +kernel | rfl)) (ji_seq je_var) (by first | exact blkOk_by (N := _law_web_N) (sc := defScope _law_web_t) (by decide +kernel) | exact blkOk_by (by kernel_rfl) | exact blkOk_by rfl) (by decide) (fun _ _ _ _ _ => (jg_tup (Ctx.blk B.ctx) (gs_cons (jg_name (Ctx.blk B.ctx) (i := 10) rfl (by first | exact Or.inl rfl | exact Or.inr rfl)) (gs_cons (jg_name (Ctx.blk B.ctx) (i := 11) rfl (by first | exact Or.inl rfl | exact Or.inr rfl)) gs_nil)))) (fun _ _ _ _ _ => jtsTrue) (fun _ _ _ _ _ => (je_tup (ja_cons (je_callB (o_min2 (Ctx.blk B.ctx)) rfl h_min (ja_cons (je_idx je_var je_var) (ja_cons (je_idx je_var je_var) ja_nil))) (ja_cons (je_callB (o_max2 (Ctx.blk B.ctx)) rfl h_max (ja_cons (je_idx je_var je_var) (ja_cons (je_idx je_var je_var) ja_nil))) ja_nil)))))
  (jss_one (js_ret (je_tup (ja_cons je_var (ja_cons (je_callTy o_tuple rfl h_tuple (ja_cons (je_sortSet B.ctx rfl h_sorted rfl h_set (ja_cons je_var ja_nil)) ja_nil)) ja_nil))))))))))))))), hm, F.kp, hb⟩
theorem number_in_sc : FnScope number_in_N number_in_P (defScope number_in_t) := ⟨rfl, rfl, rfl, by decide +kernel, rfl, by decide +kernel, by decide +kernel⟩
theorem number_in_use {a : Addr} {fd : FuncData} (F : Fun K "number_in" "number_in" number_in_t a fd) (hm : mg "number_in" = some (.ref a)) (hb : Binds K fd number_in_P []) (h_len : mg "len" = none) (h_int : mg "int" = none) (c_FIGURES : ∃ t, mg "FIGURES" = some (.str ("012345678" : Str) t))   : Use ⟨[], true⟩ P w K mg base "number_in" 1 number_in_P number_in_f a fd :=
  ⟨mk_good F number_in_sc fun cdv A outer s H E hcd B => show JSs _ _ _ number_in_b from ((jss_cons (js_if (jt_w (jw_or (jt_cmp (c_ne B.ctx) (je_callB o_len rfl h_len (ja_cons je_var ja_nil)) je_int) (jw_or1 (jt_cmp c_notInT je_var (je_globS c_FIGURES rfl))))) (jss_one (js_ret je_non)) jss_nil)
  (jss_one (js_ret (je_callTy o_intT rfl h_int (ja_cons je_var ja_nil)))))), hm, F.kp, hb⟩
theorem is_number_sc : FnScope is_number_N is_number_P (defScope is_number_t) := ⟨rfl, rfl, rfl, by decide +kernel, rfl, by decide +kernel, by decide +kernel⟩
theorem is_number_use {a : Addr} {fd : FuncData} (F : Fun K "is_number" "is_number" is_number_t a fd) (hm : mg "is_number" = some (.ref a)) (hb : Binds K fd is_number_P []) (h_isinstance : mg "isinstance" = none) (h_int : mg "int" = none) (h_bool : mg "bool" = none)    : Use ⟨[], true⟩ P w K mg base "is_number" 1 is_number_P is_number_f a fd :=
  ⟨mk_good F is_number_sc fun cdv A outer s H E hcd B => show JSs _ _ _ is_number_b from ((jss_one (js_ret (je_and (je_isi rfl h_isinstance rfl h_int je_var) (je_and (je_not (je_isi rfl h_isinstance rfl h_bool je_var)) (je_one (je_chain (c_le B.ctx) (c_le B.ctx) je_var je_var je_var))))))), hm, F.kp, hb⟩
theorem is_tie_sc : FnScope is_tie_N is_tie_P (defScope is_tie_t) := ⟨rfl, rfl, rfl, by decide +kernel, rfl, by decide +kernel, by decide +kernel⟩
theorem is_tie_use {a : Addr} {fd : FuncData} (F : Fun K "is_tie" "is_tie" is_tie_t a fd) (hm : mg "is_tie" = some (.ref a)) (hb : Binds K fd is_tie_P []) (h_isinstance : mg "isinstance" = none) (h_tuple : mg "tuple" = none) (h_len : mg "len" = none) (h_all : mg "all" = none)   {a_is_number : Addr} {d_is_number : FuncData} (U_is_number : Use ⟨[], true⟩ P w K mg base "is_number" 1 is_number_P is_number_f a_is_number d_is_number) : Use ⟨[], true⟩ P w K mg base "is_tie" 2 is_tie_P is_tie_f a fd :=
  ⟨mk_good F is_tie_sc fun cdv A outer s H E hcd B => show JSs _ _ _ is_tie_b from ((jss_cons (js_if (jt_w (jw_or (jt_not (jt_val (je_isi rfl h_isinstance rfl h_tuple je_var))) (jw_or1 (jt_cmp (c_ne B.ctx) (je_callB o_len rfl h_len (ja_cons je_var ja_nil)) je_int)))) (jss_one (js_ret je_bl)) jss_nil)
  (jss_one (js_ret (je_and (je_callB (o_all B.ctx) rfl h_all (ja_cons (je_comp (own := [(("one" : Str), 2)]) B.ctx (ji_seq je_var) (by first | exact blkOk_by (N := is_tie_N) (sc := defScope is_tie_t) (by decide +kernel) | exact blkOk_by (by kernel_rfl) | exact blkOk_by rfl) (by decide) (fun _ _ _ _ _ => (jg_name (Ctx.blk B.ctx) (i := 2) rfl (by first | exact Or.inl rfl | exact Or.inr rfl))) (fun _ _ _ _ _ => jtsTrue) (fun _ _ _ _ _ => (je_use (Ctx.blk B.ctx) U_is_number B.room (by decide) rfl (ja_cons je_var (ja_cons je_int (ja_cons (je_op o_sub je_var je_int) ja_nil)))))) ja_nil)) (je_one (je_cmp (c_lt B.ctx) (je_idx je_var je_int) (je_idx je_var je_int)))))))), hm, F.kp, hb⟩
theorem is_web_sc : FnScope is_web_N is_web_P (defScope is_web_t) := ⟨rfl, rfl, rfl, by decide +kernel, rfl, by decide +kernel, by decide +kernel⟩
theorem is_web_use {a : Addr} {fd : FuncData} (F : Fun K "is_web" "is_web" is_web_t a fd) (hm : mg "is_web" = some (.ref a)) (hb : Binds K fd is_web_P []) (h_isinstance : mg "isinstance" = none) (h_tuple : mg "tuple" = none) (h_len : mg "len" = none) (h_all : mg "all" = none) (h_zip : mg "zip" = none) (c_MOST_PLACES : ∃ t, mg "MOST_PLACES" = some (.int (8) t))  {a_is_number : Addr} {d_is_number : FuncData} (U_is_number : Use ⟨[], true⟩ P w K mg base "is_number" 1 is_number_P is_number_f a_is_number d_is_number) {a_is_tie : Addr} {d_is_tie : FuncData} (U_is_tie : Use ⟨[], true⟩ P w K mg base "is_tie" 2 is_tie_P is_tie_f a_is_tie d_is_tie) : Use ⟨[], true⟩ P w K mg base "is_web" 3 is_web_P is_web_f a fd :=
  ⟨mk_good F is_web_sc fun cdv A outer s H E hcd B => show JSs _ _ _ is_web_b from ((jss_cons (js_if (jt_w (jw_or (jt_not (jt_val (je_isi rfl h_isinstance rfl h_tuple je_var))) (jw_or (jt_cmp (c_ne B.ctx) (je_callB o_len rfl h_len (ja_cons je_var ja_nil)) je_int) (jw_or1 (jt_not (jt_val (je_use B.ctx U_is_number B.room (by decide) rfl (ja_cons (je_idx je_var je_int) (ja_cons je_int (ja_cons (je_globI c_MOST_PLACES rfl) ja_nil)))))))))) (jss_one (js_ret je_bl)) jss_nil)
  (jss_cons (js_if (jt_w (jw_or (jt_not (jt_val (je_isi rfl h_isinstance rfl h_tuple (je_idx je_var je_int)))) (jw_or1 (jt_not (jt_val (je_callB (o_all B.ctx) rfl h_all (ja_cons (je_comp (own := [(("tie" : Str), 3)]) B.ctx (ji_seq (je_idx je_var je_int)) (by first | exact blkOk_by (N := is_web_N) (sc := defScope is_web_t) (by decide +kernel) | exact blkOk_by (by kernel_rfl) | exact blkOk_by rfl) (by decide) (fun _ _ _ _ _ => (jg_name (Ctx.blk B.ctx) (i := 3) rfl (by first | exact Or.inl rfl | exact Or.inr rfl))) (fun _ _ _ _ _ => jtsTrue) (fun _ _ _ _ _ => (je_use (Ctx.blk B.ctx) U_is_tie B.room (by decide) rfl (ja_cons je_var (ja_cons (je_idx je_var je_int) ja_nil))))) ja_nil))))))) (jss_one (js_ret je_bl)) jss_nil)
  (jss_one (js_ret (je_callB (o_all B.ctx) rfl h_all (ja_cons (je_comp (own := [(("one" : Str), 1), (("other" : Str), 2)]) B.ctx (ji_zip rfl h_zip (ja_cons (je_idx je_var je_int) (ja_cons (je_slice (je_idx je_var je_int) (jo_some je_int) jo_none) ja_nil))) (by first | exact blkOk_by (N := is_web_N) (sc := defScope is_web_t) (by decide +kernel) | exact blkOk_by (by kernel_rfl) | exact blkOk_by rfl) (by decide) (fun _ _ _ _ _ => (jg_tup (Ctx.blk B.ctx) (gs_cons (jg_name (Ctx.blk B.ctx) (i := 1) rfl (by first | exact Or.inl rfl | exact Or.inr rfl)) (gs_cons (jg_name (Ctx.blk B.ctx) (i := 2) rfl (by first | exact Or.inl rfl | exact Or.inr rfl)) gs_nil)))) (fun _ _ _ _ _ => jtsTrue) (fun _ _ _ _ _ => (je_cmp (c_lt (Ctx.blk B.ctx)) je_var je_var))) ja_nil))))))), hm, F.kp, hb⟩
theorem web_read_sc : FnScope web_read_N web_read_P (defScope web_read_t) := ⟨rfl, rfl, rfl, by decide +kernel, rfl, by decide +kernel, by decide +kernel⟩
theorem web_read_use {a : Addr} {fd : FuncData} (F : Fun K "web_read" "web_read" web_read_t a fd) (hm : mg "web_read" = some (.ref a)) (hb : Binds K fd web_read_P []) (h_isinstance : mg "isinstance" = none) (h_str : mg "str" = none) (h_tuple : mg "tuple" = none)  {C_BadNote : Addr} (E_BadNote : Err K mg "BadNote" C_BadNote) {a_number_in : Addr} {d_number_in : FuncData} (U_number_in : Use ⟨[], true⟩ P w K mg base "number_in" 1 number_in_P number_in_f a_number_in d_number_in) {a_is_web : Addr} {d_is_web : FuncData} (U_is_web : Use ⟨[], true⟩ P w K mg base "is_web" 3 is_web_P is_web_f a_is_web d_is_web) : Use ⟨[], true⟩ P w K mg base "web_read" 4 web_read_P web_read_f a fd :=
  ⟨mk_good F web_read_sc fun cdv A outer s H E hcd B => show JSs _ _ _ web_read_b from ((jss_cons (js_if (jt_not (jt_val (je_isi rfl h_isinstance rfl h_str je_var))) (jss_one (js_raise B.ctx E_BadNote rfl)) jss_nil)
  (jss_cons (js_set B.ctx (i := 1) rfl (by first | exact Or.inl rfl | exact Or.inr rfl) (je_split je_var je_str))
  (jss_cons (js_if (jt_cmp (c_ne B.ctx) (je_slice (je_idx je_var je_int) (jo_some (je_un u_neg je_int)) jo_none) je_str) (jss_one (js_raise B.ctx E_BadNote rfl)) jss_nil)
  (jss_cons (js_set B.ctx (i := 2) rfl (by first | exact Or.inl rfl | exact Or.inr rfl) (je_callTy o_tuple rfl h_tuple (ja_cons (je_comp (own := [(("word" : Str), 4)]) B.ctx (ji_seq (je_slice je_var (jo_some je_int) jo_none)) (by first | exact blkOk_by (N := web_read_N) (sc := defScope web_read_t) (by decide +kernel) | exact blkOk_by (by kernel_rfl) | exact blkOk_by rfl) (by decide) (fun _ _ _ _ _ => (jg_name (Ctx.blk B.ctx) (i := 4) rfl (by first | exact Or.inl rfl | exact Or.inr rfl))) (fun _ _ _ _ _ => jtsTrue) (fun _ _ _ _ _ => (je_callTy o_tuple rfl h_tuple (ja_cons (je_comp (own := [(("part" : Str), 5)]) (Ctx.blk B.ctx) (ji_seq (je_split je_var je_str)) (by first | exact blkOk_by (N := web_read_N) (sc := defScope web_read_t) (by decide +kernel) | exact blkOk_by (by kernel_rfl) | exact blkOk_by rfl) (by decide) (fun _ _ _ _ _ => (jg_name (Ctx.blk (Ctx.blk B.ctx)) (i := 5) rfl (by first | exact Or.inl rfl | exact Or.inr rfl))) (fun _ _ _ _ _ => jtsTrue) (fun _ _ _ _ _ => (je_use (Ctx.blk (Ctx.blk B.ctx)) U_number_in B.room (by decide) rfl (ja_cons je_var ja_nil)))) ja_nil)))) ja_nil)))
  (jss_cons (js_set B.ctx (i := 3) rfl (by first | exact Or.inl rfl | exact Or.inr rfl) (je_tup (ja_cons (je_use B.ctx U_number_in B.room (by decide) rfl (ja_cons (je_slice (je_idx je_var je_int) jo_none (jo_some (je_un u_neg je_int))) ja_nil)) (ja_cons je_var ja_nil))))
  (jss_cons (js_if (jt_not (jt_val (je_use B.ctx U_is_web B.room (by decide) rfl (ja_cons je_var ja_nil)))) (jss_one (js_raise B.ctx E_BadNote rfl)) jss_nil)
  (jss_one (js_ret je_var))))))))), hm, F.kp, hb⟩
theorem row_read_sc : FnScope row_read_N row_read_P (defScope row_read_t) := ⟨rfl, rfl, rfl, by decide +kernel, rfl, by decide +kernel, by decide +kernel⟩
theorem row_read_use {a : Addr} {fd : FuncData} (F : Fun K "row_read" "row_read" row_read_t a fd) (hm : mg "row_read" = some (.ref a)) (hb : Binds K fd row_read_P []) (h_isinstance : mg "isinstance" = none) (h_str : mg "str" = none) (h_tuple : mg "tuple" = none) (h_len : mg "len" = none) (c_MOST_PLACES : ∃ t, mg "MOST_PLACES" = some (.int (8) t)) (c_MOST_TURNS : ∃ t, mg "MOST_TURNS" = some (.int (40) t)) {C_BadNote : Addr} (E_BadNote : Err K mg "BadNote" C_BadNote) {a_number_in : Addr} {d_number_in : FuncData} (U_number_in : Use ⟨[], true⟩ P w K mg base "number_in" 1 number_in_P number_in_f a_number_in d_number_in) : Use ⟨[], true⟩ P w K mg base "row_read" 2 row_read_P row_read_f a fd :=
  ⟨mk_good F row_read_sc fun cdv A outer s H E hcd B => show JSs _ _ _ row_read_b from ((jss_cons (js_if (jt_not (jt_val (je_isi rfl h_isinstance rfl h_str je_var))) (jss_one (js_raise B.ctx E_BadNote rfl)) jss_nil)
  (jss_cons (js_if (jt_cmp (c_eq B.ctx) je_var je_str) (jss_one (js_ret (je_tup ja_nil))) jss_nil)
  (jss_cons (js_set B.ctx (i := 1) rfl (by first | exact Or.inl rfl | exact Or.inr rfl) (je_callTy o_tuple rfl h_tuple (ja_cons (je_comp (own := [(("word" : Str), 2)]) B.ctx (ji_seq (je_split je_var je_str)) (by first | exact blkOk_by (N := row_read_N) (sc := defScope row_read_t) (by decide +kernel) | exact blkOk_by (by kernel_rfl) | exact blkOk_by rfl) (by decide) (fun _ _ _ _ _ => (jg_name (Ctx.blk B.ctx) (i := 2) rfl (by first | exact Or.inl rfl | exact Or.inr rfl))) (fun _ _ _ _ _ => jtsTrue) (fun _ _ _ _ _ => (je_use (Ctx.blk B.ctx) U_number_in B.room (by decide) rfl (ja_cons je_var ja_nil)))) ja_nil)))
  (jss_cons (js_if (jt_w (jw_or (jt_cmp (c_inS B.ctx) je_non je_var) (jw_or (jt_cmp (c_inS B.ctx) (je_globI c_MOST_PLACES rfl) je_var) (jw_or1 (jt_cmp (c_gt B.ctx) (je_callB o_len rfl h_len (ja_cons je_var ja_nil)) (je_globI c_MOST_TURNS rfl)))))) (jss_one (js_raise B.ctx E_BadNote rfl)) jss_nil)
  (jss_one (js_ret je_var))))))), hm, F.kp, hb⟩
theorem _law_web_text_sc : FnScope _law_web_text_N _law_web_text_P (defScope _law_web_text_t) := ⟨rfl, rfl, rfl, by decide +kernel, rfl, by decide +kernel, by decide +kernel⟩
theorem _law_web_text_use {a : Addr} {fd : FuncData} (F : Fun K "_law_web_text" "_law_web_text" _law_web_text_t a fd) (hm : mg "_law_web_text" = some (.ref a)) (hb : Binds K fd _law_web_text_P []) (h_str : mg "str" = none)    : Use ⟨[], true⟩ P w K mg base "_law_web_text" 1 _law_web_text_P _law_web_text_f a fd :=
  ⟨mk_good F _law_web_text_sc fun cdv A outer s H E hcd B => show JSs _ _ _ _law_web_text_b from ((jss_one (js_ret (je_join je_str (je_op o_add (je_lst (ja_cons (je_op o_add (je_callTy o_strI rfl h_str (ja_cons (je_idx je_var je_int) ja_nil)) je_str) ja_nil)) (je_comp (own := [(("_law_a" : Str), 1), (("_law_b" : Str), 2)]) B.ctx (ji_seq (je_idx je_var je_int)) (by first | exact blkOk_by (N := _law_web_text_N) (sc := defScope _law_web_text_t) (by decide +kernel) | exact blkOk_by (by kernel_rfl) | exact blkOk_by rfl) (by decide) (fun _ _ _ _ _ => (jg_tup (Ctx.blk B.ctx) (gs_cons (jg_name (Ctx.blk B.ctx) (i := 1) rfl (by first | exact Or.inl rfl | exact Or.inr rfl)) (gs_cons (jg_name (Ctx.blk B.ctx) (i := 2) rfl (by first | exact Or.inl rfl | exact Or.inr rfl)) gs_nil)))) (fun _ _ _ _ _ => jtsTrue) (fun _ _ _ _ _ => (je_op o_add (je_op o_add (je_callTy o_strI rfl h_str (ja_cons je_var ja_nil)) je_str) (je_callTy o_strI rfl h_str (ja_cons je_var ja_nil)))))))))), hm, F.kp, hb⟩
theorem _law_row_text_sc : FnScope _law_row_text_N _law_row_text_P (defScope _law_row_text_t) := ⟨rfl, rfl, rfl, by decide +kernel, rfl, by decide +kernel, by decide +kernel⟩
theorem _law_row_text_use {a : Addr} {fd : FuncData} (F : Fun K "_law_row_text" "_law_row_text" _law_row_text_t a fd) (hm : mg "_law_row_text" = some (.ref a)) (hb : Binds K fd _law_row_text_P []) (h_str : mg "str" = none)    : Use ⟨[], true⟩ P w K mg base "_law_row_text" 1 _law_row_text_P _law_row_text_f a fd :=
  ⟨mk_good F _law_row_text_sc fun cdv A outer s H E hcd B => show JSs _ _ _ _law_row_text_b from ((jss_one (js_ret (je_if (jt_cmp (c_eq B.ctx) je_var (je_tup ja_nil)) je_str (je_join je_str (je_comp (own := [(("_law_place" : Str), 1)]) B.ctx (ji_seq je_var) (by first | exact blkOk_by (N := _law_row_text_N) (sc := defScope _law_row_text_t) (by decide +kernel) | exact blkOk_by (by kernel_rfl) | exact blkOk_by rfl) (by decide) (fun _ _ _ _ _ => (jg_name (Ctx.blk B.ctx) (i := 1) rfl (by first | exact Or.inl rfl | exact Or.inr rfl))) (fun _ _ _ _ _ => jtsTrue) (fun _ _ _ _ _ => (je_callTy o_strI rfl h_str (ja_cons je_var ja_nil))))))))), hm, F.kp, hb⟩
theorem web_text_sc : FnScope web_text_N web_text_P (defScope web_text_t) := ⟨rfl, rfl, rfl, by decide +kernel, rfl, by decide +kernel, by decide +kernel⟩
theorem web_text_use {a : Addr} {fd : FuncData} (F : Fun K "web_text" "web_text" web_text_t a fd) (hm : mg "web_text" = some (.ref a)) (hb : Binds K fd web_text_P []) (h_str : mg "str" = none)    : Use ⟨[], true⟩ P w K mg base "web_text" 1 web_text_P web_text_f a fd :=
  ⟨mk_good F web_text_sc fun cdv A outer s H E hcd B => show JSs _ _ _ web_text_b from ((jss_one (js_ret (je_join je_str (je_op o_add (je_lst (ja_cons (je_op o_add (je_callTy o_strI rfl h_str (ja_cons (je_idx je_var je_int) ja_nil)) je_str) ja_nil)) (je_comp (own := [(("one" : Str), 1), (("other" : Str), 2)]) B.ctx (ji_seq (je_idx je_var je_int)) (by first | exact blkOk_by (N := web_text_N) (sc := defScope web_text_t) (by decide +kernel) | exact blkOk_by (by kernel_rfl) | exact blkOk_by rfl) (by decide) (fun _ _ _ _ _ => (jg_tup (Ctx.blk B.ctx) (gs_cons (jg_name (Ctx.blk B.ctx) (i := 1) rfl (by first | exact Or.inl rfl | exact Or.inr rfl)) (gs_cons (jg_name (Ctx.blk B.ctx) (i := 2) rfl (by first | exact Or.inl rfl | exact Or.inr rfl)) gs_nil)))) (fun _ _ _ _ _ => jtsTrue) (fun _ _ _ _ _ => (je_op o_add (je_op o_add (je_callTy o_strI rfl h_str (ja_cons je_var ja_nil)) je_str) (je_callTy o_strI rfl h_str (ja_cons je_var ja_nil)))))))))), hm, F.kp, hb⟩
theorem row_text_sc : FnScope row_text_N row_text_P (defScope row_text_t) := ⟨rfl, rfl, rfl, by decide +kernel, rfl, by decide +kernel, by decide +kernel⟩
theorem row_text_use {a : Addr} {fd : FuncData} (F : Fun K "row_text" "row_text" row_text_t a fd) (hm : mg "row_text" = some (.ref a)) (hb : Binds K fd row_text_P []) (h_str : mg "str" = none)    : Use ⟨[], true⟩ P w K mg base "row_text" 1 row_text_P row_text_f a fd :=
  ⟨mk_good F row_text_sc fun cdv A outer s H E hcd B => show JSs _ _ _ row_text_b from ((jss_cons (js_if (jt_cmp (c_eq B.ctx) je_var (je_tup ja_nil)) (jss_one (js_ret je_str)) jss_nil)
  (jss_one (js_ret (je_join je_str (je_comp (own := [(("place" : Str), 1)]) B.ctx (ji_seq je_var) (by first | exact blkOk_by (N := row_text_N) (sc := defScope row_text_t) (by decide +kernel) | exact blkOk_by (by kernel_rfl) | exact blkOk_by rfl) (by decide) (fun _ _ _ _ _ => (jg_name (Ctx.blk B.ctx) (i := 1) rfl (by first | exact Or.inl rfl | exact Or.inr rfl))) (fun _ _ _ _ _ => jtsTrue) (fun _ _ _ _ _ => (je_callTy o_strI rfl h_str (ja_cons je_var ja_nil))))))))), hm, F.kp, hb⟩
theorem _law_plain_r0_use {a : Addr} {fd : FuncData} (F : Fun K "_law_plain" "_law_plain" _law_plain_r0_t a fd) (hm : mg "_law_plain" = some (.ref a)) (hb : Binds K fd _law_plain_r0_P [])   : Use ⟨[], true⟩ P w K mg base "_law_plain" 1 _law_plain_r0_P _law_plain_r0_f a fd := ⟨good_no, hm, F.kp, hb⟩
theorem _law_plain_r1_sc : FnScope _law_plain_r1_N _law_plain_r1_P (defScope _law_plain_r1_t) := ⟨rfl, rfl, rfl, by decide +kernel, rfl, by decide +kernel, by decide +kernel⟩
theorem _law_plain_r1_use {a : Addr} {fd : FuncData} (F : Fun K "_law_plain" "_law_plain" _law_plain_r1_t a fd) (hm : mg "_law_plain" = some (.ref a)) (hb : Binds K fd _law_plain_r1_P []) (h_isinstance : mg "isinstance" = none) (h_tuple : mg "tuple" = none) (h_int : mg "int" = none) (h_bool : mg "bool" = none)   {a__law_plain_r0 : Addr} {d__law_plain_r0 : FuncData} (U__law_plain_r0 : Use ⟨[], true⟩ P w K mg base "_law_plain" 1 _law_plain_r0_P _law_plain_r0_f a__law_plain_r0 d__law_plain_r0) : Use ⟨[], true⟩ P w K mg base "_law_plain" 2 _law_plain_r1_P _law_plain_r1_f a fd :=
  ⟨mk_good F _law_plain_r1_sc fun cdv A outer s H E hcd B => show JSs _ _ _ _law_plain_r1_b from ((jss_cons (js_if (jt_val (je_isi rfl h_isinstance rfl h_tuple je_var)) (jss_one (js_ret (je_cmp (c_eq B.ctx) (je_comp (own := [(("_law_part" : Str), 1)]) B.ctx (ji_seq je_var) (by first | exact blkOk_by (N := _law_plain_r1_N) (sc := defScope _law_plain_r1_t) (by decide +kernel) | exact blkOk_by (by kernel_rfl) | exact blkOk_by rfl) (by decide) (fun _ _ _ _ _ => (jg_name (Ctx.blk B.ctx) (i := 1) rfl (by first | exact Or.inl rfl | exact Or.inr rfl))) (fun _ _ _ _ _ => (jtsOne (jt_not (jt_val (je_use (Ctx.blk B.ctx) U__law_plain_r0 B.room (by decide) rfl (ja_cons je_var ja_nil)))))) (fun _ _ _ _ _ => je_var)) (je_lst ja_nil)))) jss_nil)
  (jss_one (js_ret (je_and (je_isi rfl h_isinstance rfl h_int je_var) (je_one (je_not (je_isi rfl h_isinstance rfl h_bool je_var)))))))), hm, F.kp, hb⟩
theorem _law_plain_r2_sc : FnScope _law_plain_r2_N _law_plain_r2_P (defScope _law_plain_r2_t) := ⟨rfl, rfl, rfl, by decide +kernel, rfl, by decide +kernel, by decide +kernel⟩
theorem _law_plain_r2_use {a : Addr} {fd : FuncData} (F : Fun K "_law_plain" "_law_plain" _law_plain_r2_t a fd) (hm : mg "_law_plain" = some (.ref a)) (hb : Binds K fd _law_plain_r2_P []) (h_isinstance : mg "isinstance" = none) (h_tuple : mg "tuple" = none) (h_int : mg "int" = none) (h_bool : mg "bool" = none)   {a__law_plain_r1 : Addr} {d__law_plain_r1 : FuncData} (U__law_plain_r1 : Use ⟨[], true⟩ P w K mg base "_law_plain" 2 _law_plain_r1_P _law_plain_r1_f a__law_plain_r1 d__law_plain_r1) : Use ⟨[], true⟩ P w K mg base "_law_plain" 3 _law_plain_r2_P _law_plain_r2_f a fd :=
  ⟨mk_good F _law_plain_r2_sc fun cdv A outer s H E hcd B => show JSs _ _ _ _law_plain_r2_b from ((jss_cons (js_if (jt_val (je_isi rfl h_isinstance rfl h_tuple je_var)) (jss_one (js_ret (je_cmp (c_eq B.ctx) (je_comp (own := [(("_law_part" : Str), 1)]) B.ctx (ji_seq je_var) (by first | exact blkOk_by (N := _law_plain_r2_N) (sc := defScope _law_plain_r2_t) (by decide +kernel) | exact blkOk_by (by kernel_rfl) | exact blkOk_by rfl) (by decide) (fun _ _ _ _ _ => (jg_name (Ctx.blk B.ctx) (i := 1) rfl (by first | exact Or.inl rfl | exact Or.inr rfl))) (fun _ _ _ _ _ => (jtsOne (jt_not (jt_val (je_use (Ctx.blk B.ctx) U__law_plain_r1 B.room (by decide) rfl (ja_cons je_var ja_nil)))))) (fun _ _ _ _ _ => je_var)) (je_lst ja_nil)))) jss_nil)
  (jss_one (js_ret (je_and (je_isi rfl h_isinstance rfl h_int je_var) (je_one (je_not (je_isi rfl h_isinstance rfl h_bool je_var)))))))), hm, F.kp, hb⟩
theorem _law_plain_r3_sc : FnScope _law_plain_r3_N _law_plain_r3_P (defScope _law_plain_r3_t) := ⟨rfl, rfl, rfl, by decide +kernel, rfl, by decide +kernel, by decide +kernel⟩
theorem _law_plain_r3_use {a : Addr} {fd : FuncData} (F : Fun K "_law_plain" "_law_plain" _law_plain_r3_t a fd) (hm : mg "_law_plain" = some (.ref a)) (hb : Binds K fd _law_plain_r3_P []) (h_isinstance : mg "isinstance" = none) (h_tuple : mg "tuple" = none) (h_int : mg "int" = none) (h_bool : mg "bool" = none)   {a__law_plain_r2 : Addr} {d__law_plain_r2 : FuncData} (U__law_plain_r2 : Use ⟨[], true⟩ P w K mg base "_law_plain" 3 _law_plain_r2_P _law_plain_r2_f a__law_plain_r2 d__law_plain_r2) : Use ⟨[], true⟩ P w K mg base "_law_plain" 4 _law_plain_r3_P _law_plain_r3_f a fd :=
  ⟨mk_good F _law_plain_r3_sc fun cdv A outer s H E hcd B => show JSs _ _ _ _law_plain_r3_b from ((jss_cons (js_if (jt_val (je_isi rfl h_isinstance rfl h_tuple je_var)) (jss_one (js_ret (je_cmp (c_eq B.ctx) (je_comp (own := [(("_law_part" : Str), 1)]) B.ctx (ji_seq je_var) (by first | exact blkOk_by (N := _law_plain_r3_N) (sc := defScope _law_plain_r3_t) (by decide +kernel) | exact blkOk_by (by kernel_rfl) | exact blkOk_by rfl) (by decide) (fun _ _ _ _ _ => (jg_name (Ctx.blk B.ctx) (i := 1) rfl (by first | exact Or.inl rfl | exact Or.inr rfl))) (fun _ _ _ _ _ => (jtsOne (jt_not (jt_val (je_use (Ctx.blk B.ctx) U__law_plain_r2 B.room (by decide) rfl (ja_cons je_var ja_nil)))))) (fun _ _ _ _ _ => je_var)) (je_lst ja_nil)))) jss_nil)
  (jss_one (js_ret (je_and (je_isi rfl h_isinstance rfl h_int je_var) (je_one (je_not (je_isi rfl h_isinstance rfl h_bool je_var)))))))), hm, F.kp, hb⟩
theorem _law_plain_sc : FnScope _law_plain_N _law_plain_P (defScope _law_plain_t) := ⟨rfl, rfl, rfl, by decide +kernel, rfl, by decide +kernel, by decide +kernel⟩
theorem _law_plain_use {a : Addr} {fd : FuncData} (F : Fun K "_law_plain" "_law_plain" _law_plain_t a fd) (hm : mg "_law_plain" = some (.ref a)) (hb : Binds K fd _law_plain_P []) (h_isinstance : mg "isinstance" = none) (h_tuple : mg "tuple" = none) (h_int : mg "int" = none) (h_bool : mg "bool" = none)   {a__law_plain_r3 : Addr} {d__law_plain_r3 : FuncData} (U__law_plain_r3 : Use ⟨[], true⟩ P w K mg base "_law_plain" 4 _law_plain_r3_P _law_plain_r3_f a__law_plain_r3 d__law_plain_r3) : Use ⟨[], true⟩ P w K mg base "_law_plain" 5 _law_plain_P _law_plain_f a fd :=
  ⟨mk_good F _law_plain_sc fun cdv A outer s H E hcd B => show JSs _ _ _ _law_plain_b from ((jss_cons (js_if (jt_val (je_isi rfl h_isinstance rfl h_tuple je_var)) (jss_one (js_ret (je_cmp (c_eq B.ctx) (je_comp (own := [(("_law_part" : Str), 1)]) B.ctx (ji_seq je_var) (by first | exact blkOk_by (N := _law_plain_N) (sc := defScope _law_plain_t) (by decide +kernel) | exact blkOk_by (by kernel_rfl) | exact blkOk_by rfl) (by decide) (fun _ _ _ _ _ => (jg_name (Ctx.blk B.ctx) (i := 1) rfl (by first | exact Or.inl rfl | exact Or.inr rfl))) (fun _ _ _ _ _ => (jtsOne (jt_not (jt_val (je_use (Ctx.blk B.ctx) U__law_plain_r3 B.room (by decide) rfl (ja_cons je_var ja_nil)))))) (fun _ _ _ _ _ => je_var)) (je_lst ja_nil)))) jss_nil)
  (jss_one (js_ret (je_and (je_isi rfl h_isinstance rfl h_int je_var) (je_one (je_not (je_isi rfl h_isinstance rfl h_bool je_var)))))))), hm, F.kp, hb⟩
theorem law_sc : FnScope law_N law_P (defScope law_t) := ⟨rfl, rfl, rfl, by decide +kernel, rfl, by decide +kernel, by decide +kernel⟩
theorem law_use {a : Addr} {fd : FuncData} (F : Fun K "law" "law" law_t a fd) (hm : mg "law" = some (.ref a)) (hb : Binds K fd law_P []) (h_range : mg "range" = none) (h_len : mg "len" = none) (h_min : mg "min" = none) (h_max : mg "max" = none) (h_tuple : mg "tuple" = none)   {a__law_state : Addr} {d__law_state : FuncData} (U__law_state : Use ⟨[], true⟩ P w K mg base "_law_state" 2 _law_state_P _law_state_f a__law_state d__law_state) {a__law_web : Addr} {d__law_web : FuncData} (U__law_web : Use ⟨[], true⟩ P w K mg base "_law_web" 3 _law_web_P _law_web_f a__law_web d__law_web) {a__law_take : Addr} {d__law_take : FuncData} (U__law_take : Use ⟨[], true⟩ P w K mg base "_law_take" 1 _law_take_P _law_take_f a__law_take d__law_take) {a_web_text : Addr} {d_web_text : FuncData} (U_web_text : Use ⟨[], true⟩ P w K mg base "web_text" 1 web_text_P web_text_f a_web_text d_web_text) {a__law_web_text : Addr} {d__law_web_text : FuncData} (U__law_web_text : Use ⟨[], true⟩ P w K mg base "_law_web_text" 1 _law_web_text_P _law_web_text_f a__law_web_text d__law_web_text) {a_row_text : Addr} {d_row_text : FuncData} (U_row_text : Use ⟨[], true⟩ P w K mg base "row_text" 1 row_text_P row_text_f a_row_text d_row_text) {a__law_row_text : Addr} {d__law_row_text : FuncData} (U__law_row_text : Use ⟨[], true⟩ P w K mg base "_law_row_text" 1 _law_row_text_P _law_row_text_f a__law_row_text d__law_row_text) {a_web_read : Addr} {d_web_read : FuncData} (U_web_read : Use ⟨[], true⟩ P w K mg base "web_read" 4 web_read_P web_read_f a_web_read d_web_read) {a__law_plain : Addr} {d__law_plain : FuncData} (U__law_plain : Use ⟨[], true⟩ P w K mg base "_law_plain" 5 _law_plain_P _law_plain_f a__law_plain d__law_plain) {a_row_read : Addr} {d_row_read : FuncData} (U_row_read : Use ⟨[], true⟩ P w K mg base "row_read" 2 row_read_P row_read_f a_row_read d_row_read) : Use ⟨[], true⟩ P w K mg base "law" 6 law_P law_f a fd :=
  ⟨mk_good F law_sc fun cdv A outer s H E hcd B => show JSs _ _ _ law_b from ((jss_cons (js_for B.ctx B.pass (ji_rng1 rfl h_range (ja_cons (je_callB (o_max2 B.ctx) rfl h_max (ja_cons je_int (ja_cons (je_callB (o_min2 B.ctx) rfl h_min (ja_cons (je_callB o_len rfl h_len (ja_cons je_var ja_nil)) (ja_cons je_int ja_nil))) ja_nil))) ja_nil)) (jg_name B.ctx (i := 1) rfl (by first | exact Or.inl rfl | exact Or.inr rfl)) (jss_cons (js_set B.ctx (i := 2) rfl (by first | exact Or.inl rfl | exact Or.inr rfl) (je_use B.ctx U__law_state B.room (by decide) rfl (ja_cons je_var (ja_cons je_var ja_nil))))
  (jss_cons (js_set B.ctx (i := 3) rfl (by first | exact Or.inl rfl | exact Or.inr rfl) (je_use B.ctx U__law_web B.room (by decide) rfl (ja_cons je_var (ja_cons je_int (ja_cons je_int ja_nil)))))
  (jss_cons (js_set B.ctx (i := 4) rfl (by first | exact Or.inl rfl | exact Or.inr rfl) (je_callTy o_tuple rfl h_tuple (ja_cons (je_comp (own := [(("_law_turn" : Str), 6)]) B.ctx (ji_rng1 rfl h_range (ja_cons (je_idx (je_lst (ja_cons je_int (ja_cons je_int (ja_cons je_int (ja_cons je_int (ja_cons je_int ja_nil)))))) (je_use B.ctx U__law_take B.room (by decide) rfl (ja_cons je_var (ja_cons je_int ja_nil)))) ja_nil)) (by first | exact blkOk_by (N := law_N) (sc := defScope law_t) (by decide +kernel) | exact blkOk_by (by kernel_rfl) | exact blkOk_by rfl) (by decide) (fun _ _ _ _ _ => (jg_name (Ctx.blk B.ctx) (i := 6) rfl (by first | exact Or.inl rfl | exact Or.inr rfl))) (fun _ _ _ _ _ => jtsTrue) (fun _ _ _ _ _ => (je_use (Ctx.blk B.ctx) U__law_take B.room (by decide) rfl (ja_cons je_var (ja_cons je_int ja_nil))))) ja_nil)))
  (jss_cons (js_if (jt_w (jw_or (jt_cmp (c_ne B.ctx) (je_use B.ctx U_web_text B.room (by decide) rfl (ja_cons je_var ja_nil)) (je_use B.ctx U__law_web_text B.room (by decide) rfl (ja_cons je_var ja_nil))) (jw_or1 (jt_cmp (c_ne B.ctx) (je_use B.ctx U_row_text B.room (by decide) rfl (ja_cons je_var ja_nil)) (je_use B.ctx U__law_row_text B.room (by decide) rfl (ja_cons je_var ja_nil)))))) (jss_one (js_ret je_bl)) jss_nil)
  (jss_cons (js_set B.ctx (i := 5) rfl (by first | exact Or.inl rfl | exact Or.inr rfl) (je_use B.ctx U_web_read B.room (by decide) rfl (ja_cons (je_use B.ctx U__law_web_text B.room (by decide) rfl (ja_cons je_var ja_nil)) ja_nil)))
  (jss_cons (js_if (jt_w (jw_or (jt_cmp (c_ne B.ctx) je_var je_var) (jw_or1 (jt_not (jt_val (je_use B.ctx U__law_plain B.room (by decide) rfl (ja_cons je_var ja_nil))))))) (jss_one (js_ret je_bl)) jss_nil)
  (jss_cons (js_set B.ctx (i := 5) rfl (by first | exact Or.inl rfl | exact Or.inr rfl) (je_use B.ctx U_row_read B.room (by decide) rfl (ja_cons (je_use B.ctx U__law_row_text B.room (by decide) rfl (ja_cons je_var ja_nil)) ja_nil)))
  (jss_one (js_if (jt_w (jw_or (jt_cmp (c_ne B.ctx) je_var je_var) (jw_or1 (jt_not (jt_val (je_use B.ctx U__law_plain B.room (by decide) rfl (ja_cons je_var ja_nil))))))) (jss_one (js_ret je_bl)) jss_nil))))))))))
  (jss_one (js_ret (je_and (je_cmp (c_eq B.ctx) (je_use B.ctx U_web_text B.room (by decide) rfl (ja_cons (je_tup (ja_cons je_int (ja_cons (je_tup ja_nil) ja_nil))) ja_nil)) je_str) (je_one (je_cmp (c_eq B.ctx) (je_use B.ctx U_row_text B.room (by decide) rfl (ja_cons (je_tup ja_nil) ja_nil)) je_str))))))), hm, F.kp, hb⟩
end
theorem all_mk {P : Program} {w : World} {K : PySem.W.Frag} {h : Heap} {mg : Str → Option Value} {fa f0 f1 f2 f3 f4 f5 f6 f7 f8 f9 f10 f11 f12 f13 f14 f15 f16 f17 f18 f19 f20 f21 : Addr} (X : K.In h) (G : h.Ns mainGlobals mg) (hfa : mg "law" = some (.ref fa))
    {od0 an0 od1 an1 od2 an2 od3 an3 od4 an4 od5 an5 od6 an6 od7 an7 od8 an8 od9 an9 od10 an10 od11 an11 od12 an12 od13 an13 od14 an14 od15 an15 od16 an16 od17 an17 od18 an18 od19 an19 od20 an20 od21 an21 : Option Addr} {sl0 sl1 sl2 sl3 sl4 sl5 sl6 sl7 sl8 sl9 sl10 sl11 sl12 sl13 sl14 sl15 sl16 sl17 sl18 sl19 sl20 sl21 : Array (Option Value)} {oc0 kV0 dc0 pm0 cd0 ct0 oc1 kV1 dc1 pm1 cd1 ct1 oc2 kV2 dc2 pm2 cd2 ct2 oc3 kV3 dc3 pm3 cd3 ct3 oc4 kV4 dc4 pm4 cd4 ct4 oc5 kV5 dc5 pm5 cd5 ct5 oc6 kV6 dc6 pm6 cd6 ct6 oc7 kV7 dc7 pm7 cd7 ct7 oc8 kV8 dc8 pm8 cd8 ct8 oc9 kV9 dc9 pm9 cd9 ct9 oc10 kV10 dc10 pm10 cd10 ct10 oc11 kV11 dc11 pm11 cd11 ct11 oc12 kV12 dc12 pm12 cd12 ct12 oc13 kV13 dc13 pm13 cd13 ct13 oc14 kV14 dc14 pm14 cd14 ct14 oc15 kV15 dc15 pm15 cd15 ct15 oc16 kV16 dc16 pm16 cd16 ct16 oc17 kV17 dc17 pm17 cd17 ct17 oc18 kV18 dc18 pm18 cd18 ct18 oc19 kV19 dc19 pm19 cd19 ct19 oc20 kV20 dc20 pm20 cd20 ct20 oc21 kV21 dc21 pm21 cd21 ct21 : Value}
    (a0 : nsIn K mainGlobals "_law_cell_at" = some (some (.ref f0))) (l0 : K.lookup f0 = some ⟨oc0, od0, .func (PySem.W.fnOf "_law_cell_at" "_law_cell_at" (defArgs _law_cell_at_t) (defBody _law_cell_at_t) (defScope _law_cell_at_t) .none kV0 dc0 pm0 an0 cd0 ct0), sl0⟩) (c0 : codeIn K cd0 "_law_cell_at" = true) (k0 : keepIn K (.ref f0) = true)
    (a1 : nsIn K mainGlobals "_law_state" = some (some (.ref f1))) (l1 : K.lookup f1 = some ⟨oc1, od1, .func (PySem.W.fnOf "_law_state" "_law_state" (defArgs _law_state_t) (defBody _law_state_t) (defScope _law_state_t) .none kV1 dc1 pm1 an1 cd1 ct1), sl1⟩) (c1 : codeIn K cd1 "_law_state" = true) (k1 : keepIn K (.ref f1) = true)
    (a2 : nsIn K mainGlobals "_law_take" = some (some (.ref f2))) (l2 : K.lookup f2 = some ⟨oc2, od2, .func (PySem.W.fnOf "_law_take" "_law_take" (defArgs _law_take_t) (defBody _law_take_t) (defScope _law_take_t) .none kV2 dc2 pm2 an2 cd2 ct2), sl2⟩) (c2 : codeIn K cd2 "_law_take" = true) (k2 : keepIn K (.ref f2) = true)
    (a3 : nsIn K mainGlobals "_law_order" = some (some (.ref f3))) (l3 : K.lookup f3 = some ⟨oc3, od3, .func (PySem.W.fnOf "_law_order" "_law_order" (defArgs _law_order_t) (defBody _law_order_t) (defScope _law_order_t) .none kV3 dc3 pm3 an3 cd3 ct3), sl3⟩) (c3 : codeIn K cd3 "_law_order" = true) (k3 : keepIn K (.ref f3) = true)
    (a4 : nsIn K mainGlobals "_law_pairs" = some (some (.ref f4))) (l4 : K.lookup f4 = some ⟨oc4, od4, .func (PySem.W.fnOf "_law_pairs" "_law_pairs" (defArgs _law_pairs_t) (defBody _law_pairs_t) (defScope _law_pairs_t) .none kV4 dc4 pm4 an4 cd4 ct4), sl4⟩) (c4 : codeIn K cd4 "_law_pairs" = true) (k4 : keepIn K (.ref f4) = true)
    (a5 : nsIn K mainGlobals "_law_web" = some (some (.ref f5))) (l5 : K.lookup f5 = some ⟨oc5, od5, .func (PySem.W.fnOf "_law_web" "_law_web" (defArgs _law_web_t) (defBody _law_web_t) (defScope _law_web_t) .none kV5 dc5 pm5 an5 cd5 ct5), sl5⟩) (c5 : codeIn K cd5 "_law_web" = true) (k5 : keepIn K (.ref f5) = true)
    (a6 : nsIn K mainGlobals "number_in" = some (some (.ref f6))) (l6 : K.lookup f6 = some ⟨oc6, od6, .func (PySem.W.fnOf "number_in" "number_in" (defArgs number_in_t) (defBody number_in_t) (defScope number_in_t) .none kV6 dc6 pm6 an6 cd6 ct6), sl6⟩) (c6 : codeIn K cd6 "number_in" = true) (k6 : keepIn K (.ref f6) = true)
    (a7 : nsIn K mainGlobals "is_number" = some (some (.ref f7))) (l7 : K.lookup f7 = some ⟨oc7, od7, .func (PySem.W.fnOf "is_number" "is_number" (defArgs is_number_t) (defBody is_number_t) (defScope is_number_t) .none kV7 dc7 pm7 an7 cd7 ct7), sl7⟩) (c7 : codeIn K cd7 "is_number" = true) (k7 : keepIn K (.ref f7) = true)
    (a8 : nsIn K mainGlobals "is_tie" = some (some (.ref f8))) (l8 : K.lookup f8 = some ⟨oc8, od8, .func (PySem.W.fnOf "is_tie" "is_tie" (defArgs is_tie_t) (defBody is_tie_t) (defScope is_tie_t) .none kV8 dc8 pm8 an8 cd8 ct8), sl8⟩) (c8 : codeIn K cd8 "is_tie" = true) (k8 : keepIn K (.ref f8) = true)
    (a9 : nsIn K mainGlobals "is_web" = some (some (.ref f9))) (l9 : K.lookup f9 = some ⟨oc9, od9, .func (PySem.W.fnOf "is_web" "is_web" (defArgs is_web_t) (defBody is_web_t) (defScope is_web_t) .none kV9 dc9 pm9 an9 cd9 ct9), sl9⟩) (c9 : codeIn K cd9 "is_web" = true) (k9 : keepIn K (.ref f9) = true)
    (a10 : nsIn K mainGlobals "web_read" = some (some (.ref f10))) (l10 : K.lookup f10 = some ⟨oc10, od10, .func (PySem.W.fnOf "web_read" "web_read" (defArgs web_read_t) (defBody web_read_t) (defScope web_read_t) .none kV10 dc10 pm10 an10 cd10 ct10), sl10⟩) (c10 : codeIn K cd10 "web_read" = true) (k10 : keepIn K (.ref f10) = true)
    (a11 : nsIn K mainGlobals "row_read" = some (some (.ref f11))) (l11 : K.lookup f11 = some ⟨oc11, od11, .func (PySem.W.fnOf "row_read" "row_read" (defArgs row_read_t) (defBody row_read_t) (defScope row_read_t) .none kV11 dc11 pm11 an11 cd11 ct11), sl11⟩) (c11 : codeIn K cd11 "row_read" = true) (k11 : keepIn K (.ref f11) = true)
    (a12 : nsIn K mainGlobals "_law_web_text" = some (some (.ref f12))) (l12 : K.lookup f12 = some ⟨oc12, od12, .func (PySem.W.fnOf "_law_web_text" "_law_web_text" (defArgs _law_web_text_t) (defBody _law_web_text_t) (defScope _law_web_text_t) .none kV12 dc12 pm12 an12 cd12 ct12), sl12⟩) (c12 : codeIn K cd12 "_law_web_text" = true) (k12 : keepIn K (.ref f12) = true)
    (a13 : nsIn K mainGlobals "_law_row_text" = some (some (.ref f13))) (l13 : K.lookup f13 = some ⟨oc13, od13, .func (PySem.W.fnOf "_law_row_text" "_law_row_text" (defArgs _law_row_text_t) (defBody _law_row_text_t) (defScope _law_row_text_t) .none kV13 dc13 pm13 an13 cd13 ct13), sl13⟩) (c13 : codeIn K cd13 "_law_row_text" = true) (k13 : keepIn K (.ref f13) = true)
    (a14 : nsIn K mainGlobals "web_text" = some (some (.ref f14))) (l14 : K.lookup f14 = some ⟨oc14, od14, .func (PySem.W.fnOf "web_text" "web_text" (defArgs web_text_t) (defBody web_text_t) (defScope web_text_t) .none kV14 dc14 pm14 an14 cd14 ct14), sl14⟩) (c14 : codeIn K cd14 "web_text" = true) (k14 : keepIn K (.ref f14) = true)
    (a15 : nsIn K mainGlobals "row_text" = some (some (.ref f15))) (l15 : K.lookup f15 = some ⟨oc15, od15, .func (PySem.W.fnOf "row_text" "row_text" (defArgs row_text_t) (defBody row_text_t) (defScope row_text_t) .none kV15 dc15 pm15 an15 cd15 ct15), sl15⟩) (c15 : codeIn K cd15 "row_text" = true) (k15 : keepIn K (.ref f15) = true)
    (a16 : nsIn K mainGlobals "_law_plain" = some (some (.ref f16))) (l16 : K.lookup f16 = some ⟨oc16, od16, .func (PySem.W.fnOf "_law_plain" "_law_plain" (defArgs _law_plain_r0_t) (defBody _law_plain_r0_t) (defScope _law_plain_r0_t) .none kV16 dc16 pm16 an16 cd16 ct16), sl16⟩) (c16 : codeIn K cd16 "_law_plain" = true) (k16 : keepIn K (.ref f16) = true)
    (a17 : nsIn K mainGlobals "_law_plain" = some (some (.ref f17))) (l17 : K.lookup f17 = some ⟨oc17, od17, .func (PySem.W.fnOf "_law_plain" "_law_plain" (defArgs _law_plain_r1_t) (defBody _law_plain_r1_t) (defScope _law_plain_r1_t) .none kV17 dc17 pm17 an17 cd17 ct17), sl17⟩) (c17 : codeIn K cd17 "_law_plain" = true) (k17 : keepIn K (.ref f17) = true)
    (a18 : nsIn K mainGlobals "_law_plain" = some (some (.ref f18))) (l18 : K.lookup f18 = some ⟨oc18, od18, .func (PySem.W.fnOf "_law_plain" "_law_plain" (defArgs _law_plain_r2_t) (defBody _law_plain_r2_t) (defScope _law_plain_r2_t) .none kV18 dc18 pm18 an18 cd18 ct18), sl18⟩) (c18 : codeIn K cd18 "_law_plain" = true) (k18 : keepIn K (.ref f18) = true)
    (a19 : nsIn K mainGlobals "_law_plain" = some (some (.ref f19))) (l19 : K.lookup f19 = some ⟨oc19, od19, .func (PySem.W.fnOf "_law_plain" "_law_plain" (defArgs _law_plain_r3_t) (defBody _law_plain_r3_t) (defScope _law_plain_r3_t) .none kV19 dc19 pm19 an19 cd19 ct19), sl19⟩) (c19 : codeIn K cd19 "_law_plain" = true) (k19 : keepIn K (.ref f19) = true)
    (a20 : nsIn K mainGlobals "_law_plain" = some (some (.ref f20))) (l20 : K.lookup f20 = some ⟨oc20, od20, .func (PySem.W.fnOf "_law_plain" "_law_plain" (defArgs _law_plain_t) (defBody _law_plain_t) (defScope _law_plain_t) .none kV20 dc20 pm20 an20 cd20 ct20), sl20⟩) (c20 : codeIn K cd20 "_law_plain" = true) (k20 : keepIn K (.ref f20) = true)
    (a21 : nsIn K mainGlobals "law" = some (some (.ref f21))) (l21 : K.lookup f21 = some ⟨oc21, od21, .func (PySem.W.fnOf "law" "law" (defArgs law_t) (defBody law_t) (defScope law_t) .none kV21 dc21 pm21 an21 cd21 ct21), sl21⟩) (c21 : codeIn K cd21 "law" = true) (k21 : keepIn K (.ref f21) = true)
    {t_FIGURES : Tok} (n_FIGURES : nsIn K mainGlobals "FIGURES" = some (some (.str ("012345678" : Str) t_FIGURES)))
    {t_MOST_PLACES : Tok} (n_MOST_PLACES : nsIn K mainGlobals "MOST_PLACES" = some (some (.int (8) t_MOST_PLACES)))
    {t_MOST_TURNS : Tok} (n_MOST_TURNS : nsIn K mainGlobals "MOST_TURNS" = some (some (.int (40) t_MOST_TURNS)))
    {C_BadNote : Addr} (g_BadNote : nsIn K mainGlobals "BadNote" = some (some (.ref C_BadNote))) (q_BadNote : PySem.W.excIn K C_BadNote [.type "ValueError", .type "Exception", .type "BaseException", .type "object"] "ValueError.__new__" = true) (k_BadNote : PySem.W.keepIn K (.ref C_BadNote) = true) (b_BadNote : PySem.W.subIn K (.ref C_BadNote) (.type "BaseException") = some true) (t_BadNote : PySem.W.typeIn K (.ref C_BadNote) = some (.type "type"))
    (z_len : nsIn K mainGlobals "len" = some none) (z_list : nsIn K mainGlobals "list" = some none) (z_range : nsIn K mainGlobals "range" = some none) (z_tuple : nsIn K mainGlobals "tuple" = some none) (z_min : nsIn K mainGlobals "min" = some none) (z_max : nsIn K mainGlobals "max" = some none) (z_sorted : nsIn K mainGlobals "sorted" = some none) (z_set : nsIn K mainGlobals "set" = some none) (z_int : nsIn K mainGlobals "int" = some none) (z_isinstance : nsIn K mainGlobals "isinstance" = some none) (z_bool : nsIn K mainGlobals "bool" = some none) (z_all : nsIn K mainGlobals "all" = some none) (z_zip : nsIn K mainGlobals "zip" = some none) (z_str : nsIn K mainGlobals "str" = some none) :
    ∃ fd : FuncData, (∀ (s : Shared) (v : Value), BindsTo s fd ⟨[v], []⟩ [(("_law_script" : Str), v)]) ∧ ∀ base : Heap, K.In base → base.Ns mainGlobals mg → Good ⟨[], true⟩ P w K mg base 6 fa fd law_P law_f := by
  have e := hfa.symm.trans (mg_of X G a21)
  cases e
  have F0 := fun_mk (st := _law_cell_at_t) l0 c0 k0
  have b0 := F0.binds (ps := _law_cell_at_P) fun _ _ _ _ _ _ us hl => match us, hl with | [_, _], _ => rfl
  have F1 := fun_mk (st := _law_state_t) l1 c1 k1
  have b1 := F1.binds (ps := _law_state_P) fun _ _ _ _ _ _ us hl => match us, hl with | [_, _], _ => rfl
  have F2 := fun_mk (st := _law_take_t) l2 c2 k2
  have b2 := F2.binds (ps := _law_take_P) fun _ _ _ _ _ _ us hl => match us, hl with | [_, _], _ => rfl
  have F3 := fun_mk (st := _law_order_t) l3 c3 k3
  have b3 := F3.binds (ps := _law_order_P) fun _ _ _ _ _ _ us hl => match us, hl with | [_, _], _ => rfl
  have F4 := fun_mk (st := _law_pairs_t) l4 c4 k4
  have b4 := F4.binds (ps := _law_pairs_P) fun _ _ _ _ _ _ us hl => match us, hl with | [_], _ => rfl
  have F5 := fun_mk (st := _law_web_t) l5 c5 k5
  have b5 := F5.binds (ps := _law_web_P) fun _ _ _ _ _ _ us hl => match us, hl with | [_, _, _], _ => rfl
  have F6 := fun_mk (st := number_in_t) l6 c6 k6
  have b6 := F6.binds (ps := number_in_P) fun _ _ _ _ _ _ us hl => match us, hl with | [_], _ => rfl
  have F7 := fun_mk (st := is_number_t) l7 c7 k7
  have b7 := F7.binds (ps := is_number_P) fun _ _ _ _ _ _ us hl => match us, hl with | [_, _, _], _ => rfl
  have F8 := fun_mk (st := is_tie_t) l8 c8 k8
  have b8 := F8.binds (ps := is_tie_P) fun _ _ _ _ _ _ us hl => match us, hl with | [_, _], _ => rfl
  have F9 := fun_mk (st := is_web_t) l9 c9 k9
  have b9 := F9.binds (ps := is_web_P) fun _ _ _ _ _ _ us hl => match us, hl with | [_], _ => rfl
  have F10 := fun_mk (st := web_read_t) l10 c10 k10
  have b10 := F10.binds (ps := web_read_P) fun _ _ _ _ _ _ us hl => match us, hl with | [_], _ => rfl
  have F11 := fun_mk (st := row_read_t) l11 c11 k11
  have b11 := F11.binds (ps := row_read_P) fun _ _ _ _ _ _ us hl => match us, hl with | [_], _ => rfl
  have F12 := fun_mk (st := _law_web_text_t) l12 c12 k12
  have b12 := F12.binds (ps := _law_web_text_P) fun _ _ _ _ _ _ us hl => match us, hl with | [_], _ => rfl
  have F13 := fun_mk (st := _law_row_text_t) l13 c13 k13
  have b13 := F13.binds (ps := _law_row_text_P) fun _ _ _ _ _ _ us hl => match us, hl with | [_], _ => rfl
  have F14 := fun_mk (st := web_text_t) l14 c14 k14
  have b14 := F14.binds (ps := web_text_P) fun _ _ _ _ _ _ us hl => match us, hl with | [_], _ => rfl
  have F15 := fun_mk (st := row_text_t) l15 c15 k15
  have b15 := F15.binds (ps := row_text_P) fun _ _ _ _ _ _ us hl => match us, hl with | [_], _ => rfl
  have F16 := fun_mk (st := _law_plain_r0_t) l16 c16 k16
  have b16 := F16.binds (ps := _law_plain_r0_P) fun _ _ _ _ _ _ us hl => match us, hl with | [_], _ => rfl
  have F17 := fun_mk (st := _law_plain_r1_t) l17 c17 k17
  have b17 := F17.binds (ps := _law_plain_r1_P) fun _ _ _ _ _ _ us hl => match us, hl with | [_], _ => rfl
  have F18 := fun_mk (st := _law_plain_r2_t) l18 c18 k18
  have b18 := F18.binds (ps := _law_plain_r2_P) fun _ _ _ _ _ _ us hl => match us, hl with | [_], _ => rfl
  have F19 := fun_mk (st := _law_plain_r3_t) l19 c19 k19
  have b19 := F19.binds (ps := _law_plain_r3_P) fun _ _ _ _ _ _ us hl => match us, hl with | [_], _ => rfl
  have F20 := fun_mk (st := _law_plain_t) l20 c20 k20
  have b20 := F20.binds (ps := _law_plain_P) fun _ _ _ _ _ _ us hl => match us, hl with | [_], _ => rfl
  have F21 := fun_mk (st := law_t) l21 c21 k21
  have b21 := F21.binds (ps := law_P) fun _ _ _ _ _ _ us hl => match us, hl with | [_], _ => rfl
  refine ⟨PySem.W.fnOf "law" "law" (defArgs law_t) (defBody law_t) (defScope law_t) .none kV21 dc21 pm21 an21 cd21 ct21, fun s v => .of_eq rfl, fun base _ _ => ?_⟩
  have U0 : Use ⟨[], true⟩ P w K mg base _ _ _ _ _ _ := _law_cell_at_use F0 (mg_of X G a0) b0 (mg_none_of X G z_len)   
  have U1 : Use ⟨[], true⟩ P w K mg base _ _ _ _ _ _ := _law_state_use F1 (mg_of X G a1) b1    U0
  have U2 : Use ⟨[], true⟩ P w K mg base _ _ _ _ _ _ := _law_take_use F2 (mg_of X G a2) b2    
  have U3 : Use ⟨[], true⟩ P w K mg base _ _ _ _ _ _ := _law_order_use F3 (mg_of X G a3) b3 (mg_none_of X G z_list) (mg_none_of X G z_range) (mg_none_of X G z_len) (mg_none_of X G z_tuple)   U2
  have U4 : Use ⟨[], true⟩ P w K mg base _ _ _ _ _ _ := _law_pairs_use F4 (mg_of X G a4) b4 (mg_none_of X G z_range)   
  have U5 : Use ⟨[], true⟩ P w K mg base _ _ _ _ _ _ := _law_web_use F5 (mg_of X G a5) b5 (mg_none_of X G z_range) (mg_none_of X G z_min) (mg_none_of X G z_max) (mg_none_of X G z_sorted) (mg_none_of X G z_set) (mg_none_of X G z_tuple)   U2 U3 U4
  have U6 : Use ⟨[], true⟩ P w K mg base _ _ _ _ _ _ := number_in_use F6 (mg_of X G a6) b6 (mg_none_of X G z_len) (mg_none_of X G z_int) ⟨_, mg_of X G n_FIGURES⟩  
  have U7 : Use ⟨[], true⟩ P w K mg base _ _ _ _ _ _ := is_number_use F7 (mg_of X G a7) b7 (mg_none_of X G z_isinstance) (mg_none_of X G z_int) (mg_none_of X G z_bool)   
  have U8 : Use ⟨[], true⟩ P w K mg base _ _ _ _ _ _ := is_tie_use F8 (mg_of X G a8) b8 (mg_none_of X G z_isinstance) (mg_none_of X G z_tuple) (mg_none_of X G z_len) (mg_none_of X G z_all)   U7
  have U9 : Use ⟨[], true⟩ P w K mg base _ _ _ _ _ _ := is_web_use F9 (mg_of X G a9) b9 (mg_none_of X G z_isinstance) (mg_none_of X G z_tuple) (mg_none_of X G z_len) (mg_none_of X G z_all) (mg_none_of X G z_zip) ⟨_, mg_of X G n_MOST_PLACES⟩  U7 U8
  have U10 : Use ⟨[], true⟩ P w K mg base _ _ _ _ _ _ := web_read_use F10 (mg_of X G a10) b10 (mg_none_of X G z_isinstance) (mg_none_of X G z_str) (mg_none_of X G z_tuple)  ⟨mg_of X G g_BadNote, q_BadNote, k_BadNote, b_BadNote, t_BadNote⟩ U6 U9
  have U11 : Use ⟨[], true⟩ P w K mg base _ _ _ _ _ _ := row_read_use F11 (mg_of X G a11) b11 (mg_none_of X G z_isinstance) (mg_none_of X G z_str) (mg_none_of X G z_tuple) (mg_none_of X G z_len) ⟨_, mg_of X G n_MOST_PLACES⟩ ⟨_, mg_of X G n_MOST_TURNS⟩ ⟨mg_of X G g_BadNote, q_BadNote, k_BadNote, b_BadNote, t_BadNote⟩ U6
  have U12 : Use ⟨[], true⟩ P w K mg base _ _ _ _ _ _ := _law_web_text_use F12 (mg_of X G a12) b12 (mg_none_of X G z_str)   
  have U13 : Use ⟨[], true⟩ P w K mg base _ _ _ _ _ _ := _law_row_text_use F13 (mg_of X G a13) b13 (mg_none_of X G z_str)   
  have U14 : Use ⟨[], true⟩ P w K mg base _ _ _ _ _ _ := web_text_use F14 (mg_of X G a14) b14 (mg_none_of X G z_str)   
  have U15 : Use ⟨[], true⟩ P w K mg base _ _ _ _ _ _ := row_text_use F15 (mg_of X G a15) b15 (mg_none_of X G z_str)   
  have U16 : Use ⟨[], true⟩ P w K mg base _ _ _ _ _ _ := _law_plain_r0_use F16 (mg_of X G a16) b16    
  have U17 : Use ⟨[], true⟩ P w K mg base _ _ _ _ _ _ := _law_plain_r1_use F17 (mg_of X G a17) b17 (mg_none_of X G z_isinstance) (mg_none_of X G z_tuple) (mg_none_of X G z_int) (mg_none_of X G z_bool)   U16
  have U18 : Use ⟨[], true⟩ P w K mg base _ _ _ _ _ _ := _law_plain_r2_use F18 (mg_of X G a18) b18 (mg_none_of X G z_isinstance) (mg_none_of X G z_tuple) (mg_none_of X G z_int) (mg_none_of X G z_bool)   U17
  have U19 : Use ⟨[], true⟩ P w K mg base _ _ _ _ _ _ := _law_plain_r3_use F19 (mg_of X G a19) b19 (mg_none_of X G z_isinstance) (mg_none_of X G z_tuple) (mg_none_of X G z_int) (mg_none_of X G z_bool)   U18
  have U20 : Use ⟨[], true⟩ P w K mg base _ _ _ _ _ _ := _law_plain_use F20 (mg_of X G a20) b20 (mg_none_of X G z_isinstance) (mg_none_of X G z_tuple) (mg_none_of X G z_int) (mg_none_of X G z_bool)   U19
  have U21 : Use ⟨[], true⟩ P w K mg base _ _ _ _ _ _ := law_use F21 (mg_of X G a21) b21 (mg_none_of X G z_range) (mg_none_of X G z_len) (mg_none_of X G z_min) (mg_none_of X G z_max) (mg_none_of X G z_tuple)   U1 U5 U2 U14 U12 U15 U13 U10 U20 U11
  exact U21.good
end NT

set_option Elab.async false
set_option linter.all false
set_option maxRecDepth 100000
set_option autoImplicit false

namespace NT
open PySem PySem.Spec PyProof.Rows L2 PySem.W
theorem cell_at_ok (ns : List Int) (k : Nat) : _law_cell_at_f [.im (.list (ns.map .int)), VI k] [] = .ok (VI (ns.getD k 0)) [] := by
  unfold _law_cell_at_f
  rw [fnOf2]
  unfold _law_cell_at_b _law_cell_at_s0 _law_cell_at_s1
  by_cases hk : k < ns.length
  · have : (k : Int) < ns.length := by omega
    simp [vLt, cmpV, fLen, itemsOf, vIdx, atI, ixN, hk]
  · have : ¬ (k : Int) < ns.length := by omega
    simp [vLt, cmpV, fLen, itemsOf, hk]
abbrev CS (st : Int) (fl : Bool) : Cell := .lst [VI st, .im (.bool fl)]
theorem call2 {s : Fn} {d e : PyData} {h : Hs} : callFn s [.im d, .im e] h = (s [.im d, .im e] []).bind fun v h' => .ok (v.ren (backI [] h.length)) (h ++ h'.map (Cell.ren (backI [] h.length))) := call_im (ds := [d, e])
theorem call1 {s : Fn} {d : PyData} {h : Hs} : callFn s [.im d] h = (s [.im d] []).bind fun v h' => .ok (v.ren (backI [] h.length)) (h ++ h'.map (Cell.ren (backI [] h.length))) := call_im (ds := [d])
theorem call3 {s : Fn} {d e f : PyData} {h : Hs} : callFn s [.im d, .im e, .im f] h = (s [.im d, .im e, .im f] []).bind fun v h' => .ok (v.ren (backI [] h.length)) (h ++ h'.map (Cell.ren (backI [] h.length))) := call_im (ds := [d, e, f])
@[simp] theorem backI_nil (n k : Nat) : backI [] n k = n + k := by simp [backI]
theorem state_ok (ns : List Int) (k : Nat) : ∃ st fl, _law_state_f [.im (.list (ns.map .int)), VI k] [] = .ok (.ref 0) [CS st fl] := by
  unfold _law_state_f
  rw [fnOf2]
  unfold _law_state_b _law_state_s0 _law_state_s1 _law_state_s2
  have hc := cell_at_ok ns k
  generalize ns.getD k 0 = c at hc
  have e1 : cPow 10 18 = true := by decide
  have e2 : cMod c 2147483647 = true := by simp [cMod]
  by_cases h : (1000000000000000000 : Int) ≤ c
  · refine ⟨c - 1000000000000000000, true, ?_⟩
    simp [call2, hc, vGe, cmpV, vPow, vInt2c, e1, h, vSub, vInt2, fnFin, trunc]
  · refine ⟨c % 2147483647, false, ?_⟩
    simp [call2, hc, vGe, cmpV, vPow, vInt2c, e1, e2, h, vMod, fnFin, trunc]
theorem take_ok (st many : Int) (fl : Bool) (h0 : 0 < many) (h1 : many < 1073741824) : ∃ v st', 0 ≤ v ∧ v < many ∧ _law_take_f [.ref 0, VI many] [CS st fl] = .ok (VI v) [CS st' fl] := by
  unfold _law_take_f
  rw [fnOf2]
  unfold _law_take_b _law_take_s0 _law_take_s1 _law_take_s2 _law_take_s3 _law_take_s4
  have e1 : ∀ x, cMod x many = true := by simp [cMod, h0]
  have e2 : ∀ x, cDiv x many = true := by simp [cDiv, h0, h1]
  cases fl with
  | true =>
    refine ⟨st % many, st / many, Int.emod_nonneg _ (by omega), Int.emod_lt_of_pos _ h0, ?_⟩
    simp [vIdx, itemsOf, atI, ixN, vMod, vInt2c, e1, e2, vFdiv, sPut, trunc]
  | false =>
    have m1 : ∀ x, cMul x 48271 = true := by simp [cMul]
    have m2 : ∀ x, cMod x 2147483647 = true := by simp [cMod]
    have m3 : ∀ x, cMod x 2147483629 = true := by simp [cMod]
    have m4 : ∀ x, cMod x 2147483587 = true := by simp [cMod]
    have m5 : ∀ x, cDiv x 8 = true := by simp [cDiv]
    have m6 : ∀ x, cMul 39373 x = true := by simp [cMul]
    have m7 : ∀ x, cMul 16807 x = true := by simp [cMul]
    generalize hs : (st * 48271 + 29) % 2147483647 = s0
    have m8 : cMul s0 s0 = true := by
      have a1 := Int.emod_nonneg (st * 48271 + 29) (b := 2147483647) (by decide)
      have a2 := Int.emod_lt_of_pos (st * 48271 + 29) (b := 2147483647) (by decide)
      rw [hs] at a1 a2
      simp only [cMul, Bool.or_eq_true, decide_eq_true_eq]
      left; constructor <;> omega
    generalize hm : (s0 * s0 + 39373 * s0 + 7) % 2147483629 = s1
    have m9 : cMul s1 s1 = true := by
      have a1 := Int.emod_nonneg (s0 * s0 + 39373 * s0 + 7) (b := 2147483629) (by decide)
      have a2 := Int.emod_lt_of_pos (s0 * s0 + 39373 * s0 + 7) (b := 2147483629) (by decide)
      rw [hm] at a1 a2
      simp only [cMul, Bool.or_eq_true, decide_eq_true_eq]
      left; constructor <;> omega
    refine ⟨(s1 * s1 + 16807 * s1) % 2147483587 / 8 % many, s0, Int.emod_nonneg _ (by omega), Int.emod_lt_of_pos _ h0, ?_⟩
    simp [vIdx, itemsOf, atI, ixN, vMod, vInt2c, e1, e2, vFdiv, sPut, trunc, vMul, vAdd, m1, m2, m3, m4, m5, m6, m7, hs, m8, hm, m9]
end NT

set_option Elab.async false
set_option linter.all false
set_option maxRecDepth 100000
set_option autoImplicit false

namespace NT
open PySem PySem.Spec PyProof.Rows L2 PySem.W
def pairsF (n a : Int) : List PI2 := (rg (a + 1) (n - (a + 1)).toNat).map fun b => (a, b)
def pairsL (n : Int) : List PI2 := (rg 0 n.toNat).flatMap (pairsF n)
theorem pairsF_len (n a : Int) : (pairsF n a).length = (n - (a + 1)).toNat := by simp [pairsF, rg_len]
theorem pairs_mem {n : Int} {p : PI2} (h : p ∈ pairsL n) : 0 ≤ p.1 ∧ p.1 < p.2 ∧ p.2 < n := by
  unfold pairsL at h
  obtain ⟨a, ha, h⟩ := List.mem_flatMap.mp h
  obtain ⟨b, hb, rfl⟩ := List.mem_map.mp h
  have h1 := rg_mem ha
  have h2 := rg_mem hb
  dsimp only
  omega
theorem pairs_len {n : Int} (h0 : 0 ≤ n) (h1 : n ≤ 8) : (pairsL n).length ≤ 28 := by
  obtain ⟨k, rfl⟩ := Int.eq_ofNat_of_zero_le h0
  have hk : k ≤ 8 := by omega
  have : ∀ k : Nat, k ≤ 8 → (pairsL (k : Int)).length ≤ 28 := by decide
  exact this k hk
theorem pairs_ok (n : Int) (h0 : 0 ≤ n) (h1 : n ≤ 8) : _law_pairs_f [VI n] [] = .ok (.ref 0) [CP (pairsL n)] := by
  unfold _law_pairs_f
  rw [fnOf1]
  unfold _law_pairs_b _law_pairs_s0 _law_pairs_s1 _law_pairs_s2 _law_pairs_l0 _law_pairs_c0
  have s1 : smallI n = true := smallI_of (by omega)
  have hl := pairs_len h0 h1
  -- one turn's pairs
  have hc : ∀ (a : Int) (v3 : Option Val) (acc : List PI2), 0 ≤ a → a < n → eComp (mRng2 (mCons (e2 (eVar 2) (eC (.int 1)) vAdd) (mCons (eVar 0) mNil))) (.nm 3) mTrue (eTup (mCons (eVar 2) (mCons (eVar 3) mNil))) [3] [some (VI n), some (.ref 0), some (VI a), v3] [CP acc] = .ok (.ref 1) [CP acc, CP (pairsF n a)] := by
    intro a v3 acc a0 a1
    have s2 : smallI (a + 1) = true := smallI_of (by omega)
    have hg := compGo_map (s := ⟨(rg (a + 1) (n - (a + 1)).toNat).map VI, []⟩) (T := .nm 3) (e := eTup (mCons (eVar 2) (mCons (eVar 3) mNil))) (ρ := [some (VI n), some (.ref 0), some (VI a), none]) (g := VI) (h := [CP acc]) (fun b => pD (a, b)) (by simp)
      (rg (a + 1) (n - (a + 1)).toNat) (fun b _ => ⟨_, rfl, [CP acc], by simp [frzL, frz, pD], by simp⟩) (by rw [rg_len]; omega)
    rw [q_eComp]
    simp [vAdd, s1, s2, rangeI_eq]
    rw [hg]
    simp [pairsF, Function.comp_def]
  have hf : ∀ (p : Nat) (ρ : En) (h : Hs), (∃ v2 v3, ρ = [some (VI n), some (.ref 0), v2, v3] ∧ h = [CP []]) → ∃ v2 v3, forGo (sExpr (eM isL (eVar 1) (mCons (eComp (mRng2 (mCons (e2 (eVar 2) (eC (.int 1)) vAdd) (mCons (eVar 0) mNil))) (.nm 3) mTrue (eTup (mCons (eVar 2) (mCons (eVar 3) mNil))) [3]) mNil) mExtend)) (.nm 2) ⟨(rg 0 n.toNat).map VI, []⟩ p ((rg 0 n.toNat).map VI) ρ h = .nx [some (VI n), some (.ref 0), v2, v3] [CP (pairsL n)] := by
    intro p ρ h hr
    refine forGo_inv (J := fun r ρ h => (∀ a ∈ r, 0 ≤ a ∧ a < n) ∧ ∃ acc v2 v3, ρ = [some (VI n), some (.ref 0), v2, v3] ∧ h = [CP acc] ∧ acc ++ r.flatMap (pairsF n) = pairsL n) (Q := fun x => ∃ v2 v3, x = .nx [some (VI n), some (.ref 0), v2, v3] [CP (pairsL n)]) ?_ ?_ _ _ _ ?_
    · rintro a r ρ h ⟨hb, acc, v2, v3, rfl, rfl, e⟩
      obtain ⟨a0, a1⟩ := hb a List.mem_cons_self
      refine ⟨by simp, _, rfl, ?_⟩
      have hz : acc.length + (pairsF n a).length ≤ 16777216 := by
        have := congrArg List.length e
        simp only [List.flatMap_cons, List.length_append] at this
        omega
      simp [hc a v3 acc a0 a1, lstOf, mExtend, hz, trunc]
      refine ⟨fun b hb' => hb b (List.mem_cons_of_mem _ hb'), acc ++ pairsF n a, ?_, by simpa using e⟩
      simp
    · rintro ρ h ⟨_, acc, v2, v3, rfl, rfl, e⟩
      refine ⟨by simp, v2, v3, ?_⟩
      simp at e
      rw [e]
    · obtain ⟨v2, v3, rfl, rfl⟩ := hr
      exact ⟨fun a ha => by have := rg_mem ha; omega, [], v2, v3, rfl, rfl, by simp [pairsL]⟩
  obtain ⟨v2, v3, hf'⟩ := hf 0 _ _ ⟨none, none, rfl, rfl⟩
  have e1 : asgn 0 1 (.ref 0) 0 [some (VI n), none, none, none] [Cell.lst []] = .nx [some (VI n), some (.ref 0), none, none] [Cell.lst []] := by simp [asgn, reuse]
  simp only [q_sSeq, q_sSet, q_eLst, q_mNil, bind_ok, List.length_nil, Nat.zero_le, if_true, List.nil_append]
  simp [e1, q_sFor, s1, rangeI_eq]
  rw [show ([Cell.lst []] : Hs) = [CP []] from rfl, hf']
  simp [fnFin, trunc]
end NT

set_option Elab.async false
set_option linter.all false
set_option maxRecDepth 100000
set_option autoImplicit false

namespace NT
open PySem PySem.Spec PyProof.Rows L2 PySem.W
theorem call_s1 {s : Fn} {h : Hs} {k : Nat} {st st' : Int} {fl : Bool} {d v : PyData} (e : h[k]? = some (CS st fl)) (es : s [.ref 0, .im d] [CS st fl] = .ok (.im v) [CS st' fl]) : callFn s [.ref k, .im d] h = .ok (.im v) (h.set k (CS st' fl)) := by
  have e2 : isol h [.ref k, .im d] 0 = some ([.ref 0, .im d], [k]) := by simp [isol, e]
  unfold callFn
  rw [e2]
  have e3 : cellsAt h [k] = [CS st fl] := by simp [cellsAt, List.getD_eq_getElem?_getD, e]
  simp [e3, es, wrs]
theorem call_s2 {s : Fn} {h : Hs} {k : Nat} {st st' : Int} {fl : Bool} {d f v : PyData} (e : h[k]? = some (CS st fl)) (es : s [.ref 0, .im d, .im f] [CS st fl] = .ok (.im v) [CS st' fl]) : callFn s [.ref k, .im d, .im f] h = .ok (.im v) (h.set k (CS st' fl)) := by
  have e2 : isol h [.ref k, .im d, .im f] 0 = some ([.ref 0, .im d, .im f], [k]) := by simp [isol, e]
  unfold callFn
  rw [e2]
  have e3 : cellsAt h [k] = [CS st fl] := by simp [cellsAt, List.getD_eq_getElem?_getD, e]
  simp [e3, es, wrs]
theorem map_erase {α β : Type} (f : α → β) : ∀ (l : List α) (i : Nat), (l.map f).eraseIdx i = (l.eraseIdx i).map f
  | [], i => by simp
  | a :: r, 0 => by simp
  | a :: r, i + 1 => by simp [map_erase f r i]
theorem frzL_map {α : Type} (f : α → PyData) (h : Hs) : ∀ l : List α, frzL (l.map fun a => .im (f a)) h = some (l.map f, h)
  | [] => rfl
  | a :: r => by simp [frzL, frz, frzL_map f h r]
theorem rg0_eq (m : Nat) : ((List.range m).map fun i => Val.im (.int (i : Nat))) = (rg 0 m).map fun i => .im (.int i) := by simp [rg, Function.comp_def]
theorem erase_perm {α : Type} : ∀ (l : List α) (i : Nat) (h : i < l.length), (l[i] :: l.eraseIdx i).Perm l
  | a :: r, 0, _ => by simp
  | a :: r, i + 1, h => by
    simp only [List.getElem_cons_succ, List.eraseIdx_cons_succ]
    exact (List.Perm.swap _ _ _).trans ((erase_perm r i (by simpa using h)).cons a)
theorem order_ok (st n : Int) (fl : Bool) (h0 : 0 ≤ n) (h1 : n ≤ 8) : ∃ (o : List Int) (st' : Int), o.Perm (rg 0 n.toNat) ∧ _law_order_f [.ref 0, VI n] [CS st fl] = .ok (.im (.tuple (o.map .int))) [CS st' fl] := by
  have s1 : smallI n = true := smallI_of (by omega)
  have hc : ∃ (os : List Int) (st' : Int), os.Perm (rg 0 n.toNat) ∧ compGo ⟨(rg 0 n.toNat).map VI, []⟩ (.nm 3) mTrue (eM isL (eVar 2) (mCons (eCall 2 _law_take_f (mCons (eVar 0) (mCons (eB (mCons (eVar 2) mNil) fLen) mNil))) mNil) mPopAt) [some (.ref 0), some (VI n), some (.ref 1), none] ((rg 0 n.toNat).map VI) [] [CS st fl, CI (rg 0 n.toNat)] = .ok (os.map fun i => .im (.int i)) [CS st' fl, CI []] := by
    let J : List Int → List PyData → Hs → Prop := fun r acc h => ∃ (os left : List Int) (st : Int), acc = os.map .int ∧ h = [CS st fl, CI left] ∧ (os ++ left).Perm (rg 0 n.toNat) ∧ left.length = r.length
    have hstep : ∀ a r acc h, J (a :: r) acc h → Src.okAt ⟨(rg 0 n.toNat).map VI, []⟩ h ∧ acc.length < 16777216 ∧ ∃ ρ1, Tg.asg (.nm 3) (VI a) [some (.ref 0), some (VI n), some (.ref 1), none] = some ρ1 ∧ ∃ k h1, mTrue ρ1 h = .ok k h1 ∧
      ((k = true ∧ ∃ d h2, (eM isL (eVar 2) (mCons (eCall 2 _law_take_f (mCons (eVar 0) (mCons (eB (mCons (eVar 2) mNil) fLen) mNil))) mNil) mPopAt) ρ1 (trunc h.length h1) = .ok (.im d) h2 ∧ J r (acc ++ [d]) (trunc (trunc h.length h1).length h2)) ∨ (k = false ∧ J r acc (trunc h.length h1))) := by
      rintro a r acc h ⟨os, left, st, rfl, rfl, pm, hl⟩
      have ln : (os ++ left).length = n.toNat := by rw [pm.length_eq, rg_len]
      simp only [List.length_append, List.length_cons] at ln hl
      obtain ⟨v, st', v0, v1, ev⟩ := take_ok st left.length fl (by omega) (by omega)
      have hv : v.toNat < left.length := by omega
      refine ⟨by simp, by rw [List.length_map]; omega, _, rfl, true, _, rfl, .inl ⟨rfl, .int left[v.toNat], [CS st' fl, CI (left.eraseIdx v.toNat)], ?_, os ++ [left[v.toNat]], left.eraseIdx v.toNat, st', by simp, by simp, ?_, ?_⟩⟩
      · simp only [List.length_cons, List.length_nil, trunc_2]
        have : v < 16777216 := by omega
        simp [lstOf, fLen, itemsOf, call_s1 (h := [CS st fl, CI left]) (k := 0) rfl ev, mPopAt, v0, this, hv, map_erase]
      · refine List.Perm.trans ?_ pm
        rw [List.append_assoc]
        exact (erase_perm left _ hv).append_left os
      · rw [List.length_eraseIdx, if_pos hv]; omega
    obtain ⟨acc', h', e, j⟩ := compGo_inv (s := ⟨(rg 0 n.toNat).map VI, []⟩) (T := .nm 3) (c := mTrue) (e := eM isL (eVar 2) (mCons (eCall 2 _law_take_f (mCons (eVar 0) (mCons (eB (mCons (eVar 2) mNil) fLen) mNil))) mNil) mPopAt) (ρ := [some (.ref 0), some (VI n), some (.ref 1), none]) (g := VI)
      (J := J) hstep (fun _ _ _ => by simp) (rg 0 n.toNat) [] [CS st fl, CI (rg 0 n.toNat)] ⟨[], _, _, rfl, rfl, by simp, rfl⟩
    obtain ⟨os, left, st', rfl, rfl, pm, hl⟩ := j
    have : left = [] := by simpa using hl
    subst this
    refine ⟨os, st', by simpa using pm, ?_⟩
    simpa [Function.comp_def] using e
  obtain ⟨os, st', pm, hc⟩ := hc
  refine ⟨os, st', pm, ?_⟩
  unfold _law_order_f
  rw [fnOf2]
  unfold _law_order_b _law_order_s0 _law_order_s1 _law_order_c0
  have n1 : n ≤ 16777216 := by omega
  have n2 : -16777216 ≤ n := by omega
  have e1 : asgn 1 2 (.ref 1) 1 [some (.ref 0), some (VI n), none, none] [CS st fl, CI (rg 0 n.toNat)] = .nx [some (.ref 0), some (VI n), some (.ref 1), none] [CS st fl, CI (rg 0 n.toNat)] := by simp [asgn, reuse]
  have hz : os.length ≤ 16777216 := by rw [pm.length_eq, rg_len]; omega
  simp only [q_sSeq, q_sSet, q_e1, q_eVar, List.getElem?_cons_zero, List.getElem?_cons_succ, bind_ok, vRg1, if_pos n1, if_pos n2, List.length_cons, List.length_nil, rg0_eq, List.cons_append, List.nil_append, List.replicate]
  rw [e1]
  simp only [q_sRet, q_eB, q_mCons, q_mNil, q_eComp, q_mRng1, q_eVar, List.getElem?_cons_zero, List.getElem?_cons_succ, bind_ok, s1, if_true, wE_nil, wE_cons, rangeI_eq, List.length_cons, List.length_nil, Nat.zero_add, Nat.reduceAdd, trunc_2, List.set_cons_succ, List.set_cons_zero]
  rw [hc]
  simp [fTuple, lstOf, frzL_map, trunc, -List.map_map]
end NT

set_option Elab.async false
set_option linter.all false
set_option maxRecDepth 100000
set_option autoImplicit false

namespace NT
open PySem PySem.Spec PyProof.Rows L2 PySem.W
def TOk (m : Int) (k : Nat) (l : List PI2) : Prop := (∀ p ∈ l, 0 ≤ p.1 ∧ p.1 < p.2 ∧ p.2 < m) ∧ l.length ≤ k
abbrev WE (lo hi : Int) (a3 a4 a5 a6 a7 a8 : Option Val) : En := [some (.ref 0), some (VI lo), some (VI hi), a3, a4, a5, a6, a7, a8, none, none, none, none]
section
variable {lo hi m st full : Int} {fl : Bool} {a4 a5 a6 a7 a8 : Option Val}
theorem src_pairs (h0 : 0 ≤ m) (h1 : m ≤ 8) {h : Hs} (hb : h.all (Cell.below h.length) = true) : mSeq (eCall 1 _law_pairs_f (mCons (eVar 3) mNil)) (WE lo hi (some (VI m)) a4 a5 a6 a7 a8) h = .ok ⟨(pairsL m).map fun p => .im (pD p), []⟩ h := by
  have e := seq_new pD (pairsL m) hb
  simp [call1, pairs_ok m h0 h1, e]
theorem c0_ok (h0 : 0 ≤ m) (h1 : m ≤ 8) : ∃ (ps : List PI2) (st' : Int), TOk m 28 ps ∧ _law_web_c0 (WE lo hi (some (VI m)) a4 a5 (some (VI full)) a7 a8) [CS st fl] = .ok (.ref 1) [CS st' fl, CP ps] := by
  let J : List PI2 → List PyData → Hs → Prop := fun r acc h => ∃ (ps : List PI2) (st : Int), acc = ps.map pD ∧ h = [CS st fl] ∧ TOk m (28 - r.length) ps ∧ r.length ≤ 28 ∧ ∀ p ∈ r, 0 ≤ p.1 ∧ p.1 < p.2 ∧ p.2 < m
  have hs : CompStep ⟨(pairsL m).map fun p => .im (pD p), []⟩ (.nm 9) (tst (e2 (eCall 2 _law_take_f (mCons (eVar 0) (mCons (eC (.int 8)) mNil))) (eVar 6) vLt)) (eVar 9) (WE lo hi (some (VI m)) a4 a5 (some (VI full)) a7 a8) (fun p => .im (pD p)) J := by
    rintro a r acc h ⟨ps, st, rfl, rfl, tok, hl, hr⟩
    obtain ⟨v, st', v0, v1, ev⟩ := take_ok st 8 fl (by omega) (by omega)
    simp only [List.length_cons] at tok hl
    refine ⟨by simp, by rw [List.length_map]; have := tok.2; omega, _, rfl, decide (v < full), [CS st' fl], ?_, ?_⟩
    · simp [call_s1 (h := [CS st fl]) (k := 0) rfl ev, vLt, cmpV]
    · by_cases hv : v < full
      · refine .inl ⟨by simp [hv], pD a, [CS st' fl], by simp, ps ++ [a], st', by simp, by simp, ⟨fun p hp => ?_, ?_⟩, by omega, fun p hp => hr p (List.mem_cons_of_mem _ hp)⟩
        · rcases List.mem_append.mp hp with hp | hp
          · exact tok.1 p hp
          · rw [List.mem_singleton.mp hp]; exact hr a List.mem_cons_self
        · have := tok.2
          rw [List.length_append, List.length_singleton]; omega
      · exact .inr ⟨by simp [hv], ps, st', rfl, by simp, ⟨tok.1, by have := tok.2; omega⟩, by omega, fun p hp => hr p (List.mem_cons_of_mem _ hp)⟩
  obtain ⟨acc, h', e, ps, st', rfl, rfl, tok, _⟩ := compGo_inv J hs (fun _ _ _ => by simp) (pairsL m) [] [CS st fl] ⟨[], st, rfl, rfl, ⟨by simp, by simp⟩, pairs_len h0 h1, fun p hp => pairs_mem hp⟩
  refine ⟨ps, st', tok, ?_⟩
  unfold _law_web_c0
  rw [q_eComp, src_pairs h0 h1 (by simp)]
  simp only [bind_ok, wE_cons, wE_nil, List.set_cons_succ, List.set_cons_zero, List.map_nil] at e ⊢
  rw [e]
  simp [Function.comp_def]
theorem c2_ok {ts : List PI2} (h0 : 0 ≤ m) (h1 : m ≤ 8) : ∃ (ps : List PI2) (st' : Int), TOk m 28 ps ∧ _law_web_c2 (WE lo hi (some (VI m)) a4 a5 a6 a7 a8) [CS st fl, CP ts] = .ok (.ref 2) [CS st' fl, CP ts, CP ps] := by
  let J : List PI2 → List PyData → Hs → Prop := fun r acc h => ∃ (ps : List PI2) (st : Int), acc = ps.map pD ∧ h = [CS st fl, CP ts] ∧ TOk m (28 - r.length) ps ∧ r.length ≤ 28 ∧ ∀ p ∈ r, 0 ≤ p.1 ∧ p.1 < p.2 ∧ p.2 < m
  have hs : CompStep ⟨(pairsL m).map fun p => .im (pD p), []⟩ (.nm 9) (tst (e2 (eCall 2 _law_take_f (mCons (eVar 0) (mCons (eC (.int 6)) mNil))) (eC (.int 0)) vEq)) (eVar 9) (WE lo hi (some (VI m)) a4 a5 a6 a7 a8) (fun p => .im (pD p)) J := by
    rintro a r acc h ⟨ps, st, rfl, rfl, tok, hl, hr⟩
    obtain ⟨v, st', v0, v1, ev⟩ := take_ok st 6 fl (by omega) (by omega)
    simp only [List.length_cons] at tok hl
    refine ⟨by simp, by rw [List.length_map]; have := tok.2; omega, _, rfl, decide (v = 0), [CS st' fl, CP ts], ?_, ?_⟩
    · simp [call_s1 (h := [CS st fl, CP ts]) (k := 0) rfl ev, vEq, eqVal]
    · by_cases hv : v = 0
      · refine .inl ⟨by simp [hv], pD a, [CS st' fl, CP ts], by simp, ps ++ [a], st', by simp, by simp, ⟨fun p hp => ?_, ?_⟩, by omega, fun p hp => hr p (List.mem_cons_of_mem _ hp)⟩
        · rcases List.mem_append.mp hp with hp | hp
          · exact tok.1 p hp
          · rw [List.mem_singleton.mp hp]; exact hr a List.mem_cons_self
        · have := tok.2
          rw [List.length_append, List.length_singleton]; omega
      · exact .inr ⟨by simp [hv], ps, st', rfl, by simp, ⟨tok.1, by have := tok.2; omega⟩, by omega, fun p hp => hr p (List.mem_cons_of_mem _ hp)⟩
  obtain ⟨acc, h', e, ps, st', rfl, rfl, tok, _⟩ := compGo_inv J hs (fun _ _ _ => by simp) (pairsL m) [] [CS st fl, CP ts] ⟨[], st, rfl, rfl, ⟨by simp, by simp⟩, pairs_len h0 h1, fun p hp => pairs_mem hp⟩
  refine ⟨ps, st', tok, ?_⟩
  unfold _law_web_c2
  rw [q_eComp, src_pairs h0 h1 (by simp)]
  simp only [bind_ok, wE_cons, wE_nil, List.set_cons_succ, List.set_cons_zero, List.map_nil] at e ⊢
  rw [e]
  simp [Function.comp_def]
theorem c1_ok {ts : List PI2} (h0 : 0 ≤ m) (h1 : m ≤ 8) : ∃ (ps : List PI2) (st' : Int), TOk m 8 ps ∧ _law_web_c1 (WE lo hi (some (VI m)) a4 a5 a6 a7 a8) [CS st fl, CP ts] = .ok (.ref 2) [CS st' fl, CP ts, CP ps] := by
  let J : List Int → List PyData → Hs → Prop := fun r acc h => ∃ (ps : List PI2) (st : Int), acc = ps.map pD ∧ h = [CS st fl, CP ts] ∧ TOk m (8 - r.length) ps ∧ r.length ≤ 8 ∧ ∀ p ∈ r, 1 ≤ p ∧ p < m
  have hs : CompStep ⟨(rg 1 (m - 1).toNat).map VI, []⟩ (.nm 12) mTrue (eTup (mCons (eCall 2 _law_take_f (mCons (eVar 0) (mCons (eVar 12) mNil))) (mCons (eVar 12) mNil))) (WE lo hi (some (VI m)) a4 a5 a6 a7 a8) VI J := by
    rintro a r acc h ⟨ps, st, rfl, rfl, tok, hl, hr⟩
    obtain ⟨a0, a1⟩ := hr a List.mem_cons_self
    obtain ⟨v, st', v0, v1, ev⟩ := take_ok st a fl (by omega) (by omega)
    simp only [List.length_cons] at tok hl
    refine ⟨by simp, by rw [List.length_map]; have := tok.2; omega, _, rfl, true, _, rfl, .inl ⟨rfl, pD (v, a), [CS st' fl, CP ts], ?_, ps ++ [(v, a)], st', by simp, by simp, ⟨fun p hp => ?_, ?_⟩, by omega, fun p hp => hr p (List.mem_cons_of_mem _ hp)⟩⟩
    · simp [call_s1 (h := [CS st fl, CP ts]) (k := 0) rfl ev, frzL, frz, pD]
    · rcases List.mem_append.mp hp with hp | hp
      · exact tok.1 p hp
      · rw [List.mem_singleton.mp hp]; exact ⟨v0, v1, a1⟩
    · have := tok.2
      rw [List.length_append, List.length_singleton]; omega
  obtain ⟨acc, h', e, ps, st', rfl, rfl, tok, _⟩ := compGo_inv J hs (fun _ _ _ => by simp) (rg 1 (m - 1).toNat) [] [CS st fl, CP ts] ⟨[], st, rfl, rfl, ⟨by simp, by simp⟩, by rw [rg_len]; omega, fun p hp => by have := rg_mem hp; omega⟩
  refine ⟨ps, st', tok, ?_⟩
  have s1 : smallI 1 = true := smallI_of (by omega)
  have s2 : smallI m = true := smallI_of (by omega)
  unfold _law_web_c1
  rw [q_eComp, src_rng2 (i := 1) (j := m) (by simp) s1 s2]
  simp only [bind_ok, wE_cons, wE_nil, List.set_cons_succ, List.set_cons_zero, List.map_nil] at e ⊢
  rw [e]
  simp [Function.comp_def]
theorem c3_ok {ts : List PI2} (h0 : 2 < m) (h1 : m ≤ 8) : ∃ ps : List PI2, TOk m 8 ps ∧ _law_web_c3 (WE lo hi (some (VI m)) a4 a5 a6 a7 a8) [CS st fl, CP ts] = .ok (.ref 2) [CS st fl, CP ts, CP ps] := by
  refine ⟨(rg 0 (m - 1).toNat).map fun p => (p, p + 1), ⟨fun p hp => ?_, by rw [List.length_map, rg_len]; omega⟩, ?_⟩
  · obtain ⟨a, ha, rfl⟩ := List.mem_map.mp hp
    have := rg_mem ha
    dsimp only; omega
  · have s1 : smallI (m - 1) = true := smallI_of (by omega)
    unfold _law_web_c3
    rw [q_eComp, src_rng1 (j := m - 1) (by simp [vSub, vInt2]) s1]
    simp only [bind_ok, wE_cons, wE_nil, List.set_cons_succ, List.set_cons_zero]
    rw [compGo_map (g := VI) (fun p => pD (p, p + 1)) (by simp) _ (fun p _ => ⟨_, rfl, [CS st fl, CP ts], by simp [frzL, frz, pD, vAdd], by simp⟩) (by rw [rg_len]; omega)]
    simp [Function.comp_def]
theorem c4_ok {ts : List PI2} (h0 : 0 ≤ m) (h1 : m ≤ 8) : ∃ ps : List PI2, TOk m 8 ps ∧ _law_web_c4 (WE lo hi (some (VI m)) a4 a5 a6 a7 a8) [CS st fl, CP ts] = .ok (.ref 2) [CS st fl, CP ts, CP ps] := by
  refine ⟨(rg 1 (m - 1).toNat).map fun p => (0, p), ⟨fun p hp => ?_, by rw [List.length_map, rg_len]; omega⟩, ?_⟩
  · obtain ⟨a, ha, rfl⟩ := List.mem_map.mp hp
    have := rg_mem ha
    dsimp only; omega
  · have s1 : smallI 1 = true := smallI_of (by omega)
    have s2 : smallI m = true := smallI_of (by omega)
    unfold _law_web_c4
    rw [q_eComp, src_rng2 (i := 1) (j := m) (by simp) s1 s2]
    simp only [bind_ok, wE_cons, wE_nil, List.set_cons_succ, List.set_cons_zero]
    rw [compGo_map (g := VI) (fun p => pD (0, p)) (by simp) _ (fun p _ => ⟨_, rfl, [CS st fl, CP ts], by simp [frzL, frz, pD], by simp⟩) (by rw [rg_len]; omega)]
    simp [Function.comp_def]
def mn (i j : Int) : Int := if j < i then j else i
def mx (i j : Int) : Int := if j > i then j else i
theorem c5_ok {ts : List PI2} {o : List Int} (ho : o.Perm (rg 0 m.toNat)) (h0 : 0 ≤ m) (h1 : m ≤ 8) (tk : TOk m 60 ts) : ∃ ps : List PI2, TOk m 60 ps ∧ _law_web_c5 (WE lo hi (some (VI m)) a4 (some (.im (.tuple (o.map .int)))) a6 (some (.ref 1)) a8) [CS st fl, CP ts] = .ok (.ref 2) [CS st fl, CP ts, CP ps] := by
  have ol : o.length = m.toNat := by rw [ho.length_eq, rg_len]
  have nd : o.Nodup := by
    rw [ho.nodup_iff]
    unfold rg
    rw [List.nodup_iff_pairwise_ne, List.pairwise_map]
    exact List.nodup_range.imp fun h => by omega
  have ob : ∀ i, i < o.length → 0 ≤ o.getD i 0 ∧ o.getD i 0 < m := fun i hi => by
    have : o.getD i 0 ∈ o := by rw [List.getD_eq_getElem?_getD, List.getElem?_eq_getElem hi]; simp
    have := rg_mem (ho.mem_iff.mp this)
    omega
  refine ⟨ts.map fun p => (mn (o.getD p.1.toNat 0) (o.getD p.2.toNat 0), mx (o.getD p.1.toNat 0) (o.getD p.2.toNat 0)), ⟨fun p hp => ?_, by rw [List.length_map]; exact tk.2⟩, ?_⟩
  · obtain ⟨q, hq, rfl⟩ := List.mem_map.mp hp
    obtain ⟨q0, q1, q2⟩ := tk.1 q hq
    have b1 := ob q.1.toNat (by omega)
    have b2 := ob q.2.toNat (by omega)
    have ne : o.getD q.1.toNat 0 ≠ o.getD q.2.toNat 0 := fun e => by
      have l1 : q.1.toNat < o.length := by omega
      have l2 : q.2.toNat < o.length := by omega
      rw [List.getD_eq_getElem?_getD, List.getD_eq_getElem?_getD, List.getElem?_eq_getElem l1, List.getElem?_eq_getElem l2] at e
      have := (List.getElem_inj nd).mp (by simpa using e)
      omega
    generalize o.getD q.1.toNat 0 = x at b1 ne
    generalize o.getD q.2.toNat 0 = y at b2 ne
    unfold mn mx
    dsimp only
    split <;> split <;> omega
  · unfold _law_web_c5
    have src : mSeq (eVar 7) (WE lo hi (some (VI m)) a4 (some (.im (.tuple (o.map .int)))) a6 (some (.ref 1)) a8) [CS st fl, CP ts] = .ok ⟨ts.map fun p => .im (pD p), [(1, ts.map fun p => .im (pD p))]⟩ [CS st fl, CP ts] := by
      simp [seqSrc, imsOf_mapf]
    rw [q_eComp, src]
    simp only [bind_ok, wE_cons, wE_nil, List.set_cons_succ, List.set_cons_zero]
    rw [compGo_map (g := fun p => .im (pD p)) (fun p => pD (mn (o.getD p.1.toNat 0) (o.getD p.2.toNat 0), mx (o.getD p.1.toNat 0) (o.getD p.2.toNat 0))) (okAt_one (by simp)) _ (fun p hp => ?_) (by have := tk.2; omega)]
    · simp [Function.comp_def]
    · obtain ⟨q0, q1, q2⟩ := tk.1 p hp
      have l1 : p.1.toNat < o.length := by omega
      have l2 : p.2.toNat < o.length := by omega
      have p1 : p.1 < (o.length : Int) := by omega
      have p2 : p.2 < (o.length : Int) := by omega
      have p3 : 0 ≤ p.2 := by omega
      refine ⟨_, by simp [Tg.asg, pD, setIs]; rfl, [CS st fl, CP ts], ?_, by simp⟩
      simp [vIdx, itemsOf, atI, ixN, q0, p1, p2, p3, l1, l2, fMin2, fMax2, frzL, frz, pD, mn, mx]
end
end NT

set_option Elab.async false
set_option linter.all false
set_option maxRecDepth 100000
set_option autoImplicit false

namespace NT
open PySem PySem.Spec PyProof.Rows L2 PySem.W
theorem TOk.mono {m : Int} {k j : Nat} {l : List PI2} (t : TOk m k l) (h : k ≤ j) : TOk m j l := ⟨t.1, Nat.le_trans t.2 h⟩
theorem TOk.app {m : Int} {k j : Nat} {l l' : List PI2} (t : TOk m k l) (t' : TOk m j l') : TOk m (k + j) (l ++ l') := ⟨fun p hp => (List.mem_append.mp hp).elim (t.1 p) (t'.1 p), by rw [List.length_append]; have := t.2; have := t'.2; omega⟩
theorem vIn_tup {neg : Bool} {d : PyData} {ds : List PyData} {h : Hs} (e : (okD 8 d && okD 9 (.tuple ds)) = true) : vInS neg (.im d) (.im (.tuple ds)) h = .ok (.im (.bool (neg ^^ ds.any fun z => PyData.eqv z d))) h := by
  simp only [vInS, rdD]
  rw [if_pos e]
abbrev WT (lo hi m : Int) (a4 a5 a6 : Option Val) : En := WE lo hi (some (VI m)) a4 a5 a6 (some (.ref 1)) none
section
variable {lo hi m st full kind : Int} {fl : Bool} {a4 a5 a6 a7 a8 : Option Val}
theorem s5_ok {o : PyData} {ts : List PI2} (h0 : 0 ≤ m) (h1 : m ≤ 8) (tk : TOk m 28 ts) : ∃ (ps : List PI2) (st' : Int), TOk m 60 ps ∧ _law_web_s5 1 (WT lo hi m (some (VI kind)) (some (.im o)) (some (VI full))) [CS st fl, CP ts] = .nx (WT lo hi m (some (VI kind)) (some (.im o)) (some (VI full))) [CS st' fl, CP ps] := by
  unfold _law_web_s5
  have eb := vIn_tup (neg := false) (d := .int kind) (ds := [.int 1, .int 2, .int 3]) (h := [CS st fl, CP ts]) (by simp [okD])
  generalize ([.int 1, .int 2, .int 3] : List PyData).any (fun z => PyData.eqv z (.int kind)) = b at eb
  cases b with
  | false => exact ⟨ts, st, tk.mono (by decide), by simp [frzL, frz, eb]⟩
  | true =>
    obtain ⟨ps, st1, tk1, e1⟩ := c1_ok (lo := lo) (hi := hi) (st := st) (fl := fl) (a4 := some (VI kind)) (a5 := some (.im o)) (a6 := some (VI full)) (a7 := some (.ref 1)) (a8 := none) (ts := ts) h0 h1
    by_cases k2 : kind = 2
    · subst k2
      obtain ⟨qs, st2, tk2, e2⟩ := c2_ok (lo := lo) (hi := hi) (st := st1) (fl := fl) (a4 := some (VI 2)) (a5 := some (.im o)) (a6 := some (VI full)) (a7 := some (.ref 1)) (a8 := none) (ts := ps) h0 h1
      refine ⟨ps ++ qs, st2, (tk1.app tk2).mono (by decide), ?_⟩
      have hz : ps.length + qs.length ≤ 16777216 := by have := tk1.2; have := tk2.2; omega
      simp [frzL, frz, eb, e1, e2, asgn, reuse, vEq, eqVal, vAdd, hz, trunc]
    · refine ⟨ps, st1, tk1.mono (by decide), ?_⟩
      simp [frzL, frz, eb, e1, asgn, reuse, vEq, eqVal, k2, trunc]
theorem s6_ok {o : PyData} {ts : List PI2} (h0 : 0 ≤ m) (h1 : m ≤ 8) (tk : TOk m 60 ts) : ∃ (ps : List PI2), TOk m 60 ps ∧ _law_web_s6 1 (WT lo hi m (some (VI kind)) (some (.im o)) (some (VI full))) [CS st fl, CP ts] = .nx (WT lo hi m (some (VI kind)) (some (.im o)) (some (VI full))) [CS st fl, CP ps] := by
  unfold _law_web_s6
  by_cases k2 : kind = 4
  · by_cases m2 : 2 < m
    · obtain ⟨ps, tk1, e1⟩ := c3_ok (lo := lo) (hi := hi) (st := st) (fl := fl) (a4 := some (VI kind)) (a5 := some (.im o)) (a6 := some (VI full)) (a7 := some (.ref 1)) (a8 := none) (ts := ts) m2 h1
      refine ⟨ps ++ [(0, m - 1)], (tk1.app (j := 1) ⟨fun p hp => ?_, by simp⟩).mono (by decide), ?_⟩
      · rw [List.mem_singleton.mp hp]; dsimp only; omega
      · have hz : ps.length + 1 ≤ 16777216 := by have := tk1.2; omega
        subst k2
        simp [m2, vEq, eqVal, vGt, cmpV, vSub, vInt2, frzL, frz, e1, vAdd, hz, asgn, reuse, trunc, pD]
    · refine ⟨ts, tk, ?_⟩
      simp [k2, m2, vEq, eqVal, vGt, cmpV]
  · refine ⟨ts, tk, ?_⟩
    simp [k2, vEq, eqVal]
theorem s7_ok {o : PyData} {ts : List PI2} (h0 : 0 ≤ m) (h1 : m ≤ 8) (tk : TOk m 60 ts) : ∃ (ps : List PI2) (st' : Int), TOk m 60 ps ∧ _law_web_s7 1 (WT lo hi m (some (VI kind)) (some (.im o)) (some (VI full))) [CS st fl, CP ts] = .nx (WT lo hi m (some (VI kind)) (some (.im o)) (some (VI full))) [CS st' fl, CP ps] := by
  unfold _law_web_s7
  by_cases k2 : kind = 5
  · obtain ⟨ps, tk1, e1⟩ := c4_ok (lo := lo) (hi := hi) (st := st) (fl := fl) (a4 := some (VI kind)) (a5 := some (.im o)) (a6 := some (VI full)) (a7 := some (.ref 1)) (a8 := none) (ts := ts) h0 h1
    obtain ⟨v, st', v0, v1, ev⟩ := take_ok st 2 fl (by omega) (by omega)
    have tk2 : TOk m 28 (pairsL m) := ⟨fun p hp => pairs_mem hp, pairs_len h0 h1⟩
    subst k2
    have ec := call_s1 (h := [CS st fl, CP ts, CP ps, CP (pairsL m), .lst [.ref 2, .ref 3]]) (k := 0) rfl ev
    have v2 : v = 0 ∨ v = 1 := by omega
    rcases v2 with rfl | rfl
    · refine ⟨ps, st', tk1.mono (by decide), ?_⟩
      simp [vEq, eqVal, e1, call1, pairs_ok m h0 h1]
      simp [ec, vIdx, itemsOf, atI, ixN, asgn, reuse]
    · refine ⟨pairsL m, st', tk2.mono (by decide), ?_⟩
      simp [vEq, eqVal, e1, call1, pairs_ok m h0 h1]
      simp [ec, vIdx, itemsOf, atI, ixN, asgn, reuse]
  · refine ⟨ts, st, tk, ?_⟩
    simp [k2, vEq, eqVal]
end
end NT

set_option Elab.async false
set_option linter.all false
set_option maxRecDepth 100000
set_option autoImplicit false

namespace NT
open PySem PySem.Spec PyProof.Rows L2 PySem.W
def WebOk (m : Int) (ts : List PI2) : Prop := 1 ≤ m ∧ m ≤ 8 ∧ Str2 ts ∧ ts.length ≤ 64 ∧ ∀ p ∈ ts, 0 ≤ p.1 ∧ p.1 < p.2 ∧ p.2 < m
def webD (m : Int) (ts : List PI2) : PyData := .tuple [.int m, .tuple (ts.map pD)]
end NT

set_option Elab.async false
set_option linter.all false
set_option maxRecDepth 100000
set_option autoImplicit false

namespace NT
open PySem PySem.Spec PyProof.Rows L2 PySem.W
theorem insP_len (p : PI2) : ∀ l : List PI2, (insP p l).length ≤ l.length + 1
  | [] => by simp [insP]
  | q :: r => by
    unfold insP
    have := insP_len p r
    split
    · simp
    · split <;> simp <;> omega
theorem sortPs_len : ∀ l : List PI2, (sortPs l).length ≤ l.length
  | [] => by simp [sortPs]
  | p :: r => by
    have h1 := insP_len p (sortPs r)
    have h2 := sortPs_len r
    show (insP p (sortPs r)).length ≤ _
    rw [List.length_cons]; omega
theorem web_ok (st lo hi : Int) (fl : Bool) (h0 : 1 ≤ lo) (h1 : lo ≤ hi) (h2 : hi ≤ 8) : ∃ (m : Int) (ts : List PI2) (st' : Int), lo ≤ m ∧ m ≤ hi ∧ WebOk m ts ∧ _law_web_f [.ref 0, VI lo, VI hi] [CS st fl] = .ok (.im (webD m ts)) [CS st' fl] := by
  obtain ⟨v1, st1, b1, c1, e1⟩ := take_ok st (hi - lo + 1) fl (by omega) (by omega)
  obtain ⟨kind, st2, b2, c2, e2⟩ := take_ok st1 8 fl (by omega) (by omega)
  generalize hm : lo + v1 = m
  have m0 : 0 ≤ m := by omega
  have m1 : m ≤ 8 := by omega
  obtain ⟨o, st3, pm, e3⟩ := order_ok st2 m fl m0 m1
  obtain ⟨v4, st4, b4, c4, e4⟩ := take_ok st3 4 fl (by omega) (by omega)
  have hfull : ∃ full : Int, ([2, 3, 5, 7] : List Int)[v4.toNat]? = some full := by
    have : v4.toNat < ([2, 3, 5, 7] : List Int).length := by simp; omega
    exact ⟨_, List.getElem?_eq_getElem this⟩
  obtain ⟨full, hfull⟩ := hfull
  obtain ⟨t5, st5, k5, e5⟩ := c0_ok (lo := lo) (hi := hi) (full := full) (st := st4) (fl := fl) (a4 := some (VI kind)) (a5 := some (.im (.tuple (o.map .int)))) (a7 := none) (a8 := none) m0 m1
  obtain ⟨t6, st6, k6, e6⟩ := s5_ok (lo := lo) (hi := hi) (full := full) (st := st5) (fl := fl) (kind := kind) (o := .tuple (o.map .int)) m0 m1 k5
  obtain ⟨t7, k7, e7⟩ := s6_ok (lo := lo) (hi := hi) (full := full) (st := st6) (fl := fl) (kind := kind) (o := .tuple (o.map .int)) m0 m1 k6
  obtain ⟨t8, st8, k8, e8⟩ := s7_ok (lo := lo) (hi := hi) (full := full) (st := st6) (fl := fl) (kind := kind) (o := .tuple (o.map .int)) m0 m1 k7
  obtain ⟨t9, k9, e9⟩ := c5_ok (lo := lo) (hi := hi) (st := st8) (fl := fl) (a4 := some (VI kind)) (a6 := some (VI full)) (a8 := none) pm m0 m1 k8
  have okp : ∀ q ∈ t9, okP q = true := fun q hq => by
    have := k9.1 q hq
    simp only [okP, decide_eq_true_eq]
    omega
  obtain ⟨q1, q2⟩ := sortPs_ok okp
  refine ⟨m, sortPs t9, st8, by omega, by omega, ⟨by omega, m1, q2, by have := sortPs_len t9; have := k9.2; omega, fun p hp => k9.1 p ((q1 p).mp hp)⟩, ?_⟩
  unfold _law_web_f
  rw [fnOf3]
  unfold _law_web_b
  have f0 : _law_web_s0 1 (WE lo hi none none none none none none) [CS st fl] = .nx (WE lo hi (some (VI m)) none none none none none) [CS st1 fl] := by
    unfold _law_web_s0
    have ec := call_s1 (h := [CS st fl]) (k := 0) rfl e1
    simp [vSub, vInt2, vAdd, ec, hm]
  have f1 : _law_web_s1 1 (WE lo hi (some (VI m)) none none none none none) [CS st1 fl] = .nx (WE lo hi (some (VI m)) (some (VI kind)) none none none none) [CS st2 fl] := by
    unfold _law_web_s1
    have ec := call_s1 (h := [CS st1 fl]) (k := 0) rfl e2
    simp [ec]
  have f2 : _law_web_s2 1 (WE lo hi (some (VI m)) (some (VI kind)) none none none none) [CS st2 fl] = .nx (WE lo hi (some (VI m)) (some (VI kind)) (some (.im (.tuple (o.map .int)))) none none none) [CS st3 fl] := by
    unfold _law_web_s2
    have ec := call_s1 (h := [CS st2 fl]) (k := 0) rfl e3
    simp [ec]
  have f3 : _law_web_s3 1 (WE lo hi (some (VI m)) (some (VI kind)) (some (.im (.tuple (o.map .int)))) none none none) [CS st3 fl] = .nx (WE lo hi (some (VI m)) (some (VI kind)) (some (.im (.tuple (o.map .int)))) (some (VI full)) none none) [CS st4 fl] := by
    unfold _law_web_s3
    have ec := call_s1 (h := [CS st3 fl, .lst [VI 2, VI 3, VI 5, VI 7]]) (k := 0) rfl e4
    have hx : atI [VI 2, VI 3, VI 5, VI 7] v4 = some (VI full) := by
      have : ([VI 2, VI 3, VI 5, VI 7] : List Val) = ([2, 3, 5, 7] : List Int).map VI := rfl
      rw [this]
      simp only [atI, ixN, b4, if_true, List.length_map, List.length_cons, List.length_nil]
      rw [if_pos (by omega)]
      simp only [Option.bind_some, List.getElem?_map, hfull, Option.map_some]
    simp [ec, vIdx, itemsOf, hx, trunc]
  have f4 : _law_web_s4 1 (WE lo hi (some (VI m)) (some (VI kind)) (some (.im (.tuple (o.map .int)))) (some (VI full)) none none) [CS st4 fl] = .nx (WT lo hi m (some (VI kind)) (some (.im (.tuple (o.map .int)))) (some (VI full))) [CS st5 fl, CP t5] := by
    unfold _law_web_s4
    simp [e5, asgn, reuse]
  have f8 : _law_web_s8 1 (WT lo hi m (some (VI kind)) (some (.im (.tuple (o.map .int)))) (some (VI full))) [CS st8 fl, CP t8] = .nx (WE lo hi (some (VI m)) (some (VI kind)) (some (.im (.tuple (o.map .int)))) (some (VI full)) (some (.ref 1)) (some (.ref 2))) [CS st8 fl, CP t8, CP t9] := by
    unfold _law_web_s8
    simp [e9, asgn, reuse]
  have f9 : _law_web_s9 1 (WE lo hi (some (VI m)) (some (VI kind)) (some (.im (.tuple (o.map .int)))) (some (VI full)) (some (.ref 1)) (some (.ref 2))) [CS st8 fl, CP t8, CP t9] = .rt (.im (webD m (sortPs t9))) [CS st8 fl, CP t8, CP t9, CP (sortPs t9)] := by
    unfold _law_web_s9
    have l64 : t9.length < 64 := by have := k9.2; omega
    have al : (decide (t9.length < 64) && t9.all okP) = true := by rw [Bool.and_eq_true, decide_eq_true_eq]; exact ⟨l64, List.all_eq_true.mpr okp⟩
    have hfs : fSortSet [.ref 2] [CS st8 fl, CP t8, CP t9] = .ok (.ref 3) [CS st8 fl, CP t8, CP t9, CP (sortPs t9)] := by
      simp only [fSortSet, lstOf, List.getElem?_cons_succ, List.getElem?_cons_zero, pairsOf_map, al, if_true, List.length_cons, List.length_nil, List.cons_append, List.nil_append]
    have hft : fTuple [.ref 3] [CS st8 fl, CP t8, CP t9, CP (sortPs t9)] = .ok (.im (.tuple ((sortPs t9).map pD))) [CS st8 fl, CP t8, CP t9, CP (sortPs t9)] := by
      simp only [fTuple, lstOf, List.getElem?_cons_succ, List.getElem?_cons_zero, frzL_map]
    simp [hfs, hft, frzL, frz, webD]
  have g0 : (some (Val.ref 0) :: some (VI lo) :: some (VI hi) :: List.replicate (13 - 3) none : En) = WE lo hi none none none none none none := rfl
  simp only [g0, List.length_cons, List.length_nil, Nat.zero_add, q_sSeq, f0, f1, f2, f3, f4, e6, e7, e8, f8, f9, fnEnd_rt, fnFin_im]
  simp [trunc]
end NT

set_option Elab.async false
set_option linter.all false
set_option maxRecDepth 100000
set_option autoImplicit false

namespace NT
open PySem PySem.Spec PyProof.Rows L2 PySem.W
/-! ### near places, in plain words -/
def nbOf (p : Int) (q : PI2) : List Int := (if q.1 = p then [q.2] else []) ++ (if q.2 = p then [q.1] else [])
def nb (ts : List PI2) (p : Int) : List Int := ts.flatMap (nbOf p)
def isort (l : List Int) : List Int := l.mergeSort fun a b => decide (a ≤ b)
def nearL (ts : List PI2) (p : Int) : List Int := isort (nb ts p)
theorem eqv_int (i j : Int) : PyData.eqv (.int i) (.int j) = decide (i = j) := by
  rw [PyData.eqv]
  (rw [Bool.eq_iff_iff, beq_iff_eq, decide_eq_true_eq])
theorem srt_ints (l : List Int) : srt (l.map .int) = (isort l).map .int := by
  unfold srt isort
  have key : ∀ a b : Int, dataLe false id (PyData.int a) (PyData.int b) = decide (a ≤ b) := fun a b => congrFun (congrFun (dataLe_int (β := Int) fun b => b) a) b
  exact (List.map_mergeSort (f := PyData.int) (r := fun a b => decide (a ≤ b)) (s := dataLe false id) fun a _ b _ => (key a b).symm).symm
def TsOk (ts : List PI2) : Prop := (∀ p ∈ ts, p.1 < p.2) ∧ ts.length ≤ 64
theorem any_eqv (l : List Int) (x : Int) : (l.map PyData.int).any (fun z => PyData.eqv z (.int x)) = decide (x ∈ l) := by
  induction l with
  | nil => simp
  | cons a l ih =>
    rw [List.map_cons, List.any_cons, ih, eqv_int]
    by_cases h : a = x
    · simp [h]
    · have : ¬ x = a := fun z => h z.symm
      simp [h, this]
theorem okD_ints (n : Nat) (l : List Int) : (l.map PyData.int).all (okD n) = true := by
  cases n <;> simp [okD]
theorem eqvAll_ints : ∀ l r : List Int, PyData.eqvAll (l.map PyData.int) (r.map PyData.int) = decide (l = r)
  | [], [] => by simp [PyData.eqvAll]
  | [], b :: r => by simp [PyData.eqvAll]
  | a :: l, [] => by simp [PyData.eqvAll]
  | a :: l, b :: r => by
    rw [List.map_cons, List.map_cons, PyData.eqvAll, eqv_int, eqvAll_ints l r]
    by_cases h : a = b <;> by_cases h2 : l = r <;> simp [h, h2]
theorem eqv_lists (l r : List Int) : PyData.eqv (.list (l.map .int)) (.list (r.map .int)) = decide (l = r) := by
  rw [PyData.eqv, eqvAll_ints]
def SS (l : List Int) : Prop := l.Pairwise (· < ·)
theorem ss_eq : ∀ {l m : List Int}, SS l → SS m → (∀ z, z ∈ l ↔ z ∈ m) → l = m
  | [], [], _, _, _ => rfl
  | [], b :: m, _, _, h => by have := (h b).mpr List.mem_cons_self; cases this
  | a :: l, [], _, _, h => by have := (h a).mp List.mem_cons_self; cases this
  | a :: l, b :: m, s, t, h => by
    obtain ⟨s1, s2⟩ := List.pairwise_cons.mp s
    obtain ⟨t1, t2⟩ := List.pairwise_cons.mp t
    have e : a = b := by
      rcases List.mem_cons.mp ((h a).mp List.mem_cons_self) with e | e
      · exact e
      · rcases List.mem_cons.mp ((h b).mpr List.mem_cons_self) with e2 | e2
        · exact e2.symm
        · have := t1 a e
          have := s1 b e2
          omega
    subst e
    congr 1
    refine ss_eq s2 t2 fun z => ⟨fun hz => ?_, fun hz => ?_⟩
    · rcases List.mem_cons.mp ((h z).mp (List.mem_cons_of_mem _ hz)) with e | e
      · have := s1 z hz; rw [e] at this; omega
      · exact e
    · rcases List.mem_cons.mp ((h z).mpr (List.mem_cons_of_mem _ hz)) with e | e
      · have := t1 z hz; rw [e] at this; omega
      · exact e
theorem nbOf_mem {p x : Int} {q : PI2} : x ∈ nbOf p q ↔ (q.1 = p ∧ x = q.2) ∨ (q.2 = p ∧ x = q.1) := by
  unfold nbOf
  rw [List.mem_append]
  by_cases a : q.1 = p <;> by_cases b : q.2 = p <;> simp [a, b]
theorem nb_nodup {ts : List PI2} (p : Int) (st : Str2 ts) (h : ∀ q ∈ ts, q.1 < q.2) : (nb ts p).Nodup := by
  unfold nb
  rw [List.nodup_iff_pairwise_ne, List.pairwise_flatMap]
  refine ⟨fun q hq => ?_, List.Pairwise.imp_of_mem (fun {a b} ha hb hab x hx y hy e => ?_) st⟩
  · have := h q hq
    unfold nbOf
    by_cases a : q.1 = p
    · have b : ¬ q.2 = p := by omega
      simp [a, b]
    · by_cases b : q.2 = p <;> simp [a, b]
  · subst e
    have h1 := h a ha
    have h2 := h b hb
    have : a = b := by
      rcases nbOf_mem.mp hx with ⟨x1, x2⟩ | ⟨x1, x2⟩ <;> rcases nbOf_mem.mp hy with ⟨y1, y2⟩ | ⟨y1, y2⟩
      · exact Prod.ext (by omega) (by omega)
      · omega
      · omega
      · exact Prod.ext (by omega) (by omega)
    rw [this] at hab
    exact absurd hab (Int.lt_irrefl _)
theorem near_ss {ts : List PI2} (p : Int) (st : Str2 ts) (h : ∀ q ∈ ts, q.1 < q.2) : SS (nearL ts p) := by
  have nd : (nearL ts p).Nodup := (List.mergeSort_perm (nb ts p) _).nodup_iff.mpr (nb_nodup p st h)
  have pw : (nearL ts p).Pairwise fun a b => (decide (a ≤ b)) = true := List.pairwise_mergeSort (fun a b c h1 h2 => by simp at *; omega) (fun a b => by simp; omega) _
  exact (pw.and nd).imp fun {a b} ⟨h1, h2⟩ => by
    have : a ≤ b := by simpa using h1
    have : a ≠ b := h2
    omega
theorem nb_len (ts : List PI2) (p : Int) : (nb ts p).length ≤ 2 * ts.length := by
  induction ts with
  | nil => simp [nb]
  | cons q ts ih =>
    have : (nbOf p q).length ≤ 2 := by unfold nbOf; split <;> split <;> simp
    unfold nb at ih ⊢
    rw [List.flatMap_cons, List.length_append, List.length_cons]
    omega
theorem near_len (ts : List PI2) (p : Int) : (nearL ts p).length ≤ 2 * ts.length := by
  unfold nearL isort; rw [List.length_mergeSort]; exact nb_len ts p
structure Wb (m : Int) (ts : List PI2) : Prop where
  st : Str2 ts
  up : ∀ q ∈ ts, q.1 < q.2
  few : ts.length ≤ 64
theorem isort_mem (l : List Int) (x : Int) : x ∈ isort l ↔ x ∈ l := List.mem_mergeSort
theorem near_mem {ts : List PI2} {p x : Int} : x ∈ nearL ts p ↔ (p, x) ∈ ts ∨ (x, p) ∈ ts := by
  unfold nearL nb
  rw [isort_mem, List.mem_flatMap]
  constructor
  · rintro ⟨q, hq, hx⟩
    rcases nbOf_mem.mp hx with ⟨rfl, rfl⟩ | ⟨rfl, rfl⟩
    · exact .inl hq
    · exact .inr hq
  · rintro (h | h)
    · exact ⟨_, h, nbOf_mem.mpr (.inl ⟨rfl, rfl⟩)⟩
    · exact ⟨_, h, nbOf_mem.mpr (.inr ⟨rfl, rfl⟩)⟩
theorem WebOk.wb {m : Int} {ts : List PI2} (w : WebOk m ts) : Wb m ts := ⟨w.2.2.1, fun q hq => (w.2.2.2.2 q hq).2.1, w.2.2.2.1⟩
theorem WebOk.tk {m : Int} {ts : List PI2} (w : WebOk m ts) : TsOk ts := ⟨fun q hq => (w.2.2.2.2 q hq).2.1, w.2.2.2.1⟩
theorem pairsL_mem {m : Int} {q : PI2} : q ∈ pairsL m ↔ 0 ≤ q.1 ∧ q.1 < q.2 ∧ q.2 < m := by
  refine ⟨pairs_mem, fun h => ?_⟩
  unfold pairsL
  refine List.mem_flatMap.mpr ⟨q.1, ?_, ?_⟩
  · unfold rg
    exact List.mem_map.mpr ⟨q.1.toNat, List.mem_range.mpr (by omega), by omega⟩
  · unfold pairsF rg
    refine List.mem_map.mpr ⟨q.2, List.mem_map.mpr ⟨(q.2 - (q.1 + 1)).toNat, List.mem_range.mpr (by omega), by omega⟩, rfl⟩
theorem pairsL_str {m : Int} (h1 : m ≤ 8) : Str2 (pairsL m) := by
  unfold Str2 pairsL
  rw [List.pairwise_flatMap]
  have rp : ∀ (lo : Int) (n : Nat), (rg lo n).Pairwise (· < ·) := fun lo n => by
    unfold rg
    rw [List.pairwise_map]
    exact (List.pairwise_lt_range).imp fun h => by omega
  refine ⟨fun a ha => ?_, List.Pairwise.imp_of_mem (fun {a b} ha hb hab x hx y hy => ?_) (rp 0 _)⟩
  · unfold pairsF
    rw [List.pairwise_map]
    exact (rp _ _).imp fun h => by simp only [cP]; omega
  · unfold pairsF at hx hy
    obtain ⟨x2, hx2, rfl⟩ := List.mem_map.mp hx
    obtain ⟨y2, hy2, rfl⟩ := List.mem_map.mp hy
    have := rg_mem hx2
    have := rg_mem hy2
    have := rg_mem ha
    simp only [cP]
    omega
end NT

set_option Elab.async false
set_option linter.all false
set_option maxRecDepth 100000
set_option autoImplicit false

namespace NT
open PySem PySem.Spec PyProof.Rows L2 PySem.W
/-! ### texts of numbers, webs, rows: plain -/
def numS (n : Int) : Str := Str.ofString (toString n)
abbrev sb : Str := (" " : Str)
abbrev sm : Str := ("-" : Str)
abbrev sc : Str := (":" : Str)
abbrev sNone : Str := ("none" : Str)
def tieS (q : PI2) : Str := numS q.1 ++ sm ++ numS q.2
def headS (m : Int) : Str := numS m ++ sc
def webS (m : Int) (ts : List PI2) : Str := Txt.join sb (headS m :: ts.map tieS)
def rowS (row : List Int) : Str := if row = [] then sNone else Txt.join sb (row.map numS)
theorem tl_num {n : Int} (h0 : 0 ≤ n) (h1 : n < 10) : TL.tl (numS n) = [48 + n.toNat] := by
  obtain ⟨k, rfl⟩ := Int.eq_ofNat_of_zero_le h0
  have := TL.tl_num k
  rw [TL.numL_lt (by omega)] at this
  exact this
theorem tl_sb : TL.tl sb = [32] := by rw [show TL.tl sb = (" " : String).toList.map Char.toNat from TL.tl_ofString " "]; rfl
theorem tl_sm : TL.tl sm = [45] := by rw [show TL.tl sm = ("-" : String).toList.map Char.toNat from TL.tl_ofString "-"]; rfl
theorem tl_sc : TL.tl sc = [58] := by rw [show TL.tl sc = (":" : String).toList.map Char.toNat from TL.tl_ofString ":"]; rfl
theorem tl_none : TL.tl sNone = [110, 111, 110, 101] := by rw [show TL.tl sNone = ("none" : String).toList.map Char.toNat from TL.tl_ofString "none"]; rfl
theorem one_len {z : Str} {c : Nat} (h : TL.tl z = [c]) : z = ⟨#[c]⟩ := TL.ext_tl h
theorem len_num {n : Int} (h0 : 0 ≤ n) (h1 : n < 10) : (numS n).length = 1 := by rw [TL.len_tl, tl_num h0 h1]; rfl
theorem tl_tie {q : PI2} (h : 0 ≤ q.1 ∧ q.1 < 10 ∧ 0 ≤ q.2 ∧ q.2 < 10) : TL.tl (tieS q) = [48 + q.1.toNat, 45, 48 + q.2.toNat] := by
  unfold tieS
  rw [TL.tl_append, TL.tl_append, tl_num h.1 h.2.1, tl_num h.2.2.1 h.2.2.2, tl_sm]
  rfl
theorem tl_head {m : Int} (h0 : 0 ≤ m) (h1 : m < 10) : TL.tl (headS m) = [48 + m.toNat, 58] := by
  unfold headS
  rw [TL.tl_append, tl_num h0 h1, tl_sc]
  rfl
theorem small_cps : sb.cps.all (· < 256) = true ∧ sm.cps.all (· < 256) = true := by
  constructor <;> (rw [← Array.all_toList]; first | (rw [show sb.cps.toList = [32] from tl_sb]; rfl) | (rw [show sm.cps.toList = [45] from tl_sm]; rfl))
theorem split_b {parts : List Str} (ne : parts ≠ []) (h : ∀ p ∈ parts, 32 ∉ TL.tl p) : Txt.split (Txt.join sb parts) sb = parts := TL.split_join tl_sb small_cps.1 ne h
theorem split_m {parts : List Str} (ne : parts ≠ []) (h : ∀ p ∈ parts, 45 ∉ TL.tl p) : Txt.split (Txt.join sm parts) sm = parts := TL.split_join tl_sm small_cps.2 ne h
theorem tie_join (q : PI2) : tieS q = Txt.join sm [numS q.1, numS q.2] := (TL.join_eq sm [numS q.1, numS q.2]).symm
theorem split_tie {q : PI2} (h : 0 ≤ q.1 ∧ q.1 < 10 ∧ 0 ≤ q.2 ∧ q.2 < 10) : Txt.split (tieS q) sm = [numS q.1, numS q.2] := by
  rw [tie_join]
  refine split_m (by simp) fun p hp => ?_
  rcases List.mem_cons.mp hp with rfl | hp
  · rw [tl_num h.1 h.2.1]; simp; omega
  · rw [List.mem_singleton.mp hp, tl_num h.2.2.1 h.2.2.2]; simp; omega
theorem split_web {m : Int} {ts : List PI2} (w : WebOk m ts) : Txt.split (webS m ts) sb = headS m :: ts.map tieS := by
  have m1 := w.1
  have m8 := w.2.1
  refine split_b (by simp) fun p hp => ?_
  rcases List.mem_cons.mp hp with rfl | hp
  · rw [tl_head (by omega) (by omega)]; simp; omega
  · obtain ⟨q, hq, rfl⟩ := List.mem_map.mp hp
    have b := w.2.2.2.2 q hq
    rw [tl_tie (by omega)]
    simp
    omega
theorem split_row {row : List Int} (ne : row ≠ []) (h : ∀ p ∈ row, 0 ≤ p ∧ p < 10) : Txt.split (Txt.join sb (row.map numS)) sb = row.map numS := by
  refine split_b (by simpa using ne) fun p hp => ?_
  obtain ⟨q, hq, rfl⟩ := List.mem_map.mp hp
  have b := h q hq
  rw [tl_num b.1 b.2]
  simp
  omega
/-! ### what a word writes -/
def numIn (z : Str) : PyData := match z.cps.toList with
  | [c] => if 48 ≤ c ∧ c ≤ 56 then .int ((c : Int) - 48) else .none
  | _ => .none
theorem numIn_num {n : Int} (h0 : 0 ≤ n) (h1 : n < 9) : numIn (numS n) = .int n := by
  unfold numIn
  rw [show (numS n).cps.toList = [48 + n.toNat] from tl_num h0 (by omega)]
  simp only
  rw [if_pos (by omega)]
  congr 1
  omega
theorem cut_last' {z : Str} {l : List Nat} {c : Nat} (h : TL.tl z = l ++ [c]) : TL.tl (cutS z (some (-1)) none) = [c] ∧ TL.tl (cutS z none (some (-1))) = l := by
  have hl : z.length = l.length + 1 := by rw [TL.len_tl, h]; simp
  have e1 : HT.sIx z.length 0 (some (-1)) = l.length := by
    show (if (-1 : Int) < 0 then ((-1 : Int) + (z.length : Int)).toNat else min (-1 : Int).toNat z.length) = _
    rw [if_pos (by omega), hl]
    omega
  have e2 : HT.sIx z.length z.length (some (-1)) = l.length := by
    show (if (-1 : Int) < 0 then ((-1 : Int) + (z.length : Int)).toNat else min (-1 : Int).toNat z.length) = _
    rw [if_pos (by omega), hl]
    omega
  constructor
  · show (((z.cps.toList.drop (HT.sIx z.length 0 (some (-1)))).take (HT.sIx z.length z.length none - HT.sIx z.length 0 (some (-1)))).toArray).toList = _
    rw [e1, HT.sIx_none, hl, show z.cps.toList = l ++ [c] from h]
    simp
  · show (((z.cps.toList.drop (HT.sIx z.length 0 none)).take (HT.sIx z.length z.length (some (-1)) - HT.sIx z.length 0 none)).toArray).toList = _
    rw [e2, HT.sIx_none, show z.cps.toList = l ++ [c] from h]
    simp
end NT

set_option Elab.async false
set_option linter.all false
set_option maxRecDepth 100000
set_option maxHeartbeats 4000000
set_option autoImplicit false
namespace NT
open PySem PySem.Spec PyProof.Rows L2 PySem.W
noncomputable def _law_cell_at_w : WF := ofFn _law_cell_at_f
theorem _law_cell_at_sf : SimF _law_cell_at_f _law_cell_at_w := sf_of _
noncomputable def _law_state_w : WF := ofFn _law_state_f
theorem _law_state_sf : SimF _law_state_f _law_state_w := sf_of _
noncomputable def _law_take_w : WF := ofFn _law_take_f
theorem _law_take_sf : SimF _law_take_f _law_take_w := sf_of _
noncomputable def _law_order_w : WF := ofFn _law_order_f
theorem _law_order_sf : SimF _law_order_f _law_order_w := sf_of _
noncomputable def _law_pairs_w : WF := ofFn _law_pairs_f
theorem _law_pairs_sf : SimF _law_pairs_f _law_pairs_w := sf_of _
noncomputable def _law_web_w : WF := ofFn _law_web_f
theorem _law_web_sf : SimF _law_web_f _law_web_w := sf_of _
noncomputable def number_in_x0 : WS := (xIf (wmOr (wT (w2 (wB (wCons (wVar 0) wNil) wLen) (wC (.int 1)) wNe)) (wT (w2 (wVar 0) (wC (.str ("012345678" : Str))) (wInT true)))) (xRet (wC .none)) xNil)
noncomputable def number_in_x1 : WS := (xRet (wB (wCons (wVar 0) wNil) wIntT))
noncomputable def number_in_xb : WS :=
  (xSeq number_in_x0
  number_in_x1)
noncomputable def number_in_w : WF := wFn 1 1 [] number_in_xb
theorem number_in_sf : SimF number_in_f number_in_w := sf_fn (show SimS [] number_in_b number_in_xb from
  (ss_seq (ss_if (sv_mOr (sv_t (sv_2 op_wNe (sv_bL op_wLen (sl_var sl_nil)) sv_c)) (sv_t (sv_2 op_wInT sv_var sv_c))) (ss_ret sv_c) ss_nil)
  (ss_ret (sv_bL op_wIntT (sl_var sl_nil)))))
noncomputable def is_number_x0 : WS := (xRet (weAnd (w1 (wVar 0) (wIsi "int")) (weAnd (weNot (w1 (wVar 0) (wIsi "bool"))) (wChain wLe wLe (wVar 1) (wVar 0) (wVarI 2)))))
noncomputable def is_number_xb : WS :=
  is_number_x0
noncomputable def is_number_w : WF := wFn 3 3 [] is_number_xb
theorem is_number_sf : SimF is_number_f is_number_w := sf_fn (show SimS [] is_number_b is_number_xb from
  (ss_ret (sv_eAnd (sv_1 op_wIsi sv_var) (sv_eAnd (sv_eNot (sv_1 op_wIsi sv_var)) (sv_chain op_wLe op_wLe sv_var sv_var sv_varI)))))
noncomputable def is_tie_x0 : WS := (xIf (wmOr (wmNot (wT (w1 (wVar 0) (wIsi "tuple")))) (wT (w2 (wB (wCons (wVar 0) wNil) wLen) (wC (.int 2)) wNe))) (xRet (wC (.bool false))) xNil)
noncomputable def is_tie_xc0 : VM VV := (wComp (wSeq (some 0) (wCons (wVar 0) wNil)) (.nm 2) wTrue (wCall [some 2, none, none] is_number_w (wCons (wVar 2) (wCons (wC (.int 0)) (wCons (w2 (wVar 1) (wC (.int 1)) wSub) wNil)))) [2])
noncomputable def is_tie_x1 : WS := (xRet (weAnd (wB (wCons is_tie_xc0 wNil) wAll) (w2 (w2 (wVar 0) (wC (.int 0)) wIdx) (w2 (wVar 0) (wC (.int 1)) wIdx) wLt)))
noncomputable def is_tie_xb : WS :=
  (xSeq is_tie_x0
  is_tie_x1)
noncomputable def is_tie_w : WF := wFn 2 3 [] is_tie_xb
theorem is_tie_sf : SimF is_tie_f is_tie_w := sf_fn (show SimS [] is_tie_b is_tie_xb from
  (ss_seq (ss_if (sv_mOr (sv_mNot (sv_t (sv_1 op_wIsi sv_var))) (sv_t (sv_2 op_wNe (sv_bL op_wLen (sl_var sl_nil)) sv_c))) (ss_ret sv_c) ss_nil)
  (ss_ret (sv_eAnd (sv_bL op_wAll (sl_new (sv_comp (sv_seq (sl_var sl_nil)) sv_true (sv_call is_number_sf (sl_var (sl_new sv_c (sl_new (sv_2 op_wSub sv_var sv_c) sl_nil))))) sl_nil)) (sv_2 op_wLt (sv_2 op_wIdx sv_var sv_c) (sv_2 op_wIdx sv_var sv_c))))))
noncomputable def is_web_x0 : WS := (xIf (wmOr (wmNot (wT (w1 (wVar 0) (wIsi "tuple")))) (wmOr (wT (w2 (wB (wCons (wVar 0) wNil) wLen) (wC (.int 2)) wNe)) (wmNot (wT (wCall [none, none, none] is_number_w (wCons (w2 (wVar 0) (wC (.int 0)) wIdx) (wCons (wC (.int 1)) (wCons (wC (.int 8)) wNil)))))))) (xRet (wC (.bool false))) xNil)
noncomputable def is_web_xc0 : VM VV := (wComp (wSeq none (wCons (w2 (wVar 0) (wC (.int 1)) wIdx) wNil)) (.nm 3) wTrue (wCall [some 3, none] is_tie_w (wCons (wVar 3) (wCons (w2 (wVar 0) (wC (.int 0)) wIdx) wNil))) [3])
noncomputable def is_web_x1 : WS := (xIf (wmOr (wmNot (wT (w1 (w2 (wVar 0) (wC (.int 1)) wIdx) (wIsi "tuple")))) (wmNot (wT (wB (wCons is_web_xc0 wNil) wAll)))) (xRet (wC (.bool false))) xNil)
noncomputable def is_web_xc1 : VM VV := (wComp (wZip none none (wCons (w2 (wVar 0) (wC (.int 1)) wIdx) (wCons (wSlice wSl (w2 (wVar 0) (wC (.int 1)) wIdx) (wPart (wC (.int 1))) wNoPart) wNil))) (.tup [1, 2]) wTrue (w2 (wVar 1) (wVar 2) wLt) [1, 2])
noncomputable def is_web_x2 : WS := (xRet (wB (wCons is_web_xc1 wNil) wAll))
noncomputable def is_web_xb : WS :=
  (xSeq is_web_x0
  (xSeq is_web_x1
  is_web_x2))
noncomputable def is_web_w : WF := wFn 1 4 [] is_web_xb
theorem is_web_sf : SimF is_web_f is_web_w := sf_fn (show SimS [] is_web_b is_web_xb from
  (ss_seq (ss_if (sv_mOr (sv_mNot (sv_t (sv_1 op_wIsi sv_var))) (sv_mOr (sv_t (sv_2 op_wNe (sv_bL op_wLen (sl_var sl_nil)) sv_c)) (sv_mNot (sv_t (sv_call is_number_sf (sl_new (sv_2 op_wIdx sv_var sv_c) (sl_new sv_c (sl_new sv_c sl_nil)))))))) (ss_ret sv_c) ss_nil)
  (ss_seq (ss_if (sv_mOr (sv_mNot (sv_t (sv_1 op_wIsi (sv_2 op_wIdx sv_var sv_c)))) (sv_mNot (sv_t (sv_bL op_wAll (sl_new (sv_comp (sv_seq (sl_new (sv_2 op_wIdx sv_var sv_c) sl_nil)) sv_true (sv_call is_tie_sf (sl_var (sl_new (sv_2 op_wIdx sv_var sv_c) sl_nil)))) sl_nil))))) (ss_ret sv_c) ss_nil)
  (ss_ret (sv_bL op_wAll (sl_new (sv_comp (sv_zip (sl_new (sv_2 op_wIdx sv_var sv_c) (sl_new (sv_slice op_wSl (sv_2 op_wIdx sv_var sv_c) (sv_part sv_c) sv_noPart) sl_nil)) (by intro i h; first | (cases h; done) | (cases h; simp))) sv_true (sv_2 op_wLt sv_var sv_var)) sl_nil))))))
noncomputable def web_read_x0 : WS := (xIf (wmNot (wT (w1 (wVar 0) (wIsi "str")))) (xRaise "BadNote") xNil)
noncomputable def web_read_x1 : WS := (xSet 1 (wStrM (wVar 0) (wC (.str (" " : Str))) wSplit))
noncomputable def web_read_x2 : WS := (xIf (wT (w2 (wSlice wSl (w2 (wVar 1) (wC (.int 0)) wIdx) (wPart (w1 (wC (.int 1)) wNeg)) wNoPart) (wC (.str (":" : Str))) wNe)) (xRaise "BadNote") xNil)
noncomputable def web_read_xc0 : VM VV := (wComp (wSeq none (wCons (wStrM (wVar 4) (wC (.str ("-" : Str))) wSplit) wNil)) (.nm 5) wTrue (wCall [some 5] number_in_w (wCons (wVar 5) wNil)) [5])
noncomputable def web_read_xc1 : VM VV := (wComp (wSeq none (wCons (wSlice wSl (wVar 1) (wPart (wC (.int 1))) wNoPart) wNil)) (.nm 4) wTrue (wB (wCons web_read_xc0 wNil) wTuple) [4])
noncomputable def web_read_x3 : WS := (xSet 2 (wB (wCons web_read_xc1 wNil) wTuple))
noncomputable def web_read_x4 : WS := (xSet 3 (wTup (wCons (wCall [none] number_in_w (wCons (wSlice wSl (w2 (wVar 1) (wC (.int 0)) wIdx) wNoPart (wPart (w1 (wC (.int 1)) wNeg))) wNil)) (wCons (wVarI 2) wNil))))
noncomputable def web_read_x5 : WS := (xIf (wmNot (wT (wCall [some 3] is_web_w (wCons (wVar 3) wNil)))) (xRaise "BadNote") xNil)
noncomputable def web_read_x6 : WS := (xRetV 3)
noncomputable def web_read_xb : WS :=
  (xSeq web_read_x0
  (xSeq web_read_x1
  (xSeq web_read_x2
  (xSeq web_read_x3
  (xSeq web_read_x4
  (xSeq web_read_x5
  web_read_x6))))))
noncomputable def web_read_w : WF := wFn 1 6 [1, 2, 3] web_read_xb
theorem web_read_sf : SimF web_read_f web_read_w := sf_fn (show SimS [1, 2, 3] web_read_b web_read_xb from
  (ss_seq (ss_if (sv_mNot (sv_t (sv_1 op_wIsi sv_var))) ss_raise ss_nil)
  (ss_seq (ss_set (sv_str op_wSplit sv_var sv_c))
  (ss_seq (ss_if (sv_t (sv_2 op_wNe (sv_slice op_wSl (sv_2 op_wIdx sv_var sv_c) (sv_part (sv_1 op_wNeg sv_c)) sv_noPart) sv_c)) ss_raise ss_nil)
  (ss_seq (ss_set (sv_bL op_wTuple (sl_new (sv_comp (sv_seq (sl_new (sv_slice op_wSl sv_var (sv_part sv_c) sv_noPart) sl_nil)) sv_true (sv_bL op_wTuple (sl_new (sv_comp (sv_seq (sl_new (sv_str op_wSplit sv_var sv_c) sl_nil)) sv_true (sv_call number_in_sf (sl_var sl_nil))) sl_nil))) sl_nil)))
  (ss_seq (ss_set (sv_tup (sv_cons (sv_call number_in_sf (sl_new (sv_slice op_wSl (sv_2 op_wIdx sv_var sv_c) sv_noPart (sv_part (sv_1 op_wNeg sv_c))) sl_nil)) (sv_cons sv_varI sv_nil))))
  (ss_seq (ss_if (sv_mNot (sv_t (sv_call is_web_sf (sl_var sl_nil)))) ss_raise ss_nil)
  ss_retV)))))))
noncomputable def row_read_x0 : WS := (xIf (wmNot (wT (w1 (wVar 0) (wIsi "str")))) (xRaise "BadNote") xNil)
noncomputable def row_read_x1 : WS := (xIf (wT (w2 (wVar 0) (wC (.str ("none" : Str))) wEq)) (xRet (wTup wNil)) xNil)
noncomputable def row_read_xc0 : VM VV := (wComp (wSeq none (wCons (wStrM (wVar 0) (wC (.str (" " : Str))) wSplit) wNil)) (.nm 2) wTrue (wCall [some 2] number_in_w (wCons (wVar 2) wNil)) [2])
noncomputable def row_read_x2 : WS := (xSet 1 (wB (wCons row_read_xc0 wNil) wTuple))
noncomputable def row_read_x3 : WS := (xIf (wmOr (wT (w2 (wC .none) (wVar 1) (wInS false))) (wmOr (wT (w2 (wC (.int 8)) (wVar 1) (wInS false))) (wT (w2 (wB (wCons (wVar 1) wNil) wLen) (wC (.int 40)) wGt)))) (xRaise "BadNote") xNil)
noncomputable def row_read_x4 : WS := (xRetV 1)
noncomputable def row_read_xb : WS :=
  (xSeq row_read_x0
  (xSeq row_read_x1
  (xSeq row_read_x2
  (xSeq row_read_x3
  row_read_x4))))
noncomputable def row_read_w : WF := wFn 1 3 [1] row_read_xb
theorem row_read_sf : SimF row_read_f row_read_w := sf_fn (show SimS [1] row_read_b row_read_xb from
  (ss_seq (ss_if (sv_mNot (sv_t (sv_1 op_wIsi sv_var))) ss_raise ss_nil)
  (ss_seq (ss_if (sv_t (sv_2 op_wEq sv_var sv_c)) (ss_ret (sv_tup (sv_nil (b := true)))) ss_nil)
  (ss_seq (ss_set (sv_bL op_wTuple (sl_new (sv_comp (sv_seq (sl_new (sv_str op_wSplit sv_var sv_c) sl_nil)) sv_true (sv_call number_in_sf (sl_var sl_nil))) sl_nil)))
  (ss_seq (ss_if (sv_mOr (sv_t (sv_2 op_wInS sv_c sv_var)) (sv_mOr (sv_t (sv_2 op_wInS sv_c sv_var)) (sv_t (sv_2 op_wGt (sv_bL op_wLen (sl_var sl_nil)) sv_c)))) ss_raise ss_nil)
  ss_retV)))))
noncomputable def _law_web_text_xc0 : VM VV := (wComp (wSeq none (wCons (w2 (wVar 0) (wC (.int 1)) wIdx) wNil)) (.tup [1, 2]) wTrue (w2 (w2 (wB (wCons (wVar 1) wNil) wStr) (wC (.str ("-" : Str))) wAdd) (wB (wCons (wVar 2) wNil) wStr) wAdd) [1, 2])
noncomputable def _law_web_text_x0 : WS := (xRet (wStrM (wC (.str (" " : Str))) (w2 (wLst (wCons (w2 (wB (wCons (w2 (wVar 0) (wC (.int 0)) wIdx) wNil) wStr) (wC (.str (":" : Str))) wAdd) wNil)) _law_web_text_xc0 wAdd) wJoin))
noncomputable def _law_web_text_xb : WS :=
  _law_web_text_x0
noncomputable def _law_web_text_w : WF := wFn 1 3 [] _law_web_text_xb
theorem _law_web_text_sf : SimF _law_web_text_f _law_web_text_w := sf_fn (show SimS [] _law_web_text_b _law_web_text_xb from
  (ss_ret (sv_str op_wJoin sv_c (sv_2 op_wAdd (sv_lst (sv_cons (sv_2 op_wAdd (sv_bL op_wStr (sl_new (sv_2 op_wIdx sv_var sv_c) sl_nil)) sv_c) sv_nil)) (sv_comp (sv_seq (sl_new (sv_2 op_wIdx sv_var sv_c) sl_nil)) sv_true (sv_2 op_wAdd (sv_2 op_wAdd (sv_bL op_wStr (sl_var sl_nil)) sv_c) (sv_bL op_wStr (sl_var sl_nil))))))))
noncomputable def _law_row_text_xc0 : VM VV := (wComp (wSeq (some 0) (wCons (wVar 0) wNil)) (.nm 1) wTrue (wB (wCons (wVar 1) wNil) wStr) [1])
noncomputable def _law_row_text_x0 : WS := (xRet (wIf (wT (w2 (wVar 0) (wTup wNil) wEq)) (wC (.str ("none" : Str))) (wStrM (wC (.str (" " : Str))) _law_row_text_xc0 wJoin)))
noncomputable def _law_row_text_xb : WS :=
  _law_row_text_x0
noncomputable def _law_row_text_w : WF := wFn 1 2 [] _law_row_text_xb
theorem _law_row_text_sf : SimF _law_row_text_f _law_row_text_w := sf_fn (show SimS [] _law_row_text_b _law_row_text_xb from
  (ss_ret (sv_if (sv_t (sv_2 op_wEq sv_var (sv_tup (sv_nil (b := true))))) sv_c (sv_str op_wJoin sv_c (sv_comp (sv_seq (sl_var sl_nil)) sv_true (sv_bL op_wStr (sl_var sl_nil)))))))
noncomputable def web_text_xc0 : VM VV := (wComp (wSeq none (wCons (w2 (wVar 0) (wC (.int 1)) wIdx) wNil)) (.tup [1, 2]) wTrue (w2 (w2 (wB (wCons (wVar 1) wNil) wStr) (wC (.str ("-" : Str))) wAdd) (wB (wCons (wVar 2) wNil) wStr) wAdd) [1, 2])
noncomputable def web_text_x0 : WS := (xRet (wStrM (wC (.str (" " : Str))) (w2 (wLst (wCons (w2 (wB (wCons (w2 (wVar 0) (wC (.int 0)) wIdx) wNil) wStr) (wC (.str (":" : Str))) wAdd) wNil)) web_text_xc0 wAdd) wJoin))
noncomputable def web_text_xb : WS :=
  web_text_x0
noncomputable def web_text_w : WF := wFn 1 3 [] web_text_xb
theorem web_text_sf : SimF web_text_f web_text_w := sf_fn (show SimS [] web_text_b web_text_xb from
  (ss_ret (sv_str op_wJoin sv_c (sv_2 op_wAdd (sv_lst (sv_cons (sv_2 op_wAdd (sv_bL op_wStr (sl_new (sv_2 op_wIdx sv_var sv_c) sl_nil)) sv_c) sv_nil)) (sv_comp (sv_seq (sl_new (sv_2 op_wIdx sv_var sv_c) sl_nil)) sv_true (sv_2 op_wAdd (sv_2 op_wAdd (sv_bL op_wStr (sl_var sl_nil)) sv_c) (sv_bL op_wStr (sl_var sl_nil))))))))
noncomputable def row_text_x0 : WS := (xIf (wT (w2 (wVar 0) (wTup wNil) wEq)) (xRet (wC (.str ("none" : Str)))) xNil)
noncomputable def row_text_xc0 : VM VV := (wComp (wSeq (some 0) (wCons (wVar 0) wNil)) (.nm 1) wTrue (wB (wCons (wVar 1) wNil) wStr) [1])
noncomputable def row_text_x1 : WS := (xRet (wStrM (wC (.str (" " : Str))) row_text_xc0 wJoin))
noncomputable def row_text_xb : WS :=
  (xSeq row_text_x0
  row_text_x1)
noncomputable def row_text_w : WF := wFn 1 2 [] row_text_xb
theorem row_text_sf : SimF row_text_f row_text_w := sf_fn (show SimS [] row_text_b row_text_xb from
  (ss_seq (ss_if (sv_t (sv_2 op_wEq sv_var (sv_tup (sv_nil (b := true))))) (ss_ret sv_c) ss_nil)
  (ss_ret (sv_str op_wJoin sv_c (sv_comp (sv_seq (sl_var sl_nil)) sv_true (sv_bL op_wStr (sl_var sl_nil)))))))
noncomputable def _law_plain_r0_w : WF := ofFn _law_plain_r0_f
theorem _law_plain_r0_sf : SimF _law_plain_r0_f _law_plain_r0_w := sf_of _
noncomputable def _law_plain_r1_xc0 : VM VV := (wComp (wSeq (some 0) (wCons (wVar 0) wNil)) (.nm 1) (wmNot (wT (wCall [some 1] _law_plain_r0_w (wCons (wVar 1) wNil)))) (wVarI 1) [1])
noncomputable def _law_plain_r1_x0 : WS := (xIf (wT (w1 (wVar 0) (wIsi "tuple"))) (xRet (w2 _law_plain_r1_xc0 (wLst wNil) wEq)) xNil)
noncomputable def _law_plain_r1_x1 : WS := (xRet (weAnd (w1 (wVar 0) (wIsi "int")) (weNot (w1 (wVar 0) (wIsi "bool")))))
noncomputable def _law_plain_r1_xb : WS :=
  (xSeq _law_plain_r1_x0
  _law_plain_r1_x1)
noncomputable def _law_plain_r1_w : WF := wFn 1 2 [] _law_plain_r1_xb
theorem _law_plain_r1_sf : SimF _law_plain_r1_f _law_plain_r1_w := sf_fn (show SimS [] _law_plain_r1_b _law_plain_r1_xb from
  (ss_seq (ss_if (sv_t (sv_1 op_wIsi sv_var)) (ss_ret (sv_2 op_wEq (sv_comp (sv_seq (sl_var sl_nil)) (sv_mNot (sv_t (sv_call _law_plain_r0_sf (sl_var sl_nil)))) sv_varI) (sv_lst (sv_nil (b := true))))) ss_nil)
  (ss_ret (sv_eAnd (sv_1 op_wIsi sv_var) (sv_eNot (sv_1 op_wIsi sv_var))))))
noncomputable def _law_plain_r2_xc0 : VM VV := (wComp (wSeq (some 0) (wCons (wVar 0) wNil)) (.nm 1) (wmNot (wT (wCall [some 1] _law_plain_r1_w (wCons (wVar 1) wNil)))) (wVarI 1) [1])
noncomputable def _law_plain_r2_x0 : WS := (xIf (wT (w1 (wVar 0) (wIsi "tuple"))) (xRet (w2 _law_plain_r2_xc0 (wLst wNil) wEq)) xNil)
noncomputable def _law_plain_r2_x1 : WS := (xRet (weAnd (w1 (wVar 0) (wIsi "int")) (weNot (w1 (wVar 0) (wIsi "bool")))))
noncomputable def _law_plain_r2_xb : WS :=
  (xSeq _law_plain_r2_x0
  _law_plain_r2_x1)
noncomputable def _law_plain_r2_w : WF := wFn 1 2 [] _law_plain_r2_xb
theorem _law_plain_r2_sf : SimF _law_plain_r2_f _law_plain_r2_w := sf_fn (show SimS [] _law_plain_r2_b _law_plain_r2_xb from
  (ss_seq (ss_if (sv_t (sv_1 op_wIsi sv_var)) (ss_ret (sv_2 op_wEq (sv_comp (sv_seq (sl_var sl_nil)) (sv_mNot (sv_t (sv_call _law_plain_r1_sf (sl_var sl_nil)))) sv_varI) (sv_lst (sv_nil (b := true))))) ss_nil)
  (ss_ret (sv_eAnd (sv_1 op_wIsi sv_var) (sv_eNot (sv_1 op_wIsi sv_var))))))
noncomputable def _law_plain_r3_xc0 : VM VV := (wComp (wSeq (some 0) (wCons (wVar 0) wNil)) (.nm 1) (wmNot (wT (wCall [some 1] _law_plain_r2_w (wCons (wVar 1) wNil)))) (wVarI 1) [1])
noncomputable def _law_plain_r3_x0 : WS := (xIf (wT (w1 (wVar 0) (wIsi "tuple"))) (xRet (w2 _law_plain_r3_xc0 (wLst wNil) wEq)) xNil)
noncomputable def _law_plain_r3_x1 : WS := (xRet (weAnd (w1 (wVar 0) (wIsi "int")) (weNot (w1 (wVar 0) (wIsi "bool")))))
noncomputable def _law_plain_r3_xb : WS :=
  (xSeq _law_plain_r3_x0
  _law_plain_r3_x1)
noncomputable def _law_plain_r3_w : WF := wFn 1 2 [] _law_plain_r3_xb
theorem _law_plain_r3_sf : SimF _law_plain_r3_f _law_plain_r3_w := sf_fn (show SimS [] _law_plain_r3_b _law_plain_r3_xb from
  (ss_seq (ss_if (sv_t (sv_1 op_wIsi sv_var)) (ss_ret (sv_2 op_wEq (sv_comp (sv_seq (sl_var sl_nil)) (sv_mNot (sv_t (sv_call _law_plain_r2_sf (sl_var sl_nil)))) sv_varI) (sv_lst (sv_nil (b := true))))) ss_nil)
  (ss_ret (sv_eAnd (sv_1 op_wIsi sv_var) (sv_eNot (sv_1 op_wIsi sv_var))))))
noncomputable def _law_plain_xc0 : VM VV := (wComp (wSeq (some 0) (wCons (wVar 0) wNil)) (.nm 1) (wmNot (wT (wCall [some 1] _law_plain_r3_w (wCons (wVar 1) wNil)))) (wVarI 1) [1])
noncomputable def _law_plain_x0 : WS := (xIf (wT (w1 (wVar 0) (wIsi "tuple"))) (xRet (w2 _law_plain_xc0 (wLst wNil) wEq)) xNil)
noncomputable def _law_plain_x1 : WS := (xRet (weAnd (w1 (wVar 0) (wIsi "int")) (weNot (w1 (wVar 0) (wIsi "bool")))))
noncomputable def _law_plain_xb : WS :=
  (xSeq _law_plain_x0
  _law_plain_x1)
noncomputable def _law_plain_w : WF := wFn 1 2 [] _law_plain_xb
theorem _law_plain_sf : SimF _law_plain_f _law_plain_w := sf_fn (show SimS [] _law_plain_b _law_plain_xb from
  (ss_seq (ss_if (sv_t (sv_1 op_wIsi sv_var)) (ss_ret (sv_2 op_wEq (sv_comp (sv_seq (sl_var sl_nil)) (sv_mNot (sv_t (sv_call _law_plain_r3_sf (sl_var sl_nil)))) sv_varI) (sv_lst (sv_nil (b := true))))) ss_nil)
  (ss_ret (sv_eAnd (sv_1 op_wIsi sv_var) (sv_eNot (sv_1 op_wIsi sv_var))))))
noncomputable def law_xc0 : VM VV := (wComp (wRng1 (wCons (w2F (wLst (wCons (wC (.int 0)) (wCons (wC (.int 1)) (wCons (wC (.int 3)) (wCons (wC (.int 10)) (wCons (wC (.int 40)) wNil)))))) (wCall [some 2, none] _law_take_w (wCons (wVar 2) (wCons (wC (.int 5)) wNil))) wIdx) wNil)) (.nm 6) wTrue (wCall [some 2, none] _law_take_w (wCons (wVar 2) (wCons (wC (.int 8)) wNil))) [6])
noncomputable def law_xl0 : WS := (xSeq (xSet 2 (wCall [some 0, some 1] _law_state_w (wCons (wVar 0) (wCons (wVar 1) wNil))))
  (xSeq (xSet 3 (wCall [some 2, none, none] _law_web_w (wCons (wVar 2) (wCons (wC (.int 1)) (wCons (wC (.int 8)) wNil)))))
  (xSeq (xSet 4 (wB (wCons law_xc0 wNil) wTuple))
  (xSeq (xIf (wmOr (wT (w2 (wCall [some 3] web_text_w (wCons (wVar 3) wNil)) (wCall [some 3] _law_web_text_w (wCons (wVar 3) wNil)) wNe)) (wT (w2 (wCall [some 4] row_text_w (wCons (wVar 4) wNil)) (wCall [some 4] _law_row_text_w (wCons (wVar 4) wNil)) wNe))) (xRet (wC (.bool false))) xNil)
  (xSeq (xSet 5 (wCall [none] web_read_w (wCons (wCall [some 3] _law_web_text_w (wCons (wVar 3) wNil)) wNil)))
  (xSeq (xIf (wmOr (wT (w2 (wVar 5) (wVar 3) wNe)) (wmNot (wT (wCall [some 5] _law_plain_w (wCons (wVar 5) wNil))))) (xRet (wC (.bool false))) xNil)
  (xSeq (xSet 5 (wCall [none] row_read_w (wCons (wCall [some 4] _law_row_text_w (wCons (wVar 4) wNil)) wNil)))
  (xIf (wmOr (wT (w2 (wVar 5) (wVar 4) wNe)) (wmNot (wT (wCall [some 5] _law_plain_w (wCons (wVar 5) wNil))))) (xRet (wC (.bool false))) xNil))))))))
noncomputable def law_x0 : WS := (xFor (wRng1 (wCons (wB (wCons (wC (.int 1)) (wCons (wB (wCons (wB (wCons (wVar 0) wNil) wLen) (wCons (wC (.int 12)) wNil)) wMin2) wNil)) wMax2) wNil)) (.nm 1) [1, 2, 3, 4, 5, 5] [1, 2, 3, 4, 5] law_xl0)
noncomputable def law_x1 : WS := (xRet (weAnd (w2 (wCall [none] web_text_w (wCons (wTup (wCons (wC (.int 1)) (wCons (wTup wNil) wNil))) wNil)) (wC (.str ("1:" : Str))) wEq) (w2 (wCall [none] row_text_w (wCons (wTup wNil) wNil)) (wC (.str ("none" : Str))) wEq)))
noncomputable def law_xb : WS :=
  (xSeq law_x0
  law_x1)
noncomputable def law_w : WF := wFn 1 7 [1, 2, 3, 4, 5, 5] law_xb
theorem law_sf : SimF law_f law_w := sf_fn (show SimS [1, 2, 3, 4, 5, 5] law_b law_xb from
  (ss_seq (ss_for (T := (.nm 1)) (A := [2, 3, 4, 5, 5]) (fg := [1, 2, 3, 4, 5]) (sv_rng1 (sl_new (sv_bL op_wMax2 (sl_new sv_c (sl_new (sv_bL op_wMin2 (sl_new (sv_bL op_wLen (sl_var sl_nil)) (sl_new sv_c sl_nil))) sl_nil))) sl_nil)) (show SimS _ _ law_xl0 from (ss_seq (ss_set (sv_call _law_state_sf (sl_var (sl_var sl_nil))))
  (ss_seq (ss_set (sv_call _law_web_sf (sl_var (sl_new sv_c (sl_new sv_c sl_nil)))))
  (ss_seq (ss_set (sv_bL op_wTuple (sl_new (sv_comp (sv_rng1 (sl_new (sv_2F op_wIdx (sv_lst (sv_cons sv_c (sv_cons sv_c (sv_cons sv_c (sv_cons sv_c (sv_cons sv_c sv_nil)))))) (sv_call _law_take_sf (sl_var (sl_new sv_c sl_nil)))) sl_nil)) sv_true (sv_call _law_take_sf (sl_var (sl_new sv_c sl_nil)))) sl_nil)))
  (ss_seq (ss_if (sv_mOr (sv_t (sv_2 op_wNe (sv_call web_text_sf (sl_var sl_nil)) (sv_call _law_web_text_sf (sl_var sl_nil)))) (sv_t (sv_2 op_wNe (sv_call row_text_sf (sl_var sl_nil)) (sv_call _law_row_text_sf (sl_var sl_nil))))) (ss_ret sv_c) ss_nil)
  (ss_seq (ss_set (sv_call web_read_sf (sl_new (sv_call _law_web_text_sf (sl_var sl_nil)) sl_nil)))
  (ss_seq (ss_if (sv_mOr (sv_t (sv_2 op_wNe sv_var sv_var)) (sv_mNot (sv_t (sv_call _law_plain_sf (sl_var sl_nil))))) (ss_ret sv_c) ss_nil)
  (ss_seq (ss_set (sv_call row_read_sf (sl_new (sv_call _law_row_text_sf (sl_var sl_nil)) sl_nil)))
  (ss_if (sv_mOr (sv_t (sv_2 op_wNe sv_var sv_var)) (sv_mNot (sv_t (sv_call _law_plain_sf (sl_var sl_nil))))) (ss_ret sv_c) ss_nil))))))))))
  (ss_ret (sv_eAnd (sv_2 op_wEq (sv_call web_text_sf (sl_new (sv_tup (sv_cons sv_c (sv_cons (sv_tup (sv_nil (b := true))) sv_nil))) sl_nil)) sv_c) (sv_2 op_wEq (sv_call row_text_sf (sl_new (sv_tup (sv_nil (b := true))) sl_nil)) sv_c)))))
end NT

set_option Elab.async false
set_option linter.all false
set_option maxRecDepth 100000
set_option autoImplicit false

namespace NT
open PySem PySem.Spec PyProof.Rows L2 PySem.W

/-! ### numbers over values -/
section
variable (i j k : Int) (a b : Bool) (σ : VE) (l r : List PyData)
@[simp] theorem u_add : wAdd (.im (.int i)) (.im (.int j)) = .ok (.im (.int (i + j))) := rfl
@[simp] theorem u_sub : wSub (.im (.int i)) (.im (.int j)) = .ok (.im (.int (i - j))) := rfl
@[simp] theorem u_lt : wLt (.im (.int i)) (.im (.int j)) = .ok (.im (.bool (decide (i < j)))) := rfl
@[simp] theorem u_le : wLe (.im (.int i)) (.im (.int j)) = .ok (.im (.bool (decide (i ≤ j)))) := rfl
@[simp] theorem u_gt : wGt (.im (.int i)) (.im (.int j)) = .ok (.im (.bool (decide (j < i)))) := rfl
@[simp] theorem u_ge : wGe (.im (.int i)) (.im (.int j)) = .ok (.im (.bool (decide (j ≤ i)))) := rfl
@[simp] theorem u_eq : wEq (.im (.int i)) (.im (.int j)) = .ok (.im (.bool (decide (i = j)))) := by simp [wEq, wEqV]
@[simp] theorem u_ne : wNe (.im (.int i)) (.im (.int j)) = .ok (.im (.bool (!decide (i = j)))) := by simp [wNe, wEqV]
@[simp] theorem u_addL : wAdd (.lst l) (.lst r) = if l.length + r.length ≤ 16777216 then .ok (.lst (l ++ r)) else .no := rfl
@[simp] theorem u_max : wMax2 [.im (.int i), .im (.int j)] = .ok (.im (.int (if j > i then j else i))) := rfl
@[simp] theorem u_min : wMin2 [.im (.int i), .im (.int j)] = .ok (.im (.int (if j < i then j else i))) := rfl
@[simp] theorem u_len_l : wLen [.lst l] = .ok (.im (.int l.length)) := rfl
@[simp] theorem u_len_il : wLen [.im (.list l)] = .ok (.im (.int l.length)) := rfl
@[simp] theorem u_len_t : wLen [.im (.tuple l)] = .ok (.im (.int l.length)) := rfl
@[simp] theorem u_tuple_l : wTuple [.lst l] = .ok (.im (.tuple l)) := rfl
@[simp] theorem u_tuple_t : wTuple [.im (.tuple l)] = .ok (.im (.tuple l)) := rfl
@[simp] theorem u_append (d : PyData) : gAppend (.lst l) [.im d] = if l.length < 16777216 then some (.none, .lst (l ++ [d])) else none := rfl
@[simp] theorem u_extend : gExtend (.lst l) [.lst r] = if l.length + r.length ≤ 16777216 then some (.none, .lst (l ++ r)) else none := rfl
@[simp] theorem u_isi_t : wIsi "tuple" (.im (.tuple l)) = .ok (.im (.bool true)) := by
  have : kitB "tuple" "tuple" = some true := by decide +kernel
  simp [wIsi, tyW, tyD', this]
end
@[simp] theorem wasg_nm (i : Nat) (d : PyData) (σ : VE) : wasg (.nm i) d σ = some (σ.set i (some (.im d))) := rfl
theorem wasg_pD (i j : Nat) (p : PI2) (σ : VE) : wasg (.tup [i, j]) (pD p) σ = some ((σ.set i (some (.im (.int p.1)))).set j (some (.im (.int p.2)))) := rfl
theorem wasg_pair (i j : Nat) (d e : PyData) (σ : VE) : wasg (.tup [i, j]) (.tuple [d, e]) σ = some ((σ.set i (some (.im d))).set j (some (.im e))) := rfl
theorem stp_nm {b : WS} {i : Nat} {fg : List Nat} {d : PyData} {σ : VE} : stp b (.nm i) fg d σ = match b (σ.set i (some (.im d))) with
    | .nx σ2 => .nx (forgets fg σ2)
    | .ct σ2 => .nx (forgets fg σ2)
    | .bk σ2 => .bk (forgets fg σ2)
    | x => x := rfl
theorem stp_pD {b : WS} {i j : Nat} {fg : List Nat} {p : PI2} {σ : VE} : stp b (.tup [i, j]) fg (pD p) σ = match b ((σ.set i (some (.im (.int p.1)))).set j (some (.im (.int p.2)))) with
    | .nx σ2 => .nx (forgets fg σ2)
    | .ct σ2 => .nx (forgets fg σ2)
    | .bk σ2 => .bk (forgets fg σ2)
    | x => x := rfl
theorem rngI_eq (lo : Int) (n : Nat) : rngI lo n = (rg lo n).map .int := by simp [rngI, rg, Function.comp_def]

/-! ### calls that only ask -/
theorem runs1 {f : Fn} {d r : PyData} (e : f [.im d] [] = .ok (.im r) []) : ofFn f [.im d] = .ok (.im r) [.im d] :=
  ofFn_eq ⟨_, _, e, .im .nil, rfl, .inl ⟨_, rfl, rfl⟩⟩
theorem runs2 {f : Fn} {d d2 r : PyData} (e : f [.im d, .im d2] [] = .ok (.im r) []) : ofFn f [.im d, .im d2] = .ok (.im r) [.im d, .im d2] :=
  ofFn_eq ⟨_, _, e, .im (.im .nil), rfl, .inl ⟨_, rfl, rfl⟩⟩

/-! ### the law's helpers -/
abbrev WSt (st : Int) (fl : Bool) : VV := .lst [.int st, .bool fl]
abbrev WWeb (m : Int) (ts : List PI2) : VV := .im (webD m ts)
abbrev WScr (ns : List Int) : VV := .im (.list (ns.map .int))
theorem state_v (ns : List Int) (k : Nat) : ∃ st fl, _law_state_w [WScr ns, WI k] = .ok (WSt st fl) [WScr ns, WI k] := by
  obtain ⟨st, fl, e⟩ := state_ok ns k
  exact ⟨st, fl, ofFn_eq ⟨_, _, e, .im (.im .nil), rfl, .inr ⟨rfl, 0, rfl, Nat.le_refl _, rfl⟩⟩⟩
theorem take_v (st many : Int) (fl : Bool) (h0 : 0 < many) (h1 : many < 1073741824) : ∃ v st', 0 ≤ v ∧ v < many ∧ _law_take_w [WSt st fl, WI many] = .ok (WI v) [WSt st' fl, WI many] := by
  obtain ⟨v, st', a, b, e⟩ := take_ok st many fl h0 h1
  exact ⟨v, st', a, b, ofFn_eq ⟨_, _, e, .mu rfl rfl (.im .nil), rfl, .inl ⟨_, rfl, rfl⟩⟩⟩
theorem pairs_v (n : Int) (h0 : 0 ≤ n) (h1 : n ≤ 8) : _law_pairs_w [WI n] = .ok (.lst ((pairsL n).map pD)) [WI n] := by
  have e := pairs_ok n h0 h1
  exact ofFn_eq ⟨_, _, e, .im .nil, rfl, .inr ⟨rfl, 0, rfl, Nat.le_refl _, by simp [VV.cell]⟩⟩
theorem idx_t (l : List PyData) (k : Int) : wIdx (.im (.tuple l)) (.im (.int k)) = match atI l k with | some r => .ok (.im r) | none => .no := rfl
theorem idx_l (l : List PyData) (k : Int) : wIdx (.lst l) (.im (.int k)) = match atI l k with | some r => .ok (.im r) | none => .no := rfl
theorem idx_il (l : List PyData) (k : Int) : wIdx (.im (.list l)) (.im (.int k)) = match atI l k with | some r => .ok (.im r) | none => .no := rfl
@[simp] theorem web_0 (m : Int) (ts : List PI2) : wIdx (WWeb m ts) (.im (.int 0)) = .ok (WI m) := by
  rw [show WWeb m ts = .im (.tuple [.int m, .tuple (ts.map pD)]) from rfl, idx_t]
  simp [atI, ixN]
@[simp] theorem web_1 (m : Int) (ts : List PI2) : wIdx (WWeb m ts) (.im (.int 1)) = .ok (WTu (ts.map pD)) := by
  rw [show WWeb m ts = .im (.tuple [.int m, .tuple (ts.map pD)]) from rfl, idx_t]
  simp [atI, ixN]
@[simp] theorem pD_0 (p : PI2) : wIdx (.im (pD p)) (.im (.int 0)) = .ok (WI p.1) := by
  rw [show pD p = .tuple [.int p.1, .int p.2] from rfl, idx_t]
  simp [atI, ixN]
@[simp] theorem pD_1 (p : PI2) : wIdx (.im (pD p)) (.im (.int 1)) = .ok (WI p.2) := by
  rw [show pD p = .tuple [.int p.1, .int p.2] from rfl, idx_t]
  simp [atI, ixN]
end NT

set_option Elab.async false
set_option linter.all false
set_option maxRecDepth 100000
set_option autoImplicit false

namespace NT
open PySem PySem.Spec PyProof.Rows L2 PySem.W
theorem order_v (st n : Int) (fl : Bool) (h0 : 0 ≤ n) (h1 : n ≤ 8) : ∃ (o : List Int) (st' : Int), o.Perm (rg 0 n.toNat) ∧ _law_order_w [WSt st fl, WI n] = .ok (WTu (o.map .int)) [WSt st' fl, WI n] := by
  obtain ⟨o, st', p, e⟩ := order_ok st n fl h0 h1
  exact ⟨o, st', p, ofFn_eq ⟨_, _, e, .mu rfl rfl (.im .nil), rfl, .inl ⟨_, rfl, rfl⟩⟩⟩
theorem web_v (st lo hi : Int) (fl : Bool) (h0 : 1 ≤ lo) (h1 : lo ≤ hi) (h2 : hi ≤ 8) : ∃ (m : Int) (ts : List PI2) (st' : Int), lo ≤ m ∧ m ≤ hi ∧ WebOk m ts ∧ _law_web_w [WSt st fl, WI lo, WI hi] = .ok (WWeb m ts) [WSt st' fl, WI lo, WI hi] := by
  obtain ⟨m, ts, st', a, b, c, e⟩ := web_ok st lo hi fl h0 h1 h2
  exact ⟨m, ts, st', a, b, c, ofFn_eq ⟨_, _, e, .mu rfl rfl (.im (.im .nil)), rfl, .inl ⟨_, rfl, rfl⟩⟩⟩
end NT

set_option Elab.async false
set_option linter.all false
set_option maxRecDepth 100000
set_option autoImplicit false

namespace NT
open PySem PySem.Spec PyProof.Rows L2 PySem.W
theorem okD_int (n : Nat) (i : Int) : okD n (.int i) = true := by cases n <;> rfl
theorem in_ints (neg : Bool) (l : List Int) (x : Int) : wInS neg (WI x) (WTu (l.map .int)) = .ok (WB (neg ^^ decide (x ∈ l))) := by
  have c : (okD 8 (.int x) && okD 9 (.tuple (l.map .int))) = true := by simp [okD]
  simp only [wInS, dat, c, if_true, any_eqv]
theorem in_intsL (neg : Bool) (l : List Int) (x : Int) : wInS neg (WI x) (.lst (l.map .int)) = .ok (WB (neg ^^ decide (x ∈ l))) := by
  have c : (okD 8 (.int x) && okD 9 (.list (l.map .int))) = true := by simp [okD]
  simp only [wInS, dat, c, if_true, any_eqv]
theorem in_two (neg : Bool) (x a b : Int) : wInS neg (WI x) (WTu [.int a, .int b]) = .ok (WB (neg ^^ decide (x = a ∨ x = b))) := by
  rw [show ([.int a, .int b] : List PyData) = [a, b].map .int from rfl, in_ints]
  simp
theorem sorted_ints (l : List Int) : wSorted [.lst (l.map .int)] = .ok (.lst ((isort l).map .int)) := by
  have c : (alikeB (l.map PyData.int) && sortB (l.map PyData.int) && (l.map PyData.int).all (okD 8)) = true := by
    simp only [Bool.and_eq_true]
    refine ⟨⟨?_, ?_⟩, okD_ints 8 l⟩
    · simp [alikeB, alike]
    · simp [sortB]
  simp only [wSorted, one1, lstW, c, if_true, srt_ints]
end NT

set_option Elab.async false
set_option linter.all false
set_option maxRecDepth 100000
set_option autoImplicit false

namespace NT
open PySem PySem.Spec PyProof.Rows L2 PySem.W

/-! ### turning, in plain words -/
def prs : List Int → List PI2
  | [] => []
  | x :: r => (r.map fun y => (x, y)) ++ prs r
def idx (i : Nat) : List Int → List PI2
  | [] => []
  | x :: r => ((i : Int), x) :: idx (i + 1) r
theorem prs_mem : ∀ {l : List Int} {p : PI2}, SS l → (p ∈ prs l ↔ p.1 ∈ l ∧ p.2 ∈ l ∧ p.1 < p.2)
  | [], p, _ => by simp [prs]
  | x :: r, p, s => by
    obtain ⟨s1, s2⟩ := List.pairwise_cons.mp s
    unfold prs
    rw [List.mem_append, prs_mem s2, List.mem_map]
    constructor
    · rintro (⟨y, hy, rfl⟩ | ⟨a, b, c⟩)
      · exact ⟨List.mem_cons_self, List.mem_cons_of_mem _ hy, s1 y hy⟩
      · exact ⟨List.mem_cons_of_mem _ a, List.mem_cons_of_mem _ b, c⟩
    · rintro ⟨a, b, c⟩
      rcases List.mem_cons.mp a with a | a
      · rcases List.mem_cons.mp b with b | b
        · omega
        · exact .inl ⟨p.2, b, Prod.ext a.symm rfl⟩
      · rcases List.mem_cons.mp b with b | b
        · have := s1 _ a; omega
        · exact .inr ⟨a, b, c⟩
theorem prs_nd : ∀ {l : List Int}, SS l → (prs l).Nodup
  | [], _ => .nil
  | x :: r, s => by
    obtain ⟨s1, s2⟩ := List.pairwise_cons.mp s
    unfold prs
    refine List.nodup_append.mpr ⟨?_, prs_nd s2, fun p hp q hq e => ?_⟩
    · refine List.pairwise_map.mpr (s2.imp fun {a b} h e => ?_)
      injection e with _ e
      omega
    · obtain ⟨y, _, rfl⟩ := List.mem_map.mp hp
      have := (prs_mem s2).mp hq
      rw [← e] at this
      have := s1 _ this.1
      simp only at this
      omega
theorem prs_len : ∀ l : List Int, (prs l).length ≤ l.length * l.length
  | [] => Nat.le_refl _
  | x :: r => by
    have := prs_len r
    unfold prs
    rw [List.length_append, List.length_map, List.length_cons]
    have : (r.length + 1) * (r.length + 1) = r.length * r.length + 2 * r.length + 1 := by
      rw [Nat.add_mul, Nat.mul_add]; omega
    omega
def tog (l : List PI2) (p : PI2) : List PI2 := if p ∈ l then l.filter (fun q => decide (q ≠ p)) else l ++ [p]
theorem tog_nd {l : List PI2} {p : PI2} (nd : l.Nodup) : (tog l p).Nodup := by
  unfold tog
  split
  · exact nd.filter _
  · rename_i h
    exact List.nodup_append.mpr ⟨nd, by simp, fun a ha b hb e => by
      rw [List.mem_singleton.mp hb] at e
      exact h (e ▸ ha)⟩
theorem tog_len (l : List PI2) (p : PI2) : (tog l p).length ≤ l.length + 1 := by
  unfold tog
  split
  · exact Nat.le_trans (List.length_filter_le _ _) (Nat.le_succ _)
  · simp
theorem tog_mem {l : List PI2} {p q : PI2} : q ∈ tog l p ↔ (if q = p then ¬ p ∈ l else q ∈ l) := by
  unfold tog
  by_cases h : p ∈ l <;> by_cases e : q = p
  · simp [h, e]
  · simp [h, e]
  · simp [h, e]
  · simp [h, e]
theorem togs_mem : ∀ (r l : List PI2) (q : PI2), r.Nodup → (q ∈ r.foldl tog l ↔ (if q ∈ r then ¬ q ∈ l else q ∈ l))
  | [], l, q, _ => by simp
  | p :: r, l, q, nd => by
    obtain ⟨n1, n2⟩ := List.nodup_cons.mp nd
    rw [List.foldl_cons, togs_mem r (tog l p) q n2]
    by_cases e : q = p
    · subst e
      simp [n1, tog_mem]
    · by_cases h : q ∈ r
      · simp [h, e, tog_mem]
      · simp [h, e, tog_mem]
theorem togs_nd : ∀ (r l : List PI2), l.Nodup → (r.foldl tog l).Nodup
  | [], _, nd => nd
  | p :: r, l, nd => togs_nd r (tog l p) (tog_nd nd)
theorem srt_pairs {l : List PI2} (nd : l.Nodup) (ok : ∀ q ∈ l, okP q = true) : srt (l.map pD) = (sortPs l).map pD := by
  let le : PI2 → PI2 → Bool := fun p q => decide (p.1 < q.1 ∨ (p.1 = q.1 ∧ p.2 ≤ q.2))
  have key : ∀ p q : PI2, dataLe false id (pD p) (pD q) = le p q := fun p q => congrFun (congrFun (dataLe_ii (β := PI2) (fun p => p.1) fun p => p.2) p) q
  have e1 : srt (l.map pD) = (l.mergeSort le).map pD := (List.map_mergeSort (f := pD) (r := le) (s := dataLe false id) fun a _ b _ => (key a b).symm).symm
  rw [e1]
  congr 1
  obtain ⟨m1, m2⟩ := sortPs_ok ok
  refine str_eq ?_ m2 fun z => by rw [List.mem_mergeSort, m1]
  have nd2 : (l.mergeSort le).Nodup := (List.mergeSort_perm l le).nodup_iff.mpr nd
  have pw : (l.mergeSort le).Pairwise fun a b => le a b = true := List.pairwise_mergeSort (fun a b c h1 h2 => by simp only [le, decide_eq_true_eq] at *; omega) (fun a b => by simp only [le, Bool.or_eq_true, decide_eq_true_eq]; omega) l
  refine (pw.and nd2).imp_of_mem fun {a b} ha hb z => ?_
  obtain ⟨z1, z2⟩ := z
  have oa := ok a (List.mem_mergeSort.mp ha)
  have ob := ok b (List.mem_mergeSort.mp hb)
  simp only [le, decide_eq_true_eq] at z1
  have ne : ¬ (a.1 = b.1 ∧ a.2 = b.2) := fun h => z2 (Prod.ext h.1 h.2)
  simp only [okP, decide_eq_true_eq] at oa ob
  unfold cP
  omega
/-- the ties of the web turned at p -/
def trn (m : Int) (ts : List PI2) (p : Int) : List PI2 := (pairsL m).filter fun q => decide (q ∈ ts) ^^ (decide (q.1 ∈ nearL ts p) && decide (q.2 ∈ nearL ts p))
theorem web_nd {m : Int} {ts : List PI2} (w : WebOk m ts) : ts.Nodup := w.2.2.1.imp fun {a b} h e => by rw [e] at h; exact absurd h (Int.lt_irrefl _)
theorem near_bd {m : Int} {ts : List PI2} (w : WebOk m ts) {p x : Int} (h : x ∈ nearL ts p) : 0 ≤ x ∧ x < m := by
  rcases near_mem.mp h with h | h
  · have := w.2.2.2.2 _ h; simp only at this; omega
  · have := w.2.2.2.2 _ h; simp only at this; omega
theorem pairs_okP {m : Int} (h1 : m ≤ 8) {q : PI2} (h : q ∈ pairsL m) : okP q = true := by
  have := pairs_mem h
  simp only [okP, decide_eq_true_eq]
  omega
theorem web_pairs {m : Int} {ts : List PI2} (w : WebOk m ts) {q : PI2} (h : q ∈ ts) : q ∈ pairsL m := pairsL_mem.mpr (w.2.2.2.2 q h)
theorem trn_mem {m : Int} {ts : List PI2} {p : Int} {q : PI2} : q ∈ trn m ts p ↔ q ∈ pairsL m ∧ ((q ∈ ts) ≠ (q.1 ∈ nearL ts p ∧ q.2 ∈ nearL ts p)) := by
  unfold trn
  rw [List.mem_filter]
  by_cases a : q ∈ ts <;> by_cases b : q.1 ∈ nearL ts p <;> by_cases c : q.2 ∈ nearL ts p <;> simp [a, b, c]
theorem togs_pairs {m : Int} {ts : List PI2} {p : Int} (w : WebOk m ts) {q : PI2} (h : q ∈ (prs (nearL ts p)).foldl tog ts) : q ∈ pairsL m := by
  have ss := near_ss p w.2.2.1 w.tk.1
  rw [togs_mem _ _ _ (prs_nd ss)] at h
  split at h
  · rename_i hq
    obtain ⟨a, b, c⟩ := (prs_mem ss).mp hq
    have := near_bd w a
    have := near_bd w b
    exact pairsL_mem.mpr ⟨by omega, c, by omega⟩
  · exact web_pairs w h
theorem turn_eq {m : Int} {ts : List PI2} (p : Int) (w : WebOk m ts) : sortPs ((prs (nearL ts p)).foldl tog ts) = trn m ts p := by
  have ss := near_ss p w.2.2.1 w.tk.1
  obtain ⟨m1, m2⟩ := sortPs_ok (l := (prs (nearL ts p)).foldl tog ts) fun q hq => pairs_okP w.2.1 (togs_pairs w hq)
  refine str_eq m2 ((pairsL_str w.2.1).filter _) fun z => ?_
  rw [m1]
  constructor
  · intro h
    refine trn_mem.mpr ⟨togs_pairs w h, fun e => ?_⟩
    rw [togs_mem _ _ _ (prs_nd ss)] at h
    have up := pairsL_mem.mp (togs_pairs w (show z ∈ (prs (nearL ts p)).foldl tog ts by rw [togs_mem _ _ _ (prs_nd ss)]; exact h))
    split at h
    · rename_i hq
      have := (prs_mem ss).mp hq
      rw [e] at h
      exact h ⟨this.1, this.2.1⟩
    · rename_i hq
      rw [e] at h
      exact hq ((prs_mem ss).mpr ⟨h.1, h.2, up.2.1⟩)
  · intro h
    obtain ⟨h1, h2⟩ := trn_mem.mp h
    have up := (pairsL_mem.mp h1).2.1
    rw [togs_mem _ _ _ (prs_nd ss)]
    split
    · rename_i hq
      have := (prs_mem ss).mp hq
      intro hz
      exact h2 (propext ⟨fun _ => ⟨this.1, this.2.1⟩, fun _ => hz⟩)
    · rename_i hq
      refine Classical.byContradiction fun hz => h2 (propext ⟨fun q => (hz q).elim, fun q => (hq ((prs_mem ss).mpr ⟨q.1, q.2, up⟩)).elim⟩)
theorem trn_ok {m : Int} {ts : List PI2} (p : Int) (w : WebOk m ts) : WebOk m (trn m ts p) := by
  refine ⟨w.1, w.2.1, (pairsL_str w.2.1).filter _, ?_, fun q hq => pairs_mem (trn_mem.mp hq).1⟩
  have := List.length_filter_le (fun q => decide (q ∈ ts) ^^ (decide (q.1 ∈ nearL ts p) && decide (q.2 ∈ nearL ts p))) (pairsL m)
  have := pairs_len (n := m) (by have := w.1; omega) w.2.1
  unfold trn
  omega
/-- the ties of the web turned along a row -/
def trnR (m : Int) (ts : List PI2) (row : List Int) : List PI2 := row.foldl (trn m) ts
theorem trnR_ok {m : Int} : ∀ (row : List Int) {ts : List PI2}, WebOk m ts → WebOk m (trnR m ts row)
  | [], _, w => w
  | p :: r, _, w => trnR_ok r (trn_ok p w)
end NT

set_option Elab.async false
set_option linter.all false
set_option maxRecDepth 100000
set_option autoImplicit false

namespace NT
open PySem PySem.Spec PyProof.Rows L2 PySem.W
theorem eqv_pD (p q : PI2) : PyData.eqv (pD p) (pD q) = decide (p = q) := by
  rw [show pD p = .tuple ([p.1, p.2].map .int) from rfl, show pD q = .tuple ([q.1, q.2].map .int) from rfl, PyData.eqv, eqvAll_ints, Bool.eq_iff_iff, decide_eq_true_eq, decide_eq_true_eq]
  constructor
  · intro h
    injection h with h1 h2
    injection h2 with h2
    exact Prod.ext h1 h2
  · rintro rfl; rfl
theorem any_eqv_pD (l : List PI2) (x : PI2) : (l.map pD).any (fun z => PyData.eqv z (pD x)) = decide (x ∈ l) := by
  induction l with
  | nil => simp
  | cons a l ih =>
    rw [List.map_cons, List.any_cons, ih, eqv_pD]
    by_cases h : a = x
    · simp [h]
    · have : ¬ x = a := fun z => h z.symm
      simp [h, this]
theorem okD_pD (n : Nat) (p : PI2) : okD (n + 1) (pD p) = true := by simp [pD, okD, okD_int]
theorem okD_pDs (n : Nat) (l : List PI2) : (l.map pD).all (okD (n + 1)) = true := by simp [okD_pD]
theorem in_pD (neg : Bool) (l : List PI2) (x : PI2) : wInS neg (.im (pD x)) (WTu (l.map pD)) = .ok (WB (neg ^^ decide (x ∈ l))) := by
  have c : (okD 8 (pD x) && okD 9 (.tuple (l.map pD))) = true := by
    rw [okD_pD]
    simp only [okD, Bool.true_and]
    exact okD_pDs 7 l
  simp only [wInS, dat, c, if_true, any_eqv_pD]
theorem in_pDL (neg : Bool) (l : List PI2) (x : PI2) : wInS neg (.im (pD x)) (.lst (l.map pD)) = .ok (WB (neg ^^ decide (x ∈ l))) := by
  have c : (okD 8 (pD x) && okD 9 (.list (l.map pD))) = true := by
    rw [okD_pD]
    simp only [okD, Bool.true_and]
    exact okD_pDs 7 l
  simp only [wInS, dat, c, if_true, any_eqv_pD]
theorem eqv_bool (a b : Bool) : PyData.eqv (.bool a) (.bool b) = decide (a = b) := by
  rw [PyData.eqv]
  cases a <;> cases b <;> rfl
theorem eq_bools (neg a b : Bool) : wEqV neg (WB a) (WB b) = .ok (WB (neg ^^ decide (a = b))) := by
  have c : (okD 8 (.bool a) && okD 8 (.bool b)) = true := rfl
  simp only [wEqV, wEqD, dat, c, if_true, eqv_bool]
end NT

set_option Elab.async false
set_option linter.all false
set_option maxRecDepth 100000
set_option autoImplicit false

namespace NT
open PySem PySem.Spec PyProof.Rows L2 PySem.W
/-- how many turns the law takes (an Int throughout: the kernel must not count to 2 ^ 62) -/
theorem law_src (n c : Int) (h0 : 1 ≤ c) (h1 : c ≤ 100) : ∃ j : Int, (if (if c < n then c else n) > 1 then (if c < n then c else n) else 1) = j ∧ 1 ≤ j ∧ j ≤ 100 := by
  refine ⟨_, rfl, ?_, ?_⟩ <;> split <;> split <;> omega
theorem src_v {ns : List Int} {σ : VE} (h : wVar 0 σ = .ok (WScr ns) σ) (c : Int) (h0 : 1 ≤ c := by decide) (h1 : c ≤ 100 := by decide) : ∃ N : Nat, wRng1 (wCons (wB (wCons (wC (.int 1)) (wCons (wB (wCons (wB (wCons (wVar 0) wNil) wLen) (wCons (wC (.int c)) wNil)) wMin2) wNil)) wMax2) wNil) σ = .ok ⟨rngI 0 N, []⟩ σ := by
  obtain ⟨j, ej, h0, h1⟩ := law_src ns.length c h0 h1
  have sm := smallI_of (i := j) (by omega)
  refine ⟨j.toNat, ?_⟩
  simp only [r_rng1, r_cons, r_nil, r_b, r_c, h, vbind_ok, mu_im, true_or, if_true, at_ok, u_len_il, u_min, u_max, List.length_map, ej, int1_i, sm]
/-- a loop whose turns leave the names as they were -/
theorem xGo_same {α : Type} {b : WS} {T : Tg} {fg : List Nat} {ws : List (Nat × List PyData)} {g : α → PyData} {σ : VE} (ok : okW ws σ) (l : List α) (h : ∀ a ∈ l, stp b T fg (g a) σ = .nx σ) : xGo b T ws fg (l.map g) σ = .nx σ := by
  refine (xGo_fold (g := g) (fun (_ : Unit) => σ) (fun s _ => s) (fun r _ => ∀ a ∈ r, stp b T fg (g a) σ = .nx σ) (fun a r s hr => ⟨ok, hr a List.mem_cons_self, fun c hc => hr c (List.mem_cons_of_mem _ hc)⟩) (fun s _ => ok) l () h).1
theorem for_src {ms : VM WSrc} {T : Tg} {A fg : List Nat} {b : WS} {σ : VE} {N : Nat} (hs : ms σ = .ok ⟨rngI 0 N, []⟩ σ) (hf : forgets fg σ = σ) (ho : xGo b T [] fg (rngI 0 N) σ = .nx σ) : xFor ms T A fg b σ = .nx σ := by
  rw [r_for, hs]
  simp [hf, ho]
end NT

set_option Elab.async false
set_option linter.all false
set_option maxRecDepth 100000
set_option autoImplicit false

namespace NT
open PySem PySem.Spec PyProof.Rows L2 PySem.W
theorem eqvAll_pD (l r : List PI2) : PyData.eqvAll (l.map pD) (r.map pD) = decide (l = r) := by
  induction l generalizing r with
  | nil => cases r <;> simp [PyData.eqvAll]
  | cons a l ih =>
    cases r with
    | nil => simp [PyData.eqvAll]
    | cons b r =>
      rw [List.map_cons, List.map_cons, PyData.eqvAll, eqv_pD, ih]
      by_cases h : a = b <;> by_cases h2 : l = r <;> simp [h, h2]
theorem eqv_web (m n : Int) (ts us : List PI2) : PyData.eqv (webD m ts) (webD n us) = decide (m = n ∧ ts = us) := by
  unfold webD
  rw [PyData.eqv, PyData.eqvAll, PyData.eqvAll, PyData.eqvAll, eqv_int, PyData.eqv, eqvAll_pD]
  by_cases h : m = n <;> by_cases h2 : ts = us <;> simp [h, h2]
theorem okD_web (k : Nat) (m : Int) (ts : List PI2) : okD (k + 3) (webD m ts) = true := by
  have := okD_pDs k ts
  simp only [webD, okD, List.all_cons, List.all_nil, Bool.and_true, Bool.true_and]
  exact this
theorem eq_webs (neg : Bool) (m n : Int) (ts us : List PI2) : wEqV neg (WWeb m ts) (WWeb n us) = .ok (WB (neg ^^ decide (m = n ∧ ts = us))) := by
  have c : (okD 8 (webD m ts) && okD 8 (webD n us)) = true := by rw [okD_web 5, okD_web 5]; rfl
  have : wEqV neg (WWeb m ts) (WWeb n us) = wEqD neg (WWeb m ts) (WWeb n us) := rfl
  rw [this]
  simp only [wEqD, dat, c, if_true, eqv_web]
theorem eq_tupI (neg : Bool) (l r : List Int) : wEqV neg (WTu (l.map .int)) (WTu (r.map .int)) = .ok (WB (neg ^^ decide (l = r))) := by
  have c : (okD 8 (.tuple (l.map .int)) && okD 8 (.tuple (r.map .int))) = true := by simp [okD]
  have : wEqV neg (WTu (l.map .int)) (WTu (r.map .int)) = wEqD neg (WTu (l.map .int)) (WTu (r.map .int)) := rfl
  rw [this]
  simp only [wEqD, dat, c, if_true, PyData.eqv, eqvAll_ints]
theorem eq_tupP (neg : Bool) (l r : List PI2) : wEqV neg (WTu (l.map pD)) (WTu (r.map pD)) = .ok (WB (neg ^^ decide (l = r))) := by
  have c : (okD 8 (.tuple (l.map pD)) && okD 8 (.tuple (r.map pD))) = true := by
    simp only [okD, Bool.and_eq_true]
    exact ⟨okD_pDs 6 l, okD_pDs 6 r⟩
  have : wEqV neg (WTu (l.map pD)) (WTu (r.map pD)) = wEqD neg (WTu (l.map pD)) (WTu (r.map pD)) := rfl
  rw [this]
  simp only [wEqD, dat, c, if_true, PyData.eqv, eqvAll_pD]
end NT

set_option Elab.async false
set_option linter.all false
set_option maxRecDepth 100000
set_option autoImplicit false

namespace NT
open PySem PySem.Spec PyProof.Rows L2 PySem.W
/-! ### what type a thing is of -/
def isTD : PyData → Bool
  | .tuple _ => true
  | _ => false
def isID : PyData → Bool
  | .int _ => true
  | .bool _ => true
  | _ => false
def isBD : PyData → Bool
  | .bool _ => true
  | _ => false
theorem kit_7 : (∀ S ∈ ["NoneType", "bool", "int", "str", "list", "dict"], kitB S "tuple" = some false) ∧ kitB "tuple" "tuple" = some true ∧
    (∀ S ∈ ["NoneType", "str", "list", "tuple", "dict"], kitB S "int" = some false) ∧ kitB "int" "int" = some true ∧ kitB "bool" "int" = some true ∧
    (∀ S ∈ ["NoneType", "int", "str", "list", "tuple", "dict"], kitB S "bool" = some false) ∧ kitB "bool" "bool" = some true := by
  decide +kernel
theorem isi_T (d : PyData) : wIsi "tuple" (.im d) = .ok (WB (isTD d)) := by
  obtain ⟨k1, k2, _⟩ := kit_7
  cases d <;> first
    | (simp only [wIsi, tyW, tyD', k2, isTD]; done)
    | (simp only [wIsi, tyW, tyD', k1 "NoneType" (by decide), k1 "bool" (by decide), k1 "int" (by decide), k1 "str" (by decide), k1 "list" (by decide), k1 "dict" (by decide), isTD])
theorem isi_I (d : PyData) : wIsi "int" (.im d) = .ok (WB (isID d)) := by
  obtain ⟨_, _, k1, k2, k3, _⟩ := kit_7
  cases d <;> first
    | (simp only [wIsi, tyW, tyD', k2, k3, isID]; done)
    | (simp only [wIsi, tyW, tyD', k1 "NoneType" (by decide), k1 "str" (by decide), k1 "list" (by decide), k1 "tuple" (by decide), k1 "dict" (by decide), isID])
theorem isi_B (d : PyData) : wIsi "bool" (.im d) = .ok (WB (isBD d)) := by
  obtain ⟨_, _, _, _, _, k1, k2⟩ := kit_7
  cases d <;> first
    | (simp only [wIsi, tyW, tyD', k2, isBD]; done)
    | (simp only [wIsi, tyW, tyD', k1 "NoneType" (by decide), k1 "int" (by decide), k1 "str" (by decide), k1 "list" (by decide), k1 "tuple" (by decide), k1 "dict" (by decide), isBD])
theorem eq_bool2 (a b : Bool) : wEq (WB a) (WB b) = .ok (WB (decide (a = b))) := by
  have c : (okD 8 (.bool a) && okD 8 (.bool b)) = true := rfl
  have e : PyData.eqv (.bool a) (.bool b) = decide (a = b) := by
    rw [PyData.eqv]
    cases a <;> cases b <;> rfl
  simp only [wEq, wEqV, wEqD, dat, c, if_true, e, Bool.false_xor]
theorem int_cases (d : PyData) : (∃ i, d = .int i) ∨ ((isID d && !isBD d) = false ∧ (isID d = false ∨ isBD d = true)) := by
  cases d <;> simp [isID, isBD]
def smallB : PyData → Bool
  | .tuple ds => decide (ds.length ≤ 200)
  | _ => true
theorem idx_ex (L : List PyData) (p : PyData → Bool) (hp : L.all p = true) (v : Int) (h0 : 0 ≤ v) (h1 : v < L.length) : ∃ d, p d = true ∧ wIdx (.lst L) (WI v) = .ok (.im d) := by
  have hv : v.toNat < L.length := by omega
  have e : atI L v = some L[v.toNat] := by
    unfold atI ixN
    rw [if_pos h0, if_pos (by omega)]
    show L[v.toNat]? = _
    exact List.getElem?_eq_getElem hv
  refine ⟨L[v.toNat], List.all_eq_true.mp hp _ (List.getElem_mem hv), ?_⟩
  simp only [wIdx, itemsW, e]
theorem sl_t (l : List PyData) (lo hi : Option Int) : wSl (.im (.tuple l)) lo hi = .ok (.im (.tuple (cutG l lo hi))) := rfl
theorem add_t (a b : List PyData) (h : a.length + b.length ≤ 16777216) : wAdd (.im (.tuple a)) (.im (.tuple b)) = .ok (.im (.tuple (a ++ b))) := by simp only [wAdd, if_pos h]
theorem list_t (l : List PyData) : wList [.im (.tuple l)] = .ok (.lst l) := rfl
theorem cut_len (l : List PyData) (lo hi : Option Int) : (cutG l lo hi).length ≤ l.length := by
  unfold cutG
  rw [List.length_take, List.length_drop]
  omega
end NT

set_option Elab.async false
set_option linter.all false
set_option maxRecDepth 100000
set_option autoImplicit false

namespace NT
open PySem PySem.Spec PyProof.Rows L2 PySem.W
/-! ### whether a thing is a whole number from lo to hi -/
def numB (lo hi : Int) : PyData → Bool
  | .int i => decide (lo ≤ i) && decide (i ≤ hi)
  | _ => false
theorem num_v (d : PyData) (lo hi : Int) : is_number_w [.im d, WI lo, WI hi] = .ok (WB (numB lo hi d)) [.im d, WI lo, WI hi] := by
  have b1 := isi_I d
  have b2 := isi_B d
  unfold is_number_w is_number_xb is_number_x0
  rcases int_cases d with ⟨i, rfl⟩ | ⟨h1, h2⟩
  · by_cases c1 : lo ≤ i <;> by_cases c2 : i ≤ hi <;> simp [b1, b2, isID, isBD, numB, andA, c1, c2, r_outs]
  · have e : numB lo hi d = false := by cases d <;> first | rfl | (simp [isID, isBD] at h1)
    rw [e]
    rcases h2 with h2 | h2
    · rw [h2] at b1
      simp [b1, andA, r_outs]
    · have h3 : isID d = true := by cases d <;> first | rfl | cases h2
      rw [h2] at b2
      rw [h3] at b1
      simp [b1, b2, andA, r_outs]
theorem num_ints {lo hi : Int} : ∀ (ds : List PyData), ds.all (numB lo hi) = true → ∃ is : List Int, ds = is.map .int
  | [], _ => ⟨[], rfl⟩
  | d :: ds, h => by
    rw [List.all_cons, Bool.and_eq_true] at h
    obtain ⟨is, e⟩ := num_ints ds h.2
    cases d with
    | int i => exact ⟨i :: is, by rw [e]; rfl⟩
    | _ => cases h.1
theorem all_bools (l : List PyData) (p : PyData → Bool) : wAll [.lst (l.map fun d => .bool (p d))] = .ok (WB (l.all p)) := by
  have : (l.map fun d => PyData.bool (p d)) = (l.map p).map .bool := by simp
  simp only [wAll, one1, lstW, this, boolsD_map, List.all_map]
  rfl
end NT

set_option Elab.async false
set_option linter.all false
set_option maxRecDepth 100000
set_option autoImplicit false

namespace NT
open PySem PySem.Spec PyProof.Rows L2 PySem.W
/-! ### what a tie, a web is -/
def ltP (p q : PI2) : Bool := decide (p.1 < q.1 ∨ (p.1 = q.1 ∧ p.2 < q.2))
theorem okD_pD2 (n : Nat) (p : PI2) : okD (n + 1) (pD p) = true := by cases n <;> simp [pD, okD]
theorem alike_pD (p q : PI2) : alike (pD p) (pD q) = true := by simp [pD, alike, alikeAll]
theorem lt_pD (p q : PI2) : wLt (.im (pD p)) (.im (pD q)) = .ok (WB (ltP p q)) := by
  have c : (alike (pD p) (pD q) && !isNoneD (pD p) && okD 8 (pD p) && okD 8 (pD q)) = true := by
    rw [alike_pD, okD_pD2 7, okD_pD2 7]; rfl
  have e : wLt (.im (pD p)) (.im (pD q)) = wCmpD dataLt (.im (pD p)) (.im (pD q)) := rfl
  rw [e]
  simp only [wCmpD, dat, c, if_true]
  rw [show dataLt (pD p) (pD q) = ltP p q from dataLt_ii p.1 p.2 q.1 q.2]
theorem le_pD (p q : PI2) : wLe (.im (pD p)) (.im (pD q)) = .ok (WB (!ltP q p)) := by
  have c : (alike (pD p) (pD q) && !isNoneD (pD p) && okD 8 (pD p) && okD 8 (pD q)) = true := by
    rw [alike_pD, okD_pD2 7, okD_pD2 7]; rfl
  have e : wLe (.im (pD p)) (.im (pD q)) = wCmpD (fun d e => !dataLt e d) (.im (pD p)) (.im (pD q)) := rfl
  rw [e]
  simp only [wCmpD, dat, c, if_true]
  rw [show dataLt (pD q) (pD p) = ltP q p from dataLt_ii q.1 q.2 p.1 p.2]
def tieB (m : Int) : PyData → Bool
  | .tuple [x, y] => match x, y with
    | .int a, .int b => decide (0 ≤ a) && decide (a ≤ m - 1) && (decide (0 ≤ b) && decide (b ≤ m - 1)) && decide (a < b)
    | _, _ => false
  | _ => false
theorem tie_cases (m : Int) (d : PyData) : (isTD d = false ∧ tieB m d = false) ∨ (∃ ds : List PyData, d = .tuple ds ∧ ds.length ≠ 2 ∧ tieB m d = false) ∨ (∃ x y, d = .tuple [x, y] ∧ (numB 0 (m - 1) x && numB 0 (m - 1) y) = false ∧ tieB m d = false) ∨ ∃ p : PI2, d = pD p ∧ (0 ≤ p.1 ∧ p.1 ≤ m - 1 ∧ 0 ≤ p.2 ∧ p.2 ≤ m - 1) ∧ tieB m d = decide (p.1 < p.2) := by
  cases d with
  | tuple ds =>
    match ds with
    | [] => exact .inr (.inl ⟨_, rfl, by simp, rfl⟩)
    | [_] => exact .inr (.inl ⟨_, rfl, by simp, rfl⟩)
    | [x, y] =>
      refine .inr (.inr ?_)
      by_cases h : (numB 0 (m - 1) x && numB 0 (m - 1) y) = true
      · cases x with
        | int a =>
          cases y with
          | int b =>
            simp only [numB, Bool.and_eq_true, decide_eq_true_eq] at h
            exact .inr ⟨(a, b), rfl, ⟨h.1.1, h.1.2, h.2.1, h.2.2⟩, by simp [tieB, h]⟩
          | _ => simp [numB] at h
        | _ => simp [numB] at h
      · have h' := Bool.eq_false_iff.mpr h
        refine .inl ⟨x, y, rfl, h', ?_⟩
        cases x with
        | int a =>
          cases y with
          | int b =>
            simp only [numB] at h'
            simp only [tieB, h', Bool.false_and]
          | _ => rfl
        | _ => rfl
    | _ :: _ :: _ :: _ => exact .inr (.inl ⟨_, rfl, by simp, rfl⟩)
  | _ => exact .inl ⟨rfl, rfl⟩
theorem is_tie_v (d : PyData) (m : Int) : is_tie_w [.im d, WI m] = .ok (WB (tieB m d)) [.im d, WI m] := by
  have b := isi_T d
  have hx : ∀ x y : PyData, d = .tuple [x, y] → is_tie_xc0 [some (.im d), some (WI m), none] = .ok (.lst ([x, y].map fun d => .bool (numB 0 (m - 1) d))) [some (.im d), some (WI m), none] := fun x y e => by
    have hg := wc_map (T := .nm 2) (ws := []) (e := wCall [some 2, none, none] is_number_w (wCons (wVar 2) (wCons (wC (.int 0)) (wCons (w2 (wVar 1) (wC (.int 1)) wSub) wNil)))) (vs := [2]) (g := id) (σ := [some (.im d), some (WI m), none]) (by simp) (fun d => .bool (numB 0 (m - 1) d)) [x, y] (fun d _ => ⟨_, rfl, by
      have := num_v d 0 (m - 1)
      simp [this], by simp⟩) (by simp)
    rw [List.map_id, e] at hg
    unfold is_tie_xc0
    rw [e]
    simp [hg]
  rcases tie_cases m d with ⟨h1, h2⟩ | ⟨ds, rfl, h1, h2⟩ | ⟨x, y, rfl, h1, h2⟩ | ⟨p, rfl, hp, h2⟩
  · rw [h1] at b
    rw [h2]
    unfold is_tie_w is_tie_xb is_tie_x0
    simp [b, r_outs]
  · rw [h2]
    have h1' : ¬ (ds.length : Int) = 2 := by omega
    unfold is_tie_w is_tie_xb is_tie_x0
    simp [b, isTD, h1', r_outs]
  · have hc := hx x y rfl
    have ha := all_bools [x, y] (numB 0 (m - 1))
    have he : [x, y].all (numB 0 (m - 1)) = false := by simpa using h1
    rw [he] at ha
    rw [h2]
    generalize ([x, y].map fun d => PyData.bool (numB 0 (m - 1) d)) = B at hc ha
    unfold is_tie_w is_tie_xb is_tie_x0 is_tie_x1
    simp [b, isTD, hc, ha, andA, r_outs]
  · have hc := hx (.int p.1) (.int p.2) rfl
    have ha := all_bools [.int p.1, .int p.2] (numB 0 (m - 1))
    have he : [PyData.int p.1, .int p.2].all (numB 0 (m - 1)) = true := by simp [numB]; omega
    rw [he] at ha
    rw [h2]
    unfold pD at hc b ⊢
    generalize ([PyData.int p.1, .int p.2].map fun d => PyData.bool (numB 0 (m - 1) d)) = B at hc ha
    have i0 : wIdx (.im (.tuple [.int p.1, .int p.2])) (WI 0) = .ok (WI p.1) := rfl
    have i1 : wIdx (.im (.tuple [.int p.1, .int p.2])) (WI 1) = .ok (WI p.2) := rfl
    unfold is_tie_w is_tie_xb is_tie_x0 is_tie_x1
    simp [b, isTD, hc, ha, andA, i0, i1, r_outs]
def chainP : PI2 → List PI2 → Bool
  | _, [] => true
  | a, b :: r => ltP a b && chainP b r
theorem ties_pD {m : Int} : ∀ l : List PyData, l.all (tieB m) = true → ∃ ps : List PI2, l = ps.map pD ∧ ∀ p ∈ ps, 0 ≤ p.1 ∧ p.1 < p.2 ∧ p.2 < m
  | [], _ => ⟨[], rfl, by simp⟩
  | d :: l, h => by
    rw [List.all_cons, Bool.and_eq_true] at h
    obtain ⟨ps, e, hp⟩ := ties_pD l h.2
    rcases tie_cases m d with ⟨_, h2⟩ | ⟨_, _, _, h2⟩ | ⟨_, _, _, _, h2⟩ | ⟨p, rfl, hq, h2⟩
    · rw [h2] at h; cases h.1
    · rw [h2] at h; cases h.1
    · rw [h2] at h; cases h.1
    · have h3 := h.1
      rw [h2, decide_eq_true_eq] at h3
      refine ⟨p :: ps, by rw [e]; rfl, fun q hq2 => ?_⟩
      rcases List.mem_cons.mp hq2 with rfl | hq2
      · omega
      · exact hp q hq2
/-- a web's ties, one behind the other -/
def pO : PyData → PI2
  | .tuple [.int a, .int b] => (a, b)
  | _ => (0, 0)
theorem pO_pD (p : PI2) : pO (pD p) = p := rfl
def goB (m : Int) : PI2 → List PyData → Bool
  | _, [] => true
  | last, d :: r => tieB m d && (ltP last (pO d) && goB m (pO d) r)
theorem goB_pD {m : Int} : ∀ (ps : List PI2) (last : PI2), (∀ p ∈ ps, 0 ≤ p.1 ∧ p.1 < p.2 ∧ p.2 < m) → goB m last (ps.map pD) = chainP last ps
  | [], _, _ => rfl
  | p :: ps, last, h => by
    have hp := h p List.mem_cons_self
    have e : tieB m (pD p) = true := by simp [tieB, pD]; omega
    rw [List.map_cons, goB, e, Bool.true_and, chainP, pO_pD, goB_pD ps _ fun q hq => h q (List.mem_cons_of_mem _ hq)]
theorem goB_odd {m : Int} : ∀ (l : List PyData) (last : PI2), l.all (tieB m) = false → goB m last l = false
  | [], _, h => by cases h
  | d :: l, last, h => by
    rw [List.all_cons] at h
    rw [goB]
    cases hd : tieB m d with
    | false => rfl
    | true =>
      rw [hd, Bool.true_and] at h
      rw [goB_odd l _ h, Bool.and_false, Bool.and_false]
def webB : PyData → Bool
  | .tuple [x, y] => match x, y with
    | .int m, .tuple l => decide (1 ≤ m) && decide (m ≤ 8) && goB m (-1, -1) l
    | _, _ => false
  | _ => false
theorem web_cases (d : PyData) : (isTD d = false ∧ webB d = false) ∨ (∃ ds : List PyData, d = .tuple ds ∧ ds.length ≠ 2 ∧ webB d = false) ∨ (∃ x y, d = .tuple [x, y] ∧ numB 1 8 x = false ∧ webB d = false) ∨ (∃ m y, d = .tuple [.int m, y] ∧ numB 1 8 (.int m) = true ∧ isTD y = false ∧ webB d = false) ∨ ∃ (m : Int) (l : List PyData), d = .tuple [.int m, .tuple l] ∧ numB 1 8 (.int m) = true ∧ webB d = goB m (-1, -1) l := by
  cases d with
  | tuple ds =>
    match ds with
    | [] => exact .inr (.inl ⟨_, rfl, by simp, rfl⟩)
    | [_] => exact .inr (.inl ⟨_, rfl, by simp, rfl⟩)
    | [x, y] =>
      refine .inr (.inr ?_)
      by_cases h : numB 1 8 x = true
      · cases x with
        | int m =>
          cases y with
          | tuple l =>
            refine .inr (.inr ⟨m, l, rfl, h, ?_⟩)
            have h' : (decide (1 ≤ m) && decide (m ≤ 8)) = true := h
            simp only [webB, h', Bool.true_and]
          | _ => exact .inr (.inl ⟨m, _, rfl, h, rfl, rfl⟩)
        | _ => cases h
      · have h' := Bool.eq_false_iff.mpr h
        refine .inl ⟨x, y, rfl, h', ?_⟩
        cases x with
        | int a =>
          cases y with
          | tuple l =>
            have h2 : (decide (1 ≤ a) && decide (a ≤ 8)) = false := h'
            simp only [webB, h2, Bool.false_and]
          | _ => rfl
        | _ => rfl
    | _ :: _ :: _ :: _ => exact .inr (.inl ⟨_, rfl, by simp, rfl⟩)
  | _ => exact .inl ⟨rfl, rfl⟩
def small2 : PyData → Bool
  | .tuple [_, .tuple l] => decide (l.length ≤ 200)
  | _ => true
theorem zip_go : ∀ (a : PI2) (r : List PI2), (zipV ((a :: r).map pD) (r.map pD)).map id = (zipV ((a :: r).map pD) (r.map pD)) ∧ ∃ zs : List (PI2 × PI2), zipV ((a :: r).map pD) (r.map pD) = zs.map (fun z => .tuple [pD z.1, pD z.2]) ∧ zs.length = r.length ∧ zs.all (fun z => ltP z.1 z.2) = chainP a r
  | a, [] => ⟨by simp, [], rfl, rfl, rfl⟩
  | a, b :: r => by
    obtain ⟨_, zs, e, el, ea⟩ := zip_go b r
    refine ⟨by simp, (a, b) :: zs, ?_, by simp [el], by simp only [List.all_cons, ea, chainP]⟩
    show PyData.tuple [pD a, pD b] :: zipV ((b :: r).map pD) (r.map pD) = _
    rw [e]
    rfl
theorem cut_tail {α : Type} (l : List α) : cutG l (some (1 : Int)) none = l.drop 1 := by
  cases l with
  | nil => rfl
  | cons a r =>
    unfold cutG HT.sIx
    simp
theorem is_web_v (d : PyData) (hs : small2 d = true) : is_web_w [.im d] = .ok (WB (webB d)) [.im d] := by
  have b := isi_T d
  rcases web_cases d with ⟨h1, h2⟩ | ⟨ds, rfl, h1, h2⟩ | ⟨x, y, rfl, h1, h2⟩ | ⟨m, y, rfl, h1, h3, h2⟩ | ⟨m, l, rfl, h1, h2⟩
  · rw [h1] at b
    rw [h2]
    unfold is_web_w is_web_xb is_web_x0
    simp [b, r_outs]
  · rw [h2]
    have h1' : ¬ (ds.length : Int) = 2 := by omega
    unfold is_web_w is_web_xb is_web_x0
    simp [b, isTD, h1', r_outs]
  · have hn := num_v x 1 8
    rw [h1] at hn
    have i0 : wIdx (.im (.tuple [x, y])) (WI 0) = .ok (.im x) := rfl
    rw [h2]
    unfold is_web_w is_web_xb is_web_x0
    simp [b, isTD, i0, hn, r_outs]
  · have hn := num_v (.int m) 1 8
    rw [h1] at hn
    have by' := isi_T y
    rw [h3] at by'
    have i0 : wIdx (.im (.tuple [.int m, y])) (WI 0) = .ok (WI m) := rfl
    have i1 : wIdx (.im (.tuple [.int m, y])) (WI 1) = .ok (.im y) := rfl
    rw [h2]
    unfold is_web_w is_web_xb is_web_x0 is_web_x1
    simp [b, isTD, i0, i1, hn, by', r_outs]
  · have hn := num_v (.int m) 1 8
    rw [h1] at hn
    have hl : l.length ≤ 200 := by simpa [small2] using hs
    have i0 : wIdx (.im (.tuple [.int m, .tuple l])) (WI 0) = .ok (WI m) := rfl
    have i1 : wIdx (.im (.tuple [.int m, .tuple l])) (WI 1) = .ok (WTu l) := rfl
    have bt : wIsi "tuple" (WTu l) = .ok (WB true) := isi_T (.tuple l)
    have hx : is_web_xc0 [some (.im (.tuple [.int m, .tuple l])), none, none, none] = .ok (.lst (l.map fun d => .bool (tieB m d))) [some (.im (.tuple [.int m, .tuple l])), none, none, none] := by
      have hg := wc_map (T := .nm 3) (ws := []) (e := wCall [some 3, none] is_tie_w (wCons (wVar 3) (wCons (w2 (wVar 0) (wC (.int 0)) wIdx) wNil))) (vs := [3]) (g := id) (σ := [some (.im (.tuple [.int m, .tuple l])), none, none, none]) (by simp) (fun d => .bool (tieB m d)) l (fun d _ => ⟨_, rfl, by
        have := is_tie_v d m
        simp [i0, this], by simp⟩) (by omega)
      rw [List.map_id] at hg
      unfold is_web_xc0
      simp [i1, hg]
    have ha := all_bools l (tieB m)
    rw [h2]
    cases hal : l.all (tieB m) with
    | false =>
      rw [hal] at ha
      rw [goB_odd l _ hal]
      generalize (l.map fun d => PyData.bool (tieB m d)) = B at hx ha
      unfold is_web_w is_web_xb is_web_x0 is_web_x1
      simp [b, isTD, i0, i1, hn, bt, hx, ha, r_outs]
    | true =>
      rw [hal] at ha
      obtain ⟨ps, rfl, hp⟩ := ties_pD l hal
      have hz : ∃ bs : List Bool, is_web_xc1 [some (.im (.tuple [.int m, .tuple (ps.map pD)])), none, none, none] = .ok (.lst (bs.map .bool)) [some (.im (.tuple [.int m, .tuple (ps.map pD)])), none, none, none] ∧ bs.all id = goB m (-1, -1) (ps.map pD) := by
        have ct : cutG (ps.map pD) (some (1 : Int)) none = (ps.map pD).tail := by rw [cut_tail]; simp
        have key : ∃ zs : List (PI2 × PI2), zipV (ps.map pD) (ps.map pD).tail = zs.map (fun z => .tuple [pD z.1, pD z.2]) ∧ zs.length ≤ ps.length ∧ zs.all (fun z => ltP z.1 z.2) = goB m (-1, -1) (ps.map pD) := by
          cases ps with
          | nil => exact ⟨[], rfl, by simp, rfl⟩
          | cons a r =>
            obtain ⟨_, zs, e, el, ea⟩ := zip_go a r
            refine ⟨zs, e, by simp [el], ?_⟩
            rw [goB_pD _ _ hp, chainP, ea]
            have := hp a List.mem_cons_self
            have : ltP (-1, -1) a = true := by simp [ltP]; omega
            rw [this, Bool.true_and]
        obtain ⟨zs, e, el, ea⟩ := key
        have hg := wc_map (T := .tup [1, 2]) (ws := []) (e := w2 (wVar 1) (wVar 2) wLt) (vs := [1, 2]) (g := fun z : PI2 × PI2 => PyData.tuple [pD z.1, pD z.2]) (σ := [some (.im (.tuple [.int m, .tuple (ps.map pD)])), none, none, none]) (by simp) (fun z => .bool (ltP z.1 z.2)) zs (fun z _ => ⟨_, wasg_pair 1 2 _ _ _, by
          have := lt_pD z.1 z.2
          simp [this], by simp⟩) (by rw [List.length_map] at hl; omega)
        refine ⟨zs.map fun z => ltP z.1 z.2, ?_, ?_⟩
        · rw [List.map_map]
          rw [← e] at hg
          unfold is_web_xc1
          simp [i1, sl_t, ct, hg]
        · rw [List.all_map, ← ea]
          rfl
      obtain ⟨bs, hz, eb⟩ := hz
      have hb : wAll [.lst (bs.map .bool)] = .ok (WB (goB m (-1, -1) (ps.map pD))) := by
        simp only [wAll, one1, lstW, boolsD_map, eb]
      generalize ((ps.map pD).map fun d => PyData.bool (tieB m d)) = B at hx ha
      generalize goB m (-1, -1) (ps.map pD) = gb at hb
      generalize bs.map PyData.bool = Z at hb hz
      generalize ps.map pD = l at *
      unfold is_web_w is_web_xb is_web_x0 is_web_x1 is_web_x2
      simp [b, isTD, i0, i1, hn, bt, hx, ha, hz, hb, r_outs]
end NT

set_option Elab.async false
set_option linter.all false
set_option maxRecDepth 100000
set_option maxHeartbeats 2000000
set_option autoImplicit false

namespace NT
open PySem PySem.Spec PyProof.Rows L2 PySem.W
/-! ### texts by the program -/
abbrev WS1 (z : Str) : VV := .im (.str z)
@[simp] theorem u_addS (a b : Str) : wAdd (WS1 a) (WS1 b) = if a.length + b.length ≤ 16777216 then .ok (WS1 (a ++ b)) else .no := rfl
theorem add_s {a b : Str} (h : a.length + b.length ≤ 16777216) : wAdd (WS1 a) (WS1 b) = .ok (WS1 (a ++ b)) := by rw [u_addS, if_pos h]
theorem str_v {n : Int} (h0 : 0 ≤ n) (h1 : n < 1000) : wStr [WI n] = .ok (WS1 (numS n)) := by
  have : n.natAbs.log2 < 1920 := by
    have : n.natAbs.log2 ≤ n.natAbs := Nat.log2_le_self _
    omega
  simp only [wStr, one1, this, if_true]
  rfl
theorem len_app (a b : Str) : (a ++ b).length = a.length + b.length := by
  rw [TL.len_tl, TL.tl_append, List.length_append, ← TL.len_tl, ← TL.len_tl]
theorem len_sm : sm.length = 1 := by rw [TL.len_tl, tl_sm]; rfl
theorem len_sc : sc.length = 1 := by rw [TL.len_tl, tl_sc]; rfl
theorem len_sb : sb.length = 1 := by rw [TL.len_tl, tl_sb]; rfl
theorem len_tie {q : PI2} (h : 0 ≤ q.1 ∧ q.1 < 10 ∧ 0 ≤ q.2 ∧ q.2 < 10) : (tieS q).length = 3 := by rw [TL.len_tl, tl_tie h]; rfl
theorem len_head {m : Int} (h0 : 0 ≤ m) (h1 : m < 10) : (headS m).length = 2 := by rw [TL.len_tl, tl_head h0 h1]; rfl
theorem join_v {a : Str} {ys : List Str} (h : (ys.map (·.length)).sum + ys.length * a.length ≤ 16777216) : wJoin (WS1 a) (.lst (ys.map .str)) = .ok (WS1 (Txt.join a ys)) := by
  simp only [wJoin, itemsW, strsD_map, h, if_true]
theorem sum_few {α : Type} (f : α → Str) (k : Nat) : ∀ (l : List α), (∀ a ∈ l, (f a).length ≤ k) → ((l.map f).map (·.length)).sum ≤ k * l.length
  | [], _ => by simp
  | a :: l, h => by
    have := sum_few f k l fun b hb => h b (List.mem_cons_of_mem _ hb)
    have := h a List.mem_cons_self
    simp only [List.map_cons, List.sum_cons, List.length_cons, Nat.mul_add]
    omega
section
variable {m : Int} {ts : List PI2}
theorem web_small (w : WebOk m ts) {q : PI2} (h : q ∈ ts) : 0 ≤ q.1 ∧ q.1 < 10 ∧ 0 ≤ q.2 ∧ q.2 < 10 := by
  have := w.2.2.2.2 q h
  have := w.2.1
  omega
theorem web_join (w : WebOk m ts) : wJoin (WS1 sb) (.lst ((headS m :: ts.map tieS).map .str)) = .ok (WS1 (webS m ts)) := by
  have m1 := w.1
  have m8 := w.2.1
  have w64 := w.2.2.2.1
  refine join_v ?_
  have := sum_few tieS 3 ts fun q hq => by rw [len_tie (web_small w hq)]; exact Nat.le_refl _
  rw [List.map_cons, List.sum_cons, len_head (by omega) (by omega), List.length_cons, List.length_map, len_sb]
  omega
theorem head_add (w : WebOk m ts) : wAdd (WS1 (numS m)) (WS1 sc) = .ok (WS1 (headS m)) := by
  have m1 := w.1
  have m8 := w.2.1
  exact add_s (by rw [len_num (by omega) (by omega), len_sc]; omega)
theorem lst_add (A B : List PyData) (h : A.length + B.length ≤ 16777216) : wAdd (.lst A) (.lst B) = .ok (.lst (A ++ B)) := by simp only [wAdd, h, if_true]
theorem web_text_v (w : WebOk m ts) : web_text_w [WWeb m ts] = .ok (WS1 (webS m ts)) [WWeb m ts] := by
  have m1 := w.1
  have m8 := w.2.1
  have w64 := w.2.2.2.1
  have hc : web_text_xc0 [some (WWeb m ts), none, none] = .ok (.lst ((ts.map tieS).map .str)) [some (WWeb m ts), none, none] := by
    have hg := wc_map (T := .tup [1, 2]) (ws := []) (e := w2 (w2 (wB (wCons (wVar 1) wNil) wStr) (wC (.str ("-" : Str))) wAdd) (wB (wCons (wVar 2) wNil) wStr) wAdd) (vs := [1, 2]) (g := pD) (σ := [some (WWeb m ts), none, none]) (by simp) (fun q => .str (tieS q)) ts (fun q hq => by
      have b := web_small w hq
      have s1 := str_v (n := q.1) (by omega) (by omega)
      have s2 := str_v (n := q.2) (by omega) (by omega)
      have a1 : wAdd (WS1 (numS q.1)) (WS1 sm) = .ok (WS1 (numS q.1 ++ sm)) := add_s (by rw [len_num b.1 b.2.1, len_sm]; omega)
      have a2 : wAdd (WS1 (numS q.1 ++ sm)) (WS1 (numS q.2)) = .ok (WS1 (tieS q)) := add_s (by rw [len_app, len_num b.1 b.2.1, len_sm, len_num b.2.2.1 b.2.2.2]; omega)
      generalize tieS q = T at a2 ⊢
      generalize numS q.1 ++ sm = T1 at a1 a2
      generalize numS q.1 = N1 at s1 a1
      generalize numS q.2 = N2 at s2 a2
      generalize wAdd = AD at a1 a2 ⊢
      generalize webD m ts = W
      exact ⟨_, wasg_pair 1 2 _ _ _, by simp [s1, s2, a1, a2], by simp⟩) (by omega)
    have w1 := web_1 m ts
    have e : (ts.map fun q => PyData.str (tieS q)) = (ts.map tieS).map .str := by rw [List.map_map]; rfl
    rw [e] at hg
    generalize (ts.map tieS).map PyData.str = R at hg ⊢
    generalize ts.map pD = T at hg w1
    unfold WWeb at w1 hg ⊢
    generalize webD m ts = W at w1 hg ⊢
    unfold web_text_xc0
    simp [w1, hg]
  have w0 := web_0 m ts
  have s0 := str_v (n := m) (by omega) (by omega)
  have ha := head_add w
  have la := lst_add [.str (headS m)] ((ts.map tieS).map .str) (by simp; omega)
  have jo := web_join w
  rw [List.map_cons] at jo
  change wJoin (WS1 sb) (.lst ([PyData.str (headS m)] ++ (ts.map tieS).map .str)) = _ at jo
  generalize webS m ts = Z at jo ⊢
  generalize [PyData.str (headS m)] ++ (ts.map tieS).map PyData.str = L at la jo
  generalize (ts.map tieS).map PyData.str = R at hc la
  generalize headS m = H at ha la
  generalize numS m = N at s0 ha
  unfold WWeb at w0 hc ⊢
  generalize webD m ts = W at w0 hc ⊢
  unfold web_text_w web_text_xb web_text_x0
  generalize wAdd = AD at ha la ⊢
  generalize wJoin = JN at jo ⊢
  simp [w0, s0, ha, hc, la, jo, ims, r_outs]
theorem eq_tup0 (l : List Int) : wEq (WTu (l.map .int)) (.im (.tuple [])) = .ok (WB (decide (l = []))) := by
  cases l with
  | nil => rfl
  | cons a l =>
    have c : (okD 8 (.tuple ((a :: l).map PyData.int)) && okD 8 (.tuple [])) = true := by
      rw [show okD 8 (.tuple ((a :: l).map PyData.int)) = ((a :: l).map PyData.int).all (okD 7) from rfl, okD_ints 7]
      rfl
    have : wEq (WTu ((a :: l).map .int)) (.im (.tuple [])) = wEqD false (WTu ((a :: l).map .int)) (.im (.tuple [])) := rfl
    rw [this]
    simp only [wEqD, dat, c, if_true]
    simp [PyData.eqv, PyData.eqvAll]
theorem row_join {row : List Int} (h : ∀ p ∈ row, 0 ≤ p ∧ p < 10) (hl : row.length ≤ 1000) : wJoin (WS1 sb) (.lst ((row.map numS).map .str)) = .ok (WS1 (Txt.join sb (row.map numS))) := by
  refine join_v ?_
  have := sum_few numS 1 row fun q hq => by rw [len_num (h q hq).1 (h q hq).2]; exact Nat.le_refl _
  rw [List.length_map, len_sb]
  omega
theorem row_text_v {row : List Int} (h : ∀ p ∈ row, 0 ≤ p ∧ p < 10) (hl : row.length ≤ 1000) : row_text_w [WTu (row.map .int)] = .ok (WS1 (rowS row)) [WTu (row.map .int)] := by
  have hc : row_text_xc0 [some (WTu (row.map .int)), none] = .ok (.lst ((row.map numS).map .str)) [some (WTu (row.map .int)), none] := by
    have hg := wc_map (T := .nm 1) (ws := []) (e := wB (wCons (wVar 1) wNil) wStr) (vs := [1]) (g := PyData.int) (σ := [some (WTu (row.map .int)), none]) (by simp) (fun q => .str (numS q)) row (fun q hq => by
      have b := h q hq
      have s1 := str_v (n := q) (by omega) (by omega)
      generalize numS q = N at s1 ⊢
      generalize row.map PyData.int = R
      exact ⟨_, rfl, by simp [s1], by simp⟩) (by omega)
    have e : (row.map fun q => PyData.str (numS q)) = (row.map numS).map .str := by rw [List.map_map]; rfl
    rw [e] at hg
    generalize (row.map numS).map PyData.str = S at hg ⊢
    generalize row.map PyData.int = R at hg ⊢
    unfold row_text_xc0
    simp [hg]
  have q := eq_tup0 row
  have jo := row_join h hl
  unfold rowS
  unfold row_text_w row_text_xb row_text_x0 row_text_x1
  by_cases c : row = []
  · rw [decide_eq_true c] at q
    rw [if_pos c]
    generalize row.map PyData.int = R at q ⊢
    generalize wEq = EQ at q ⊢
    simp [q, datas, r_outs]
  · rw [decide_eq_false c] at q
    rw [if_neg c]
    generalize Txt.join sb (row.map numS) = J at jo ⊢
    generalize (row.map numS).map PyData.str = S at hc jo
    generalize row.map PyData.int = R at hc q ⊢
    generalize wEq = EQ at q ⊢
    generalize wJoin = JN at jo ⊢
    simp [q, hc, jo, datas, r_outs]
end
/-! ### a number in a word -/
theorem figs : ("012345678" : Str).cps.toList = [48, 49, 50, 51, 52, 53, 54, 55, 56] := by
  have := TL.tl_ofString "012345678"
  exact this.trans rfl
theorem fig_in (c : Nat) : wInT true (WS1 ⟨#[c]⟩) (WS1 ("012345678" : Str)) = .ok (WB (!decide (48 ≤ c ∧ c ≤ 56))) := by
  have e : (!(Builtin.Str.occurrences ("012345678" : Str) ⟨#[c]⟩ 0 ("012345678" : Str).length 1).isEmpty) = decide (48 ≤ c ∧ c ≤ 56) := by
    rw [PySem.StrLaws.found_one, figs]
    rw [Bool.eq_iff_iff, decide_eq_true_eq, decide_eq_true_eq]
    simp only [List.mem_cons, List.not_mem_nil, or_false]
    omega
  show WO.ok (.im (.bool (true ^^ _))) = _
  rw [e, Bool.true_xor]
theorem int_one : ∀ c : Nat, c < 57 → 48 ≤ c → PySem.intText? ⟨#[c]⟩ = some ((c : Int) - 48) := by decide +kernel
theorem number_in_v (z : Str) (hz : z.length ≤ 1000) : number_in_w [WS1 z] = .ok (.im (numIn z)) [WS1 z] := by
  have ln : wLen [WS1 z] = .ok (WI (z.length : Nat)) := by
    show (if z.length ≤ 16777216 then WO.ok (.im (.int z.length)) else .no) = _
    rw [if_pos (by omega)]
  by_cases h1 : z.length = 1
  · obtain ⟨c, hc⟩ : ∃ c, TL.tl z = [c] := List.length_eq_one_iff.mp (by rw [← TL.len_tl]; exact h1)
    have ez := one_len hc
    have fi := fig_in c
    have nq : wNe (WI (z.length : Nat)) (WI 1) = .ok (WB false) := by rw [u_ne, h1]; rfl
    unfold numIn
    rw [show z.cps.toList = [c] from hc]
    simp only
    generalize ((z.length : Nat) : Int) = n at ln nq
    by_cases h : 48 ≤ c ∧ c ≤ 56
    · rw [if_pos h]
      rw [decide_eq_true h] at fi
      have it : wIntT [WS1 z] = .ok (WI ((c : Int) - 48)) := by
        rw [ez]
        have := int_one c (by omega) h.1
        have l : (⟨#[c]⟩ : Str).length = 1 := rfl
        simp only [wIntT, one1, this, l]
        rfl
      rw [← ez] at fi
      generalize (c : Int) - 48 = r at it ⊢
      unfold number_in_w number_in_xb number_in_x0 number_in_x1
      generalize wLen = LN at ln ⊢
      generalize wNe = NE at nq ⊢
      generalize wInT = IT at fi ⊢
      simp [ln, nq, fi, it, r_outs]
    · rw [if_neg h]
      rw [decide_eq_false h] at fi
      rw [← ez] at fi
      unfold number_in_w number_in_xb number_in_x0
      generalize wLen = LN at ln ⊢
      generalize wNe = NE at nq ⊢
      generalize wInT = IT at fi ⊢
      simp [ln, nq, fi, r_outs]
  · have nq : wNe (WI (z.length : Nat)) (WI 1) = .ok (WB true) := by
      rw [u_ne]
      have : ¬ ((z.length : Nat) : Int) = 1 := by omega
      simp [this]
    have e : numIn z = .none := by
      unfold numIn
      split
      · rename_i c hc
        exact absurd (by rw [TL.len_tl, show TL.tl z = [c] from hc]; rfl) h1
      · rfl
    rw [e]
    generalize ((z.length : Nat) : Int) = n at ln nq
    unfold number_in_w number_in_xb number_in_x0
    generalize wLen = LN at ln ⊢
    generalize wNe = NE at nq ⊢
    simp [ln, nq, r_outs]
end NT

set_option Elab.async false
set_option linter.all false
set_option maxRecDepth 100000
set_option maxHeartbeats 2000000
set_option autoImplicit false

namespace NT
open PySem PySem.Spec PyProof.Rows L2 PySem.W
/-! ### any text read -/
theorem part_le (y : Str) : ∀ (parts : List Str), ∀ p ∈ parts, p.length ≤ (Str.join y parts).length
  | [], p, h => by cases h
  | [a], p, h => by rw [List.mem_singleton.mp h]; exact Nat.le_refl _
  | a :: b :: r, p, h => by
    have e : Str.join y (a :: b :: r) = a ++ y ++ Str.join y (b :: r) := rfl
    rw [e, len_app, len_app]
    rcases List.mem_cons.mp h with rfl | h
    · omega
    · have := part_le y (b :: r) p h
      omega
theorem split_part {x y p : Str} (h : p ∈ Txt.split x y) : p.length ≤ x.length := by
  have := part_le y (Txt.split x y) p h
  rw [PySem.StrLaws.join_split] at this
  exact this
theorem spl_ne (S : List Nat) : ∀ (l : List Nat) (k : Nat) (acc : List Nat), TL.spl S k acc l ≠ []
  | [], k, acc => by cases k <;> simp [TL.spl]
  | c :: r, 0, acc => by
    unfold TL.spl
    split
    · simp
    · exact spl_ne S r 0 _
  | c :: r, k + 1, acc => by
    unfold TL.spl
    exact spl_ne S r k acc
theorem split_ne {x y : Str} (h1 : TL.tl y ≠ []) (h2 : y.cps.all (· < 256) = true) : Txt.split x y ≠ [] := fun e => by
  have := TL.split_spl x y h1 (TL.kind_ok h2)
  rw [e] at this
  exact spl_ne _ _ _ _ this.symm
theorem words_ne (z : Str) : Txt.split z sb ≠ [] := split_ne (by rw [tl_sb]; simp) small_cps.1
theorem isi_s (z : Str) : wIsi "str" (WS1 z) = .ok (WB true) := by
  have k : kitB "str" "str" = some true := by decide +kernel
  simp [wIsi, tyW, tyD', k]
theorem split_v (z y : Str) (hy : y.length = 1) (hz : z.length ≤ 1000) : wSplit (WS1 z) (WS1 y) = .ok (.lst ((Txt.split z y).map .str)) := by
  have c : ((y.length == 0) == false && decide (z.length + 2 ≤ 16777216)) = true := by
    rw [hy, decide_eq_true (show z.length + 2 ≤ 16777216 by omega)]
    rfl
  simp only [wSplit, c, if_true]
theorem sl_s (z : Str) (lo hi : Option Int) (hz : z.length ≤ 1000) : wSl (WS1 z) lo hi = .ok (WS1 (cutS z lo hi)) := by
  show (if z.length ≤ 16777216 then WO.ok (.im (.str (cutS z lo hi))) else .no) = _
  rw [if_pos (by omega)]
theorem ne_s (a b : Str) : wNe (WS1 a) (WS1 b) = .ok (WB (!(a == b))) := by simp [wNe, wEqV]
theorem eq_s (a b : Str) : wEq (WS1 a) (WS1 b) = .ok (WB (a == b)) := by simp [wEq, wEqV]
/-! ### webs -/
def tieD (w : Str) : PyData := .tuple ((Txt.split w sm).map numIn)
def foundD : List Str → PyData
  | [] => .none
  | a :: r => .tuple [numIn (cutS a none (some (-1))), .tuple (r.map tieD)]
def headOk : List Str → Bool
  | [] => false
  | a :: _ => cutS a (some (-1)) none == sc
/-- what is read, or nothing -/
def webRd (z : Str) : Option PyData := if (headOk (Txt.split z sb) && webB (foundD (Txt.split z sb))) = true then some (foundD (Txt.split z sb)) else none
theorem first_s (x : Str) (s : List Str) : wIdx (.lst ((x :: s).map .str)) (WI 0) = .ok (WS1 x) := by
  have : atI ((x :: s).map PyData.str) 0 = some (.str x) := by
    unfold atI ixN
    rw [if_pos (by omega), if_pos (by simp)]
    rfl
  rw [idx_l, this]
theorem tail_s (x : Str) (s : List Str) : wSl (.lst ((x :: s).map .str)) (some 1) none = .ok (.lst (s.map .str)) := by
  show WO.ok (.lst (cutG ((x :: s).map PyData.str) (some (1 : Int)) none)) = _
  rw [cut_tail]
  rfl
theorem parts_c (x0 x1 x2 x3 : Option VV) (w : Str) (hw : w.length ≤ 1000) : web_read_xc0 [x0, x1, x2, x3, some (WS1 w), none] = .ok (.lst ((Txt.split w sm).map numIn)) [x0, x1, x2, x3, some (WS1 w), none] := by
  have sp := split_v w sm len_sm hw
  have cnt := PyProof.Rows.split_le w sm
  have hg := wc_map (T := .nm 5) (ws := []) (e := wCall [some 5] number_in_w (wCons (wVar 5) wNil)) (vs := [5]) (g := PyData.str) (σ := [x0, x1, x2, x3, some (WS1 w), none]) (by simp) numIn (Txt.split w sm) (fun p hp => by
    have nv := number_in_v p (by have := split_part hp; omega)
    generalize numIn p = N at nv ⊢
    exact ⟨_, rfl, by simp [nv], by simp⟩) (by omega)
  generalize (Txt.split w sm).map numIn = R at hg ⊢
  generalize (Txt.split w sm).map PyData.str = L at sp hg
  unfold web_read_xc0
  generalize wSplit = SP at sp ⊢
  simp [sp, hg]
theorem ties_c (x0 x2 x3 : Option VV) (a : Str) (r : List Str) (hr : ∀ w ∈ r, w.length ≤ 1000) (hl : r.length ≤ 2000) : web_read_xc1 [x0, some (.lst ((a :: r).map .str)), x2, x3, none, none] = .ok (.lst (r.map tieD)) [x0, some (.lst ((a :: r).map .str)), x2, x3, none, none] := by
  have tl := tail_s a r
  have hg := wc_map (T := .nm 4) (ws := []) (e := wB (wCons web_read_xc0 wNil) wTuple) (vs := [4]) (g := PyData.str) (σ := [x0, some (.lst ((a :: r).map .str)), x2, x3, none, none]) (by simp) tieD r (fun w hw => by
    have pc := parts_c x0 (some (.lst ((a :: r).map .str))) x2 x3 w (hr w hw)
    have e : tieD w = .tuple ((Txt.split w sm).map numIn) := rfl
    rw [e]
    generalize (Txt.split w sm).map numIn = N at pc ⊢
    generalize (a :: r).map PyData.str = L at pc ⊢
    generalize web_read_xc0 = C at pc ⊢
    exact ⟨_, rfl, by simp [pc], by simp⟩) (by omega)
  generalize r.map tieD = R at hg ⊢
  generalize r.map PyData.str = Q at tl hg
  generalize (a :: r).map PyData.str = L at tl hg ⊢
  unfold web_read_xc1
  generalize wSl = SL at tl ⊢
  simp [tl, hg]
theorem web_read_v (z : Str) (hz : z.length ≤ 190) : web_read_w [WS1 z] = (match webRd z with | some d => .ok (.im d) [WS1 z] | none => .er "BadNote") := by
  have is := isi_s z
  have sp := split_v z sb len_sb (by omega)
  have cnt := PyProof.Rows.split_le z sb
  have pl : ∀ w ∈ Txt.split z sb, w.length ≤ 1000 := fun w hw => by have := split_part hw; omega
  unfold webRd
  cases hs : Txt.split z sb with
  | nil => exact absurd hs (words_ne z)
  | cons a r =>
    rw [hs] at sp cnt pl
    simp only [List.length_cons] at cnt
    have al := pl a List.mem_cons_self
    have fi := first_s a r
    have s1 := sl_s a (some (-1)) none al
    have s2 := sl_s a none (some (-1)) al
    have nq := ne_s (cutS a (some (-1)) none) sc
    have ng : wNeg (WI 1) = .ok (WI (-1)) := rfl
    have tc := fun x2 x3 => ties_c (some (WS1 z)) x2 x3 a r (fun w hw => pl w (List.mem_cons_of_mem _ hw)) (by omega)
    have nv := number_in_v (cutS a none (some (-1))) (by have := cutS_length a none (some (-1)); omega)
    have wv := is_web_v (foundD (a :: r)) (by simp [foundD, small2]; omega)
    have ef : foundD (a :: r) = .tuple [numIn (cutS a none (some (-1))), .tuple (r.map tieD)] := rfl
    have eh : headOk (a :: r) = (cutS a (some (-1)) none == sc) := rfl
    rw [eh]
    rw [ef] at wv ⊢
    generalize webB (.tuple [numIn (cutS a none (some (-1))), .tuple (r.map tieD)]) = b2 at wv ⊢
    generalize (cutS a (some (-1)) none == sc) = b1 at nq ⊢
    generalize numIn (cutS a none (some (-1))) = N at nv wv ⊢
    generalize r.map tieD = T at tc wv ⊢
    generalize cutS a none (some (-1)) = A2 at s2 nv
    generalize cutS a (some (-1)) none = A1 at s1 nq
    generalize (a :: r).map PyData.str = L at sp fi tc
    have tc0 := tc none none
    have x0 : web_read_x0 [some (WS1 z), none, none, none, none, none] = .nx [some (WS1 z), none, none, none, none, none] := by
      unfold web_read_x0
      simp [is]
    have x1 : web_read_x1 [some (WS1 z), none, none, none, none, none] = .nx [some (WS1 z), some (.lst L), none, none, none, none] := by
      unfold web_read_x1
      generalize wSplit = SP at sp ⊢
      simp [sp]
    have x2 : web_read_x2 [some (WS1 z), some (.lst L), none, none, none, none] = if b1 = true then .nx [some (WS1 z), some (.lst L), none, none, none, none] else .er "BadNote" := by
      unfold web_read_x2
      generalize wSl = SL at s1 ⊢
      generalize wIdx = IX at fi ⊢
      generalize wNe = NE at nq ⊢
      generalize wNeg = NG at ng ⊢
      cases b1 <;> simp [fi, ng, s1, nq]
    have x3 : web_read_x3 [some (WS1 z), some (.lst L), none, none, none, none] = .nx [some (WS1 z), some (.lst L), some (.im (.tuple T)), none, none, none] := by
      unfold web_read_x3
      generalize web_read_xc1 = C at tc0 ⊢
      simp [tc0]
    have x4 : web_read_x4 [some (WS1 z), some (.lst L), some (.im (.tuple T)), none, none, none] = .nx [some (WS1 z), some (.lst L), some (.im (.tuple T)), some (.im (.tuple [N, .tuple T])), none, none] := by
      unfold web_read_x4
      generalize wSl = SL at s2 ⊢
      generalize wIdx = IX at fi ⊢
      generalize wNeg = NG at ng ⊢
      simp [fi, ng, s2, nv, datas]
    have x5 : web_read_x5 [some (WS1 z), some (.lst L), some (.im (.tuple T)), some (.im (.tuple [N, .tuple T])), none, none] = if b2 = true then .nx [some (WS1 z), some (.lst L), some (.im (.tuple T)), some (.im (.tuple [N, .tuple T])), none, none] else .er "BadNote" := by
      unfold web_read_x5
      cases b2 <;> simp [wv]
    have x6 : web_read_x6 [some (WS1 z), some (.lst L), some (.im (.tuple T)), some (.im (.tuple [N, .tuple T])), none, none] = .rt (.im (.tuple [N, .tuple T])) [some (WS1 z), some (.lst L), some (.im (.tuple T)), some (.im (.tuple [N, .tuple T])), none, none] := rfl
    unfold web_read_w web_read_xb
    generalize web_read_x0 = X0 at x0 ⊢
    generalize web_read_x1 = X1 at x1 ⊢
    generalize web_read_x2 = X2 at x2 ⊢
    generalize web_read_x3 = X3 at x3 ⊢
    generalize web_read_x4 = X4 at x4 ⊢
    generalize web_read_x5 = X5 at x5 ⊢
    generalize web_read_x6 = X6 at x6 ⊢
    cases b1 <;> cases b2 <;> simp at x2 x5 <;> simp [x0, x1, x2, x3, x4, x5, x6, r_outs]
/-! ### rows -/
def rowBad (l : List PyData) : Bool := l.any (fun z => PyData.eqv z .none) || (l.any (fun z => PyData.eqv z (.int 8)) || decide (40 < l.length))
def rowRd (z : Str) : Option (List PyData) := if (z == sNone) = true then some [] else if rowBad ((Txt.split z sb).map numIn) = true then none else some ((Txt.split z sb).map numIn)
theorem numIn_ok (n : Nat) (w : Str) : okD n (numIn w) = true := by
  unfold numIn
  split
  · split <;> (cases n <;> rfl)
  · cases n <;> rfl
theorem in_row (d : PyData) (hd : okD 8 d = true) (l : List Str) : wInS false (.im d) (.im (.tuple (l.map numIn))) = .ok (WB ((l.map numIn).any fun z => PyData.eqv z d)) := by
  have c : (okD 8 d && okD 9 (.tuple (l.map numIn))) = true := by
    rw [hd, Bool.true_and]
    show (l.map numIn).all (okD 8) = true
    rw [List.all_map, List.all_eq_true]
    exact fun w _ => numIn_ok 8 w
  simp only [wInS, dat, c, if_true, Bool.false_xor]
theorem row_read_v (z : Str) (hz : z.length ≤ 1000) : row_read_w [WS1 z] = (match rowRd z with | some l => .ok (.im (.tuple l)) [WS1 z] | none => .er "BadNote") := by
  have is := isi_s z
  have sp := split_v z sb len_sb hz
  have cnt := PyProof.Rows.split_le z sb
  have q := eq_s z sNone
  have hc : row_read_xc0 [some (WS1 z), none, none] = .ok (.lst ((Txt.split z sb).map numIn)) [some (WS1 z), none, none] := by
    have hg := wc_map (T := .nm 2) (ws := []) (e := wCall [some 2] number_in_w (wCons (wVar 2) wNil)) (vs := [2]) (g := PyData.str) (σ := [some (WS1 z), none, none]) (by simp) numIn (Txt.split z sb) (fun p hp => by
      have nv := number_in_v p (by have := split_part hp; omega)
      generalize numIn p = N at nv ⊢
      exact ⟨_, rfl, by simp [nv], by simp⟩) (by omega)
    generalize (Txt.split z sb).map numIn = R at hg ⊢
    generalize (Txt.split z sb).map PyData.str = L at sp hg
    unfold row_read_xc0
    generalize wSplit = SP at sp ⊢
    simp [sp, hg]
  have i1 := in_row .none rfl (Txt.split z sb)
  have i2 := in_row (.int 8) rfl (Txt.split z sb)
  have ln : wLen [.im (.tuple ((Txt.split z sb).map numIn))] = .ok (WI ((Txt.split z sb).map numIn).length) := by simp
  have gt : wGt (WI (((Txt.split z sb).map numIn).length : Nat)) (WI 40) = .ok (WB (decide (40 < ((Txt.split z sb).map numIn).length))) := by
    have : wGt (WI (((Txt.split z sb).map numIn).length : Nat)) (WI 40) = .ok (WB (decide ((40 : Int) < (((Txt.split z sb).map numIn).length : Nat)))) := u_gt _ _
    rw [this]
    have e : decide ((40 : Int) < (((Txt.split z sb).map numIn).length : Nat)) = decide (40 < ((Txt.split z sb).map numIn).length) := by
      rw [Bool.eq_iff_iff, decide_eq_true_eq, decide_eq_true_eq]
      omega
    rw [e]
  unfold rowRd rowBad
  generalize (z == sNone) = b0 at q ⊢
  generalize (Txt.split z sb).map numIn = L at hc i1 i2 ln gt ⊢
  generalize L.any (fun z => PyData.eqv z .none) = b1 at i1 ⊢
  generalize L.any (fun z => PyData.eqv z (.int 8)) = b2 at i2 ⊢
  generalize decide (40 < L.length) = b3 at gt ⊢
  generalize ((L.length : Nat) : Int) = n at ln gt
  have ln' := ln
  simp at ln'
  unfold row_read_w row_read_xb row_read_x0 row_read_x1 row_read_x2 row_read_x3 row_read_x4
  generalize wEq = EQ at q ⊢
  generalize wInS = IN at i1 i2 ⊢
  generalize wGt = GT at gt ⊢
  generalize row_read_xc0 = C at hc ⊢
  cases b0 <;> cases b1 <;> cases b2 <;> cases b3 <;> simp [is, q, hc, i1, i2, ln', gt, datas, r_outs]
/-! ### what is written is read -/
section
variable {m : Int} {ts : List PI2}
theorem chain_str : ∀ (ps : List PI2) (a : PI2), (∀ p ∈ a :: ps, okP p = true) → Str2 (a :: ps) → chainP a ps = true
  | [], _, _, _ => rfl
  | b :: ps, a, h, s => by
    obtain ⟨s1, s2⟩ := List.pairwise_cons.mp s
    have := s1 b List.mem_cons_self
    have ha := h a List.mem_cons_self
    have hb := h b (List.mem_cons_of_mem _ List.mem_cons_self)
    simp only [okP, decide_eq_true_eq] at ha hb
    unfold chainP
    rw [chain_str ps b (fun p hp => h p (List.mem_cons_of_mem _ hp)) s2, Bool.and_true]
    unfold ltP
    unfold cP at this
    exact decide_eq_true (by omega)
theorem webB_web (w : WebOk m ts) : webB (webD m ts) = true := by
  have m1 := w.1
  have m8 := w.2.1
  have e : webB (webD m ts) = (decide (1 ≤ m) && decide (m ≤ 8) && goB m (-1, -1) (ts.map pD)) := rfl
  rw [e, decide_eq_true m1, decide_eq_true m8, goB_pD ts _ fun q hq => w.2.2.2.2 q hq]
  cases ts with
  | nil => rfl
  | cons a r =>
    have ok : ∀ p ∈ a :: r, okP p = true := fun p hp => pairs_okP m8 (web_pairs w hp)
    unfold chainP
    rw [chain_str r a ok w.2.2.1, Bool.and_true]
    have b := w.2.2.2.2 a List.mem_cons_self
    unfold ltP
    simp
    omega
theorem tieD_tie {q : PI2} (h : 0 ≤ q.1 ∧ q.1 < 9 ∧ 0 ≤ q.2 ∧ q.2 < 9) : tieD (tieS q) = pD q := by
  unfold tieD
  rw [split_tie (by omega)]
  simp only [List.map_cons, List.map_nil, numIn_num h.1 h.2.1, numIn_num h.2.2.1 h.2.2.2]
  rfl
theorem webRd_web (w : WebOk m ts) : webRd (webS m ts) = some (webD m ts) := by
  have m1 := w.1
  have m8 := w.2.1
  have sp := split_web w
  have th : TL.tl (headS m) = [48 + m.toNat] ++ [58] := tl_head (by omega) (by omega)
  obtain ⟨c1, c2⟩ := cut_last' th
  have e1 : cutS (headS m) (some (-1)) none = sc := TL.ext_tl (c1.trans tl_sc.symm)
  have e2 : cutS (headS m) none (some (-1)) = numS m := TL.ext_tl (c2.trans (tl_num (by omega) (by omega)).symm)
  have ef : foundD (headS m :: ts.map tieS) = webD m ts := by
    show PyData.tuple [numIn (cutS (headS m) none (some (-1))), .tuple ((ts.map tieS).map tieD)] = _
    rw [e2, numIn_num (by omega) (by omega), List.map_map]
    have : ts.map (tieD ∘ tieS) = ts.map pD := List.map_congr_left fun q hq => tieD_tie (by
      have := w.2.2.2.2 q hq
      omega)
    rw [this]
    rfl
  have eh : headOk (headS m :: ts.map tieS) = true := by
    show (cutS (headS m) (some (-1)) none == sc) = true
    rw [e1]
    simp
  unfold webRd
  rw [sp, ef, eh, webB_web w]
  rfl
theorem join_len (y : Str) (k : Nat) : ∀ (parts : List Str), (∀ p ∈ parts, p.length ≤ k) → (Str.join y parts).length ≤ (k + y.length) * parts.length
  | [], _ => by simp [Str.join, Str.empty, Str.length]
  | [a], h => by
    have := h a List.mem_cons_self
    show a.length ≤ _
    simp
    omega
  | a :: b :: r, h => by
    have e : Str.join y (a :: b :: r) = a ++ y ++ Str.join y (b :: r) := rfl
    have := h a List.mem_cons_self
    have ih := join_len y k (b :: r) fun p hp => h p (List.mem_cons_of_mem _ hp)
    rw [e, len_app, len_app, List.length_cons, Nat.mul_add]
    omega
theorem web_len (w : WebOk m ts) : (webS m ts).length ≤ 190 := by
  have m1 := w.1
  have m8 := w.2.1
  have few : ts.length ≤ 28 := by
    have l28 : (pairsL m).length ≤ 28 := by
      obtain ⟨k, rfl⟩ := Int.eq_ofNat_of_zero_le (show 0 ≤ m by omega)
      have : ∀ k : Nat, k ≤ 8 → (pairsL (k : Int)).length ≤ 28 := by decide
      exact this k (by omega)
    have nd : ts.Nodup := w.2.2.1.imp fun {a b} h e => by rw [e] at h; omega
    have sub : ∀ q ∈ ts, q ∈ pairsL m := fun q hq => web_pairs w hq
    have : ts.length ≤ (pairsL m).length := by
      have gen : ∀ {l r : List PI2}, l.Nodup → (∀ x ∈ l, x ∈ r) → l.length ≤ r.length := fun {l r} => by
        induction l generalizing r with
        | nil => intro _ _; exact Nat.zero_le _
        | cons a l ih =>
          intro nd h
          obtain ⟨n1, n2⟩ := List.nodup_cons.mp nd
          have ha := h a List.mem_cons_self
          have := ih (r := r.erase a) n2 fun x hx => (List.mem_erase_of_ne (fun e : x = a => n1 (by rw [← e]; exact hx))).mpr (h x (List.mem_cons_of_mem _ hx))
          rw [List.length_erase_of_mem ha] at this
          have := List.length_pos_of_mem ha
          simp only [List.length_cons]
          omega
      exact gen nd sub
    omega
  unfold webS
  rw [TL.join_eq]
  have := join_len sb 3 (headS m :: ts.map tieS) fun p hp => by
    rcases List.mem_cons.mp hp with rfl | hp
    · rw [len_head (by omega) (by omega)]; omega
    · obtain ⟨q, hq, rfl⟩ := List.mem_map.mp hp
      rw [len_tie (web_small w hq)]
      exact Nat.le_refl _
  rw [len_sb, List.length_cons, List.length_map] at this
  omega
theorem row_len {row : List Int} (h : ∀ p ∈ row, 0 ≤ p ∧ p < 10) (hl : row.length ≤ 400) : (rowS row).length ≤ 1000 := by
  unfold rowS
  split
  · rw [TL.len_tl, tl_none]; decide
  · rw [TL.join_eq]
    have := join_len sb 1 (row.map numS) fun p hp => by
      obtain ⟨q, hq, rfl⟩ := List.mem_map.mp hp
      rw [len_num (h q hq).1 (h q hq).2]
      exact Nat.le_refl _
    rw [len_sb, List.length_map] at this
    omega
theorem rowRd_row {row : List Int} (h : ∀ p ∈ row, 0 ≤ p ∧ p < 8) (hl : row.length ≤ 40) : rowRd (rowS row) = some (row.map .int) := by
  unfold rowRd rowS
  by_cases c : row = []
  · subst c
    rw [if_pos rfl, if_pos (by simp)]
    rfl
  · rw [if_neg c]
    have sp := split_row c fun p hp => by have := h p hp; omega
    have ne : (Txt.join sb (row.map numS) == sNone) = false := by
      rw [beq_eq_false_iff_ne]
      intro e
      rw [e] at sp
      have s0 : Txt.split sNone sb = [sNone] := by
        have := split_b (parts := [sNone]) (by simp) (fun p hp => by rw [List.mem_singleton.mp hp, tl_none]; decide)
        exact this
      rw [s0] at sp
      cases row with
      | nil => exact c rfl
      | cons a r =>
        rw [List.map_cons] at sp
        injection sp with s1 s2
        have b := h a List.mem_cons_self
        have := tl_num (n := a) (by omega) (by omega)
        rw [← s1, tl_none] at this
        have := congrArg List.length this
        simp at this
    rw [ne, sp]
    have e : (row.map numS).map numIn = row.map .int := by
      rw [List.map_map]
      refine List.map_congr_left fun p hp => ?_
      have b := h p hp
      exact numIn_num (by omega) (by omega)
    rw [e]
    have rb : rowBad (row.map .int) = false := by
      unfold rowBad
      rw [Bool.or_eq_false_iff, Bool.or_eq_false_iff]
      refine ⟨?_, ?_, by rw [List.length_map]; exact decide_eq_false (by omega)⟩
      · rw [List.any_map, List.any_eq_false]
        intro p hp
        simp [PyData.eqv]
      · rw [List.any_map, List.any_eq_false]
        intro p hp
        have b := h p hp
        simp [eqv_int]
        omega
    simp [rb]
end
end NT

set_option Elab.async false
set_option linter.all false
set_option maxRecDepth 100000
set_option maxHeartbeats 2000000
set_option autoImplicit false

namespace NT
open PySem PySem.Spec PyProof.Rows L2 PySem.W
/-! ### texts by the law -/
section
variable {m : Int} {ts : List PI2}
theorem lweb_text_v (w : WebOk m ts) : _law_web_text_w [WWeb m ts] = .ok (WS1 (webS m ts)) [WWeb m ts] := by
  have m1 := w.1
  have m8 := w.2.1
  have w64 := w.2.2.2.1
  have hc : _law_web_text_xc0 [some (WWeb m ts), none, none] = .ok (.lst ((ts.map tieS).map .str)) [some (WWeb m ts), none, none] := by
    have hg := wc_map (T := .tup [1, 2]) (ws := []) (e := w2 (w2 (wB (wCons (wVar 1) wNil) wStr) (wC (.str ("-" : Str))) wAdd) (wB (wCons (wVar 2) wNil) wStr) wAdd) (vs := [1, 2]) (g := pD) (σ := [some (WWeb m ts), none, none]) (by simp) (fun q => .str (tieS q)) ts (fun q hq => by
      have b := web_small w hq
      have s1 := str_v (n := q.1) (by omega) (by omega)
      have s2 := str_v (n := q.2) (by omega) (by omega)
      have a1 : wAdd (WS1 (numS q.1)) (WS1 sm) = .ok (WS1 (numS q.1 ++ sm)) := add_s (by rw [len_num b.1 b.2.1, len_sm]; omega)
      have a2 : wAdd (WS1 (numS q.1 ++ sm)) (WS1 (numS q.2)) = .ok (WS1 (tieS q)) := add_s (by rw [len_app, len_num b.1 b.2.1, len_sm, len_num b.2.2.1 b.2.2.2]; omega)
      generalize tieS q = T at a2 ⊢
      generalize numS q.1 ++ sm = T1 at a1 a2
      generalize numS q.1 = N1 at s1 a1
      generalize numS q.2 = N2 at s2 a2
      generalize wAdd = AD at a1 a2 ⊢
      generalize webD m ts = W
      exact ⟨_, wasg_pair 1 2 _ _ _, by simp [s1, s2, a1, a2], by simp⟩) (by omega)
    have w1 := web_1 m ts
    have e : (ts.map fun q => PyData.str (tieS q)) = (ts.map tieS).map .str := by rw [List.map_map]; rfl
    rw [e] at hg
    generalize (ts.map tieS).map PyData.str = R at hg ⊢
    generalize ts.map pD = T at hg w1
    unfold WWeb at w1 hg ⊢
    generalize webD m ts = W at w1 hg ⊢
    unfold _law_web_text_xc0
    simp [w1, hg]
  have w0 := web_0 m ts
  have s0 := str_v (n := m) (by omega) (by omega)
  have ha := head_add w
  have la := lst_add [.str (headS m)] ((ts.map tieS).map .str) (by simp; omega)
  have jo := web_join w
  rw [List.map_cons] at jo
  change wJoin (WS1 sb) (.lst ([PyData.str (headS m)] ++ (ts.map tieS).map .str)) = _ at jo
  generalize webS m ts = Z at jo ⊢
  generalize [PyData.str (headS m)] ++ (ts.map tieS).map PyData.str = L at la jo
  generalize (ts.map tieS).map PyData.str = R at hc la
  generalize headS m = H at ha la
  generalize numS m = N at s0 ha
  unfold WWeb at w0 hc ⊢
  generalize webD m ts = W at w0 hc ⊢
  unfold _law_web_text_w _law_web_text_xb _law_web_text_x0
  generalize wAdd = AD at ha la ⊢
  generalize wJoin = JN at jo ⊢
  simp [w0, s0, ha, hc, la, jo, ims, r_outs]
theorem lrow_text_v {row : List Int} (h : ∀ p ∈ row, 0 ≤ p ∧ p < 10) (hl : row.length ≤ 1000) : _law_row_text_w [WTu (row.map .int)] = .ok (WS1 (rowS row)) [WTu (row.map .int)] := by
  have hc : _law_row_text_xc0 [some (WTu (row.map .int)), none] = .ok (.lst ((row.map numS).map .str)) [some (WTu (row.map .int)), none] := by
    have hg := wc_map (T := .nm 1) (ws := []) (e := wB (wCons (wVar 1) wNil) wStr) (vs := [1]) (g := PyData.int) (σ := [some (WTu (row.map .int)), none]) (by simp) (fun q => .str (numS q)) row (fun q hq => by
      have b := h q hq
      have s1 := str_v (n := q) (by omega) (by omega)
      generalize numS q = N at s1 ⊢
      generalize row.map PyData.int = R
      exact ⟨_, rfl, by simp [s1], by simp⟩) (by omega)
    have e : (row.map fun q => PyData.str (numS q)) = (row.map numS).map .str := by rw [List.map_map]; rfl
    rw [e] at hg
    generalize (row.map numS).map PyData.str = S at hg ⊢
    generalize row.map PyData.int = R at hg ⊢
    unfold _law_row_text_xc0
    simp [hg]
  have q := eq_tup0 row
  have jo := row_join h hl
  unfold rowS
  unfold _law_row_text_w _law_row_text_xb _law_row_text_x0
  by_cases c : row = []
  · rw [decide_eq_true c] at q
    rw [if_pos c]
    generalize row.map PyData.int = R at q ⊢
    generalize wEq = EQ at q ⊢
    simp [q, datas, r_outs]
  · rw [decide_eq_false c] at q
    rw [if_neg c]
    generalize Txt.join sb (row.map numS) = J at jo ⊢
    generalize (row.map numS).map PyData.str = S at hc jo
    generalize row.map PyData.int = R at hc q ⊢
    generalize wEq = EQ at q ⊢
    generalize wJoin = JN at jo ⊢
    simp [q, hc, jo, datas, r_outs]
end
end NT

set_option Elab.async false
set_option linter.all false
set_option maxRecDepth 100000
set_option maxHeartbeats 2000000
set_option autoImplicit false

namespace NT
open PySem PySem.Spec PyProof.Rows L2 PySem.W
/-! ### plain things, four deep -/
theorem eq_lstE : wEq (.lst []) (.lst []) = .ok (WB true) := by
  have c : (okD 8 (.list []) && okD 8 (.list [])) = true := rfl
  have : wEq (.lst []) (.lst []) = wEqD false (.lst []) (.lst []) := rfl
  rw [this]
  simp only [wEqD, dat, c, if_true]
  simp [PyData.eqv, PyData.eqvAll]
theorem _law_plain_r1_i (i : Int) : _law_plain_r1_w [WI i] = .ok (WB true) [WI i] := by
  have b1 := isi_T (.int i)
  have b2 := isi_I (.int i)
  have b3 := isi_B (.int i)
  unfold _law_plain_r1_w _law_plain_r1_xb _law_plain_r1_x0 _law_plain_r1_x1
  simp [b1, b2, b3, isTD, isID, isBD, andA, notA, r_outs]
theorem _law_plain_r2_i (i : Int) : _law_plain_r2_w [WI i] = .ok (WB true) [WI i] := by
  have b1 := isi_T (.int i)
  have b2 := isi_I (.int i)
  have b3 := isi_B (.int i)
  unfold _law_plain_r2_w _law_plain_r2_xb _law_plain_r2_x0 _law_plain_r2_x1
  simp [b1, b2, b3, isTD, isID, isBD, andA, notA, r_outs]
theorem _law_plain_r2_tup (l : List PyData) (hl : l.length ≤ 1000) (h : ∀ d ∈ l, _law_plain_r1_w [.im d] = .ok (WB true) [.im d]) : _law_plain_r2_w [.im (.tuple l)] = .ok (WB true) [.im (.tuple l)] := by
  have b1 := isi_T (.tuple l)
  have hc : _law_plain_r2_xc0 [some (.im (.tuple l)), none] = .ok (.lst []) [some (.im (.tuple l)), none] := by
    have hg := wc_fil (T := .nm 1) (ws := []) (c := wmNot (wT (wCall [some 1] _law_plain_r1_w (wCons (wVar 1) wNil)))) (e := wVarI 1) (vs := [1]) (g := id) (σ := [some (.im (.tuple l)), none]) (by simp) (fun _ => false) id l (fun d hd => by
      have t := h d hd
      exact ⟨_, rfl, by simp [t], fun z => absurd z (by simp), by simp⟩) (by omega)
    have nf : l.filter (fun _ => false) = [] := List.filter_eq_nil_iff.mpr fun _ _ => by simp
    rw [nf, List.map_nil, List.map_id] at hg
    unfold _law_plain_r2_xc0
    simp [hg]
  have e0 : wEq (.lst []) (.lst []) = .ok (WB true) := by
    have := eq_lstE
    exact this
  unfold _law_plain_r2_w _law_plain_r2_xb _law_plain_r2_x0 _law_plain_r2_x1
  generalize _law_plain_r2_xc0 = C at hc ⊢
  generalize wEq = EQ at e0 ⊢
  simp [b1, isTD, hc, e0, ims, r_outs]
theorem _law_plain_r3_i (i : Int) : _law_plain_r3_w [WI i] = .ok (WB true) [WI i] := by
  have b1 := isi_T (.int i)
  have b2 := isi_I (.int i)
  have b3 := isi_B (.int i)
  unfold _law_plain_r3_w _law_plain_r3_xb _law_plain_r3_x0 _law_plain_r3_x1
  simp [b1, b2, b3, isTD, isID, isBD, andA, notA, r_outs]
theorem _law_plain_r3_tup (l : List PyData) (hl : l.length ≤ 1000) (h : ∀ d ∈ l, _law_plain_r2_w [.im d] = .ok (WB true) [.im d]) : _law_plain_r3_w [.im (.tuple l)] = .ok (WB true) [.im (.tuple l)] := by
  have b1 := isi_T (.tuple l)
  have hc : _law_plain_r3_xc0 [some (.im (.tuple l)), none] = .ok (.lst []) [some (.im (.tuple l)), none] := by
    have hg := wc_fil (T := .nm 1) (ws := []) (c := wmNot (wT (wCall [some 1] _law_plain_r2_w (wCons (wVar 1) wNil)))) (e := wVarI 1) (vs := [1]) (g := id) (σ := [some (.im (.tuple l)), none]) (by simp) (fun _ => false) id l (fun d hd => by
      have t := h d hd
      exact ⟨_, rfl, by simp [t], fun z => absurd z (by simp), by simp⟩) (by omega)
    have nf : l.filter (fun _ => false) = [] := List.filter_eq_nil_iff.mpr fun _ _ => by simp
    rw [nf, List.map_nil, List.map_id] at hg
    unfold _law_plain_r3_xc0
    simp [hg]
  have e0 : wEq (.lst []) (.lst []) = .ok (WB true) := by
    have := eq_lstE
    exact this
  unfold _law_plain_r3_w _law_plain_r3_xb _law_plain_r3_x0 _law_plain_r3_x1
  generalize _law_plain_r3_xc0 = C at hc ⊢
  generalize wEq = EQ at e0 ⊢
  simp [b1, isTD, hc, e0, ims, r_outs]
theorem _law_plain_i (i : Int) : _law_plain_w [WI i] = .ok (WB true) [WI i] := by
  have b1 := isi_T (.int i)
  have b2 := isi_I (.int i)
  have b3 := isi_B (.int i)
  unfold _law_plain_w _law_plain_xb _law_plain_x0 _law_plain_x1
  simp [b1, b2, b3, isTD, isID, isBD, andA, notA, r_outs]
theorem _law_plain_tup (l : List PyData) (hl : l.length ≤ 1000) (h : ∀ d ∈ l, _law_plain_r3_w [.im d] = .ok (WB true) [.im d]) : _law_plain_w [.im (.tuple l)] = .ok (WB true) [.im (.tuple l)] := by
  have b1 := isi_T (.tuple l)
  have hc : _law_plain_xc0 [some (.im (.tuple l)), none] = .ok (.lst []) [some (.im (.tuple l)), none] := by
    have hg := wc_fil (T := .nm 1) (ws := []) (c := wmNot (wT (wCall [some 1] _law_plain_r3_w (wCons (wVar 1) wNil)))) (e := wVarI 1) (vs := [1]) (g := id) (σ := [some (.im (.tuple l)), none]) (by simp) (fun _ => false) id l (fun d hd => by
      have t := h d hd
      exact ⟨_, rfl, by simp [t], fun z => absurd z (by simp), by simp⟩) (by omega)
    have nf : l.filter (fun _ => false) = [] := List.filter_eq_nil_iff.mpr fun _ _ => by simp
    rw [nf, List.map_nil, List.map_id] at hg
    unfold _law_plain_xc0
    simp [hg]
  have e0 : wEq (.lst []) (.lst []) = .ok (WB true) := by
    have := eq_lstE
    exact this
  unfold _law_plain_w _law_plain_xb _law_plain_x0 _law_plain_x1
  generalize _law_plain_xc0 = C at hc ⊢
  generalize wEq = EQ at e0 ⊢
  simp [b1, isTD, hc, e0, ims, r_outs]
section
variable {m : Int} {ts : List PI2}
theorem plain_tie (q : PI2) : _law_plain_r2_w [.im (pD q)] = .ok (WB true) [.im (pD q)] :=
  _law_plain_r2_tup [.int q.1, .int q.2] (by simp) fun d hd => by
    rcases List.mem_cons.mp hd with rfl | hd
    · exact _law_plain_r1_i _
    · rw [List.mem_singleton.mp hd]; exact _law_plain_r1_i _
theorem plain_web (w : WebOk m ts) : _law_plain_w [WWeb m ts] = .ok (WB true) [WWeb m ts] := by
  have w64 := w.2.2.2.1
  exact _law_plain_tup [.int m, .tuple (ts.map pD)] (by simp) fun d hd => by
    rcases List.mem_cons.mp hd with rfl | hd
    · exact _law_plain_r3_i _
    · rw [List.mem_singleton.mp hd]
      exact _law_plain_r3_tup _ (by rw [List.length_map]; omega) fun d hd => by
        obtain ⟨q, _, rfl⟩ := List.mem_map.mp hd
        exact plain_tie q
theorem plain_row (row : List Int) (hl : row.length ≤ 1000) : _law_plain_w [WTu (row.map .int)] = .ok (WB true) [WTu (row.map .int)] :=
  _law_plain_tup _ (by rw [List.length_map]; exact hl) fun d hd => by
    obtain ⟨i, _, rfl⟩ := List.mem_map.mp hd
    exact _law_plain_r3_i i
theorem ne_web (ts : List PI2) : wNe (WWeb m ts) (WWeb m ts) = .ok (WB false) := by
  have c : (okD 8 (webD m ts) && okD 8 (webD m ts)) = true := by rw [okD_web 5 m ts]; rfl
  have : wNe (WWeb m ts) (WWeb m ts) = wEqD true (WWeb m ts) (WWeb m ts) := rfl
  rw [this]
  have e : PyData.eqv (webD m ts) (webD m ts) = true := by rw [eqv_web]; simp
  simp only [wEqD, dat, c, if_true, e]
  rfl
theorem ne_row (row : List Int) : wNe (WTu (row.map .int)) (WTu (row.map .int)) = .ok (WB false) := by
  have o : okD 8 (.tuple (row.map .int)) = true := by rw [show okD 8 (.tuple (row.map PyData.int)) = (row.map PyData.int).all (okD 7) from rfl, okD_ints 7]
  have c : (okD 8 (.tuple (row.map .int)) && okD 8 (.tuple (row.map .int))) = true := by rw [o]; rfl
  have : wNe (WTu (row.map .int)) (WTu (row.map .int)) = wEqD true (WTu (row.map .int)) (WTu (row.map .int)) := rfl
  rw [this]
  have e : PyData.eqv (.tuple (row.map .int)) (.tuple (row.map .int)) = true := by simp [PyData.eqv, eqvAll_ints]
  simp only [wEqD, dat, c, if_true, e]
  rfl
end
/-! ### the law -/
abbrev E91 (ns : List Int) (x1 x2 x3 x4 x5 x6 : Option VV) : VE := [some (WScr ns), x1, x2, x3, x4, x5, x6]
theorem pick5 (v : Int) (h0 : 0 ≤ v) (h1 : v < 5) : ∃ n : Int, 0 ≤ n ∧ n ≤ 40 ∧ wIdx (.lst [.int 0, .int 1, .int 3, .int 10, .int 40]) (WI v) = .ok (WI n) := by
  rcases (by omega : v = 0 ∨ v = 1 ∨ v = 2 ∨ v = 3 ∨ v = 4) with rfl | rfl | rfl | rfl | rfl
  · exact ⟨0, by decide, by decide, rfl⟩
  · exact ⟨1, by decide, by decide, rfl⟩
  · exact ⟨3, by decide, by decide, rfl⟩
  · exact ⟨10, by decide, by decide, rfl⟩
  · exact ⟨40, by decide, by decide, rfl⟩
theorem row91 (ns : List Int) (k : Int) (W : PyData) (st : Int) (fl : Bool) : ∃ (row : List Int) (s' : Int), (∀ p ∈ row, 0 ≤ p ∧ p < 8) ∧ row.length ≤ 40 ∧ law_xc0 (E91 ns (some (WI k)) (some (WSt st fl)) (some (.im W)) none none none) = .ok (.lst (row.map .int)) (E91 ns (some (WI k)) (some (WSt s' fl)) (some (.im W)) none none none) := by
  obtain ⟨v, s1, v0, v1, et⟩ := take_v st 5 fl (by decide) (by decide)
  obtain ⟨n, n0, n40, ix⟩ := pick5 v v0 v1
  have hg := wc_inv (T := .nm 6) (ws := []) (c := wTrue) (e := wCall [some 2, none] _law_take_w (wCons (wVar 2) (wCons (wC (.int 8)) wNil))) (vs := [6]) (g := PyData.int)
    (fun r acc σ => ∃ (row : List Int) (s : Int), acc = row.map .int ∧ (∀ p ∈ row, 0 ≤ p ∧ p < 8) ∧ row.length + r.length = n.toNat ∧ σ = E91 ns (some (WI k)) (some (WSt s fl)) (some (.im W)) none none none)
    (by
      rintro a r acc σ ⟨row, s, rfl, hr, hl, rfl⟩
      obtain ⟨q, s2, q0, q1, e2⟩ := take_v s 8 fl (by decide) (by decide)
      simp only [List.length_cons] at hl
      refine ⟨by simp, by simp; omega, _, rfl, true, _, rfl, .inl ⟨rfl, .int q, E91 ns (some (WI k)) (some (WSt s2 fl)) (some (.im W)) none none (some (WI a)), by simp [e2], row ++ [q], s2, by simp, ?_, by simp; omega, by simp⟩⟩
      intro p hp
      rcases List.mem_append.mp hp with hp | hp
      · exact hr p hp
      · rw [List.mem_singleton.mp hp]; exact ⟨q0, q1⟩)
    (by rintro acc σ ⟨row, s, rfl, _, _, rfl⟩; simp) (rg 0 n.toNat) [] (E91 ns (some (WI k)) (some (WSt s1 fl)) (some (.im W)) none none none) ⟨[], s1, rfl, by simp, by simp [rg_len], rfl⟩
  obtain ⟨acc, σ', eg, row, s3, rfl, hr, hl, rfl⟩ := hg
  rw [← rngI_eq] at eg
  have sm := smallI_of (i := n) (by omega)
  refine ⟨row, s3, hr, by simp at hl; omega, ?_⟩
  unfold law_xc0
  generalize row.map PyData.int = R at eg ⊢
  simp [et, ix, ims, sm, eg]
theorem k91_turn (ns : List Int) (k : Nat) : stp law_xl0 (.nm 1) [1, 2, 3, 4, 5] (.int k) (E91 ns none none none none none none) = .nx (E91 ns none none none none none none) := by
  obtain ⟨st, fl, es⟩ := state_v ns k
  obtain ⟨m, ts, s1, m1, m8, w, ew⟩ := web_v st 1 8 fl (by decide) (by decide) (by decide)
  have w64 := w.2.2.2.1
  obtain ⟨row, s2, hr, rl, er⟩ := row91 ns k (webD m ts) s1 fl
  have t1 := web_text_v w
  have t2 := lweb_text_v w
  have h10 : ∀ p ∈ row, 0 ≤ p ∧ p < 10 := fun p hp => by have := hr p hp; omega
  have t3 := row_text_v h10 (by omega)
  have t4 := lrow_text_v h10 (by omega)
  have q1 := ne_s (webS m ts) (webS m ts)
  rw [beq_self_eq_true, Bool.not_true] at q1
  have q2 := ne_s (rowS row) (rowS row)
  rw [beq_self_eq_true, Bool.not_true] at q2
  have lw : (webS m ts).length ≤ 190 := web_len w
  have lr : (rowS row).length ≤ 1000 := row_len h10 (by omega)
  have r1 := web_read_v (webS m ts) lw
  rw [webRd_web w] at r1
  have r2 := row_read_v (rowS row) lr
  rw [rowRd_row hr rl] at r2
  simp only at r1 r2
  have n1 := ne_web (m := m) ts
  have n2 := ne_row row
  have p1 := plain_web w
  have p2 := plain_row row (by omega)
  generalize webS m ts = ZW at t1 t2 q1 r1
  generalize rowS row = ZR at t3 t4 q2 r2
  generalize row.map PyData.int = R at er t3 t4 r2 n2 p2
  unfold WWeb at ew t1 t2 n1 p1
  generalize webD m ts = W at ew er t1 t2 r1 n1 p1
  unfold E91 at er ⊢
  rw [stp_nm]
  unfold law_xl0
  generalize law_xc0 = C at er ⊢
  generalize wNe = NE at q1 q2 n1 n2 ⊢
  simp [es, ew, er, t1, t2, t3, t4, q1, q2, r1, r2, n1, n2, p1, p2]
theorem k91_end (ns : List Int) : ∃ outs, law_w [WScr ns] = .ok (.im (.bool true)) outs := by
  obtain ⟨N, hs⟩ := src_v (ns := ns) (σ := E91 ns none none none none none none) rfl 12
  have ho : xGo law_xl0 (.nm 1) [] [1, 2, 3, 4, 5] (rngI 0 N) (E91 ns none none none none none none) = .nx (E91 ns none none none none none none) := by
    rw [rngI_eq]
    refine xGo_same (by simp) _ fun a ha => ?_
    obtain ⟨k, rfl⟩ := Int.eq_ofNat_of_zero_le (rg_mem ha).1
    exact k91_turn ns k
  have hx : law_x0 (E91 ns none none none none none none) = .nx (E91 ns none none none none none none) := for_src hs rfl ho
  have w1 : WebOk 1 [] := ⟨by decide, by decide, List.Pairwise.nil, by decide, by simp⟩
  have t1 : web_text_w [.im (.tuple [.int 1, .tuple []])] = .ok (WS1 (webS 1 [])) [.im (.tuple [.int 1, .tuple []])] := web_text_v w1
  have t2 : row_text_w [.im (.tuple [])] = .ok (WS1 (rowS [])) [.im (.tuple [])] := row_text_v (row := []) (by simp) (by simp)
  have e1 : webS 1 [] = ("1:" : Str) := by
    have : webS 1 [] = headS 1 := by
      unfold webS
      rw [TL.join_eq]
      rfl
    rw [this]
    exact TL.ext_tl ((tl_head (by decide) (by decide)).trans ((TL.tl_ofString "1:").trans rfl).symm)
  have e2 : rowS [] = ("none" : Str) := rfl
  have q1 := eq_s (webS 1 []) ("1:" : Str)
  rw [e1, beq_self_eq_true] at q1
  rw [e1] at t1
  have q2 := eq_s (rowS []) ("none" : Str)
  rw [e2, beq_self_eq_true] at q2
  rw [e2] at t2
  unfold law_w law_xb law_x1
  generalize wEq = EQ at q1 q2 ⊢
  simp [hx, t1, t2, q1, q2, datas, andA, r_outs]
theorem law_true (ns : List Int) (hn : ns.length ≤ 63) : ∃ h', law_f [.im (.list (ns.map .int))] [] = .ok (.im (.bool true)) h' :=
  law_of law_sf (k91_end ns)
end NT

open PySem PySem.W PyProof.Rows in
set_option maxRecDepth 100000 in
set_option maxHeartbeats 0 in
theorem PySem.Challenge.cw_nearturns_k91_texts_written_and_read_holds : PySem.Challenge.rw_nearturns_k91_texts_written_and_read.Holds := by
  w_on; o_law; k_head; (case hw => w_witness2)
  k_fill
  refine NT.walk_good (l := PySem.Challenge.rw_nearturns_k91_texts_written_and_read) (n := 63) (k := 6) (f := NT.law_f) (x := ("_law_script" : Str)) rfl (by decide) rfl ⟨rfl, by decide, by decide⟩ (fun w h Y => PySem.W.kIn_of Y) ?F NT.law_true
  case F =>
    intro w m fa h KX G hmg
    refine' NT.all_mk KX G hmg ?a0 ?l0 ?c0 ?k0 ?a1 ?l1 ?c1 ?k1 ?a2 ?l2 ?c2 ?k2 ?a3 ?l3 ?c3 ?k3 ?a4 ?l4 ?c4 ?k4 ?a5 ?l5 ?c5 ?k5 ?a6 ?l6 ?c6 ?k6 ?a7 ?l7 ?c7 ?k7 ?a8 ?l8 ?c8 ?k8 ?a9 ?l9 ?c9 ?k9 ?a10 ?l10 ?c10 ?k10 ?a11 ?l11 ?c11 ?k11 ?a12 ?l12 ?c12 ?k12 ?a13 ?l13 ?c13 ?k13 ?a14 ?l14 ?c14 ?k14 ?a15 ?l15 ?c15 ?k15 ?a16 ?l16 ?c16 ?k16 ?a17 ?l17 ?c17 ?k17 ?a18 ?l18 ?c18 ?k18 ?a19 ?l19 ?c19 ?k19 ?a20 ?l20 ?c20 ?k20 ?a21 ?l21 ?c21 ?k21 ?n_FIGURES ?n_MOST_PLACES ?n_MOST_TURNS ?g_BadNote ?q_BadNote ?k_BadNote ?b_BadNote ?t_BadNote ?z_len ?z_list ?z_range ?z_tuple ?z_min ?z_max ?z_sorted ?z_set ?z_int ?z_isinstance ?z_bool ?z_all ?z_zip ?z_str
    (case a0 => k_is)
    (case l0 => k_is)
    (case c0 => k_is)
    (case k0 => k_is)
    (case a1 => k_is)
    (case l1 => k_is)
    (case c1 => k_is)
    (case k1 => k_is)
    (case a2 => k_is)
    (case l2 => k_is)
    (case c2 => k_is)
    (case k2 => k_is)
    (case a3 => k_is)
    (case l3 => k_is)
    (case c3 => k_is)
    (case k3 => k_is)
    (case a4 => k_is)
    (case l4 => k_is)
    (case c4 => k_is)
    (case k4 => k_is)
    (case a5 => k_is)
    (case l5 => k_is)
    (case c5 => k_is)
    (case k5 => k_is)
    (case a6 => k_is)
    (case l6 => k_is)
    (case c6 => k_is)
    (case k6 => k_is)
    (case a7 => k_is)
    (case l7 => k_is)
    (case c7 => k_is)
    (case k7 => k_is)
    (case a8 => k_is)
    (case l8 => k_is)
    (case c8 => k_is)
    (case k8 => k_is)
    (case a9 => k_is)
    (case l9 => k_is)
    (case c9 => k_is)
    (case k9 => k_is)
    (case a10 => k_is)
    (case l10 => k_is)
    (case c10 => k_is)
    (case k10 => k_is)
    (case a11 => k_is)
    (case l11 => k_is)
    (case c11 => k_is)
    (case k11 => k_is)
    (case a12 => k_is)
    (case l12 => k_is)
    (case c12 => k_is)
    (case k12 => k_is)
    (case a13 => k_is)
    (case l13 => k_is)
    (case c13 => k_is)
    (case k13 => k_is)
    (case a14 => k_is)
    (case l14 => k_is)
    (case c14 => k_is)
    (case k14 => k_is)
    (case a15 => k_is)
    (case l15 => k_is)
    (case c15 => k_is)
    (case k15 => k_is)
    (case a16 => k_is)
    (case l16 => k_is)
    (case c16 => k_is)
    (case k16 => k_is)
    (case a17 => k_is)
    (case l17 => k_is)
    (case c17 => k_is)
    (case k17 => k_is)
    (case a18 => k_is)
    (case l18 => k_is)
    (case c18 => k_is)
    (case k18 => k_is)
    (case a19 => k_is)
    (case l19 => k_is)
    (case c19 => k_is)
    (case k19 => k_is)
    (case a20 => k_is)
    (case l20 => k_is)
    (case c20 => k_is)
    (case k20 => k_is)
    (case a21 => k_is)
    (case l21 => k_is)
    (case c21 => k_is)
    (case k21 => k_is)
    (case n_FIGURES => k_is)
    (case n_MOST_PLACES => k_is)
    (case n_MOST_TURNS => k_is)
    (case g_BadNote => k_is)
    (case q_BadNote => k_exc)
    (case k_BadNote => k_is)
    (case b_BadNote => k_is)
    (case t_BadNote => k_is)
    (case z_len => k_is)
    (case z_list => k_is)
    (case z_range => k_is)
    (case z_tuple => k_is)
    (case z_min => k_is)
    (case z_max => k_is)
    (case z_sorted => k_is)
    (case z_set => k_is)
    (case z_int => k_is)
    (case z_isinstance => k_is)
    (case z_bool => k_is)
    (case z_all => k_is)
    (case z_zip => k_is)
    (case z_str => k_is)

