import PyProof.Rows.All
import Wide.All
import OpenK.AllK
import Wide.FinOn
import PySem.Challenge.RW_recastform_k51_changes_of_documents
import HandS.ForMost
import HandS.Exc
import HandS.ExcOwn
import HandS.Star
import HandS.TupAny
import HandS.Sort
import HandS.Conv
import HandS.IsInst
import HandS.Iter
import HandS.Zip
import HandS.WordsExc
import HandS.ExcCtx
import HandS.HotCalls
import HandS.ExcIs
import HandS.SortInts
import PyProof.ReprRoads
import HandS.Style
import HandS.TupMul
import HandS.Hot
import PyProof.Walks
import PyProof.Rows.SumAny
import HandS.TupSets
import HandS.SetFor
import KE.SortData
import HandS.Ends
import HandS.HeadEnd
import KE.KStateDown
import HandS.Head0
import HandS.Head1
import HandS.Head2
import HandS.HeadHook1
import HandS.HeadHook2
import HandS.Defaults
import PyProof.ExcBaseAll.Exception
import PyProof.ZipIter
import PyProof.EnumIter
import HandS.Zip0
import PyProof.EnumMake
import PyProof.StrLawsRepr
set_option Elab.async false
set_option linter.all false
set_option maxRecDepth 100000
set_option maxHeartbeats 4000000
/-! The data layer: what a Python expression or statement computes as a plain function of data, over the hand layer's judgements. -/
namespace ML
open PySem L2

/-- one abstract heap lies in another -/
def Sub (G H : Hp) : Prop := ∀ a o, G a = some o → H a = some o
theorem Sub.refl (G : Hp) : Sub G G := fun _ _ h => h
theorem Sub.trans {F G H : Hp} (h : Sub F G) (k : Sub G H) : Sub F H := fun a o e => k a o (h a o e)
theorem Sub.upd {G H : Hp} {p : Addr} {o : HO} (h : Sub G H) (n : H p = none) : Sub G (L2.upd H p o) := fun a u e => by
  have e' := h a u e
  rw [upd_ne (by intro z; subst z; rw [n] at e'; cases e')]
  exact e'
theorem Sub.updG {G H : Hp} {p : Addr} {o : HO} (h : Sub G H) (n : G p = none) : Sub G (L2.upd H p o) := fun a u e => by
  rw [upd_ne (by intro z; subst z; rw [n] at e; cases e)]
  exact h a u e
theorem Sub.both {G H : Hp} {p : Addr} {o : HO} (h : Sub G H) : Sub (L2.upd G p o) (L2.upd H p o) := fun a u e => by
  by_cases z : a = p
  · subst z
    rw [upd_same] at e ⊢
    exact e
  · rw [upd_ne z] at e ⊢
    exact h a u e
theorem Sub.addG {G H : Hp} {p : Addr} {o : HO} (h : Sub G H) (e : H p = some o) : Sub (L2.upd G p o) H := fun a u q => by
  by_cases z : a = p
  · subst z
    rw [upd_same] at q
    cases q
    exact e
  · rw [upd_ne z] at q
    exact h a u q
theorem Sub.gone {G H : Hp} (h : Sub G H) {a : Addr} (n : H a = Option.none) : G a = Option.none := by
  cases e : G a with
  | none => rfl
  | some o => rw [h a o e] at n; cases n
theorem Sub.new {G : Hp} {p : Addr} {o : HO} (n : G p = none) : Sub G (L2.upd G p o) := (Sub.refl G).upd n

theorem Rd.mono {G H : Hp} (h : Sub G H) {a : Addr} {u : HO} (r : Rd G a u) : Rd H a u := by
  rcases r with r | ⟨o, r⟩
  · exact .inl (h _ _ r)
  · exact .inr ⟨o, h _ _ r⟩
theorem SqL.mono {K : PySem.W.Frag} {G H : Hp} (h : Sub G H) {a : Addr} {xs : List V} (r : SqL K G a xs) : SqL K H a xs := by
  rcases r with r | r
  · exact .inl (Rd.mono h r)
  · exact .inr r
theorem SqT.mono {K : PySem.W.Frag} {G H : Hp} (h : Sub G H) {a : Addr} {xs : List V} (r : SqT K G a xs) : SqT K H a xs := by
  rcases r with r | r
  · exact .inl (Rd.mono h r)
  · exact .inr r
mutual
/-- v stands for the data d; its lists lie in the part G -/
inductive Dp (K : PySem.W.Frag) (G : Hp) : V → PyData → Prop
  | non : Dp K G .non .none
  | bl (b : Bool) : Dp K G (.bl b) (.bool b)
  | int (i : Int) : Dp K G (.int i) (.int i)
  | str (x : Str) : Dp K G (.str x) (.str x)
  | lst {a : Addr} {vs : List V} {ds : List PyData} : SqL K G a vs → DpAll K G vs ds → Dp K G (.ref a) (.list ds)
  | tup {a : Addr} {vs : List V} {ds : List PyData} : SqT K G a vs → DpAll K G vs ds → Dp K G (.ref a) (.tuple ds)
inductive DpAll (K : PySem.W.Frag) (G : Hp) : List V → List PyData → Prop
  | nil : DpAll K G [] []
  | cons {v : V} {vs : List V} {d : PyData} {ds : List PyData} : Dp K G v d → DpAll K G vs ds → DpAll K G (v :: vs) (d :: ds)
end
mutual
theorem Dp.dp {K : PySem.W.Frag} {G : Hp} : ∀ {v : V} {d : PyData}, Dp K G v d → L2.Dp K G v d
  | _, _, .non => .non
  | _, _, .bl b => .bl b
  | _, _, .int i => .int i
  | _, _, .str x => .str x
  | _, _, .lst r q => .lst r (DpAll.dp q)
  | _, _, .tup r q => .tup r (DpAll.dp q)
theorem DpAll.dp {K : PySem.W.Frag} {G : Hp} : ∀ {v : List V} {d : List PyData}, DpAll K G v d → L2.DpAll K G v d
  | _, _, .nil => .nil
  | _, _, .cons r q => .cons (Dp.dp r) (DpAll.dp q)
end
mutual
theorem Dp.mono {K : PySem.W.Frag} {G H : Hp} (h : Sub G H) : ∀ {v : V} {d : PyData}, Dp K G v d → Dp K H v d
  | _, _, .non => .non
  | _, _, .bl b => .bl b
  | _, _, .int i => .int i
  | _, _, .str x => .str x
  | _, _, .lst r q => .lst (SqL.mono h r) (DpAll.mono h q)
  | _, _, .tup r q => .tup (SqT.mono h r) (DpAll.mono h q)
theorem DpAll.mono {K : PySem.W.Frag} {G H : Hp} (h : Sub G H) : ∀ {v : List V} {d : List PyData}, DpAll K G v d → DpAll K H v d
  | _, _, .nil => .nil
  | _, _, .cons r q => .cons (Dp.mono h r) (DpAll.mono h q)
end
theorem DpAll.length {K : PySem.W.Frag} {G : Hp} : ∀ {v : List V} {d : List PyData}, DpAll K G v d → v.length = d.length
  | _, _, .nil => rfl
  | _, _, .cons _ q => congrArg (· + 1) (DpAll.length q)
theorem DpAll.append {K : PySem.W.Frag} {G : Hp} : ∀ {v : List V} {d : List PyData} {v' : List V} {d' : List PyData}, DpAll K G v d → DpAll K G v' d' → DpAll K G (v ++ v') (d ++ d')
  | _, _, _, _, .nil, s => s
  | _, _, _, _, .cons r q, s => .cons r (DpAll.append q s)
theorem DpAll.one {K : PySem.W.Frag} {G : Hp} {v : V} {d : PyData} (h : Dp K G v d) : DpAll K G [v] [d] := .cons h .nil
theorem DpAll.get {K : PySem.W.Frag} {G : Hp} : ∀ {v : List V} {d : List PyData} {i : Nat} {e : PyData}, DpAll K G v d → d[i]? = some e → ∃ u, v[i]? = some u ∧ Dp K G u e
  | _, _, _, _, .nil, h => by simp at h
  | _, _, 0, _, .cons r _, h => by simp at h; subst h; exact ⟨_, rfl, r⟩
  | _, _, i + 1, _, .cons _ q, h => by
    obtain ⟨u, h1, h2⟩ := DpAll.get (i := i) q (by simpa using h)
    exact ⟨u, by simpa using h1, h2⟩
theorem DpAll.take {K : PySem.W.Frag} {G : Hp} : ∀ {v : List V} {d : List PyData} (n : Nat), DpAll K G v d → DpAll K G (v.take n) (d.take n)
  | _, _, 0, _ => by simp; exact .nil
  | _, _, _ + 1, .nil => .nil
  | _, _, n + 1, .cons r q => .cons r (DpAll.take n q)
theorem DpAll.drop {K : PySem.W.Frag} {G : Hp} : ∀ {v : List V} {d : List PyData} (n : Nat), DpAll K G v d → DpAll K G (v.drop n) (d.drop n)
  | _, _, 0, h => h
  | _, _, _ + 1, .nil => .nil
  | _, _, n + 1, .cons _ q => DpAll.drop n q
theorem DpAll.reverse {K : PySem.W.Frag} {G : Hp} : ∀ {v : List V} {d : List PyData}, DpAll K G v d → DpAll K G v.reverse d.reverse
  | _, _, .nil => .nil
  | _, _, .cons r q => by
    rw [List.reverse_cons, List.reverse_cons]
    exact DpAll.append (DpAll.reverse q) (DpAll.one r)
theorem DpAll.set {K : PySem.W.Frag} {G : Hp} {u : V} {e : PyData} (h : Dp K G u e) : ∀ {v : List V} {d : List PyData} (i : Nat), DpAll K G v d → DpAll K G (v.set i u) (d.set i e)
  | _, _, _, .nil => .nil
  | _, _, 0, .cons _ q => .cons h q
  | _, _, i + 1, .cons r q => .cons r (DpAll.set h i q)
theorem DpAll.dropLast {K : PySem.W.Frag} {G : Hp} {v : List V} {d : List PyData} (h : DpAll K G v d) : DpAll K G v.dropLast d.dropLast := by
  rw [List.dropLast_eq_take, List.dropLast_eq_take, DpAll.length h]
  exact DpAll.take _ h
theorem DpAll.ints {K : PySem.W.Frag} {G : Hp} : ∀ {v : List V} {ns : List Int}, DpAll K G v (ns.map PyData.int) → v = ns.map V.int
  | _, [], .nil => rfl
  | _, n :: ns, .cons r q => by
    cases r
    rw [DpAll.ints q]
    rfl
theorem DpAll.of_ints {K : PySem.W.Frag} {G : Hp} : ∀ (ns : List Int), DpAll K G (ns.map V.int) (ns.map PyData.int)
  | [] => .nil
  | n :: ns => .cons (.int n) (DpAll.of_ints ns)
theorem DpAll.bls {K : PySem.W.Frag} {G : Hp} : ∀ {v : List V} {bs : List Bool}, DpAll K G v (bs.map PyData.bool) → v = bs.map V.bl
  | _, [], .nil => rfl
  | _, n :: ns, .cons r q => by
    cases r
    rw [DpAll.bls q]
    rfl
theorem DpAll.strs {K : PySem.W.Frag} {G : Hp} : ∀ {v : List V} {bs : List Str}, DpAll K G v (bs.map PyData.str) → v = bs.map V.str
  | _, [], .nil => rfl
  | _, n :: ns, .cons r q => by
    cases r
    rw [DpAll.strs q]
    rfl

/-- what a slot of a def holds, as data: nothing known; data that never changes; a list of the def's own that may change; a list of the caller's that may change -/
inductive Sl where
  | un
  | dat (d : PyData)
  | own (xs : List PyData)
  | arg (xs : List PyData)
abbrev En := List Sl

/-- the frame: what stands at the entry and is to be kept (H0), the frozen part at the entry (G0), the argument objects that may change -/
structure Bs where
  H0 : Hp
  G0 : Hp
  mt : List Addr

def owOf : Sl → Option (List PyData)
  | .own xs => some xs
  | .arg xs => some xs
  | _ => none
def setOw : Sl → List PyData → Sl
  | .own _, xs => .own xs
  | .arg _, xs => .arg xs
  | s, _ => s
def SlR (K : PySem.W.Frag) (G H : Hp) : Sl → Option V → Prop
  | .un, _ => True
  | .dat d, o => ∃ v, o = some v ∧ Dp K G v d
  | .own xs, o => ∃ p vs, o = some (.ref p) ∧ H p = some (.lst vs) ∧ DpAll K G vs xs
  | .arg xs, o => ∃ p vs, o = some (.ref p) ∧ H p = some (.lst vs) ∧ DpAll K G vs xs
def isOwn : Sl → Bool
  | .own _ => true
  | .arg _ => true
  | _ => false
def frOk (B : Bs) (p : Addr) : Sl → Prop
  | .own _ => B.H0 p = none
  | .arg _ => p ∈ B.mt
  | _ => True

structure Ab (K : PySem.W.Frag) (B : Bs) (ρ : En) (G : Hp) (σ : St) (H : Hp) : Prop where
  fz : Sub G H
  g0 : Sub B.G0 G
  nw : ∀ a o, G a = some o → B.G0 a = none → B.H0 a = none
  kp : ∀ a o, B.H0 a = some o → a ∉ B.mt → H a = some o
  len : σ.length = ρ.length
  sl : ∀ (i : Nat) (s : Sl) (o : Option V), ρ[i]? = some s → σ[i]? = some o → SlR K G H s o
  fr : ∀ (i : Nat) (s : Sl) (p : Addr), ρ[i]? = some s → isOwn s = true → σ[i]? = some (some (.ref p)) → G p = none ∧ frOk B p s
  mh : ∀ p ∈ B.mt, H p ≠ none
  ap : ∀ (i j : Nat) (s t : Sl) (p : Addr), ρ[i]? = some s → ρ[j]? = some t → isOwn s = true → isOwn t = true → σ[i]? = some (some (.ref p)) → σ[j]? = some (some (.ref p)) → i = j

/-- what comes of running: a value and the names behind it, an error of a class, or a case that is not told -/
inductive Rs (α : Type) where
  | ok (a : α) (ρ : En)
  | err (c : Str) (ρ : En)
  | bad
def Rs.bind {α β : Type} (r : Rs α) (k : α → En → Rs β) : Rs β :=
  match r with
  | .ok a ρ => k a ρ
  | .err c ρ => .err c ρ
  | .bad => .bad
def Rs.map {α β : Type} (g : α → β) (r : Rs α) : Rs β := r.bind fun a ρ => .ok (g a) ρ
def ofO {α : Type} (o : Option α) (ρ : En) : Rs α :=
  match o with
  | some a => .ok a ρ
  | none => .bad

/-- the wish for an error of the class named c -/
def ErrW (mg : Str → Option Value) (W : WX) (c : Str) (σ : St) (H : Hp) : Prop := ∀ C, mg c = some (.ref C) → W (.ref C) none σ H

/-- where a run may lead: the data Rel-ated to what the hand layer hands on -/
def Pst {α β : Type} (K : PySem.W.Frag) (mg : Str → Option Value) (B : Bs) (W : WX) (Rel : Hp → Hp → β → α → Prop) (G : Hp) (σ : St) (Q : β → Hp → Prop) : Rs α → Prop
  | .ok d ρ' => ∀ v G' H', Ab K B ρ' G' σ H' → Sub G G' → Rel G' H' v d → Q v H'
  | .err c ρ' => ∀ G' H', Ab K B ρ' G' σ H' → Sub G G' → ErrW mg W c σ H'
  | .bad => False

def tG {α β : Type} (K : PySem.W.Frag) (mg : Str → Option Value) (B : Bs) (W : WX) (Rel : Hp → Hp → β → α → Prop) (f : En → Rs α) (σ : St) (H : Hp) (Q : β → Hp → Prop) : Prop :=
  ∃ ρ G, Ab K B ρ G σ H ∧ Pst K mg B W Rel G σ Q (f ρ)
/-- frozen data; a list of its own, not yet seen by others; a truth; several data -/
def RelD (K : PySem.W.Frag) (G : Hp) (_ : Hp) (v : V) (d : PyData) : Prop := Dp K G v d
def RelA (K : PySem.W.Frag) (G : Hp) (_ : Hp) (v : List V) (d : List PyData) : Prop := DpAll K G v d
def RelB (_ _ : Hp) (v : Bool) (d : Bool) : Prop := v = d

/-- an expression computes f -/
def ME (X : Cx) (W : WX) (e : Expr) (f : En → Rs PyData) : Prop := ∀ B, PE X e (tG X.K X.mg B W (RelD X.K) f)
def MA (X : Cx) (W : WX) (es : List Expr) (f : En → Rs (List PyData)) : Prop := ∀ B, PA X es (tG X.K X.mg B W (RelA X.K) f)
def MT (X : Cx) (W : WX) (e : Expr) (f : En → Rs Bool) : Prop := ∀ B, PT X e (tG X.K X.mg B W RelB f)
/-- an expression makes a new list -/
def RelN (K : PySem.W.Frag) (B : Bs) (ρ : En) (σ : St) (G H : Hp) (v : V) (d : List PyData) : Prop :=
  ∃ p vs, v = .ref p ∧ H p = some (.lst vs) ∧ DpAll K G vs d ∧ G p = none ∧ B.H0 p = none ∧ ∀ (i : Nat) (s : Sl), ρ[i]? = some s → isOwn s = true → σ[i]? ≠ some (some (.ref p))
def PstN (K : PySem.W.Frag) (mg : Str → Option Value) (B : Bs) (W : WX) (G : Hp) (σ : St) (Q : V → Hp → Prop) : Rs (List PyData) → Prop
  | .ok d ρ' => ∀ v G' H', Ab K B ρ' G' σ H' → Sub G G' → RelN K B ρ' σ G' H' v d → Q v H'
  | .err c ρ' => ∀ G' H', Ab K B ρ' G' σ H' → Sub G G' → ErrW mg W c σ H'
  | .bad => False
def tN (K : PySem.W.Frag) (mg : Str → Option Value) (B : Bs) (W : WX) (f : En → Rs (List PyData)) : TE := fun σ H Q =>
  ∃ ρ G, Ab K B ρ G σ H ∧ PstN K mg B W G σ Q (f ρ)
def MN (X : Cx) (W : WX) (e : Expr) (f : En → Rs (List PyData)) : Prop := ∀ B, PE X e (tN X.K X.mg B W f)

theorem PE.imp {X : Cx} {e : Expr} {t u : TE} (h : PE X e t) (k : ∀ σ H Q, u σ H Q → t σ H Q) : PE X e u := ⟨fun pins s σ H Q I q => h.run pins s σ H Q I (k σ H Q q)⟩
theorem PT.imp {X : Cx} {e : Expr} {t u : TT} (h : PT X e t) (k : ∀ σ H Q, u σ H Q → t σ H Q) : PT X e u := ⟨fun pins s σ H Q I q => h.run pins s σ H Q I (k σ H Q q)⟩
theorem PA.imp {X : Cx} {e : List Expr} {t u : TA} (h : PA X e t) (k : ∀ σ H Q, u σ H Q → t σ H Q) : PA X e u := ⟨fun pos pins s σ H Q I q => h.run pos pins s σ H Q I (k σ H Q q)⟩
theorem PS.imp {X : Cx} {e : Stmt} {t u : TS} (h : PS X e t) (k : ∀ D σ H, u D σ H → t D σ H) : PS X e u := ⟨fun pins s σ H D I q => h.run pins s σ H D I (k D σ H q)⟩
theorem PSs.imp {X : Cx} {e : List Stmt} {t u : TS} (h : PSs X e t) (k : ∀ D σ H, u D σ H → t D σ H) : PSs X e u := ⟨fun pins s σ H D I q => h.run pins s σ H D I (k D σ H q)⟩

section
variable {α β γ δ : Type} {K : PySem.W.Frag} {mg : Str → Option Value} {B : Bs} {W : WX} {Rel : Hp → Hp → β → α → Prop} {Rel2 : Hp → Hp → δ → γ → Prop} {G : Hp} {σ : St} {H : Hp} {ρ : En}
/-- one thing behind another -/
theorem Pst.bind {f : En → Rs α} {k : α → En → Rs γ} {Q : δ → Hp → Prop} (a : Ab K B ρ G σ H) (h : Pst K mg B W Rel2 G σ Q ((f ρ).bind k)) {Q1 : β → Hp → Prop}
    (hk : ∀ d ρ1 v G1 H1, f ρ = .ok d ρ1 → Ab K B ρ1 G1 σ H1 → Sub G G1 → Rel G1 H1 v d → Pst K mg B W Rel2 G1 σ Q (k d ρ1) → Q1 v H1) : tG K mg B W Rel f σ H Q1 := by
  refine ⟨ρ, G, a, ?_⟩
  cases e : f ρ with
  | bad => rw [e] at h; exact h.elim
  | err c ρ1 => rw [e] at h; exact h
  | ok d ρ1 =>
    rw [e] at h
    intro v G1 H1 a1 s1 r1
    refine hk d ρ1 v G1 H1 e a1 s1 r1 ?_
    have h' : Pst K mg B W Rel2 G σ Q (k d ρ1) := h
    revert h'
    cases k d ρ1 with
    | bad => exact id
    | err c ρ2 => exact fun h' G' H' a' s' => h' G' H' a' (s1.trans s')
    | ok d2 ρ2 => exact fun h' v' G' H' a' s' r' => h' v' G' H' a' (s1.trans s') r'
end
end ML
set_option maxRecDepth 100000
set_option maxHeartbeats 4000000
namespace ML
open PySem L2

/-- the frozen part and the heap grow by new things -/
structure Ext (G H G' H' : Hp) : Prop where
  g : Sub G G'
  h : Sub H H'
  f : Sub G' H'
  n : ∀ a o, G' a = some o → G a = none → H a = none
theorem Ext.refl {G H : Hp} (h : Sub G H) : Ext G H G H := ⟨Sub.refl _, Sub.refl _, h, fun a o e n => by rw [n] at e; cases e⟩
theorem Ext.new {G H : Hp} {p : Addr} {o : HO} (h : Sub G H) (n : H p = none) : Ext G H (upd G p o) (upd H p o) :=
  ⟨Sub.new (h.gone n), Sub.new n, h.both, fun a u e z => by
    by_cases q : a = p
    · subst q; exact n
    · rw [upd_ne q, z] at e; cases e⟩
theorem Ext.trans {G H G1 H1 G2 H2 : Hp} (a : Ext G H G1 H1) (b : Ext G1 H1 G2 H2) : Ext G H G2 H2 :=
  ⟨a.g.trans b.g, a.h.trans b.h, b.f, fun x o e n => by
    cases q : G1 x with
    | some u => exact a.n x u q n
    | none =>
      have z := b.n x o e q
      exact a.h.gone z⟩
section
variable {K : PySem.W.Frag} {B : Bs} {ρ : En} {G G' : Hp} {σ : St} {H H' : Hp}
theorem isOwn_of {s : Sl} {xs : List PyData} (h : owOf s = some xs) : isOwn s = true := by
  cases s <;> first | rfl | cases h
theorem SlR.ow {s : Sl} {xs : List PyData} {o : Option V} (h : SlR K G H s o) (e : owOf s = some xs) : ∃ p vs, o = some (.ref p) ∧ H p = some (.lst vs) ∧ DpAll K G vs xs := by
  cases s with
  | own ys => cases e; exact h
  | arg ys => cases e; exact h
  | un => cases e
  | dat d => cases e
theorem SlR.ofOw {s : Sl} (xs : List PyData) {o : Option V} (e : isOwn s = true) (h : ∃ p vs, o = some (.ref p) ∧ H p = some (.lst vs) ∧ DpAll K G vs xs) : SlR K G H (setOw s xs) o := by
  cases s with
  | own ys => exact h
  | arg ys => exact h
  | un => cases e
  | dat d => cases e
theorem isOwn_set {s : Sl} (xs : List PyData) : isOwn (setOw s xs) = isOwn s := by cases s <;> rfl
theorem frOk_set {s : Sl} (xs : List PyData) {p : Addr} : frOk B p (setOw s xs) = frOk B p s := by cases s <;> rfl
theorem SlR.monoG {s : Sl} {o : Option V} (h : SlR K G H s o) (g : Sub G G') : SlR K G' H s o := by
  cases s with
  | un => trivial
  | dat d => obtain ⟨v, e, q⟩ := h; exact ⟨v, e, Dp.mono g q⟩
  | own xs => obtain ⟨p, vs, e, q, r⟩ := h; exact ⟨p, vs, e, q, DpAll.mono g r⟩
  | arg xs => obtain ⟨p, vs, e, q, r⟩ := h; exact ⟨p, vs, e, q, DpAll.mono g r⟩
theorem SlR.heap {s : Sl} {o : Option V} (h : SlR K G H s o) (k : ∀ p u, isOwn s = true → o = some (.ref p) → H p = some u → H' p = some u) : SlR K G H' s o := by
  cases s with
  | un => trivial
  | dat d => exact h
  | own xs => obtain ⟨p, vs, e, q, r⟩ := h; exact ⟨p, vs, e, k p _ rfl e q, r⟩
  | arg xs => obtain ⟨p, vs, e, q, r⟩ := h; exact ⟨p, vs, e, k p _ rfl e q, r⟩
theorem SlR.there {s : Sl} {p : Addr} (h : SlR K G H s (some (.ref p))) (e : isOwn s = true) : H p ≠ none := by
  cases s with
  | own xs => obtain ⟨q, vs, z, w, _⟩ := h; cases z; rw [w]; simp
  | arg xs => obtain ⟨q, vs, z, w, _⟩ := h; cases z; rw [w]; simp
  | un => cases e
  | dat d => cases e
theorem Ab.at (a : Ab K B ρ G σ H) {i : Nat} {s : Sl} (e : ρ[i]? = some s) : ∃ o, σ[i]? = some o ∧ SlR K G H s o := by
  have hl : i < ρ.length := (List.getElem?_eq_some_iff.mp e).1
  have hs : i < σ.length := by rw [a.len]; exact hl
  exact ⟨σ[i], List.getElem?_eq_getElem hs, a.sl i s _ e (List.getElem?_eq_getElem hs)⟩
theorem Ab.h0 (a : Ab K B ρ G σ H) {p : Addr} (n : H p = none) : B.H0 p = none := by
  cases z : B.H0 p with
  | none => rfl
  | some o => rw [a.kp p o z fun m => a.mh p m n] at n; cases n
theorem Ab.ext (a : Ab K B ρ G σ H) (x : Ext G H G' H') : Ab K B ρ G' σ H' := by
  refine ⟨x.f, a.g0.trans x.g, fun b o e n => ?_, fun b o e m => x.h b o (a.kp b o e m), a.len, fun i s o e1 e2 => ((a.sl i s o e1 e2).monoG x.g).heap fun p u _ _ q => x.h p u q, ?_, ?_, a.ap⟩
  · cases z : G b with
    | some u => exact a.nw b u z n
    | none => exact a.h0 (x.n b o e z)
  · intro i s p e1 e2 e3
    obtain ⟨n, q⟩ := a.fr i s p e1 e2 e3
    refine ⟨?_, q⟩
    cases z : G' p with
    | none => rfl
    | some o => exact absurd (x.n p o z n) ((a.sl i s _ e1 e3).there e2)
  · intro p m z
    cases w : H p with
    | none => exact a.mh p m w
    | some o => rw [x.h p o w] at z; cases z
/-- a list at p, of no other, is never changed from now on -/
theorem Ab.freezeAt (a : Ab K B ρ G σ H) {p : Addr} {o : HO} (hp : H p = some o) (n : G p = none) (b : B.H0 p = none) (no : ∀ (i : Nat) (s : Sl), ρ[i]? = some s → isOwn s = true → σ[i]? ≠ some (some (.ref p))) : Ab K B ρ (upd G p o) σ H := by
  refine ⟨a.fz.addG hp, a.g0.trans (Sub.new n), fun c u e z => ?_, a.kp, a.len, fun i s u e1 e2 => (a.sl i s u e1 e2).monoG (Sub.new n), ?_, a.mh, a.ap⟩
  · by_cases q : c = p
    · rw [q]; exact b
    · rw [upd_ne q] at e; exact a.nw c u e z
  · intro i s q e1 e2 e3
    obtain ⟨z, w⟩ := a.fr i s q e1 e2 e3
    refine ⟨?_, w⟩
    rw [upd_ne (fun y => no i s e1 e2 (by rw [← y]; exact e3))]
    exact z
theorem set_key {s0 : Sl} {i : Nat} {j : Nat} {s : Sl} (q : (ρ.set i s0)[j]? = some s) : (j = i ∧ s = s0) ∨ (j ≠ i ∧ ρ[j]? = some s) := by
  by_cases z : j = i
  · subst z
    have hl : j < ρ.length := by
      have := (List.getElem?_eq_some_iff.mp q).1
      simpa using this
    rw [List.getElem?_set_self hl] at q
    cases q
    exact .inl ⟨rfl, rfl⟩
  · rw [List.getElem?_set_ne (Ne.symm z)] at q
    exact .inr ⟨z, q⟩
theorem setO_key {σ : St} {o0 : Option V} {i : Nat} {j : Nat} {o : Option V} (q : (σ.set i o0)[j]? = some o) : (j = i ∧ o = o0) ∨ (j ≠ i ∧ σ[j]? = some o) := by
  by_cases z : j = i
  · subst z
    have hl : j < σ.length := by
      have := (List.getElem?_eq_some_iff.mp q).1
      simpa using this
    rw [List.getElem?_set_self hl] at q
    cases q
    exact .inl ⟨rfl, rfl⟩
  · rw [List.getElem?_set_ne (Ne.symm z)] at q
    exact .inr ⟨z, q⟩
/-- the slot's list is told as data: a new own list at p frozen -/
theorem Ab.freeze (a : Ab K B ρ G σ H) {i : Nat} {xs : List PyData} (e : ρ[i]? = some (.own xs)) :
    ∃ p vs, σ[i]? = some (some (.ref p)) ∧ H p = some (.lst vs) ∧ G p = none ∧ Ab K B (ρ.set i (.dat (.list xs))) (upd G p (.lst vs)) σ H ∧ Dp K (upd G p (.lst vs)) (.ref p) (.list xs) := by
  obtain ⟨o, h1, h2⟩ := a.at e
  obtain ⟨p, vs, rfl, hp, hd⟩ := h2
  obtain ⟨gp, bp⟩ := a.fr i _ p e rfl h1
  have bp : B.H0 p = none := bp
  have hdp : Dp K (upd G p (.lst vs)) (.ref p) (.list xs) := .lst (SqL.of upd_same) (DpAll.mono (Sub.new gp) hd)
  refine ⟨p, vs, h1, hp, gp, ?_, hdp⟩
  refine ⟨a.fz.addG hp, a.g0.trans (Sub.new gp), fun c u z n => ?_, a.kp, by simpa using a.len, fun j s o e1 e2 => ?_, fun j s q e1 e2 e3 => ?_, a.mh, fun j k s t q e1 e2 e3 e4 e5 e6 => ?_⟩
  · by_cases q : c = p
    · rw [q]; exact bp
    · rw [upd_ne q] at z; exact a.nw c u z n
  · rcases set_key e1 with ⟨rfl, rfl⟩ | ⟨_, q⟩
    · rw [h1] at e2
      cases e2
      exact ⟨_, rfl, hdp⟩
    · exact (a.sl j s o q e2).monoG (Sub.new gp)
  · rcases set_key e1 with ⟨rfl, rfl⟩ | ⟨ne, z⟩
    · cases e2
    · obtain ⟨z1, z2⟩ := a.fr j s q z e2 e3
      refine ⟨?_, z2⟩
      rw [upd_ne (fun y => ne (a.ap j i s _ p z e e2 rfl (by rw [← y]; exact e3) h1))]
      exact z1
  · rcases set_key e1 with ⟨rfl, rfl⟩ | ⟨_, z⟩
    · cases e3
    · rcases set_key e2 with ⟨rfl, rfl⟩ | ⟨_, z'⟩
      · cases e4
      · exact a.ap j k s t q z z' e3 e4 e5 e6
/-- a name is bound to data -/
theorem Ab.store (a : Ab K B ρ G σ H) (i : Nat) {d : PyData} {v : V} (h : Dp K G v d) : Ab K B (ρ.set i (.dat d)) G (σ.set i (some v)) H := by
  refine ⟨a.fz, a.g0, a.nw, a.kp, by simpa using a.len, fun j s o e1 e2 => ?_, fun j s p e1 e2 e3 => ?_, a.mh, fun j k s t p e1 e2 e3 e4 e5 e6 => ?_⟩
  · rcases set_key e1 with ⟨rfl, rfl⟩ | ⟨n, q⟩
    · rcases setO_key e2 with ⟨_, rfl⟩ | ⟨n, _⟩
      · exact ⟨v, rfl, h⟩
      · exact absurd rfl n
    · rcases setO_key e2 with ⟨z, _⟩ | ⟨_, q2⟩
      · exact absurd z n
      · exact a.sl j s o q q2
  · rcases set_key e1 with ⟨rfl, rfl⟩ | ⟨n, q⟩
    · cases e2
    · rcases setO_key e3 with ⟨z, _⟩ | ⟨_, q2⟩
      · exact absurd z n
      · exact a.fr j s p q e2 q2
  · rcases set_key e1 with ⟨rfl, rfl⟩ | ⟨n, q⟩
    · cases e3
    · rcases set_key e2 with ⟨rfl, rfl⟩ | ⟨n', q'⟩
      · cases e4
      · rcases setO_key e5 with ⟨z, _⟩ | ⟨_, q2⟩
        · exact absurd z n
        · rcases setO_key e6 with ⟨z, _⟩ | ⟨_, q3⟩
          · exact absurd z n'
          · exact a.ap j k s t p q q' e3 e4 q2 q3
/-- a name is forgotten -/
theorem Ab.forget (a : Ab K B ρ G σ H) (i : Nat) (o0 : Option V) : Ab K B (ρ.set i .un) G (σ.set i o0) H := by
  refine ⟨a.fz, a.g0, a.nw, a.kp, by simpa using a.len, fun j s o e1 e2 => ?_, fun j s p e1 e2 e3 => ?_, a.mh, fun j k s t p e1 e2 e3 e4 e5 e6 => ?_⟩
  · rcases set_key e1 with ⟨rfl, rfl⟩ | ⟨n, q⟩
    · trivial
    · rcases setO_key e2 with ⟨z, _⟩ | ⟨_, q2⟩
      · exact absurd z n
      · exact a.sl j s o q q2
  · rcases set_key e1 with ⟨rfl, rfl⟩ | ⟨n, q⟩
    · cases e2
    · rcases setO_key e3 with ⟨z, _⟩ | ⟨_, q2⟩
      · exact absurd z n
      · exact a.fr j s p q e2 q2
  · rcases set_key e1 with ⟨rfl, rfl⟩ | ⟨n, q⟩
    · cases e3
    · rcases set_key e2 with ⟨rfl, rfl⟩ | ⟨n', q'⟩
      · cases e4
      · rcases setO_key e5 with ⟨z, _⟩ | ⟨_, q2⟩
        · exact absurd z n
        · rcases setO_key e6 with ⟨z, _⟩ | ⟨_, q3⟩
          · exact absurd z n'
          · exact a.ap j k s t p q q' e3 e4 q2 q3
/-- a name is bound to a list of its own -/
theorem Ab.storeN (a : Ab K B ρ G σ H) (i : Nat) {xs : List PyData} {v : V} (h : RelN K B ρ σ G H v xs) : Ab K B (ρ.set i (.own xs)) G (σ.set i (some v)) H := by
  obtain ⟨p, vs, rfl, hp, hd, gp, bp, no⟩ := h
  refine ⟨a.fz, a.g0, a.nw, a.kp, by simpa using a.len, fun j s o e1 e2 => ?_, fun j s q e1 e2 e3 => ?_, a.mh, fun j k s t q e1 e2 e3 e4 e5 e6 => ?_⟩
  · rcases set_key e1 with ⟨rfl, rfl⟩ | ⟨n, q⟩
    · rcases setO_key e2 with ⟨_, rfl⟩ | ⟨n, _⟩
      · exact ⟨p, vs, rfl, hp, hd⟩
      · exact absurd rfl n
    · rcases setO_key e2 with ⟨z, _⟩ | ⟨_, q2⟩
      · exact absurd z n
      · exact a.sl j s o q q2
  · rcases set_key e1 with ⟨rfl, rfl⟩ | ⟨n, z⟩
    · rcases setO_key e3 with ⟨_, w⟩ | ⟨n, _⟩
      · cases w
        exact ⟨gp, bp⟩
      · exact absurd rfl n
    · rcases setO_key e3 with ⟨w, _⟩ | ⟨_, q2⟩
      · exact absurd w n
      · exact a.fr j s q z e2 q2
  · rcases set_key e1 with ⟨rfl, rfl⟩ | ⟨n, z⟩
    · rcases setO_key e5 with ⟨_, w⟩ | ⟨n, _⟩
      · cases w
        rcases set_key e2 with ⟨rfl, rfl⟩ | ⟨n', z'⟩
        · rfl
        · rcases setO_key e6 with ⟨w, _⟩ | ⟨_, q3⟩
          · exact w.symm
          · exact absurd q3 (no k t z' e4)
      · exact absurd rfl n
    · rcases setO_key e5 with ⟨w, _⟩ | ⟨_, q2⟩
      · exact absurd w n
      · rcases set_key e2 with ⟨rfl, rfl⟩ | ⟨n', z'⟩
        · rcases setO_key e6 with ⟨_, w⟩ | ⟨n', _⟩
          · cases w
            exact absurd q2 (no j s z e3)
          · exact absurd rfl n'
        · rcases setO_key e6 with ⟨w, _⟩ | ⟨_, q3⟩
          · exact absurd w n'
          · exact a.ap j k s t q z z' e3 e4 q2 q3
/-- a list of a slot changes -/
theorem Ab.mutate (a : Ab K B ρ G σ H) {i : Nat} {s0 : Sl} {xs' : List PyData} {p : Addr} {vs' : List V} (e : ρ[i]? = some s0) (w0 : isOwn s0 = true) (h : σ[i]? = some (some (.ref p))) (hd : DpAll K G vs' xs') : Ab K B (ρ.set i (setOw s0 xs')) G σ (upd H p (.lst vs')) := by
  obtain ⟨gp, bp⟩ := a.fr i _ p e w0 h
  refine ⟨a.fz.updG gp, a.g0, a.nw, fun b o q m => ?_, by simpa using a.len, fun j s o e1 e2 => ?_, fun j s q e1 e2 e3 => ?_, fun r m z => ?_, fun j k s t q e1 e2 e3 e4 e5 e6 => ?_⟩
  · rw [upd_ne]
    · exact a.kp b o q m
    · rintro rfl
      cases s0 with
      | own ys => have bp : B.H0 b = none := bp; rw [bp] at q; cases q
      | arg ys => exact m bp
      | un => cases w0
      | dat d => cases w0
  · rcases set_key e1 with ⟨rfl, rfl⟩ | ⟨n, q⟩
    · rw [h] at e2
      cases e2
      exact SlR.ofOw xs' w0 ⟨p, vs', rfl, upd_same, hd⟩
    · refine (a.sl j s o q e2).heap fun r u w z y => ?_
      rw [upd_ne]
      · exact y
      · rintro rfl
        subst z
        exact n (a.ap j i s _ r q e w w0 e2 h)
  · rcases set_key e1 with ⟨rfl, rfl⟩ | ⟨n, z⟩
    · rw [frOk_set]
      exact a.fr j s0 q e w0 e3
    · exact a.fr j s q z e2 e3
  · by_cases w : r = p
    · subst w
      rw [upd_same] at z
      cases z
    · rw [upd_ne w] at z
      exact a.mh r m z
  · rcases set_key e1 with ⟨rfl, rfl⟩ | ⟨n, z⟩
    · rcases set_key e2 with ⟨rfl, rfl⟩ | ⟨n', z'⟩
      · rfl
      · exact a.ap j k s0 t q e z' w0 e4 e5 e6
    · rcases set_key e2 with ⟨rfl, rfl⟩ | ⟨n', z'⟩
      · exact a.ap j k s s0 q z e e3 w0 e5 e6
      · exact a.ap j k s t q z z' e3 e4 e5 e6
/-- another frame for a while: more is kept -/
theorem Ab.inner (a : Ab K B ρ G σ H) {H0 : Hp} (s : ∀ b o, H0 b = some o → b ∉ B.mt → H b = some o) (n : ∀ (i : Nat) (t : Sl) (p : Addr), ρ[i]? = some t → isOwn t = true → σ[i]? = some (some (.ref p)) → frOk { B with H0 := H0, G0 := G } p t) : Ab K { B with H0 := H0, G0 := G } ρ G σ H := by
  refine ⟨a.fz, Sub.refl _, fun b o e n => ?_, s, a.len, a.sl, fun i t p e1 e2 e3 => ⟨(a.fr i t p e1 e2 e3).1, n i t p e1 e2 e3⟩, a.mh, a.ap⟩
  have n : G b = none := n
  rw [n] at e
  cases e
/-- .. and back -/
theorem Ab.outer {ρ' : En} {σ' : St} {H0 : Hp} (a : Ab K B ρ G σ H) (s : Sub B.H0 H0) (b : Ab K { B with H0 := H0, G0 := G } ρ' G' σ' H') : Ab K B ρ' G' σ' H' := by
  refine ⟨b.fz, a.g0.trans b.g0, fun c o e n => ?_, fun c o e m => b.kp c o (s c o e) m, b.len, b.sl, fun i t p e1 e2 e3 => ?_, b.mh, b.ap⟩
  · cases z : G c with
    | some u => exact a.nw c u z n
    | none =>
      have w : H0 c = none := b.nw c o e z
      exact s.gone w
  · obtain ⟨z1, z2⟩ := b.fr i t p e1 e2 e3
    refine ⟨z1, ?_⟩
    cases t with
    | own xs =>
      have z2 : H0 p = none := z2
      exact s.gone z2
    | arg xs => exact z2
    | un => trivial
    | dat d => trivial
end

/-! ### expressions -/
section
variable {X : Cx} {W : WX}
theorem ME.of {e : Expr} {t : TE} {f : En → Rs PyData} (h : PE X e t) (k : ∀ B ρ G σ H Q, Ab X.K B ρ G σ H → Pst X.K X.mg B W (RelD X.K) G σ Q (f ρ) → t σ H Q) : ME X W e f :=
  fun B => PE.imp h fun σ H Q ⟨ρ, G, a, p⟩ => k B ρ G σ H Q a p
def rdVar (i : Nat) (ρ : En) : Rs PyData :=
  match ρ[i]? with
  | some (.dat d) => .ok d ρ
  | some (.own xs) => .ok (.list xs) (ρ.set i (.dat (.list xs)))
  | _ => .bad
theorem me_var {x : Str} {pos : Pos} (i : Nat) (hN : X.N[i]? = some x := by rfl) (hv : Vis X.env.scope x := by first | exact .inl rfl | exact .inr (.inl rfl) | exact .inr (.inr rfl)) (hd : (x == ("__debug__" : Str)) = false := by decide) (hcd : (x == ("__classdict__" : Str)) = false := by decide) :
    ME X W (.Name x pos) (rdVar i) := by
  refine ME.of (pe_var hN hv hd hcd) fun B ρ G σ H Q a p => ?_
  unfold rdVar at p
  cases e : ρ[i]? with
  | none => rw [e] at p; exact p.elim
  | some s =>
    rw [e] at p
    cases s with
    | un => exact p.elim
    | dat d =>
      obtain ⟨o, h1, v, rfl, h2⟩ := a.at e
      exact ⟨v, h1, p v G H a (Sub.refl _) h2⟩
    | arg xs => exact p.elim
    | own xs =>
      obtain ⟨q, vs, h1, hq, gq, a', hd⟩ := a.freeze e
      exact ⟨_, h1, p _ _ H a' (Sub.new gq) hd⟩
theorem me_new {e : Expr} {f : En → Rs (List PyData)} (h : MN X W e f) : ME X W e (fun ρ => (f ρ).map .list) := fun B => PE.imp (h B) fun σ H Q ⟨ρ, G, a, p⟩ => by
  refine ⟨ρ, G, a, ?_⟩
  have p : Pst X.K X.mg B W (RelD X.K) G σ Q ((f ρ).bind fun a ρ => Rs.ok (PyData.list a) ρ) := p
  cases e : f ρ with
  | bad => rw [e] at p; exact p.elim
  | err c ρ1 => rw [e] at p; exact p
  | ok xs ρ1 =>
    rw [e] at p
    rintro v G1 H1 a1 s1 ⟨q, vs, rfl, hq, hd, gq, bq, no⟩
    exact p (.ref q) _ H1 (a1.freezeAt hq gq bq no) (s1.trans (Sub.new gq)) (.lst (SqL.of upd_same) (DpAll.mono (Sub.new gq) hd))
/-- a scalar that is written -/
theorem me_con {e : Expr} {v : V} {d : PyData} (h : PE X e (tC v)) (r : ∀ G, Dp X.K G v d) : ME X W e (fun ρ => .ok d ρ) :=
  ME.of h fun B ρ G σ H Q a p => p v G H a (Sub.refl _) (r G)
theorem me_int {i j pos} : ME X W (.Constant (.int i) j pos) (fun ρ => .ok (.int i) ρ) := me_con pe_int fun _ => .int i
theorem me_str {i j pos} : ME X W (.Constant (.str i) j pos) (fun ρ => .ok (.str i) ρ) := me_con pe_str fun _ => .str i
theorem me_bl {i j pos} : ME X W (.Constant (.bool i) j pos) (fun ρ => .ok (.bool i) ρ) := me_con pe_bl fun _ => .bl i
theorem me_non {j pos} : ME X W (.Constant .none j pos) (fun ρ => .ok .none ρ) := me_con pe_non fun _ => .non
theorem me_gint {x : Str} {i : Int} {t : Tok} {pos : Pos} (hg : Gl X x) (hm : X.mg x = some (.int i t)) (hd : (x == ("__debug__" : Str)) = false := by decide) : ME X W (.Name x pos) (fun ρ => .ok (.int i) ρ) := me_con (v := .int i) (pe_glob hg hm ⟨t, rfl⟩ hd) fun _ => .int i
theorem me_gstr {x : Str} {i : Str} {t : Tok} {pos : Pos} (hg : Gl X x) (hm : X.mg x = some (.str i t)) (hd : (x == ("__debug__" : Str)) = false := by decide) : ME X W (.Name x pos) (fun ρ => .ok (.str i) ρ) := me_con (v := .str i) (pe_glob hg hm ⟨t, rfl⟩ hd) fun _ => .str i

/-! ### argument lists -/
theorem ma_nil : MA X W [] (fun ρ => .ok [] ρ) := fun B => PA.imp pa_nil fun σ H Q ⟨ρ, G, a, p⟩ => p [] G H a (Sub.refl _) .nil
theorem ma_cons {e : Expr} {es : List Expr} {f : En → Rs PyData} {g : En → Rs (List PyData)} (he : ME X W e f) (hr : MA X W es g) (hs : starEach (e :: es) X.env = (false, eval e X.env) :: starEach es X.env := by rfl) :
    MA X W (e :: es) (fun ρ => (f ρ).bind fun d ρ1 => (g ρ1).bind fun ds ρ2 => .ok (d :: ds) ρ2) := fun B => PA.imp (pa_cons (he B) (hr B) hs) fun σ H Q ⟨ρ, G, a, p⟩ => by
  refine Pst.bind a p fun d ρ1 v G1 H1 _ a1 _ r1 p1 => ?_
  refine Pst.bind a1 p1 fun ds ρ2 vs G2 H2 _ a2 s2 r2 p2 => ?_
  exact p2 _ G2 H2 a2 (Sub.refl _) (.cons (Dp.mono s2 r1) r2)
/-- the items of a list or a tuple -/
def itemsOf : PyData → Option (List PyData)
  | .list xs => some xs
  | .tuple xs => some xs
  | _ => none
theorem Dp.items {K : PySem.W.Frag} {G : Hp} {v : V} {d : PyData} {xs : List PyData} (h : Dp K G v d) (e : itemsOf d = some xs) : ∃ p vs, v = .ref p ∧ (SqT K G p vs ∨ SqL K G p vs) ∧ DpAll K G vs xs := by
  cases h with
  | lst r q => cases e; exact ⟨_, _, rfl, .inr r, q⟩
  | tup r q => cases e; exact ⟨_, _, rfl, .inl r, q⟩
  | _ => cases e
theorem ma_star {e : Expr} {p : Pos} {es : List Expr} {f : En → Rs PyData} {g : En → Rs (List PyData)} (he : ME X W e f) (hr : MA X W es g) (hs : starEach (.Starred e p :: es) X.env = (true, eval e X.env) :: starEach es X.env := by rfl) :
    MA X W (.Starred e p :: es) (fun ρ => (f ρ).bind fun d ρ1 => (ofO (itemsOf d) ρ1).bind fun xs ρ1 => (g ρ1).bind fun ds ρ2 => .ok (xs ++ ds) ρ2) := fun B => PA.imp (StX.pa_star (he B) (hr B) hs) fun σ H Q ⟨ρ, G, a, p⟩ => by
  refine Pst.bind a p fun d ρ1 v G1 H1 _ a1 _ r1 p1 => ?_
  cases hi : itemsOf d with
  | none => rw [hi] at p1; exact p1.elim
  | some xs =>
    rw [hi] at p1
    have p1 : Pst X.K X.mg B W (RelA X.K) G1 σ Q ((g ρ1).bind fun ds ρ2 => .ok (xs ++ ds) ρ2) := p1
    obtain ⟨q, vs, rfl, hq, hv⟩ := Dp.items r1 hi
    refine ⟨q, vs, rfl, hq.imp (SqT.mono a1.fz) (SqL.mono a1.fz), ?_⟩
    refine Pst.bind a1 p1 fun ds ρ2 us G2 H2 _ a2 s2 r2 p2 => ?_
    exact p2 _ G2 H2 a2 (Sub.refl _) (DpAll.append (DpAll.mono s2 hv) r2)
/-- (a, b, ..) -/
def mkTup (xs : List PyData) (ρ : En) : Rs PyData := if xs.length ≤ sizeLine then .ok (.tuple xs) ρ else .bad
theorem me_tup {es : List Expr} {x1 pos} {g : En → Rs (List PyData)} (h : MA X W es g) : ME X W (.Tuple es x1 pos) (fun ρ => (g ρ).bind mkTup) := fun B => PE.imp (pe_tup (h B)) fun σ H Q ⟨ρ, G, a, p⟩ => by
  refine Pst.bind a p fun ds ρ1 vs G1 H1 _ a1 _ r1 p1 => ?_
  unfold mkTup at p1
  split at p1
  · rename_i hz
    refine ⟨by rw [DpAll.length r1]; exact hz, fun q hq => ?_⟩
    have x := Ext.new (o := .tup vs) a1.fz hq
    exact p1 _ _ _ (a1.ext x) x.g (.tup (SqT.of upd_same) (DpAll.mono x.g r1))
  · exact p1.elim
theorem RelN.fresh {B : Bs} {ρ : En} {G : Hp} {σ : St} {H : Hp} {K : PySem.W.Frag} {q : Addr} {vs : List V} {xs : List PyData} (a : Ab K B ρ G σ H) (hq : H q = none) (hd : DpAll K G vs xs) : Ab K B ρ G σ (upd H q (.lst vs)) ∧ RelN K B ρ σ G (upd H q (.lst vs)) (.ref q) xs := by
  have gq := a.fz.gone hq
  have bq := a.h0 hq
  have x : Ext G H G (upd H q (.lst vs)) := ⟨Sub.refl _, Sub.new hq, a.fz.upd hq, fun b o e n => by rw [n] at e; cases e⟩
  exact ⟨a.ext x, q, vs, rfl, upd_same, hd, gq, bq, fun i s e1 e2 e3 => absurd hq ((a.sl i s _ e1 e3).there e2)⟩
end
end ML
set_option maxRecDepth 100000
set_option maxHeartbeats 4000000
/-! lists of any standing (tracked, frozen, known): extend, +, times -/
namespace ML
open PySem L2
theorem extend_any (l : Addr) (xs : Array Value) (n : Nat) (b : Addr) (ys : Array Value) (n2 : Nat) (dd : Option Addr) (sl : Array (Option Value)) (h0 : ¬(!xs.isEmpty && Builtin.List.listTooLong (xs.size + ys.size)) = true) (h1 : xs.size ≤ sizeLine) (h2 : xs.size + ys.size ≤ sizeLine + 1) :
    Meets (Builtin.«list.extend» ⟨[.ref l, .ref b], []⟩) (fun _ R s => s.heap.get? l = some { cls := .type "list", data := .seq xs n } ∧ s.heap.get? b = some { cls := .type "list", dict := dd, data := .seq ys n2, slots := sl } ∧
      R (.ok (.ret Value.none)) { s with heap := s.heap.update l (Obj.mapSeq fun x => x ++ ys), toks := s.toks }) :=
  .of_wp fun prog w A R s h => by
    obtain ⟨hp, g, d, tk, os⟩ := s
    obtain ⟨hl, hb, h⟩ := h
    have f1 := AutoSeq1.idx_int
    have f2 := AutoSeq1.sub_tuple_tuple
    have f3 := AutoSeq1.sub_list_list
    have f4 := AutoSeq1.sub_tuple_list
    have f5 := AutoSeq1.sub_list_tuple
    have hz' : (xs ++ ys).size ≤ sizeLine + 1 := by rw [Array.size_append]; exact h2
    wp_walk using (wpAny_updateSeq hl rfl (hz := h1) (_hz' := hz')), wpAny_loadPart' hl, wpAny_loadPart' hb
    exact ⟨_, rfl, h⟩
theorem mul_any (l : Addr) (xs : Array Value) (n : Nat) (x : Int) (u : Tok) (dd : Option Addr) (sl : Array (Option Value)) (h0 : ¬(!Builtin.List.listFitsIndex x) = true) (h1 : ¬xs.size * x.toNat > (2 ^ 63 - 1) / 8) (h2 : ¬Builtin.List.listTooLong (xs.size * x.toNat) = true) :
    Meets (Builtin.«list.__mul__» ⟨[.ref l, .int x u], []⟩) (fun _ R s => s.heap.get? l = some { cls := .type "list", dict := dd, data := .seq xs n, slots := sl } ∧
      R (.ok (.ret (Value.ref s.heap.objs.size))) { s with heap := s.heap.push { cls := Value.type "list", data := Data.seq (List.foldl (fun x1 x2 => x1 ++ x2) #[] (List.replicate (if xs.isEmpty = true then 0 else x.toNat) xs)) }, toks := s.toks }) :=
  .of_wp fun prog w A R s h => by
    obtain ⟨hp, g, d, tk, os⟩ := s
    obtain ⟨hl, h⟩ := h
    have fits := AutoListH.joined_fits h2
    wp_walk
    refine wpAny_ite_false (decide_eq_false (Nat.not_lt.mpr fits)) ?_
    wp_walk
    exact ⟨_, rfl, h⟩
theorem rmul_any (a : Int) (t : Tok) (l : Addr) (xs : Array Value) (n : Nat) (dd : Option Addr) (sl : Array (Option Value)) :
    Meets (Builtin.«int.__rmul__» ⟨[.int a t, .ref l], []⟩) (fun _ R s => s.heap.get? l = some { cls := .type "list", dict := dd, data := .seq xs n, slots := sl } ∧ R (.ok (.ret Value.notImplemented)) s) :=
  .of_wp fun prog w A R s h => by
    obtain ⟨hp, g, d, tk, os⟩ := s
    obtain ⟨hl, h⟩ := h
    wp_walk
    exact ⟨_, rfl, h⟩
section
variable {X : Cx}
def rExtS (K : PySem.W.Frag) : V → List V → Hp → VK → Prop := fun x vs H Q => ∃ l b xs zs, x = .ref l ∧ vs = [.ref b] ∧ H l = some (.lst xs) ∧ SqL K H b zs ∧ xs.length + zs.length ≤ sizeLine ∧ Q .non (upd H l (.lst (xs ++ zs)))
theorem mt_extS : MtM X "list.extend" (rExtS X.K) := by
  rintro pins s σ H x vs v us Q I rx rv ⟨l, b, xs, zs, rfl, rfl, hl, hb, hz, q⟩
  cases rx
  obtain ⟨u, rfl, ru⟩ := rv.one
  cases ru
  obtain ⟨_, its, n, r, len, e⟩ := I.lstM hl
  obtain ⟨its2, r2, ⟨⟨cl, dd, dt, sl⟩, n2, e2, h1, h2, h3⟩, _⟩ := I.list hb
  have len2 := r2.length
  dsimp only at h1 h2 h3
  subst h1 h2 h3
  have sz : its.toArray.size + its2.toArray.size ≤ sizeLine := by simpa [← len, ← len2] using hz
  have long : ¬(!its.toArray.isEmpty && Builtin.List.listTooLong (its.toArray.size + its2.toArray.size)) = true := by rw [notLongL sz, Bool.and_false]; nofun
  refine call_meets PySem.F.slot_list_extend ⟨_, e, rfl⟩ PySem.F.entry_list_extend (PySem.F.args_list_extend_2 _ _) (extend_any l its.toArray n b its2.toArray n2 none sl long (by omega) (by omega)) ⟨e, e2, ?_⟩
  exact ⟨.non, _, I.lset (its' := its ++ its2) hl e (by simp) (r.append r2) (by rw [List.length_append]; exact hz), rfl, q⟩
def rCatS (K : PySem.W.Frag) : R2 := fun x y H Q => ∃ l b xs zs, x = .ref l ∧ y = .ref b ∧ SqL K H l xs ∧ SqL K H b zs ∧ xs.length + zs.length ≤ sizeLine ∧ ∀ p, H p = none → Q (.ref p) (upd H p (.lst (xs ++ zs)))
theorem op_catS : OpR X (binaryOp .Add) (rCatS X.K) := by
  rintro pins s σ H x y v u Q I rx ry ⟨l, b, xs, zs, rfl, rfl, hl, hb, hz, q⟩
  cases rx
  cases ry
  obtain ⟨its, r, ⟨⟨cl, dd, dt, sl⟩, n, e, h1, h2, h3⟩, _⟩ := I.list hl
  obtain ⟨its2, r2, ⟨⟨cl2, dd2, dt2, sl2⟩, n2, e2, h4, h5, h6⟩, _⟩ := I.list hb
  have len := r.length
  have len2 := r2.length
  dsimp only at h1 h2 h3 h4 h5 h6
  subst h1 h2 h3 h4 h5 h6
  have sz : its.toArray.size + its2.toArray.size ≤ sizeLine := by simpa [← len, ← len2] using hz
  refine concat_meets ⟨_, e, rfl⟩ ⟨_, e2, rfl⟩ noFill_list_add seq_list_add PySem.F.slot_list_add PySem.F.entry_list_add (PySem.F.args_list_add_2 _ _) (PyProof.Rows.list_addW l b its.toArray its2.toArray n n2 none none sl sl2 sz) ⟨e, e2, ?_⟩
  have ea : its.toArray ++ its2.toArray = (its ++ its2).toArray := by simp
  rw [ea]
  exact ⟨.ref _, _, I.lnew (t' := s.toks) (r.append r2) (by rw [List.length_append]; exact hz), rfl, q _ I.fresh⟩
def rRepS (K : PySem.W.Frag) : R2 := fun x y H Q => ∃ l k xs, x = .ref l ∧ y = .int k ∧ SqL K H l xs ∧ -(2 ^ 63) ≤ k ∧ k < 2 ^ 63 ∧ xs.length * k.toNat ≤ sizeLine ∧ ∀ p, H p = none → Q (.ref p) (upd H p (.lst (List.replicate k.toNat xs).flatten))
theorem op_repS : OpR X (binaryOp .Mult) (rRepS X.K) := by
  rintro pins s σ H x y v u Q I rx ry ⟨l, k, xs, rfl, rfl, hl, k1, k2, hz, q⟩
  cases rx
  obtain ⟨t, rfl⟩ := ry
  obtain ⟨its, r, ⟨⟨cl, dd, dt, sl⟩, n, e, h1, h2, h3⟩, _⟩ := I.list hl
  have len := r.length
  dsimp only at h1 h2 h3
  subst h1 h2 h3
  have sz : its.toArray.size * k.toNat ≤ sizeLine := by simpa [← len] using hz
  have cap : ¬ its.toArray.size * k.toNat > (2 ^ 63 - 1) / 8 := by
    have : (sizeLine : Nat) ≤ (2 ^ 63 - 1) / 8 := by decide
    omega
  have fit : ¬ (!Builtin.List.listFitsIndex k) = true := by rw [fitsIndex_both k1 k2]; nofun
  have long : ¬ Builtin.List.listTooLong (its.toArray.size * k.toNat) = true := by rw [notLongL sz]; nofun
  have new : List.foldl (fun x1 x2 => x1 ++ x2) #[] (List.replicate (if its.toArray.isEmpty = true then 0 else k.toNat) its.toArray) = (List.replicate k.toNat its).flatten.toArray := by
    have f0 : ∀ m : Nat, List.foldl (fun x1 x2 => x1 ++ x2) #[] (List.replicate m its.toArray) = (List.replicate m its).flatten.toArray := fun m => by simpa using foldl_rep its m []
    rw [f0]
    cases its with
    | nil => simp
    | cons a r' => simp
  refine wpAny_binaryOp_repeat_ref (T := "list") (U := "int") (by decide) ⟨_, e, rfl⟩ (fun s' => typeIs_int s' k t) noFill_list_mul F.fills_int_mul F.slot_int_rmul repeat_list F.slot_int_index.lookup
    (call_meets F.slot_int_rmul (typeIs_int s k t) F.entry_int_rmul (F.args_int_rmul_2 _ _) (rmul_any k t l its.toArray n none sl) ⟨e, rfl, ⟨_, e, rfl⟩, ?_⟩)
  refine call_meets F.slot_list_mul ⟨_, e, rfl⟩ F.entry_list_mul (F.args_list_mul_2 _ _) (mul_any l its.toArray n k t none sl fit cap long) ⟨e, ?_⟩
  rw [new]
  exact ⟨.ref _, _, I.lnew (t' := s.toks) (r.rep k.toNat) (by rw [PyProof.Rows.lm_len_rep_flat, Nat.mul_comm]; exact hz), rfl, q _ I.fresh⟩
end
end ML
set_option maxRecDepth 100000
set_option maxHeartbeats 4000000
namespace ML
open PySem L2

/-! ### operators -/
/-- an operator computes g, what it makes is new -/
def OpM (X : Cx) (f : Value → Value → Sem Value) (g : PyData → PyData → Option PyData) : Prop :=
  ∃ r : R2, OpR X f r ∧ ∀ (G H : Hp) (x y : V) (d e z : PyData) (Q : VK), Sub G H → Dp X.K G x d → Dp X.K G y e → g d e = some z → (∀ v G' H', Ext G H G' H' → Dp X.K G' v z → Q v H') → r x y H Q
def UnM (X : Cx) (f : Value → Sem Value) (g : PyData → Option PyData) : Prop :=
  ∃ r : V → Hp → VK → Prop, UnR X f r ∧ ∀ (G H : Hp) (x : V) (d z : PyData) (Q : VK), Sub G H → Dp X.K G x d → g d = some z → (∀ v G' H', Ext G H G' H' → Dp X.K G' v z → Q v H') → r x H Q
section
variable {X : Cx} {W : WX}
def bin2 (g : PyData → PyData → Option PyData) (f1 f2 : En → Rs PyData) (ρ : En) : Rs PyData := (f1 ρ).bind fun d ρ1 => (f2 ρ1).bind fun e ρ2 => ofO (g d e) ρ2
theorem Pst.bin {g : PyData → PyData → Option PyData} {f : Value → Value → Sem Value} {r : R2} (hk : ∀ (G H : Hp) (x y : V) (d e z : PyData) (Q : VK), Sub G H → Dp X.K G x d → Dp X.K G y e → g d e = some z → (∀ v G' H', Ext G H G' H' → Dp X.K G' v z → Q v H') → r x y H Q)
    {f1 f2 : En → Rs PyData} {B : Bs} {ρ : En} {G : Hp} {σ : St} {H : Hp} {Q : VK} (a : Ab X.K B ρ G σ H) (p : Pst X.K X.mg B W (RelD X.K) G σ Q (bin2 g f1 f2 ρ)) :
    tOp r (tG X.K X.mg B W (RelD X.K) f1) (tG X.K X.mg B W (RelD X.K) f2) σ H Q := by
  refine Pst.bind a p fun d ρ1 v G1 H1 _ a1 _ r1 p1 => ?_
  refine Pst.bind a1 p1 fun e ρ2 u G2 H2 _ a2 s2 r2 p2 => ?_
  cases hg : g d e with
  | none => rw [hg] at p2; exact p2.elim
  | some z =>
    rw [hg] at p2
    exact hk G2 H2 v u d e z Q a2.fz (Dp.mono s2 r1) r2 hg fun w G3 H3 x hz => p2 w G3 H3 (a2.ext x) x.g hz
theorem me_op {op : Operator} {g : PyData → PyData → Option PyData} {a b : Expr} {f1 f2 : En → Rs PyData} {pos : Pos} (ho : OpM X (binaryOp op) g) (ha : ME X W a f1) (hb : ME X W b f2) : ME X W (.BinOp a op b pos) (bin2 g f1 f2) := by
  obtain ⟨r, h, hk⟩ := ho
  exact fun B => PE.imp (pe_op h (ha B) (hb B)) fun σ H Q ⟨ρ, G, a, p⟩ => Pst.bin (f := binaryOp op) hk a p
theorem me_cmp {op : CmpOp} {g : PyData → PyData → Option PyData} {a b : Expr} {f1 f2 : En → Rs PyData} {pos : Pos} (ho : OpM X (compareOp op) g) (ha : ME X W a f1) (hb : ME X W b f2) (hm : behindInMarks op b = false) : ME X W (.Compare a [op] [b] pos) (bin2 g f1 f2) := by
  obtain ⟨r, h, hk⟩ := ho
  exact fun B => PE.imp (pe_cmpR h (ha B) (hb B) hm) fun σ H Q ⟨ρ, G, a, p⟩ => Pst.bin (f := compareOp op) hk a p
/-- the truth of data that is a bool -/
def boolOf : PyData → Option Bool
  | .bool b => some b
  | _ => none
def bin2B (g : PyData → PyData → Option PyData) (f1 f2 : En → Rs PyData) (ρ : En) : Rs Bool := (bin2 g f1 f2 ρ).bind fun d ρ1 => ofO (boolOf d) ρ1
theorem Pst.bindD {α : Type} {Rel : Hp → Hp → α → α → Prop} {f : En → Rs PyData} {k : PyData → En → Rs α} {B : Bs} {ρ : En} {G : Hp} {σ : St} {Q : α → Hp → Prop} (p : Pst X.K X.mg B W Rel G σ Q ((f ρ).bind k)) :
    Pst X.K X.mg B W (RelD X.K) G σ (fun v H1 => ∃ d ρ1 G1, Ab X.K B ρ1 G1 σ H1 ∧ Sub G G1 ∧ Dp X.K G1 v d ∧ Pst X.K X.mg B W Rel G1 σ Q (k d ρ1)) (f ρ) := by
  cases e : f ρ with
  | bad => rw [e] at p; exact p.elim
  | err c ρ1 => rw [e] at p; exact p
  | ok d ρ1 =>
    rw [e] at p
    intro v G1 H1 a1 s1 r1
    refine ⟨d, ρ1, G1, a1, s1, r1, ?_⟩
    have p' : Pst X.K X.mg B W Rel G σ Q (k d ρ1) := p
    revert p'
    cases k d ρ1 with
    | bad => exact id
    | err c ρ2 => exact fun h' G' H' a' s' => h' G' H' a' (s1.trans s')
    | ok d2 ρ2 => exact fun h' v' G' H' a' s' r' => h' v' G' H' a' (s1.trans s') r'
theorem Dp.bool {K : PySem.W.Frag} {G : Hp} {v : V} {d : PyData} {b : Bool} (h : Dp K G v d) (e : boolOf d = some b) : v = .bl b := by
  cases h with
  | bl c => cases e; rfl
  | _ => cases e
/-- an expression that gives a bool, as a test -/
theorem mt_val {e : Expr} {f : En → Rs PyData} (h : ME X W e f) (he : ∀ whole, isTrue e X.env whole = (do let v ← whole; standAt e.pos; holding [v] (truthy v)) := by intro _; rfl) : MT X W e (fun ρ => (f ρ).bind fun d ρ1 => ofO (boolOf d) ρ1) := fun B =>
  PT.imp (pt_val (h B) he) fun σ H Q ⟨ρ, G, a, p⟩ => by
    refine Pst.bind a p fun d ρ1 v G1 H1 _ a1 _ r1 p1 => ?_
    cases hb : boolOf d with
    | none => rw [hb] at p1; exact p1.elim
    | some b =>
      rw [hb] at p1
      exact ⟨b, Dp.bool r1 hb, p1 b G1 H1 a1 (Sub.refl _) rfl⟩
theorem mt_cmp {op : CmpOp} {g : PyData → PyData → Option PyData} {a b : Expr} {f1 f2 : En → Rs PyData} {pos : Pos} (ho : OpM X (compareOp op) g) (ha : ME X W a f1) (hb : ME X W b f2) (hm : behindInMarks op b = false) : MT X W (.Compare a [op] [b] pos) (bin2B g f1 f2) := by
  obtain ⟨r, h, hk⟩ := ho
  refine fun B => PT.imp (pt_cmpR h (ha B) (hb B) hm) fun σ H Q ⟨ρ, G, a, p⟩ => ?_
  have p' := Pst.bindD (f := bin2 g f1 f2) p
  refine Pst.bin (f := compareOp op) (fun G H x y d e z Q' s hd he hz hq => hk G H x y d e z Q' s hd he hz hq) a ?_
  revert p'
  cases bin2 g f1 f2 ρ with
  | bad => exact id
  | err c ρ1 => exact id
  | ok d ρ1 =>
    intro p' v G1 H1 a1 s1 r1
    obtain ⟨d', ρ', G', a', s', r', p2⟩ := p' v G1 H1 a1 s1 r1
    cases hb : boolOf d' with
    | none => rw [hb] at p2; exact p2.elim
    | some b =>
      rw [hb] at p2
      exact ⟨b, Dp.bool r' hb, p2 b G' H1 a' (Sub.refl _) rfl⟩
/-- a op b op' c -/
def chain3 (g g' : PyData → PyData → Option PyData) (f1 f2 f3 : En → Rs PyData) (ρ : En) : Rs PyData :=
  (f1 ρ).bind fun d ρ1 => (f2 ρ1).bind fun e ρ2 => (ofO ((g d e).bind boolOf) ρ2).bind fun b ρ2 => if b = true then (f3 ρ2).bind fun h ρ3 => ofO (g' e h) ρ3 else .ok (.bool false) ρ2
theorem me_chain {op op' : CmpOp} {g g' : PyData → PyData → Option PyData} {a b c : Expr} {f1 f2 f3 : En → Rs PyData} {pos : Pos} (ho : OpM X (compareOp op) g) (ho' : OpM X (compareOp op') g') (ha : ME X W a f1) (hb : ME X W b f2) (hc : ME X W c f3)
    (hm : lastMarks [op, op'] [b, c] = false := by with_unfolding_all rfl) : ME X W (.Compare a [op, op'] [b, c] pos) (chain3 g g' f1 f2 f3) := by
  obtain ⟨r, h, hk⟩ := ho
  obtain ⟨r', h', hk'⟩ := ho'
  refine fun B => PE.imp (pe_chain h h' (ha B) (hb B) (hc B) hm) fun σ H Q ⟨ρ, G, a, p⟩ => ?_
  refine Pst.bind a p fun d ρ1 v G1 H1 _ a1 _ r1 p1 => ?_
  refine Pst.bind a1 p1 fun e ρ2 u G2 H2 _ a2 s2 r2 p2 => ?_
  cases hg : g d e with
  | none => rw [hg] at p2; exact p2.elim
  | some z =>
    rw [hg] at p2
    cases hz : boolOf z with
    | none => rw [Option.bind_some, hz] at p2; exact p2.elim
    | some k =>
      rw [Option.bind_some, hz] at p2
      refine hk G2 H2 v u d e z _ a2.fz (Dp.mono s2 r1) r2 hg fun w G3 H3 x hw => ⟨k, Dp.bool hw hz, ?_⟩
      have a3 := a2.ext x
      cases k with
      | false =>
        rw [if_neg Bool.false_ne_true]
        exact p2 _ G3 H3 a3 x.g (.bl false)
      | true =>
        rw [if_pos rfl]
        have p3 : Pst X.K X.mg B W (RelD X.K) G2 σ Q ((f3 ρ2).bind fun h ρ3 => ofO (g' e h) ρ3) := p2
        have p3 : Pst X.K X.mg B W (RelD X.K) G3 σ Q ((f3 ρ2).bind fun h ρ3 => ofO (g' e h) ρ3) := by
          revert p3
          cases (f3 ρ2).bind fun h ρ3 => ofO (g' e h) ρ3 with
          | bad => exact id
          | err c ρ1 => exact fun z G' H' a' s' => z G' H' a' (x.g.trans s')
          | ok d ρ1 => exact fun z v G' H' a' s' r' => z v G' H' a' (x.g.trans s') r'
        refine Pst.bind a3 p3 fun i ρ4 w4 G4 H4 _ a4 s4 r4 p4 => ?_
        cases hg' : g' e i with
        | none => rw [hg'] at p4; exact p4.elim
        | some z' =>
          rw [hg'] at p4
          exact hk' G4 H4 u w4 e i z' Q a4.fz (Dp.mono (x.g.trans s4) r2) r4 hg' fun w5 G5 H5 x5 hz5 => p4 w5 G5 H5 (a4.ext x5) x5.g hz5
theorem me_un {op : UnaryOp} {g : PyData → Option PyData} {a : Expr} {f : En → Rs PyData} {pos : Pos} (ho : UnM X (unaryOp op) g) (ha : ME X W a f) : ME X W (.UnaryOp op a pos) (fun ρ => (f ρ).bind fun d ρ1 => ofO (g d) ρ1) := by
  obtain ⟨r, h, hk⟩ := ho
  refine fun B => PE.imp (pe_un h (ha B)) fun σ H Q ⟨ρ, G, a, p⟩ => ?_
  refine Pst.bind a p fun d ρ1 v G1 H1 _ a1 _ r1 p1 => ?_
  cases hg : g d with
  | none => rw [hg] at p1; exact p1.elim
  | some z =>
    rw [hg] at p1
    exact hk G1 H1 v d z Q a1.fz r1 hg fun w G3 H3 x hz => p1 w G3 H3 (a1.ext x) x.g hz
end

/-! ### the operators' functions -/
def dNeg : PyData → Option PyData
  | .int i => some (.int (-i))
  | _ => none
theorem um_neg {X : Cx} : UnM X (unaryOp .USub) dNeg := by
  refine ⟨_, un_neg, fun G H x d z Q s h e k => ?_⟩
  cases h with
  | int i => cases e; exact ⟨i, rfl, k _ G H (Ext.refl s) (.int _)⟩
  | _ => cases e
def dAdd : PyData → PyData → Option PyData
  | .int i, .int j => some (.int (i + j))
  | .str x, .str y => if x.length + y.length ≤ sizeLine then some (.str (x ++ y)) else none
  | .tuple xs, .tuple ys => if xs.length + ys.length ≤ sizeLine then some (.tuple (xs ++ ys)) else none
  | .list xs, .list ys => if xs.length + ys.length ≤ sizeLine then some (.list (xs ++ ys)) else none
  | _, _ => none
theorem Dp.tupE {K : PySem.W.Frag} {G : Hp} {v : V} {ds : List PyData} (h : Dp K G v (.tuple ds)) : ∃ p vs, v = .ref p ∧ SqT K G p vs ∧ DpAll K G vs ds := by
  cases h with
  | tup r q => exact ⟨_, _, rfl, r, q⟩
theorem Dp.lstE {K : PySem.W.Frag} {G : Hp} {v : V} {ds : List PyData} (h : Dp K G v (.list ds)) : ∃ p vs, v = .ref p ∧ SqL K G p vs ∧ DpAll K G vs ds := by
  cases h with
  | lst r q => exact ⟨_, _, rfl, r, q⟩
theorem Dp.newT {K : PySem.W.Frag} {G : Hp} {p : Addr} {vs : List V} {ds : List PyData} (n : G p = none) (h : DpAll K G vs ds) : Dp K (upd G p (.tup vs)) (.ref p) (.tuple ds) := .tup (SqT.of upd_same) (DpAll.mono (Sub.new n) h)
theorem Dp.newL {K : PySem.W.Frag} {G : Hp} {p : Addr} {vs : List V} {ds : List PyData} (n : G p = none) (h : DpAll K G vs ds) : Dp K (upd G p (.lst vs)) (.ref p) (.list ds) := .lst (SqL.of upd_same) (DpAll.mono (Sub.new n) h)
theorem DpAll.isNil {K : PySem.W.Frag} {G : Hp} {vs : List V} {ds : List PyData} (h : DpAll K G vs ds) : vs = [] ↔ ds = [] := by
  cases h <;> simp
theorem om_add {X : Cx} : OpM X (binaryOp .Add) dAdd := by
  refine ⟨_, op_add.or (op_add_str.or (op_catA.or op_catS)), fun G H x y d e z Q s h1 h2 he k => ?_⟩
  cases d with
  | int i =>
    cases e with
    | int j =>
      cases h1; cases h2; cases he
      exact .inl ⟨_, _, rfl, rfl, k _ G H (Ext.refl s) (.int _)⟩
    | _ => cases he
  | str i =>
    cases e with
    | str j =>
      cases h1; cases h2
      simp only [dAdd] at he
      split at he
      · rename_i hz
        cases he
        exact .inr (.inl ⟨_, _, rfl, rfl, hz, k _ G H (Ext.refl s) (.str _)⟩)
      · cases he
    | _ => cases he
  | tuple xs =>
    cases e with
    | tuple ys =>
      simp only [dAdd] at he
      split at he
      · rename_i hz
        cases he
        obtain ⟨p, us, rfl, q1, r1⟩ := Dp.tupE h1
        obtain ⟨p2, ws, rfl, q2, r2⟩ := Dp.tupE h2
        refine .inr (.inr (.inl ⟨p, p2, us, ws, rfl, rfl, SqT.mono s q1, SqT.mono s q2, by rw [DpAll.length r1, DpAll.length r2]; exact hz, fun n => ?_, fun _ n => ?_, fun _ _ q hq => ?_⟩))
        · have e0 := (DpAll.isNil r1).mp n
          subst e0
          exact k _ G H (Ext.refl s) h2
        · have e0 := (DpAll.isNil r2).mp n
          subst e0
          rw [List.append_nil] at k
          exact k _ G H (Ext.refl s) h1
        · have x := Ext.new (o := .tup (us ++ ws)) s hq
          exact k _ _ _ x (Dp.newT (s.gone hq) (DpAll.append r1 r2))
      · cases he
    | _ => cases he
  | list xs =>
    cases e with
    | list ys =>
      simp only [dAdd] at he
      split at he
      · rename_i hz
        cases he
        obtain ⟨p, us, rfl, q1, r1⟩ := Dp.lstE h1
        obtain ⟨p2, ws, rfl, q2, r2⟩ := Dp.lstE h2
        refine .inr (.inr (.inr ⟨p, p2, us, ws, rfl, rfl, SqL.mono s q1, SqL.mono s q2, by rw [DpAll.length r1, DpAll.length r2]; exact hz, fun q hq => ?_⟩))
        have x := Ext.new (o := .lst (us ++ ws)) s hq
        exact k _ _ _ x (Dp.newL (s.gone hq) (DpAll.append r1 r2))
      · cases he
    | _ => cases he
  | _ => cases he
def dSub : PyData → PyData → Option PyData
  | .int i, .int j => some (.int (i - j))
  | _, _ => none
theorem om_int {X : Cx} {f : Value → Value → Sem Value} {C : Int → Int → Prop} [DecidableRel C] {g : Int → Int → V} {gd : Int → Int → PyData} (ho : OpR X f (rI C g)) (hg : ∀ G i j, Dp X.K G (g i j) (gd i j)) :
    OpM X f (fun d e => match d, e with | .int i, .int j => if C i j then some (gd i j) else none | _, _ => none) := by
  refine ⟨_, ho, fun G H x y d e z Q s h1 h2 he k => ?_⟩
  cases d with
  | int i =>
    cases e with
    | int j =>
      cases h1; cases h2
      simp only at he
      split at he
      · rename_i hc
        cases he
        exact ⟨_, _, rfl, rfl, hc, k _ G H (Ext.refl s) (hg _ _ _)⟩
      · cases he
    | _ => cases he
  | _ => cases he
theorem om_int0 {X : Cx} {f : Value → Value → Sem Value} {g : Int → Int → V} {gd : Int → Int → PyData} (ho : OpR X f (rI0 g)) (hg : ∀ G i j, Dp X.K G (g i j) (gd i j)) :
    OpM X f (fun d e => match d, e with | .int i, .int j => some (gd i j) | _, _ => none) := by
  refine ⟨_, ho, fun G H x y d e z Q s h1 h2 he k => ?_⟩
  cases d with
  | int i =>
    cases e with
    | int j =>
      cases h1; cases h2
      cases he
      exact ⟨_, _, rfl, rfl, k _ G H (Ext.refl s) (hg _ _ _)⟩
    | _ => cases he
  | _ => cases he
instance : DecidableRel CMul := fun i j => by unfold CMul; exact inferInstance
instance : DecidableRel CDiv := fun i j => by unfold CDiv; exact inferInstance
instance : DecidableRel CPow := fun i j => by unfold CPow; exact inferInstance
def dIntOp (f : Int → Int → PyData) : PyData → PyData → Option PyData := fun d e => match d, e with | .int i, .int j => some (f i j) | _, _ => none
def dIntOpC (C : Int → Int → Prop) [DecidableRel C] (f : Int → Int → PyData) : PyData → PyData → Option PyData := fun d e => match d, e with | .int i, .int j => if C i j then some (f i j) else none | _, _ => none
theorem om_sub {X : Cx} : OpM X (binaryOp .Sub) (dIntOp fun i j => .int (i - j)) := om_int0 op_sub fun _ _ _ => .int _
theorem om_mul {X : Cx} : OpM X (binaryOp .Mult) (dIntOpC CMul fun i j => .int (i * j)) := om_int op_mul fun _ _ _ => .int _
theorem om_fdiv {X : Cx} : OpM X (binaryOp .FloorDiv) (dIntOpC CDiv fun i j => .int (i / j)) := om_int op_fdiv fun _ _ _ => .int _
theorem om_mod {X : Cx} : OpM X (binaryOp .Mod) (dIntOpC (fun _ j => 0 < j) fun i j => .int (i % j)) := om_int op_mod fun _ _ _ => .int _
theorem om_pow {X : Cx} : OpM X (binaryOp .Pow) (dIntOpC CPow fun i j => .int (i ^ j.toNat)) := om_int op_pow fun _ _ _ => .int _
theorem om_le {X : Cx} : OpM X (compareOp .LtE) (dIntOp fun i j => .bool (decide (i ≤ j))) := om_int0 op_le fun _ _ _ => .bl _
theorem om_gt {X : Cx} : OpM X (compareOp .Gt) (dIntOp fun i j => .bool (decide (j < i))) := om_int0 op_gt fun _ _ _ => .bl _
theorem om_ge {X : Cx} : OpM X (compareOp .GtE) (dIntOp fun i j => .bool (decide (j ≤ i))) := om_int0 op_ge fun _ _ _ => .bl _
theorem om_lt {X : Cx} : OpM X (compareOp .Lt) (dIntOp fun i j => .bool (decide (i < j))) := om_int0 op_lt fun _ _ _ => .bl _

/-! equality -/
def scalD : PyData → PyData → Option Bool
  | .none, .none => some true
  | .none, .int _ => some false
  | .none, .bool _ => some false
  | .none, .str _ => some false
  | .int _, .none => some false
  | .bool _, .none => some false
  | .str _, .none => some false
  | .int i, .int j => some (decide (i = j))
  | .bool i, .bool j => some (decide (i = j))
  | .str i, .str j => some (decide (i = j))
  | .int _, .str _ => some false
  | .str _, .int _ => some false
  | .bool _, .str _ => some false
  | .str _, .bool _ => some false
  | _, _ => none
def dEqB (d e : PyData) : Option Bool :=
  match scalD d e with
  | some b => some b
  | none => if SeqAt.shaped d = true ∧ SeqAt.shaped e = true then some (PyData.eqv d e) else none
def dEq (d e : PyData) : Option PyData := (dEqB d e).map .bool
def dNe (d e : PyData) : Option PyData := (dEqB d e).map fun b => .bool (!b)
theorem scal_ok {K : PySem.W.Frag} {G : Hp} {x y : V} {d e : PyData} {b : Bool} (h1 : Dp K G x d) (h2 : Dp K G y e) (h : scalD d e = some b) : scal x y = true ∧ decide (x = y) = b := by
  cases d <;> cases e <;> cases h1 <;> cases h2 <;> cases h <;> exact ⟨rfl, by simp⟩
theorem om_eq {X : Cx} (hu : X.A.units + 64 < cLine) : OpM X (compareOp .Eq) dEq := by
  refine ⟨_, op_eq.or (op_eqD hu), fun G H x y d e z Q s h1 h2 he k => ?_⟩
  unfold dEq dEqB at he
  cases hs : scalD d e with
  | some b =>
    rw [hs] at he
    cases he
    obtain ⟨z1, z2⟩ := scal_ok h1 h2 hs
    exact .inl ⟨z1, by rw [z2]; exact k _ G H (Ext.refl s) (.bl b)⟩
  | none =>
    rw [hs] at he
    simp only at he
    split at he
    · rename_i hz
      cases he
      exact .inr ⟨d, e, (Dp.mono s h1).dp, (Dp.mono s h2).dp, hz.1, hz.2, k _ G H (Ext.refl s) (.bl _)⟩
    · cases he
theorem om_ne {X : Cx} (hu : X.A.units + 64 < cLine) : OpM X (compareOp .NotEq) dNe := by
  refine ⟨_, op_ne.or (op_neD hu), fun G H x y d e z Q s h1 h2 he k => ?_⟩
  unfold dNe dEqB at he
  cases hs : scalD d e with
  | some b =>
    rw [hs] at he
    cases he
    obtain ⟨z1, z2⟩ := scal_ok h1 h2 hs
    exact .inl ⟨z1, by rw [z2]; exact k _ G H (Ext.refl s) (.bl _)⟩
  | none =>
    rw [hs] at he
    simp only at he
    split at he
    · rename_i hz
      cases he
      exact .inr ⟨d, e, (Dp.mono s h1).dp, (Dp.mono s h2).dp, hz.1, hz.2, k _ G H (Ext.refl s) (.bl _)⟩
    · cases he
def isNoneD : PyData → Bool
  | .none => true
  | _ => false
def dIs : PyData → PyData → Option PyData
  | d, .none => some (.bool (isNoneD d))
  | _, _ => none
def dIsNot : PyData → PyData → Option PyData
  | d, .none => some (.bool (!isNoneD d))
  | _, _ => none
theorem Dp.isNone {K : PySem.W.Frag} {G : Hp} {x : V} {d : PyData} (h : Dp K G x d) : decide (x = .non) = isNoneD d := by
  cases h <;> simp [isNoneD]
theorem om_is {X : Cx} : OpM X (compareOp .Is) dIs := by
  refine ⟨_, op_isN, fun G H x y d e z Q s h1 h2 he k => ?_⟩
  cases e with
  | none => cases h2; cases he; exact ⟨rfl, by rw [Dp.isNone h1]; exact k _ G H (Ext.refl s) (.bl _)⟩
  | _ => cases he
theorem om_isnot {X : Cx} : OpM X (compareOp .IsNot) dIsNot := by
  refine ⟨_, op_notN, fun G H x y d e z Q s h1 h2 he k => ?_⟩
  cases e with
  | none => cases h2; cases he; exact ⟨rfl, by rw [Dp.isNone h1]; exact k _ G H (Ext.refl s) (.bl _)⟩
  | _ => cases he
/-- one sign within a text -/
def oneSign (x : Str) : Option Nat := if x.cps.size = 1 then x.cps[0]? else none
theorem oneSign_eq {x : Str} {c : Nat} (h : oneSign x = some c) : x = ⟨#[c]⟩ := by
  unfold oneSign at h
  split at h
  · rename_i hz
    obtain ⟨⟨l⟩⟩ := x
    cases l with
    | nil => simp at hz
    | cons a t =>
      cases t with
      | nil => simp at h; subst h; rfl
      | cons b t => simp at hz
  · cases h
def dInS : PyData → PyData → Option PyData
  | .str x, .str z => (oneSign x).map fun c => .bool (decide (c ∈ z.cps.toList))
  | _, _ => none
def dNotInS : PyData → PyData → Option PyData
  | .str x, .str z => (oneSign x).map fun c => .bool (!decide (c ∈ z.cps.toList))
  | _, _ => none
theorem om_inS {X : Cx} : OpM X (compareOp .In) dInS := by
  refine ⟨_, op_in_sign, fun G H x y d e z Q s h1 h2 he k => ?_⟩
  cases d with
  | str i =>
    cases e with
    | str j =>
      cases h1; cases h2
      simp only [dInS] at he
      cases ho : oneSign i with
      | none => rw [ho] at he; cases he
      | some c =>
        rw [ho] at he
        cases he
        rw [oneSign_eq ho]
        exact ⟨c, j, rfl, rfl, k _ G H (Ext.refl s) (.bl _)⟩
    | _ => cases he
  | _ => cases he
theorem om_notInS {X : Cx} : OpM X (compareOp .NotIn) dNotInS := by
  refine ⟨_, op_notIn_sign, fun G H x y d e z Q s h1 h2 he k => ?_⟩
  cases d with
  | str i =>
    cases e with
    | str j =>
      cases h1; cases h2
      simp only [dNotInS] at he
      cases ho : oneSign i with
      | none => rw [ho] at he; cases he
      | some c =>
        rw [ho] at he
        cases he
        rw [oneSign_eq ho]
        exact ⟨c, j, rfl, rfl, k _ G H (Ext.refl s) (.bl _)⟩
    | _ => cases he
  | _ => cases he
end ML
set_option maxRecDepth 100000
set_option maxHeartbeats 4000000
namespace ML
open PySem L2

/-- where a def's body runs: what it lets out is taken, no error is being handled, nothing is being shown, room for k calls -/
structure Mc (X : Cx) (W : WX) (k : Nat) : Prop where
  tk : L2N.Takes X W
  calm : X.calm = true
  nd : X.N.Nodup
  room : Room k X.A
  gd : X.A.guards = some []
theorem Mc.hu {X : Cx} {W : WX} {k : Nat} (c : Mc X W k) : X.A.units + 64 < cLine := c.room.units
def W0 : WX := fun _ _ _ _ => False

/-! ### and, or, not, a if t else b -/
section
variable {X : Cx} {W : WX} {k : Nat} {a b : Expr} {rest : List Expr} {pos : Pos}
def MW (X : Cx) (W : WX) (e : Expr) (f : En → Rs Bool) : Prop := ∀ B, PW X e (tG X.K X.mg B W RelB f)
theorem PW.imp {e : Expr} {t u : TT} (h : PW X e t) (k : ∀ σ H Q, u σ H Q → t σ H Q) : PW X e u := ⟨fun wh pins s σ H Q I q => h.run wh pins s σ H Q I (k σ H Q q)⟩
def andT (f g : En → Rs Bool) (ρ : En) : Rs Bool := (f ρ).bind fun b ρ1 => if b = true then g ρ1 else .ok false ρ1
def orT (f g : En → Rs Bool) (ρ : En) : Rs Bool := (f ρ).bind fun b ρ1 => if b = true then .ok true ρ1 else g ρ1
theorem tAnd_of {B : Bs} {f g : En → Rs Bool} {σ : St} {H : Hp} {Q : Bool → Hp → Prop} (h : tG X.K X.mg B W RelB (andT f g) σ H Q) : tAnd (tG X.K X.mg B W RelB f) (tG X.K X.mg B W RelB g) σ H Q := by
  obtain ⟨ρ, G, a, p⟩ := h
  refine Pst.bind a p fun d ρ1 v G1 H1 _ a1 _ r1 p1 => ?_
  have r1 : v = d := r1
  subst r1
  cases v with
  | true => rw [if_pos rfl] at p1 ⊢; exact ⟨ρ1, G1, a1, p1⟩
  | false => rw [if_neg Bool.false_ne_true] at p1 ⊢; exact p1 false G1 H1 a1 (Sub.refl _) rfl
theorem tOr_of {B : Bs} {f g : En → Rs Bool} {σ : St} {H : Hp} {Q : Bool → Hp → Prop} (h : tG X.K X.mg B W RelB (orT f g) σ H Q) : tOr (tG X.K X.mg B W RelB f) (tG X.K X.mg B W RelB g) σ H Q := by
  obtain ⟨ρ, G, a, p⟩ := h
  refine Pst.bind a p fun d ρ1 v G1 H1 _ a1 _ r1 p1 => ?_
  have r1 : v = d := r1
  subst r1
  cases v with
  | true => rw [if_pos rfl] at p1 ⊢; exact p1 true G1 H1 a1 (Sub.refl _) rfl
  | false => rw [if_neg Bool.false_ne_true] at p1 ⊢; exact ⟨ρ1, G1, a1, p1⟩
theorem mw_and1 {f : En → Rs Bool} (h : MT X W a f) : MW X W (.BoolOp .And [a] pos) f := fun B => pw_and1 (h B)
theorem mw_or1 {f : En → Rs Bool} (h : MT X W a f) : MW X W (.BoolOp .Or [a] pos) f := fun B => pw_or1 (h B)
theorem mw_and {f g : En → Rs Bool} (h : MT X W a f) (h2 : MW X W (.BoolOp .And (b :: rest) pos) g) : MW X W (.BoolOp .And (a :: b :: rest) pos) (andT f g) := fun B => PW.imp (pw_and (h B) (h2 B)) fun _ _ _ q => tAnd_of q
theorem mw_or {f g : En → Rs Bool} (h : MT X W a f) (h2 : MW X W (.BoolOp .Or (b :: rest) pos) g) : MW X W (.BoolOp .Or (a :: b :: rest) pos) (orT f g) := fun B => PW.imp (pw_or (h B) (h2 B)) fun _ _ _ q => tOr_of q
theorem mt_w {e : Expr} {f : En → Rs Bool} (h : MW X W e f) : MT X W e f := fun B => (h B).pt
theorem mt_not {f : En → Rs Bool} (h : MT X W a f) : MT X W (.UnaryOp .Not a pos) (fun ρ => (f ρ).bind fun b ρ1 => .ok (!b) ρ1) := fun B => PT.imp (pt_not (h B)) fun σ H Q ⟨ρ, G, a, p⟩ => by
  refine Pst.bind a p fun d ρ1 v G1 H1 _ a1 _ r1 p1 => ?_
  have r1 : v = d := r1
  subst r1
  exact p1 _ G1 H1 a1 (Sub.refl _) rfl
def andV (f g : En → Rs PyData) (ρ : En) : Rs PyData := (f ρ).bind fun d ρ1 => (ofO (boolOf d) ρ1).bind fun b ρ1 => if b = true then g ρ1 else .ok (.bool false) ρ1
def orV (f g : En → Rs PyData) (ρ : En) : Rs PyData := (f ρ).bind fun d ρ1 => (ofO (boolOf d) ρ1).bind fun b ρ1 => if b = true then .ok (.bool true) ρ1 else g ρ1
theorem me_one {op} {f : En → Rs PyData} (h : ME X W a f) : ME X W (.BoolOp op [a] pos) f := fun B => pe_one (h B)
theorem me_and {f g : En → Rs PyData} (h : ME X W a f) (h2 : ME X W (.BoolOp .And (b :: rest) pos) g) : ME X W (.BoolOp .And (a :: b :: rest) pos) (andV f g) := fun B => PE.imp (pe_and (h B) (h2 B)) fun σ H Q ⟨ρ, G, a, p⟩ => by
  refine Pst.bind a p fun d ρ1 v G1 H1 _ a1 _ r1 p1 => ?_
  cases hb : boolOf d with
  | none => rw [hb] at p1; exact p1.elim
  | some c =>
    rw [hb] at p1
    refine ⟨c, Dp.bool r1 hb, ?_⟩
    have p1 : Pst X.K X.mg B W (RelD X.K) G1 σ Q (if c = true then g ρ1 else .ok (.bool false) ρ1) := p1
    cases c with
    | true => rw [if_pos rfl] at p1 ⊢; exact ⟨ρ1, G1, a1, p1⟩
    | false => rw [if_neg Bool.false_ne_true] at p1 ⊢; exact p1 _ G1 H1 a1 (Sub.refl _) (.bl false)
theorem me_or {f g : En → Rs PyData} (h : ME X W a f) (h2 : ME X W (.BoolOp .Or (b :: rest) pos) g) : ME X W (.BoolOp .Or (a :: b :: rest) pos) (orV f g) := fun B => PE.imp (pe_or (h B) (h2 B)) fun σ H Q ⟨ρ, G, a, p⟩ => by
  refine Pst.bind a p fun d ρ1 v G1 H1 _ a1 _ r1 p1 => ?_
  cases hb : boolOf d with
  | none => rw [hb] at p1; exact p1.elim
  | some c =>
    rw [hb] at p1
    refine ⟨c, Dp.bool r1 hb, ?_⟩
    have p1 : Pst X.K X.mg B W (RelD X.K) G1 σ Q (if c = true then .ok (.bool true) ρ1 else g ρ1) := p1
    cases c with
    | true => rw [if_pos rfl] at p1 ⊢; exact p1 _ G1 H1 a1 (Sub.refl _) (.bl true)
    | false => rw [if_neg Bool.false_ne_true] at p1 ⊢; exact ⟨ρ1, G1, a1, p1⟩
theorem me_not {f : En → Rs PyData} (h : ME X W a f) : ME X W (.UnaryOp .Not a pos) (fun ρ => (f ρ).bind fun d ρ1 => (ofO (boolOf d) ρ1).bind fun b ρ1 => .ok (.bool (!b)) ρ1) := fun B => PE.imp (pe_not (h B)) fun σ H Q ⟨ρ, G, a, p⟩ => by
  refine Pst.bind a p fun d ρ1 v G1 H1 _ a1 _ r1 p1 => ?_
  cases hb : boolOf d with
  | none => rw [hb] at p1; exact p1.elim
  | some c =>
    rw [hb] at p1
    exact ⟨c, Dp.bool r1 hb, p1 _ G1 H1 a1 (Sub.refl _) (.bl _)⟩
def ifT {α : Type} (c : En → Rs Bool) (f g : En → Rs α) (ρ : En) : Rs α := (c ρ).bind fun b ρ1 => if b = true then f ρ1 else g ρ1
theorem me_if {c : Expr} {t : En → Rs Bool} {f g : En → Rs PyData} (hc : MT X W c t) (ha : ME X W a f) (hb : ME X W b g) : ME X W (.IfExp c a b pos) (ifT t f g) := fun B => PE.imp (pe_ifExp (hc B) (ha B) (hb B)) fun σ H Q ⟨ρ, G, a, p⟩ => by
  refine Pst.bind a p fun d ρ1 v G1 H1 _ a1 _ r1 p1 => ?_
  have r1 : v = d := r1
  subst r1
  cases v with
  | true => rw [if_pos rfl] at p1 ⊢; exact ⟨ρ1, G1, a1, p1⟩
  | false => rw [if_neg Bool.false_ne_true] at p1 ⊢; exact ⟨ρ1, G1, a1, p1⟩
/-- what makes a new list behind a step -/
theorem PstN.bind {α β : Type} {Rel : Hp → Hp → β → α → Prop} {B : Bs} {ρ : En} {G : Hp} {σ : St} {H : Hp} {f : En → Rs α} {k : α → En → Rs (List PyData)} {Q : V → Hp → Prop} (a : Ab X.K B ρ G σ H) (h : PstN X.K X.mg B W G σ Q ((f ρ).bind k)) {Q1 : β → Hp → Prop}
    (hk : ∀ d ρ1 v G1 H1, f ρ = .ok d ρ1 → Ab X.K B ρ1 G1 σ H1 → Sub G G1 → Rel G1 H1 v d → PstN X.K X.mg B W G1 σ Q (k d ρ1) → Q1 v H1) : tG X.K X.mg B W Rel f σ H Q1 := by
  refine ⟨ρ, G, a, ?_⟩
  cases e : f ρ with
  | bad => rw [e] at h; exact h.elim
  | err c ρ1 => rw [e] at h; exact h
  | ok d ρ1 =>
    rw [e] at h
    intro v G1 H1 a1 s1 r1
    refine hk d ρ1 v G1 H1 e a1 s1 r1 ?_
    have h' : PstN X.K X.mg B W G σ Q (k d ρ1) := h
    revert h'
    cases k d ρ1 with
    | bad => exact id
    | err c ρ2 => exact fun h' G' H' a' s' => h' G' H' a' (s1.trans s')
    | ok d2 ρ2 => exact fun h' v' G' H' a' s' r' => h' v' G' H' a' (s1.trans s') r'
theorem mn_if {c : Expr} {t : En → Rs Bool} {f g : En → Rs (List PyData)} (hc : MT X W c t) (ha : MN X W a f) (hb : MN X W b g) : MN X W (.IfExp c a b pos) (ifT t f g) := fun B => PE.imp (pe_ifExp (hc B) (ha B) (hb B)) fun σ H Q ⟨ρ, G, a, p⟩ => by
  refine PstN.bind a p fun d ρ1 v G1 H1 _ a1 _ r1 p1 => ?_
  have r1 : v = d := r1
  subst r1
  cases v with
  | true => rw [if_pos rfl] at p1 ⊢; exact ⟨ρ1, G1, a1, p1⟩
  | false => rw [if_neg Bool.false_ne_true] at p1 ⊢; exact ⟨ρ1, G1, a1, p1⟩
/-- [a, b, ..] -/
def okSize (xs : List PyData) (ρ : En) : Rs (List PyData) := if xs.length ≤ sizeLine then .ok xs ρ else .bad
theorem mn_lst {es : List Expr} {g : En → Rs (List PyData)} (h : MA X W es g) : MN X W (.List es pos) (fun ρ => (g ρ).bind okSize) := fun B => PE.imp (pe_lst (h B)) fun σ H Q ⟨ρ, G, a, p⟩ => by
  refine PstN.bind a p fun ds ρ1 vs G1 H1 _ a1 _ r1 p1 => ?_
  unfold okSize at p1
  split at p1
  · rename_i hz
    refine ⟨by rw [DpAll.length r1]; exact hz, fun q hq => ?_⟩
    obtain ⟨a2, rn⟩ := RelN.fresh a1 hq r1
    exact p1 _ _ _ a2 (Sub.refl _) rn
  · exact p1.elim

/-! ### items, slices -/
def dIx : PyData → PyData → Option PyData
  | .list xs, .int i => atI xs i
  | .tuple xs, .int i => atI xs i
  | .str z, .int i => if z.length ≤ sizeLine then (atI z.cps.toList i).map fun c => .str ⟨#[c]⟩ else none
  | _, _ => none
theorem DpAll.atI {K : PySem.W.Frag} {G : Hp} {vs : List V} {ds : List PyData} {i : Int} {d : PyData} (h : DpAll K G vs ds) (e : L2.atI ds i = some d) : ∃ v, L2.atI vs i = some v ∧ Dp K G v d := by
  unfold L2.atI at e ⊢
  rw [DpAll.length h]
  cases hx : ixN ds.length i with
  | none => rw [hx] at e; cases e
  | some j =>
    rw [hx] at e
    exact DpAll.get h e
theorem ixr_ok {X : Cx} {G H : Hp} {x y : V} {d e z : PyData} {Q : VK} (s : Sub G H) (h1 : Dp X.K G x d) (h2 : Dp X.K G y e) (he : dIx d e = some z) (k : ∀ v, Dp X.K G v z → Q v H) : rIx X.K x y H Q := by
  cases d with
  | list xs =>
    cases e with
    | int i =>
      cases h2
      obtain ⟨p, vs, rfl, q, r⟩ := Dp.lstE h1
      obtain ⟨v, e1, e2⟩ := DpAll.atI r he
      exact .inl ⟨p, vs, i, v, rfl, rfl, SqL.mono s q, e1, k v e2⟩
    | _ => cases he
  | tuple xs =>
    cases e with
    | int i =>
      cases h2
      obtain ⟨p, vs, rfl, q, r⟩ := Dp.tupE h1
      obtain ⟨v, e1, e2⟩ := DpAll.atI r he
      exact .inr (.inl ⟨p, vs, i, v, rfl, rfl, SqT.mono s q, e1, k v e2⟩)
    | _ => cases he
  | str x =>
    cases e with
    | int i =>
      cases h1; cases h2
      simp only [dIx] at he
      split at he
      · rename_i hz
        cases hx : L2.atI x.cps.toList i with
        | none => rw [hx] at he; cases he
        | some c =>
          rw [hx] at he
          cases he
          exact .inr (.inr ⟨x, i, c, rfl, rfl, hz, hx, k _ (.str _)⟩)
      · cases he
    | _ => cases he
  | _ => cases he
theorem me_ix {f g : En → Rs PyData} (ha : ME X W a f) (hb : ME X W b g) (hs : PlainIx b := by exact fun _ _ => rfl) : ME X W (.Subscript a b pos) (bin2 dIx f g) := fun B => PE.imp (pe_ix ix_seq (ha B) (hb B) hs) fun σ H Q ⟨ρ, G, a, p⟩ => by
  refine Pst.bind a p fun d ρ1 v G1 H1 _ a1 _ r1 p1 => ?_
  refine Pst.bind a1 p1 fun e ρ2 u G2 H2 _ a2 s2 r2 p2 => ?_
  cases hg : dIx d e with
  | none => rw [hg] at p2; exact p2.elim
  | some z =>
    rw [hg] at p2
    exact ixr_ok a2.fz (Dp.mono s2 r1) r2 hg fun w hz => p2 w G2 H2 a2 (Sub.refl _) hz
/-- the list of a slot, whether its own or not; data that is a list -/
def lstAt (ρ : En) (i : Nat) : Option (List PyData) :=
  match ρ[i]? with
  | some (.own xs) => some xs
  | some (.arg xs) => some xs
  | some (.dat (.list xs)) => some xs
  | _ => none
theorem Ab.lst {K : PySem.W.Frag} {B : Bs} {ρ : En} {G : Hp} {σ : St} {H : Hp} (a : Ab K B ρ G σ H) {i : Nat} {xs : List PyData} (e : lstAt ρ i = some xs) : ∃ p vs, σ[i]? = some (some (.ref p)) ∧ SqL K H p vs ∧ DpAll K G vs xs := by
  unfold lstAt at e
  cases hr : ρ[i]? with
  | none => rw [hr] at e; cases e
  | some s =>
    rw [hr] at e
    obtain ⟨o, h1, h2⟩ := a.at hr
    cases s with
    | un => cases e
    | own ys => cases e; obtain ⟨p, vs, rfl, h3, h4⟩ := h2; exact ⟨p, vs, h1, SqL.of h3, h4⟩
    | arg ys => cases e; obtain ⟨p, vs, rfl, h3, h4⟩ := h2; exact ⟨p, vs, h1, SqL.of h3, h4⟩
    | dat d =>
      obtain ⟨v, rfl, h3⟩ := h2
      cases d with
      | list ys => cases e; obtain ⟨p, vs, rfl, h4, h5⟩ := Dp.lstE h3; exact ⟨p, vs, h1, SqL.mono a.fz h4, h5⟩
      | _ => cases e
/-- a slot that holds an object: what its variable gives is there whatever the names do -/
theorem var_ok {i : Nat} {x : Str} {pos : Pos} (hN : X.N[i]? = some x) (hv : Vis X.env.scope x) (hd : (x == ("__debug__" : Str)) = false) (hcd : (x == ("__classdict__" : Str)) = false) : PE X (.Name x pos) (tVar i) := pe_var hN hv hd hcd
/-- x[e], x a list's name: the list as it is behind e -/
def ixvF (i : Nat) (g : En → Rs PyData) (ρ : En) : Rs PyData := (ofO (lstAt ρ i) ρ).bind fun _ ρ => (g ρ).bind fun d ρ1 => (ofO (lstAt ρ1 i) ρ1).bind fun xs ρ1 => ofO (dIx (.list xs) d) ρ1
theorem me_ixv {x : Str} {px : Pos} (i : Nat) {g : En → Rs PyData} (hb : ME X W b g) (hN : X.N[i]? = some x := by rfl) (hv : Vis X.env.scope x := by first | exact .inl rfl | exact .inr (.inl rfl) | exact .inr (.inr rfl)) (hd : (x == ("__debug__" : Str)) = false := by decide) (hcd : (x == ("__classdict__" : Str)) = false := by decide)
    (hs : PlainIx b := by exact fun _ _ => rfl) : ME X W (.Subscript (.Name x px) b pos) (ixvF i g) := fun B => PE.imp (pe_ix ix_seq (pe_var hN hv hd hcd) (hb B) hs) fun σ H Q ⟨ρ, G, a, p⟩ => by
  unfold ixvF at p
  cases h0 : lstAt ρ i with
  | none => rw [h0] at p; exact p.elim
  | some xs0 =>
    rw [h0] at p
    have p : Pst X.K X.mg B W (RelD X.K) G σ Q ((g ρ).bind fun d ρ1 => (ofO (lstAt ρ1 i) ρ1).bind fun xs ρ1 => ofO (dIx (.list xs) d) ρ1) := p
    obtain ⟨q, _, hq, _, _⟩ := a.lst h0
    refine ⟨_, hq, ?_⟩
    refine Pst.bind a p fun e ρ2 u G2 H2 _ a2 s2 r2 p2 => ?_
    cases h1 : lstAt ρ2 i with
    | none => rw [h1] at p2; exact p2.elim
    | some xs =>
      rw [h1] at p2
      obtain ⟨q', vs, hq', hl, hd'⟩ := a2.lst h1
      rw [hq] at hq'
      cases hq'
      have p2 : Pst X.K X.mg B W (RelD X.K) G2 σ Q (ofO (dIx (.list xs) e) ρ2) := p2
      cases e with
      | int j =>
        cases r2
        cases hg : L2.atI xs j with
        | none => simp only [dIx] at p2; rw [hg] at p2; exact p2.elim
        | some z =>
          simp only [dIx] at p2
          rw [hg] at p2
          obtain ⟨v, e1, e2⟩ := DpAll.atI hd' hg
          exact .inl ⟨q, vs, j, v, rfl, rfl, hl, e1, p2 v G2 H2 a2 (Sub.refl _) e2⟩
      | _ => exact p2.elim
/-- parts of a slice -/
def MO (X : Cx) (W : WX) (e : Option Expr) (f : En → Rs (Option Int)) : Prop := ∀ B, PO X e (tG X.K X.mg B W (fun _ _ v d => v = d) f)
theorem PO.imp {e : Option Expr} {t u : TO} (h : PO X e t) (k : ∀ σ H Q, u σ H Q → t σ H Q) : PO X e u := ⟨fun pins s σ H Q I q => h.run pins s σ H Q I (k σ H Q q)⟩
theorem mo_none : MO X W none (fun ρ => .ok none ρ) := fun B => PO.imp po_none fun σ H Q ⟨ρ, G, a, p⟩ => p none G H a (Sub.refl _) rfl
def intOf : PyData → Option Int
  | .int i => some i
  | _ => none
theorem Dp.intE {K : PySem.W.Frag} {G : Hp} {v : V} {d : PyData} {b : Int} (h : Dp K G v d) (e : intOf d = some b) : v = .int b := by
  cases h with
  | int c => cases e; rfl
  | _ => cases e
theorem mo_some {f : En → Rs PyData} (h : ME X W a f) : MO X W (some a) (fun ρ => (f ρ).bind fun d ρ1 => (ofO (intOf d) ρ1).bind fun i ρ1 => .ok (some i) ρ1) := fun B => PO.imp (po_some (h B)) fun σ H Q ⟨ρ, G, a, p⟩ => by
  refine Pst.bind a p fun d ρ1 v G1 H1 _ a1 _ r1 p1 => ?_
  cases hb : intOf d with
  | none => rw [hb] at p1; exact p1.elim
  | some c =>
    rw [hb] at p1
    exact ⟨c, Dp.intE r1 hb, p1 _ G1 H1 a1 (Sub.refl _) rfl⟩
def cutD (xs : List PyData) (lo hi : Option Int) : List PyData := (xs.drop (HT.sIx xs.length 0 lo)).take (HT.sIx xs.length xs.length hi - HT.sIx xs.length 0 lo)
theorem DpAll.cut {K : PySem.W.Frag} {G : Hp} {vs : List V} {ds : List PyData} (h : DpAll K G vs ds) (lo hi : Option Int) : DpAll K G (cutV vs lo hi) (cutD ds lo hi) := by
  unfold cutV cutD
  rw [DpAll.length h]
  exact DpAll.take _ (DpAll.drop _ h)
theorem cutD_whole {xs : List PyData} {lo hi : Option Int} (h : HT.sIx xs.length 0 lo = 0 ∧ HT.sIx xs.length xs.length hi = xs.length) : cutD xs lo hi = xs := by
  unfold cutD
  rw [h.1, h.2]
  simp
def dSl (d : PyData) (lo hi : Option Int) : Option PyData :=
  match d with
  | .tuple xs => some (.tuple (cutD xs lo hi))
  | .list xs => some (.list (cutD xs lo hi))
  | .str z => if z.length ≤ sizeLine then some (.str (cutS z lo hi)) else none
  | _ => none
theorem me_sl {lo hi : Option Expr} {p2 : Pos} {f : En → Rs PyData} {fl fh : En → Rs (Option Int)} (ha : ME X W a f) (hl : MO X W lo fl) (hh : MO X W hi fh) :
    ME X W (.Subscript a (.Slice lo hi none p2) pos) (fun ρ => (f ρ).bind fun d ρ1 => (fl ρ1).bind fun l ρ2 => (fh ρ2).bind fun h ρ3 => ofO (dSl d l h) ρ3) := fun B =>
  PE.imp (pe_slice (sl_tupA.or (sl_list.or sl_str)) (ha B) (hl B) (hh B)) fun σ H Q ⟨ρ, G, a, p⟩ => by
    refine Pst.bind a p fun d ρ1 v G1 H1 _ a1 _ r1 p1 => ?_
    refine Pst.bind a1 p1 fun l ρ2 l' G2 H2 _ a2 s2 r2 p2 => ?_
    have r2 : l' = l := r2
    subst r2
    refine Pst.bind a2 p2 fun h ρ3 h' G3 H3 _ a3 s3 r3 p3 => ?_
    have r3 : h' = h := r3
    subst r3
    have r1 := Dp.mono (s2.trans s3) r1
    cases d with
    | tuple xs =>
      obtain ⟨q, vs, rfl, hq, hv⟩ := Dp.tupE r1
      have p3 : ∀ v G' H', Ab X.K B ρ3 G' σ H' → Sub G3 G' → Dp X.K G' v (.tuple (cutD xs l' h')) → Q v H' := p3
      refine .inl ⟨q, vs, rfl, SqT.mono a3.fz hq, fun w => ?_, fun w r hr => ?_⟩
      · rw [DpAll.length hv] at w
        rw [cutD_whole w] at p3
        exact p3 _ G3 H3 a3 (Sub.refl _) r1
      · have x := Ext.new (o := .tup (cutV vs l' h')) a3.fz hr
        exact p3 _ _ _ (a3.ext x) x.g (Dp.newT (a3.fz.gone hr) (DpAll.cut hv l' h'))
    | list xs =>
      obtain ⟨q, vs, rfl, hq, hv⟩ := Dp.lstE r1
      have p3 : ∀ v G' H', Ab X.K B ρ3 G' σ H' → Sub G3 G' → Dp X.K G' v (.list (cutD xs l' h')) → Q v H' := p3
      refine .inr (.inl ⟨q, vs, rfl, SqL.mono a3.fz hq, fun r hr => ?_⟩)
      have x := Ext.new (o := .lst (cutV vs l' h')) a3.fz hr
      exact p3 _ _ _ (a3.ext x) x.g (Dp.newL (a3.fz.gone hr) (DpAll.cut hv l' h'))
    | str z =>
      cases r1
      have p3 : Pst X.K X.mg B W (RelD X.K) G3 σ Q (ofO (if z.length ≤ sizeLine then some (.str (cutS z l' h')) else none) ρ3) := p3
      split at p3
      · rename_i hz
        exact .inr (.inr ⟨z, rfl, hz, p3 _ G3 H3 a3 (Sub.refl _) (.str _)⟩)
      · exact p3.elim
    | _ => exact p3.elim
end

/-! ### calls -/
inductive Rt where
  | ok (d : PyData)
  | err (c : Str)
  | bad
def callR (r : Rt) (ρ : En) : Rs PyData :=
  match r with
  | .ok d => .ok d ρ
  | .err c => .err c ρ
  | .bad => .bad
def FPst (K : PySem.W.Frag) (mg : Str → Option Value) (G H : Hp) (Q : VK) (E : XK) : Rt → Prop
  | .ok d => ∀ v G' H', Ext G H G' H' → Dp K G' v d → Q v H'
  | .err c => ∀ G' H', Ext G H G' H' → ∀ C, mg c = some (.ref C) → E (.ref C) none H'
  | .bad => False
/-- the promise: what F says of the arguments' data -/
def spM (K : PySem.W.Frag) (mg : Str → Option Value) (F : List PyData → Rt) : Sp := fun vs H Q E => ∃ G ds, Sub G H ∧ DpAll K G vs ds ∧ FPst K mg G H Q E (F ds)
inductive Rm where
  | ok (d : PyData) (xs : List PyData)
  | bad
/-- .. of a def whose first argument is a list that it may change -/
def spS (K : PySem.W.Frag) (mg : Str → Option Value) (F : List PyData → List PyData → Rm) : Sp := fun vs H Q E => ∃ G p us xs vs' ds, vs = .ref p :: vs' ∧ H p = some (.lst us) ∧ G p = none ∧ DpAll K G us xs ∧ Sub G H ∧ DpAll K G vs' ds ∧
  match F xs ds with
  | .ok d xs' => ∀ v G' H' us', Sub G G' → (∀ a o, a ≠ p → H a = some o → H' a = some o) → Sub G' H' → (∀ a o, G' a = some o → G a = none → H a = none) → H' p = some (.lst us') → DpAll K G' us' xs' → Dp K G' v d → Q v H'
  | .bad => False
/-- a def's promise where nothing is being shown -/
structure FnG (P : Program) (w : World) (K : PySem.W.Frag) (mg : Str → Option Value) (base : Heap) (k : Nat) (f : Addr) (fd : FuncData) (ps : List Str) (sp : Sp) : Prop where
  ln : ∀ vs H Q E, sp vs H Q E → vs.length = ps.length
  go : ∀ (A : Around) (o : List Env) (s : Shared) (H : Hp) (args : Args) (us : List Value) (vs : List V) (Q : VK) (E : XK),
    Room k A → A.guards = some [] → Env0 P w K mg base A o s H → BindsTo s fd args (ps.zip us) → Vals vs us → sp vs H Q E →
    codeAny (model P w) A (.call (.ref f) args) (CR (L2N.CX P w) o P w H s Q E) s
/-- a def of the module that keeps a promise -/
structure Df (P : Program) (w : World) (K : PySem.W.Frag) (mg : Str → Option Value) (base : Heap) (j : Nat) (x : Str) (ps : List Str) (sp : Sp) : Prop where
  ex : ∃ (f : Addr) (fd : FuncData), mg x = some (.ref f) ∧ FnG P w K mg base j f fd ps sp ∧ Binds K fd ps [] ∧ PySem.W.keepIn K (.ref f) = true
theorem FnG.mono {P : Program} {w : World} {K : PySem.W.Frag} {mg : Str → Option Value} {base : Heap} {j k : Nat} {f : Addr} {fd : FuncData} {ps : List Str} {sp : Sp}
    (F : FnG P w K mg base j f fd ps sp) (h : j ≤ k) : FnG P w K mg base k f fd ps sp :=
  ⟨F.ln, fun A o s H args us vs Q E r => F.go A o s H args us vs Q E (r.mono h)⟩
theorem Df.mono {P : Program} {w : World} {K : PySem.W.Frag} {mg : Str → Option Value} {base : Heap} {j k : Nat} {x : Str} {ps : List Str} {sp : Sp}
    (D : Df P w K mg base j x ps sp) (h : j ≤ k) : Df P w K mg base k x ps sp := by
  obtain ⟨f, fd, e1, e2, e3⟩ := D.ex
  exact ⟨f, fd, e1, e2.mono h, e3⟩
/-- a call of it with values -/
theorem FnG.call {X : Cx} {k : Nat} {f : Addr} {fd : FuncData} {ps : List Str} {sp : Sp} {E : XK} {pins : List (Addr × Obj)} {σ : St} {H : Hp} {s : Shared} {Q : VK} {us : List Value} {vs : List V}
    (F : FnG X.prog X.w X.K X.mg X.base k f fd ps sp) (hr : Room k X.A) (hg : X.A.guards = some []) (hb : Binds X.K fd ps []) (hx : PassesAt (L2N.CX X.prog X.w) X σ E)
    (I : Inv X pins σ H s) (r : Vals vs us) (h : sp vs H Q E) : wpAny (model X.prog X.w) X.A (PySem.call (.ref f) us) (EP X pins σ Q) X.xe s := by
  have hl : us.length = ps.length := r.length.symm.trans (F.ln _ _ _ _ h)
  have b := hb s us I.kIn (by simpa using hl)
  rw [List.append_nil] at b
  have go := F.go X.A X.stack s H ⟨us, []⟩ us vs Q E hr hg I.env0 b r h
  refine wpAny_call (codeAny_mono go fun r s' hq => ?_)
  match r, hq with
  | .error e, hq => exact hx pins H s e s' I hq
  | .ok (.ret u), hq => exact I.after hq
theorem pe_callG {X : Cx} {k : Nat} {f : Addr} {fd : FuncData} {ps : List Str} {sp : Sp} {E : St → XK} {x : Str} {p pos : Pos} {e : Expr} {es : List Expr} {t : TA}
    (F : FnG X.prog X.w X.K X.mg X.base k f fd ps sp) (hr : Room k X.A) (hgd : X.A.guards = some []) (hg : Gl X x) (hm : X.mg x = some (.ref f)) (hk : PySem.W.keepIn X.K (.ref f) = true) (hb : Binds X.K fd ps [])
    (hx : ∀ σ, PassesAt (L2N.CX X.prog X.w) X σ (E σ)) (ha : PA X (e :: es) t) (hdb : (x == ("__debug__" : Str)) = false := by decide)
    (he : starEach (e :: es) X.env = (false, eval e X.env) :: starEach es X.env := by rfl) (hpl : (backTo pos (starEach es X.env)).any (·.1) = false := by rfl) :
    PE X (.Call (.Name x p) (e :: es) [] pos) (tCallS sp E t) := ⟨fun pins s σ H Q I h => by
  refine wpAny_Call_Name_kw (ld_glob I hg hm ?_ hdb)
  refine PySem.W.callWith_K (h₀ := X.base) I.ok.mod.kin hk ?_ he hpl
  exact thn (ha.run pos pins s σ H _ I h) fun us s1 ⟨vs, H1, I1, r, q⟩ => ⟨I1.kIn, F.call hr hgd hb (hx σ) I1 r q⟩⟩
section
variable {X : Cx} {W : WX} {k j : Nat} {x : Str} {p pos : Pos} {e : Expr} {es : List Expr} {ps : List Str}
theorem me_call {F : List PyData → Rt} {g : En → Rs (List PyData)} (c : Mc X W k) (D : Df X.prog X.w X.K X.mg X.base j x ps (spM X.K X.mg F)) (hj : j ≤ k) (ha : MA X W (e :: es) g) (hg : Gl X x := by rfl) (hdb : (x == ("__debug__" : Str)) = false := by decide)
    (he : starEach (e :: es) X.env = (false, eval e X.env) :: starEach es X.env := by rfl) (hpl : (backTo pos (starEach es X.env)).any (·.1) = false := by rfl) :
    ME X W (.Call (.Name x p) (e :: es) [] pos) (fun ρ => (g ρ).bind fun ds ρ1 => callR (F ds) ρ1) := by
  obtain ⟨f, fd, hm, FO, hb, hk⟩ := D.ex
  refine fun B => PE.imp (pe_callG FO (c.room.mono hj) c.gd hg hm hk hb (fun σ => L2N.passAt c.tk σ) (ha B) hdb he hpl) fun σ H Q ⟨ρ, G, a, p⟩ => ?_
  refine Pst.bind a p fun ds ρ1 vs G1 H1 e1 a1 _ r1 p1 => ?_
  refine ⟨G1, ds, a1.fz, r1, ?_⟩
  revert p1
  cases F ds with
  | bad => exact id
  | ok d => exact fun p1 v G' H' x' h => p1 v G' H' (a1.ext x') x'.g h
  | err c => exact fun p1 G' H' x' C hC => p1 G' H' (a1.ext x') x'.g C hC
/-- f(s, ..), s a slot's list that f may change -/
def callSF (i : Nat) (F : List PyData → List PyData → Rm) (g : En → Rs (List PyData)) (ρ : En) : Rs PyData := (ofO ((ρ[i]?).bind owOf) ρ).bind fun _ ρ => (g ρ).bind fun ds ρ1 => match ρ1[i]? with
      | some s0 => match owOf s0 with
        | some xs => match F xs ds with
          | .ok d xs' => .ok d (ρ1.set i (setOw s0 xs'))
          | .bad => .bad
        | none => .bad
      | none => .bad
theorem me_callS {F : List PyData → List PyData → Rm} {g : En → Rs (List PyData)} {s : Str} {px : Pos} (i : Nat) (c : Mc X W k) (D : Df X.prog X.w X.K X.mg X.base j x ps (spS X.K X.mg F)) (hj : j ≤ k) (ha : MA X W es g)
    (hN : X.N[i]? = some s := by rfl) (hv : Vis X.env.scope s := by first | exact .inl rfl | exact .inr (.inl rfl) | exact .inr (.inr rfl)) (hd : (s == ("__debug__" : Str)) = false := by decide) (hcd : (s == ("__classdict__" : Str)) = false := by decide)
    (hg : Gl X x := by rfl) (hdb : (x == ("__debug__" : Str)) = false := by decide)
    (he : starEach (.Name s px :: es) X.env = (false, eval (.Name s px) X.env) :: starEach es X.env := by rfl) (hpl : (backTo pos (starEach es X.env)).any (·.1) = false := by rfl) :
    ME X W (.Call (.Name x p) (.Name s px :: es) [] pos) (callSF i F g) := by
  obtain ⟨f, fd, hm, FO, hb, hk⟩ := D.ex
  refine fun B => PE.imp (pe_callG FO (c.room.mono hj) c.gd hg hm hk hb (fun σ => L2N.passAt c.tk σ) (pa_cons (pe_var hN hv hd hcd) (ha B) he) hdb he hpl) fun σ H Q ⟨ρ, G, a, p⟩ => ?_
  unfold callSF at p
  cases h0 : (ρ[i]?).bind owOf with
  | none => rw [h0] at p; exact p.elim
  | some xs0 =>
    rw [h0] at p
    obtain ⟨s0, hs0, ho0⟩ := Option.bind_eq_some_iff.mp h0
    obtain ⟨o, q1, q2⟩ := a.at hs0
    obtain ⟨q, vs0, rfl, _, _⟩ := q2.ow ho0
    refine ⟨_, q1, ?_⟩
    refine Pst.bind (f := g) a p fun ds ρ1 vs G1 H1 e1 a1 _ r1 p1 => ?_
    cases h1 : ρ1[i]? with
    | none => rw [h1] at p1; exact p1.elim
    | some s1 =>
      rw [h1] at p1
      simp only at p1
      cases h2 : owOf s1 with
      | none => rw [h2] at p1; exact p1.elim
      | some xs =>
        rw [h2] at p1
        simp only at p1
        obtain ⟨o', q3, q4⟩ := a1.at h1
        rw [q1] at q3
        cases q3
        obtain ⟨q', us, e', hq, hu⟩ := q4.ow h2
        cases e'
        have w1 := isOwn_of h2
        obtain ⟨gq, _⟩ := a1.fr i s1 q h1 w1 q1
        refine ⟨G1, q, us, xs, vs, ds, rfl, hq, gq, hu, a1.fz, r1, ?_⟩
        revert p1
        cases F xs ds with
        | bad => exact id
        | ok d xs' =>
          intro p1 v G' H' us' sg hk' sf hn' hq' hu' hd'
          -- the heap without q's change, then the change
          have gq' : G' q = none := by
            cases z : G' q with
            | none => rfl
            | some o =>
              have := hn' q o z gq
              rw [hq] at this
              cases this
          have x1 : Ext G1 H1 G' (upd H' q (.lst us)) := ⟨sg, fun b o e => by
            by_cases w : b = q
            · subst w
              rw [hq] at e
              cases e
              exact upd_same
            · rw [upd_ne w]
              exact hk' b o w e, sf.updG gq', hn'⟩
          have a2 := (a1.ext x1).mutate h1 w1 q1 hu'
          have eH : upd (upd H' q (.lst us)) q (.lst us') = H' := by
            rw [upd_upd]
            funext b
            by_cases w : b = q
            · subst w
              rw [upd_same, hq']
            · rw [upd_ne w]
          rw [eH] at a2
          exact p1 v G' H' a2 sg hd'
end
end ML
set_option maxRecDepth 100000
set_option maxHeartbeats 4000000
namespace ML
open PySem L2

/-! ### what is walked -/
structure ItD (K : PySem.W.Frag) (J : It) (G : Hp) (ds : List PyData) : Prop where
  go : ∀ i H G1, Sub G G1 → Sub G1 H → i < ds.length → J.go i H
  yld : ∀ i H G1 x H' d, Sub G G1 → Sub G1 H → ds[i]? = some d → J.yld i H x H' → ∃ G2, Ext G1 H G2 H' ∧ Dp K G2 x d
  stop : ∀ i H G1, Sub G G1 → Sub G1 H → ds.length ≤ i → J.stop i H
def RelI (K : PySem.W.Frag) (G : Hp) (_ : Hp) (J : It) (ds : List PyData) : Prop := ItD K J G ds
def MI (X : Cx) (W : WX) (tg e : Expr) (f : En → Rs (List PyData)) : Prop := ∀ B, PI X tg e (tG X.K X.mg B W (RelI X.K) f)
theorem PI.imp {X : Cx} {tg e : Expr} {t u : TI} (h : PI X tg e t) (k : ∀ σ H Q, u σ H Q → t σ H Q) : PI X tg e u := ⟨fun pins s σ H Q I q => h.run pins s σ H Q I (k σ H Q q)⟩
def chars (x : Str) : List PyData := x.cps.toList.map fun c => .str ⟨#[c]⟩
def seqItems : PyData → Option (List PyData)
  | .list xs => some xs
  | .tuple xs => some xs
  | .str x => some (chars x)
  | _ => none
theorem itd_list {K : PySem.W.Frag} {G : Hp} {a : Addr} {vs : List V} {ds : List PyData} (hq : SqL K G a vs) (h : DpAll K G vs ds) (inj : ∀ H xs ys, SqL K H a xs → SqL K H a ys → xs = ys) : ItD K (Itl K a) G ds where
  go := fun i H G1 s1 s2 hi => by
    obtain ⟨u, hu, _⟩ := DpAll.get (i := i) h (List.getElem?_eq_getElem hi)
    exact ⟨vs, u, SqL.mono (s1.trans s2) hq, hu⟩
  yld := fun i H G1 x H' d s1 s2 hd ⟨e, y⟩ => by
    subst e
    obtain ⟨u, hu, hd'⟩ := DpAll.get (i := i) h hd
    have := y vs (SqL.mono (s1.trans s2) hq)
    rw [hu] at this
    cases this
    exact ⟨G1, Ext.refl s2, Dp.mono s1 hd'⟩
  stop := fun i H G1 s1 s2 hi => ⟨vs, SqL.mono (s1.trans s2) hq, by rw [DpAll.length h]; exact hi⟩
theorem itd_tup {K : PySem.W.Frag} {G : Hp} {a : Addr} {vs : List V} {ds : List PyData} (hq : SqT K G a vs) (h : DpAll K G vs ds) : ItD K (Itt K a) G ds where
  go := fun i H G1 s1 s2 hi => by
    obtain ⟨u, hu, _⟩ := DpAll.get (i := i) h (List.getElem?_eq_getElem hi)
    exact ⟨vs, u, SqT.mono (s1.trans s2) hq, hu⟩
  yld := fun i H G1 x H' d s1 s2 hd ⟨e, y⟩ => by
    subst e
    obtain ⟨u, hu, hd'⟩ := DpAll.get (i := i) h hd
    have := y vs (SqT.mono (s1.trans s2) hq)
    rw [hu] at this
    cases this
    exact ⟨G1, Ext.refl s2, Dp.mono s1 hd'⟩
  stop := fun i H G1 s1 s2 hi => ⟨vs, SqT.mono (s1.trans s2) hq, by rw [DpAll.length h]; exact hi⟩
theorem itd_str {K : PySem.W.Frag} {G : Hp} {x : Str} : ItD K (Its x) G (chars x) where
  go := fun i H G1 s1 s2 hi => by
    have : i < x.cps.size := by simpa [chars] using hi
    exact this
  yld := fun i H G1 v H' d s1 s2 hd ⟨e, c, hc, y⟩ => by
    subst e y
    have : d = .str ⟨#[c]⟩ := by
      simp only [chars, List.getElem?_map, Array.getElem?_toList, hc] at hd
      exact (Option.some.inj hd).symm
    subst this
    exact ⟨G1, Ext.refl s2, .str _⟩
  stop := fun i H G1 s1 s2 hi => by
    have : x.cps.size ≤ i := by simpa [chars] using hi
    exact this
def dInts (ns : List Int) : List PyData := ns.map PyData.int
theorem itd_range {K : PySem.W.Frag} {G : Hp} {lo c : Int} {n : Nat} {J : It} (hJ : J = Itc lo c n) : ItD K J G (dInts ((List.range n).map fun (i : Nat) => lo + (i : Int) * c)) := by
  subst hJ
  refine ⟨fun i H G1 s1 s2 hi => ?_, fun i H G1 v H' d s1 s2 hd ⟨e, y⟩ => ?_, fun i H G1 s1 s2 hi => ?_⟩
  · have : i < n := by simpa [dInts] using hi
    exact this
  · subst e y
    have hi : i < n := by
      have := (List.getElem?_eq_some_iff.mp hd).1
      simpa [dInts] using this
    have : d = .int (lo + (i : Int) * c) := by
      simp only [dInts, List.getElem?_map, List.getElem?_range hi] at hd
      exact (Option.some.inj hd).symm
    subst this
    exact ⟨G1, Ext.refl s2, .int _⟩
  · have : n ≤ i := by simpa [dInts] using hi
    exact this
section
variable {X : Cx} {W : WX} {k : Nat} {tg e a b : Expr} {p pos : Pos}
theorem mi_seq {f : En → Rs PyData} (h : ME X W e f) : MI X W tg e (fun ρ => (f ρ).bind fun d ρ1 => ofO (seqItems d) ρ1) := fun B => by
  refine ⟨fun pins s σ H R I hh => ?_⟩
  obtain ⟨ρ, G, a, p⟩ := hh
  refine thn ((h B).run pins s σ H (fun v H1 => ∃ d ρ1 G1, Ab X.K B ρ1 G1 σ H1 ∧ Dp X.K G1 v d ∧ Pst X.K X.mg B W (RelI X.K) G1 σ R (ofO (seqItems d) ρ1)) I ?_) fun u s1 hq => ?_
  · exact Pst.bind (Rel := RelD X.K) a p fun d ρ1 v G1 H1 _ a1 _ r1 p1 => ⟨d, ρ1, G1, a1, r1, p1⟩
  · obtain ⟨v, H1, I1, rv, d, ρ1, G1, a1, r1, p1⟩ := hq
    cases d with
    | list xs =>
      obtain ⟨q, vs, rfl, hl, hd⟩ := Dp.lstE r1
      cases rv
      obtain ⟨its, rv, pl, hz⟩ := I1.list (SqL.mono a1.fz hl)
      refine wpAny_pyIter_list pl.isList ?_
      exact pi_one (tk := s1.toks) I1 _ (turn_list q _) ⟨_, Heap.get?_push_size _ rfl, rfl, rfl⟩ (p1 _ G1 H1 a1 (Sub.refl _) (by
        refine ⟨fun i H G1 s1 s2 hi => ?_, fun i H G2 x H' d s1 s2 hdd ⟨e, y⟩ => ?_, fun i H G1 s1 s2 hi => ?_⟩
        · obtain ⟨u, hu, _⟩ := DpAll.get (i := i) hd (List.getElem?_eq_getElem hi)
          exact ⟨vs, u, SqL.mono (s1.trans s2) hl, hu⟩
        · subst e
          obtain ⟨u, hu, hd'⟩ := DpAll.get (i := i) hd hdd
          have := y vs (SqL.mono (s1.trans s2) hl)
          rw [hu] at this
          cases this
          exact ⟨G2, Ext.refl s2, Dp.mono s1 hd'⟩
        · exact ⟨vs, SqL.mono (s1.trans s2) hl, by rw [DpAll.length hd]; exact hi⟩))
    | tuple xs =>
      obtain ⟨q, vs, rfl, hl, hd⟩ := Dp.tupE r1
      cases rv
      obtain ⟨its, rv, pl, hz⟩ := I1.tuple (SqT.mono a1.fz hl)
      refine wpAny_pyIter_tuple (show s1.heap.IsTuple q its.toArray from pl) ?_
      exact pi_one (tk := s1.toks) I1 _ (turn_tuple q _) ⟨_, Heap.get?_push_size _ rfl, rfl, rfl⟩ (p1 _ G1 H1 a1 (Sub.refl _) (itd_tup hl hd))
    | str x =>
      cases r1
      obtain ⟨t, rfl⟩ := rv
      have q := p1 _ G1 H1 a1 (Sub.refl _) (itd_str (x := x))
      cases ha : x.cps.all (· < 128)
      · exact wpAny_pyIter_wide ha (pi_one (tk := s1.toks) I1 _ (turn_str _ x t "str_iterator" (.inr rfl)) ⟨_, Heap.get?_push_size _ rfl, rfl, rfl⟩ q)
      · exact wpAny_pyIter_ascii ha (pi_one (tk := s1.toks) I1 _ (turn_str _ x t "str_ascii_iterator" (.inl rfl)) ⟨_, Heap.get?_push_size _ rfl, rfl, rfl⟩ q)
    | _ => exact p1.elim
def inR (i : Int) : Bool := decide (-(2 ^ 62) ≤ i) && decide (i < 2 ^ 62)
def rng1 : List PyData → Option (List PyData)
  | [.int j] => if inR j = true then some (dInts ((List.range j.toNat).map fun (i : Nat) => 0 + (i : Int))) else none
  | _ => none
def rng2 : List PyData → Option (List PyData)
  | [.int i, .int j] => if inR i = true ∧ inR j = true then some (dInts ((List.range (j - i).toNat).map fun (k : Nat) => i + (k : Int))) else none
  | _ => none
def rngD : List PyData → Option (List PyData)
  | [.int i, .int j, .int c] => if inR i = true ∧ inR j = true ∧ c = -1 then some (dInts ((List.range (i - j).toNat).map fun (k : Nat) => i + (k : Int) * (-1))) else none
  | _ => none
theorem itd_r {K : PySem.W.Frag} {G : Hp} {lo : Int} {n : Nat} : ItD K (Itr lo n) G (dInts ((List.range n).map fun (i : Nat) => lo + (i : Int))) := by
  refine ⟨fun i H G1 s1 s2 hi => ?_, fun i H G1 v H' d s1 s2 hd ⟨e, y⟩ => ?_, fun i H G1 s1 s2 hi => ?_⟩
  · have : i < n := by simpa [dInts] using hi
    exact this
  · subst e y
    have hi : i < n := by
      have := (List.getElem?_eq_some_iff.mp hd).1
      simpa [dInts] using this
    have : d = .int (lo + (i : Int)) := by
      simp only [dInts, List.getElem?_map, List.getElem?_range hi] at hd
      exact (Option.some.inj hd).symm
    subst this
    exact ⟨G1, Ext.refl s2, .int _⟩
  · have : n ≤ i := by simpa [dInts] using hi
    exact this
theorem inR_iff {i : Int} (h : inR i = true) : -(2 ^ 62) ≤ i ∧ i < 2 ^ 62 := by
  unfold inR at h
  rw [Bool.and_eq_true, decide_eq_true_eq, decide_eq_true_eq] at h
  exact h
theorem DpAll.one1 {K : PySem.W.Frag} {G : Hp} {vs : List V} {i : Int} (h : DpAll K G vs [.int i]) : vs = [.int i] := by
  cases h with
  | cons r q => cases r; cases q; rfl
theorem DpAll.two2 {K : PySem.W.Frag} {G : Hp} {vs : List V} {i j : Int} (h : DpAll K G vs [.int i, .int j]) : vs = [.int i, .int j] := by
  cases h with
  | cons r q => cases r; rw [DpAll.one1 q]
theorem DpAll.three3 {K : PySem.W.Frag} {G : Hp} {vs : List V} {i j c : Int} (h : DpAll K G vs [.int i, .int j, .int c]) : vs = [.int i, .int j, .int c] := by
  cases h with
  | cons r q => cases r; rw [DpAll.two2 q]
theorem mi_range1 {g : En → Rs (List PyData)} (hm : X.mg "range" = none) (ha : MA X W [a] g) (hg : Gl X "range" := by rfl) (hs : starEach [a] X.env = [(false, eval a X.env)] := by rfl) : MI X W tg (.Call (.Name "range" p) [a] [] pos) (fun ρ => (g ρ).bind fun ds ρ1 => ofO (rng1 ds) ρ1) := fun B =>
  PI.imp (pi_range1 hg hm (ha B) hs) fun σ H R ⟨ρ, G, a, p⟩ => by
    refine Pst.bind a p fun ds ρ1 vs G1 H1 e1 a1 s1 r1 p1 => ?_
    unfold rng1 at p1
    split at p1
    · rename_i j
      split at p1
      · rename_i hj
        obtain ⟨h1, h2⟩ := inR_iff hj
        exact ⟨j, DpAll.one1 r1, h1, h2, p1 _ G1 H1 a1 (Sub.refl _) itd_r⟩
      · exact p1.elim
    · exact p1.elim
theorem mi_range2 {g : En → Rs (List PyData)} (hm : X.mg "range" = none) (ha : MA X W [a, b] g) (hg : Gl X "range" := by rfl) (hs : starEach [a, b] X.env = [(false, eval a X.env), (false, eval b X.env)] := by rfl) (hs2 : starEach [b] X.env = [(false, eval b X.env)] := by rfl) : MI X W tg (.Call (.Name "range" p) [a, b] [] pos) (fun ρ => (g ρ).bind fun ds ρ1 => ofO (rng2 ds) ρ1) := fun B =>
  PI.imp (pi_range2 hg hm (ha B) hs hs2) fun σ H R ⟨ρ, G, a, p⟩ => by
    refine Pst.bind a p fun ds ρ1 vs G1 H1 e1 a1 s1 r1 p1 => ?_
    unfold rng2 at p1
    split at p1
    · rename_i i j
      split at p1
      · rename_i hj
        obtain ⟨h1, h2⟩ := inR_iff hj.1
        obtain ⟨h3, h4⟩ := inR_iff hj.2
        exact ⟨i, j, DpAll.two2 r1, ⟨h1, h2, h3, h4⟩, p1 _ G1 H1 a1 (Sub.refl _) itd_r⟩
      · exact p1.elim
    · exact p1.elim
theorem mi_rangeD {c : Expr} {g : En → Rs (List PyData)} (hm : X.mg "range" = none) (ha : MA X W [a, b, c] g) (hg : Gl X "range" := by rfl) (hs : starEach [a, b, c] X.env = (false, eval a X.env) :: starEach [b, c] X.env := by rfl) (hpl : (backTo pos (starEach [b, c] X.env)).any (·.1) = false := by rfl) :
    MI X W tg (.Call (.Name "range" p) [a, b, c] [] pos) (fun ρ => (g ρ).bind fun ds ρ1 => ofO (rngD ds) ρ1) := fun B =>
  PI.imp (pi_range3 hg hm (ha B) hs hpl) fun σ H R ⟨ρ, G, a, p⟩ => by
    refine Pst.bind a p fun ds ρ1 vs G1 H1 e1 a1 s1 r1 p1 => ?_
    unfold rngD at p1
    split at p1
    · rename_i i j c
      split at p1
      · rename_i hj
        obtain ⟨h1, h2, rfl⟩ := hj
        obtain ⟨h3, h4⟩ := inR_iff h1
        obtain ⟨h5, h6⟩ := inR_iff h2
        exact ⟨i, j, -1, _, DpAll.three3 r1, RgC.neg h3 h4 h5 h6, p1 _ G1 H1 a1 (Sub.refl _) (itd_range rfl)⟩
      · exact p1.elim
    · exact p1.elim
/-- zip of two lists or two tuples -/
def zipD : List PyData → Option (List PyData)
  | [.list xs, .list ys] => some (List.zipWith (fun x y => .tuple [x, y]) xs ys)
  | [.tuple xs, .tuple ys] => some (List.zipWith (fun x y => .tuple [x, y]) xs ys)
  | _ => none
theorem zipW_get {xs ys : List PyData} {i : Nat} {d : PyData} (h : (List.zipWith (fun x y => PyData.tuple [x, y]) xs ys)[i]? = some d) : ∃ x y, xs[i]? = some x ∧ ys[i]? = some y ∧ d = .tuple [x, y] := by
  rw [List.getElem?_zipWith] at h
  cases hx : xs[i]? with
  | none => rw [hx] at h; cases h
  | some x =>
    cases hy : ys[i]? with
    | none => rw [hx, hy] at h; cases h
    | some y => rw [hx, hy] at h; cases h; exact ⟨x, y, rfl, rfl, rfl⟩
theorem mi_zip {elts : List Expr} {kk : Nat} {tpos : Pos} {g : En → Rs (List PyData)} (hm : X.mg "zip" = none) (ha : MA X W [a, b] g) (hg : Gl X "zip" := by rfl) (hs : starEach [a, b] X.env = (false, eval a X.env) :: starEach [b] X.env := by rfl) (hpl : (backTo pos (starEach [b] X.env)).any (·.1) = false := by rfl) :
    MI X W (.Tuple elts kk tpos) (.Call (.Name "zip" p) [a, b] [] pos) (fun ρ => (g ρ).bind fun ds ρ1 => ofO (zipD ds) ρ1) := fun B =>
  PI.imp (RZ.pi_zipA hg hm (ha B) hs hpl) fun σ H R ⟨ρ, G, a, p⟩ => by
    refine Pst.bind a p fun ds ρ1 vs G1 H1 e1 a1 s1 r1 p1 => ?_
    unfold zipD at p1
    split at p1
    · rename_i xs ys
      cases r1 with
      | cons r r' =>
        cases r' with
        | cons r' r'' =>
          cases r''
          obtain ⟨q, us, rfl, hq, hu⟩ := Dp.lstE r
          obtain ⟨q', ws, rfl, hq', hw⟩ := Dp.lstE r'
          refine ⟨q, q', us, ws, rfl, .inl ⟨SqL.mono a1.fz hq, SqL.mono a1.fz hq', p1 _ G1 H1 a1 (Sub.refl _) ⟨fun i H G2 s1 s2 hi => ?_, fun i H G2 x H' d s1 s2 hd y => ?_, fun i H G2 s1 s2 hi => ?_⟩⟩⟩
          · obtain ⟨x, y, e1, e2, _⟩ := zipW_get (List.getElem?_eq_getElem hi)
            obtain ⟨u, f1, _⟩ := DpAll.get hu e1
            obtain ⟨w, f2, _⟩ := DpAll.get hw e2
            exact ⟨us, ws, u, w, SqL.mono (s1.trans s2) hq, SqL.mono (s1.trans s2) hq', f1, f2⟩
          · obtain ⟨x0, y0, e1, e2, rfl⟩ := zipW_get hd
            obtain ⟨T, x', y', rfl, hT, rfl, f1, f2⟩ := y
            obtain ⟨u, g1, g2⟩ := DpAll.get hu e1
            obtain ⟨w, g3, g4⟩ := DpAll.get hw e2
            have z1 : u = x' := Option.some.inj (g1.symm.trans (f1 us (SqL.mono (s1.trans s2) hq)))
            have z2 : w = y' := Option.some.inj (g3.symm.trans (f2 ws (SqL.mono (s1.trans s2) hq')))
            subst z1 z2
            have x := Ext.new (o := .tup [u, w]) s2 hT
            exact ⟨_, x, Dp.newT (s2.gone hT) (.cons (Dp.mono s1 g2) (.cons (Dp.mono s1 g4) .nil))⟩
          · refine ⟨us, ws, SqL.mono (s1.trans s2) hq, SqL.mono (s1.trans s2) hq', ?_⟩
            rw [List.length_zipWith] at hi
            rw [DpAll.length hu, DpAll.length hw]
            omega
    · rename_i xs ys
      cases r1 with
      | cons r r' =>
        cases r' with
        | cons r' r'' =>
          cases r''
          obtain ⟨q, us, rfl, hq, hu⟩ := Dp.tupE r
          obtain ⟨q', ws, rfl, hq', hw⟩ := Dp.tupE r'
          refine ⟨q, q', us, ws, rfl, .inr ⟨SqT.mono a1.fz hq, SqT.mono a1.fz hq', p1 _ G1 H1 a1 (Sub.refl _) ⟨fun i H G2 s1 s2 hi => ?_, fun i H G2 x H' d s1 s2 hd y => ?_, fun i H G2 s1 s2 hi => ?_⟩⟩⟩
          · obtain ⟨x, y, e1, e2, _⟩ := zipW_get (List.getElem?_eq_getElem hi)
            obtain ⟨u, f1, _⟩ := DpAll.get hu e1
            obtain ⟨w, f2, _⟩ := DpAll.get hw e2
            exact ⟨us, ws, u, w, SqT.mono (s1.trans s2) hq, SqT.mono (s1.trans s2) hq', f1, f2⟩
          · obtain ⟨x0, y0, e1, e2, rfl⟩ := zipW_get hd
            obtain ⟨T, x', y', rfl, hT, rfl, f1, f2⟩ := y
            obtain ⟨u, g1, g2⟩ := DpAll.get hu e1
            obtain ⟨w, g3, g4⟩ := DpAll.get hw e2
            have z1 : u = x' := Option.some.inj (g1.symm.trans (f1 us (SqT.mono (s1.trans s2) hq)))
            have z2 : w = y' := Option.some.inj (g3.symm.trans (f2 ws (SqT.mono (s1.trans s2) hq')))
            subst z1 z2
            have x := Ext.new (o := .tup [u, w]) s2 hT
            exact ⟨_, x, Dp.newT (s2.gone hT) (.cons (Dp.mono s1 g2) (.cons (Dp.mono s1 g4) .nil))⟩
          · refine ⟨us, ws, SqT.mono (s1.trans s2) hq, SqT.mono (s1.trans s2) hq', ?_⟩
            rw [List.length_zipWith] at hi
            rw [DpAll.length hu, DpAll.length hw]
            omega
    · exact p1.elim
end

/-! ### targets -/
abbrev Tgt := PyData → En → Option En
abbrev Tgts := List PyData → En → Option En
def PstG (K : PySem.W.Frag) (B : Bs) (vs : List Nat) (G : Hp) (σ : St) (Q : St → Hp → Prop) : Option En → Prop
  | some ρ' => ∀ σ' G' H', Ab K B ρ' G' σ' H' → Sub G G' → wipe σ' vs = wipe σ vs → Q σ' H'
  | none => False
def MG (X : Cx) (tg : Expr) (vs : List Nat) (t : Tgt) : Prop := ∀ B, PG X tg fun v σ H Q => ∃ ρ G d, Ab X.K B ρ G σ H ∧ Dp X.K G v d ∧ PstG X.K B vs G σ Q (t d ρ)
def MGs (X : Cx) (tgs : List Expr) (vs : List Nat) (t : Tgts) : Prop := ∀ B, PGs X tgs fun us σ H Q => ∃ ρ G ds, Ab X.K B ρ G σ H ∧ DpAll X.K G us ds ∧ PstG X.K B vs G σ Q (t ds ρ)
theorem PG.imp {X : Cx} {e : Expr} {t u : TG} (h : PG X e t) (k : ∀ v σ H Q, u v σ H Q → t v σ H Q) : PG X e u := ⟨fun pins s σ H v w Q I r q => h.run pins s σ H v w Q I r (k v σ H Q q)⟩
theorem PGs.imp {X : Cx} {e : List Expr} {t u : TGs} (h : PGs X e t) (k : ∀ v σ H Q, u v σ H Q → t v σ H Q) : PGs X e u := ⟨fun pins s σ H v w Q I r q => h.run pins s σ H v w Q I r (k v σ H Q q)⟩
theorem wipe_set {σ : St} {i : Nat} {o : Option V} : ∀ {vs : List Nat}, i ∈ vs → wipe (σ.set i o) vs = wipe σ vs
  | v :: vs, h => by
    unfold wipe
    by_cases e : i = v
    · subst e
      have key : ∀ us : List Nat, (wipe (σ.set i o) us).set i none = (wipe σ us).set i none := by
        intro us
        induction us with
        | nil => unfold wipe; rw [List.set_set]
        | cons u us ih =>
          unfold wipe
          by_cases q : u = i
          · subst q; rw [List.set_set, List.set_set]; exact ih
          · rw [List.set_comm _ _ q, ih, List.set_comm _ _ (Ne.symm q)]
      exact key vs
    · rw [wipe_set (vs := vs) (by
        rcases List.mem_cons.mp h with z | z
        · exact absurd z e
        · exact z)]
theorem wipe_more {σ σ' : St} : ∀ {vs : List Nat} (us : List Nat), wipe σ' us = wipe σ us → wipe σ' (vs ++ us) = wipe σ (vs ++ us)
  | [], us, h => h
  | v :: vs, us, h => by
    show (wipe σ' (vs ++ us)).set v none = (wipe σ (vs ++ us)).set v none
    rw [wipe_more us h]
theorem wipe_comm (σ : St) (i : Nat) : ∀ us : List Nat, wipe (σ.set i none) us = (wipe σ us).set i none
  | [] => rfl
  | u :: us => by
    show (wipe (σ.set i none) us).set u none = ((wipe σ us).set u none).set i none
    rw [wipe_comm σ i us]
    by_cases q : u = i
    · subst q; rfl
    · rw [List.set_comm _ _ (Ne.symm q)]
theorem wipe_app (σ : St) : ∀ (vs us : List Nat), wipe σ (vs ++ us) = wipe (wipe σ vs) us
  | [], us => rfl
  | v :: vs, us => by
    show (wipe σ (vs ++ us)).set v none = wipe ((wipe σ vs).set v none) us
    rw [wipe_app σ vs us, wipe_comm]
theorem wipe_more' {σ σ' : St} {vs : List Nat} (us : List Nat) (h : wipe σ' vs = wipe σ vs) : wipe σ' (vs ++ us) = wipe σ (vs ++ us) := by
  rw [wipe_app, wipe_app, h]
def gN (i : Nat) : Tgt := fun d ρ => some (ρ.set i (.dat d))
def gT (n : Nat) (t : Tgts) : Tgt := fun d ρ => match d with
  | .tuple xs => if xs.length = n then t xs ρ else none
  | _ => none
def gL (n : Nat) (t : Tgts) : Tgt := fun d ρ => match d with
  | .list xs => if xs.length = n then t xs ρ else none
  | _ => none
def gsNil : Tgts := fun ds ρ => match ds with
  | [] => some ρ
  | _ => none
def gsCons (t : Tgt) (u : Tgts) : Tgts := fun ds ρ => match ds with
  | d :: r => (t d ρ).bind fun ρ1 => u r ρ1
  | [] => none
section
variable {X : Cx} {W : WX} {k : Nat} {pos : Pos}
theorem mg_name {x : Str} (i : Nat) (nd : X.N.Nodup) (hi : X.N[i]? = some x := by rfl) (hx : Loc X.env.scope x := by first | exact .inl rfl | exact .inr rfl) (hf : X.fn x = true ∨ X.env.scope.names.lookup x = some .local := by first | exact .inl rfl | exact .inr rfl) : MG X (.Name x pos) [i] (gN i) := fun B =>
  PG.imp (pg_name nd hi hx hf) fun v σ H Q ⟨ρ, G, d, a, r, p⟩ => p _ G H (a.store i r) (Sub.refl _) (wipe_set (by simp))
theorem mgs_nil : MGs X [] [] gsNil := fun B => PGs.imp pgs_nil fun us σ H Q ⟨ρ, G, ds, a, r, p⟩ => by
  cases r with
  | nil => exact ⟨rfl, p σ G H a (Sub.refl _) rfl⟩
  | cons _ _ => exact p.elim
theorem mgs_cons {e : Expr} {es : List Expr} {vs us : List Nat} {t : Tgt} {u : Tgts} (h1 : MG X e vs t) (h2 : MGs X es us u) (hs : (assignEach (e :: es) X.env).map (·.2) = assign e X.env :: (assignEach es X.env).map (·.2) := by rfl) : MGs X (e :: es) (vs ++ us) (gsCons t u) := fun B =>
  PGs.imp (pgs_cons (h1 B) (h2 B) hs) fun ws σ H Q ⟨ρ, G, ds, a, r, p⟩ => by
    cases r with
    | nil => exact p.elim
    | @cons v vr d dr r1 r2 =>
      refine ⟨v, vr, rfl, ρ, G, d, a, r1, ?_⟩
      have p : PstG X.K B (vs ++ us) G σ Q ((t d ρ).bind fun ρ1 => u dr ρ1) := p
      cases ht : t d ρ with
      | none => rw [ht] at p; exact p.elim
      | some ρ1 =>
        rw [ht] at p
        intro σ1 G1 H1 a1 s1 w1
        refine ⟨ρ1, G1, dr, a1, DpAll.mono s1 r2, ?_⟩
        have p : PstG X.K B (vs ++ us) G σ Q (u dr ρ1) := p
        cases hu : u dr ρ1 with
        | none => rw [hu] at p; exact p.elim
        | some ρ2 =>
          rw [hu] at p
          intro σ2 G2 H2 a2 s2 w2
          exact p σ2 G2 H2 a2 (s1.trans s2) ((wipe_more us w2).trans (wipe_more' us w1))
theorem mg_tup {es : List Expr} {kk n : Nat} {vs : List Nat} {t : Tgts} (hc : X.calm = true) (h : MGs X es vs t) (hn : (assignEach es X.env).length = n := by rfl) (hst : (assignEach es X.env).findIdx? (·.1) = none := by rfl) : MG X (.Tuple es kk pos) vs (gT n t) := fun B =>
  PG.imp (pg_tup hc (h B) hn hst) fun v σ H Q ⟨ρ, G, d, a, r, p⟩ => by
    cases d with
    | tuple xs =>
      obtain ⟨q, us, rfl, hq, hu⟩ := Dp.tupE r
      have p : PstG X.K B vs G σ Q (if xs.length = n then t xs ρ else none) := p
      split at p
      · rename_i hl
        exact ⟨q, us, rfl, SqT.mono a.fz hq, by rw [DpAll.length hu]; exact hl, ρ, G, xs, a, hu, p⟩
      · exact p.elim
    | _ => exact p.elim
end

/-! ### statements -/
inductive Ot where
  | next (ρ : En)
  | ret (d : PyData) (ρ : En)
  | brk (ρ : En)
  | cont (ρ : En)
  | err (c : Str) (ρ : En)
  | bad
def PstS (K : PySem.W.Frag) (mg : Str → Option Value) (B : Bs) (W : WX) (D : Ends) : Ot → Prop
  | .next ρ => ∀ σ G H, Ab K B ρ G σ H → D.nx σ H
  | .ret d ρ => ∀ v σ G H, Ab K B ρ G σ H → Dp K G v d → D.rt v H
  | .brk ρ => ∀ σ G H, Ab K B ρ G σ H → D.bk σ H
  | .cont ρ => ∀ σ G H, Ab K B ρ G σ H → D.ct σ H
  | .err c ρ => ∀ σ G H, Ab K B ρ G σ H → ErrW mg W c σ H
  | .bad => False
def tS (K : PySem.W.Frag) (mg : Str → Option Value) (B : Bs) (W : WX) (f : En → Ot) : TS := fun D σ H => ∃ ρ G, Ab K B ρ G σ H ∧ PstS K mg B W D (f ρ)
def MS (X : Cx) (W : WX) (st : Stmt) (f : En → Ot) : Prop := ∀ B, PS X st (tS X.K X.mg B W f)
def MSs (X : Cx) (W : WX) (st : List Stmt) (f : En → Ot) : Prop := ∀ B, PSs X st (tS X.K X.mg B W f)
def Ot.seq (o : Ot) (k : En → Ot) : Ot :=
  match o with
  | .next ρ => k ρ
  | .ret d ρ => .ret d ρ
  | .brk ρ => .brk ρ
  | .cont ρ => .cont ρ
  | .err c ρ => .err c ρ
  | .bad => .bad
def Rs.st {α : Type} (r : Rs α) (k : α → En → Ot) : Ot :=
  match r with
  | .ok a ρ => k a ρ
  | .err c ρ => .err c ρ
  | .bad => .bad
section
variable {X : Cx} {W : WX} {k : Nat} {pos : Pos} {st : Stmt} {rest : List Stmt}
theorem mss_nil : MSs X W [] .next := fun B => PSs.imp pss_nil fun D σ H ⟨ρ, G, a, p⟩ => p σ G H a
theorem mss_one {f : En → Ot} (h : MS X W st f) : MSs X W [st] f := fun B => pss_one (h B)
def seqS (f g : En → Ot) (ρ : En) : Ot := (f ρ).seq g
theorem mss_cons {f g : En → Ot} (h1 : MS X W st f) (h2 : MSs X W rest g) : MSs X W (st :: rest) (seqS f g) := fun B => PSs.imp (pss_cons (h1 B) (h2 B)) fun D σ H ⟨ρ, G, a, p⟩ => by
  refine ⟨ρ, G, a, ?_⟩
  unfold seqS at p
  cases e : f ρ with
  | next ρ1 => rw [e] at p; exact fun σ' G' H' a' => ⟨ρ1, G', a', p⟩
  | ret d ρ1 => rw [e] at p; exact p
  | brk ρ1 => rw [e] at p; exact p
  | cont ρ1 => rw [e] at p; exact p
  | err c ρ1 => rw [e] at p; exact p
  | bad => rw [e] at p; exact p
/-- from an expression's run to a statement's -/
theorem PstS.bind {α β : Type} {Rel : Hp → Hp → β → α → Prop} {B : Bs} {ρ : En} {G : Hp} {σ : St} {H : Hp} {f : En → Rs α} {kk : α → En → Ot} {D : Ends} (a : Ab X.K B ρ G σ H) (h : PstS X.K X.mg B W D ((f ρ).st kk)) {Q1 : β → Hp → Prop}
    (hk : ∀ d ρ1 v G1 H1, f ρ = .ok d ρ1 → Ab X.K B ρ1 G1 σ H1 → Sub G G1 → Rel G1 H1 v d → PstS X.K X.mg B W D (kk d ρ1) → Q1 v H1) : tG X.K X.mg B W Rel f σ H Q1 := by
  refine ⟨ρ, G, a, ?_⟩
  cases e : f ρ with
  | bad => rw [e] at h; exact h.elim
  | err c ρ1 => rw [e] at h; exact fun G' H' a' _ => h σ G' H' a'
  | ok d ρ1 =>
    rw [e] at h
    exact fun v G1 H1 a1 s1 r1 => hk d ρ1 v G1 H1 e a1 s1 r1 h
theorem PstS.bindN {B : Bs} {ρ : En} {G : Hp} {σ : St} {H : Hp} {f : En → Rs (List PyData)} {kk : List PyData → En → Ot} {D : Ends} (a : Ab X.K B ρ G σ H) (h : PstS X.K X.mg B W D ((f ρ).st kk)) {Q1 : V → Hp → Prop}
    (hk : ∀ d ρ1 v G1 H1, f ρ = .ok d ρ1 → Ab X.K B ρ1 G1 σ H1 → Sub G G1 → RelN X.K B ρ1 σ G1 H1 v d → PstS X.K X.mg B W D (kk d ρ1) → Q1 v H1) : tN X.K X.mg B W f σ H Q1 := by
  refine ⟨ρ, G, a, ?_⟩
  cases e : f ρ with
  | bad => rw [e] at h; exact h.elim
  | err c ρ1 => rw [e] at h; exact fun G' H' a' _ => h σ G' H' a'
  | ok d ρ1 =>
    rw [e] at h
    exact fun v G1 H1 a1 s1 r1 => hk d ρ1 v G1 H1 e a1 s1 r1 h
theorem ms_set {x : Str} {e : Expr} {px : Pos} {f : En → Rs PyData} (i : Nat) (nd : X.N.Nodup) (h : ME X W e f) (hi : X.N[i]? = some x := by rfl) (hx : Loc X.env.scope x := by first | exact .inl rfl | exact .inr rfl) (hs : swapsWith e (some (.Name x px)) pos.line X.env = pure false := by rfl) (hf : X.fn x = true ∨ X.env.scope.names.lookup x = some .local := by first | exact .inl rfl | exact .inr rfl) :
    MS X W (.Assign [.Name x px] e pos) (fun ρ => (f ρ).st fun d ρ1 => .next (ρ1.set i (.dat d))) := fun B => PS.imp (ps_set nd hi hx (h B) hs hf) fun D σ H ⟨ρ, G, a, p⟩ =>
  PstS.bind a p fun d ρ1 v G1 H1 _ a1 _ r1 p1 => p1 _ G1 H1 (a1.store i r1)
theorem ms_setN {x : Str} {e : Expr} {px : Pos} {f : En → Rs (List PyData)} (i : Nat) (nd : X.N.Nodup) (h : MN X W e f) (hi : X.N[i]? = some x := by rfl) (hx : Loc X.env.scope x := by first | exact .inl rfl | exact .inr rfl) (hs : swapsWith e (some (.Name x px)) pos.line X.env = pure false := by rfl) (hf : X.fn x = true ∨ X.env.scope.names.lookup x = some .local := by first | exact .inl rfl | exact .inr rfl) :
    MS X W (.Assign [.Name x px] e pos) (fun ρ => (f ρ).st fun d ρ1 => .next (ρ1.set i (.own d))) := fun B => PS.imp (ps_set nd hi hx (h B) hs hf) fun D σ H ⟨ρ, G, a, p⟩ =>
  PstS.bindN a p fun d ρ1 v G1 H1 _ a1 _ r1 p1 => p1 _ G1 H1 (a1.storeN i r1)
/-- a, b = e -/
theorem ms_asg {tg e : Expr} {vs : List Nat} {t : Tgt} {f : En → Rs PyData} (h : ME X W e f) (hg : MG X tg vs t) (hs : swapsWithSole [tg] e pos.line X.env = pure false := by rfl) (hw : swappedStores [tg] e X.env = pure none := by rfl)
    (h1 : (assignEach [tg] X.env).map (·.2) = [assign tg X.env] := by rfl) : MS X W (.Assign [tg] e pos) (fun ρ => (f ρ).st fun d ρ1 => match t d ρ1 with | some ρ2 => .next ρ2 | none => .bad) := fun B =>
  PS.imp (ps_asg (h B) (hg B) hs hw h1) fun D σ H ⟨ρ, G, a, p⟩ => PstS.bind a p fun d ρ1 v G1 H1 _ a1 _ r1 p1 => by
    refine ⟨ρ1, G1, d, a1, r1, ?_⟩
    cases ht : t d ρ1 with
    | none => rw [ht] at p1; exact p1.elim
    | some ρ2 => rw [ht] at p1; exact fun σ' G' H' a' _ _ => p1 σ' G' H' a'
/-- a, b = e1, e2 with plain local names -/
def parF (i j : Nat) (g : En → Rs (List PyData)) (ρ : En) : Ot := (g ρ).st fun ds ρ1 => match ds with | [d, e] => .next ((ρ1.set i (.dat d)).set j (.dat e)) | _ => .bad
theorem ms_par {x y : Str} {a b : Expr} {px py pt : Pos} {kt k2 pt2} {g : En → Rs (List PyData)} (i j : Nat) (c : Mc X W k) (hij : i ≠ j) (ha : MA X W [a, b] g) (hi : X.N[i]? = some x := by rfl) (hj : X.N[j]? = some y := by rfl)
    (hx : X.env.scope.names.lookup x = some .local := by rfl) (hy : X.env.scope.names.lookup y = some .local := by rfl)
    (hw : swappedStores [.Tuple [.Name x px, .Name y py] kt pt] (.Tuple [a, b] k2 pt2) X.env = pure (some [x, y]) := by rfl)
    (hs : swapsWithSole [.Tuple [.Name x px, .Name y py] kt pt] (.Tuple [a, b] k2 pt2) pos.line X.env = pure false := by rfl) :
    MS X W (.Assign [.Tuple [.Name x px, .Name y py] kt pt] (.Tuple [a, b] k2 pt2) pos) (parF i j g) := fun B => PS.imp (ps_par c.calm c.nd hi hj hij hx hy (ha B) hw hs) fun D σ H ⟨ρ, G, a, p⟩ =>
  PstS.bind (f := g) a p fun ds ρ1 vs G1 H1 _ a1 _ r1 p1 => by
    cases r1 with
    | nil => exact p1.elim
    | cons r1 q1 =>
      cases q1 with
      | nil => exact p1.elim
      | cons r2 q2 =>
        cases q2 with
        | cons _ _ => exact p1.elim
        | nil => exact ⟨_, _, rfl, p1 _ G1 H1 ((a1.store i r1).store j r2)⟩
theorem ms_ret {e : Expr} {f : En → Rs PyData} (h : ME X W e f) : MS X W (.Return (some e) pos) (fun ρ => (f ρ).st fun d ρ1 => .ret d ρ1) := fun B => PS.imp (ps_ret (h B)) fun D σ H ⟨ρ, G, a, p⟩ =>
  PstS.bind a p fun d ρ1 v G1 H1 _ a1 _ r1 p1 => p1 v σ G1 H1 a1 r1
theorem ms_retN : MS X W (.Return none pos) (fun ρ => .ret .none ρ) := fun B => PS.imp ps_retN fun D σ H ⟨ρ, G, a, p⟩ => p .non σ G H a .non
theorem ms_pass : MS X W (.Pass pos) .next := fun B => PS.imp ps_pass fun D σ H ⟨ρ, G, a, p⟩ => p σ G H a
theorem ms_break : MS X W (.Break pos) .brk := fun B => PS.imp ps_break fun D σ H ⟨ρ, G, a, p⟩ => p σ G H a
theorem ms_cont : MS X W (.Continue pos) .cont := fun B => PS.imp ps_continue fun D σ H ⟨ρ, G, a, p⟩ => p σ G H a
theorem ms_expr {e : Expr} {f : En → Rs PyData} (h : ME X W e f) (hs : swapsWith e none pos.line X.env = pure false := by rfl) : MS X W (.Expr e pos) (fun ρ => (f ρ).st fun _ ρ1 => .next ρ1) := fun B => PS.imp (ps_expr (h B) hs) fun D σ H ⟨ρ, G, a, p⟩ =>
  PstS.bind a p fun d ρ1 v G1 H1 _ a1 _ r1 p1 => p1 σ G1 H1 a1
def ifS (c : En → Rs Bool) (f g : En → Ot) (ρ : En) : Ot := (c ρ).st fun b ρ1 => if b = true then f ρ1 else g ρ1
theorem ms_if {c : Expr} {a b : List Stmt} {t : En → Rs Bool} {f g : En → Ot} (hc : MT X W c t) (ha : MSs X W a f) (hb : MSs X W b g) : MS X W (.If c a b pos) (ifS t f g) := fun B => PS.imp (ps_if (hc B) (ha B) (hb B)) fun D σ H ⟨ρ, G, a, p⟩ =>
  PstS.bind (f := t) a p fun d ρ1 v G1 H1 _ a1 _ r1 p1 => by
    have r1 : v = d := r1
    subst r1
    cases v with
    | true => rw [if_pos rfl] at p1 ⊢; exact ⟨ρ1, G1, a1, p1⟩
    | false => rw [if_neg Bool.false_ne_true] at p1 ⊢; exact ⟨ρ1, G1, a1, p1⟩
/-! loops -/
def forF (t : Tgt) (body : En → Ot) : List PyData → En → Ot
  | [], ρ => .next ρ
  | d :: ds, ρ => match t d ρ with
    | none => .bad
    | some ρ1 => match body ρ1 with
      | .next ρ2 => forF t body ds ρ2
      | .cont ρ2 => forF t body ds ρ2
      | .brk ρ2 => .next ρ2
      | .ret d ρ2 => .ret d ρ2
      | .err c ρ2 => .err c ρ2
      | .bad => .bad
theorem Ab.pin {K : PySem.W.Frag} {B : Bs} {ρ : En} {G : Hp} {σ : St} {H : Hp} (a : Ab K B ρ G σ H) : Ab K { B with G0 := G } ρ G σ H := a.inner (H0 := B.H0) a.kp fun i t p e1 e2 e3 => (a.fr i t p e1 e2 e3).2
theorem Ab.unpin {K : PySem.W.Frag} {B : Bs} {ρ ρ' : En} {G G' : Hp} {σ σ' : St} {H H' : Hp} (a : Ab K B ρ G σ H) (b : Ab K { B with G0 := G } ρ' G' σ' H') : Ab K B ρ' G' σ' H' := a.outer (H0 := B.H0) (Sub.refl _) b
theorem exS {X : Cx} {st : List Stmt} {f : En → Ot} (h : MSs X W st f) : PSs X st (fun D σ H => ∃ B, tS X.K X.mg B W f D σ H) := ⟨fun pins s σ H D I ⟨B, q⟩ => (h B).run pins s σ H D I q⟩
theorem exG {X : Cx} {tg : Expr} {vs : List Nat} {t : Tgt} (h : MG X tg vs t) : PG X tg (fun v σ H Q => ∃ B ρ G d, Ab X.K B ρ G σ H ∧ Dp X.K G v d ∧ PstG X.K B vs G σ Q (t d ρ)) := ⟨fun pins s σ H v u Q I r ⟨B, q⟩ => (h B).run pins s σ H v u Q I r q⟩
theorem exE {X : Cx} {e : Expr} {f : En → Rs PyData} (h : ME X W e f) : PE X e (fun σ H Q => ∃ B, tG X.K X.mg B W (RelD X.K) f σ H Q) := ⟨fun pins s σ H Q I ⟨B, q⟩ => (h B).run pins s σ H Q I q⟩
theorem exT {X : Cx} {e : Expr} {f : En → Rs Bool} (h : MT X W e f) : PT X e (fun σ H Q => ∃ B, tG X.K X.mg B W RelB f σ H Q) := ⟨fun pins s σ H Q I ⟨B, q⟩ => (h B).run pins s σ H Q I q⟩
theorem ms_for {tg e : Expr} {body : List Stmt} {vs : List Nat} {t : Tgt} {f : En → Rs (List PyData)} {g : En → Ot} (c : Mc X W k) (hp : PassesOwn (model X.prog X.w) X.A X.env X.xe) (hi : MI X W tg e f) (hg : MG X tg vs t) (hb : MSs X W body g) (hs : ∀ x, foldedSetIterable e X.env x = pure x := by intro _; rfl) :
    MS X W (.For tg e body [] pos) (fun ρ => (f ρ).st fun ds ρ1 => forF t g ds ρ1) := fun B => PS.imp (ps_for hp c.calm (hi B) (exG hg) (exS hb) hs) fun D σ H ⟨ρ, G, a, p⟩ =>
  PstS.bind (f := f) a p fun ds ρ1 J G1 H1 _ a1 _ r1 p1 => by
    refine ⟨fun i m σ H => m + i = ds.length ∧ ∃ ρ G, Ab X.K { B with G0 := G1 } ρ G σ H ∧ PstS X.K X.mg B W D (forF t g (ds.drop i) ρ), ⟨ds.length, rfl, ρ1, G1, a1.pin, p1⟩, ?_⟩
    rintro i m σ H ⟨hm, ρ, G, a, p⟩
    have sg : Sub G1 G := a.g0
    by_cases hlt : i < ds.length
    · rw [List.drop_eq_getElem_cons hlt] at p
      unfold forF at p
      refine .inr ⟨r1.go i H G sg a.fz hlt, fun σ H => ∃ ρ G, Ab X.K { B with G0 := G1 } ρ G σ H ∧ PstS X.K X.mg B W D (forF t g (ds.drop (i + 1)) ρ), fun σ' H' q => ⟨m - 1, by omega, by omega, q⟩, fun x H' y => ?_⟩
      obtain ⟨G2, ex, hd⟩ := r1.yld i H G x H' _ sg a.fz (List.getElem?_eq_getElem hlt) y
      refine ⟨_, ρ, G2, _, a.ext ex, hd, ?_⟩
      cases ht : t ds[i] ρ with
      | none => rw [ht] at p; exact p.elim
      | some ρ2 =>
        rw [ht] at p
        intro σ3 G3 H3 a3 s3 _
        refine ⟨_, ρ2, G3, a3, ?_⟩
        simp only at p
        cases hb' : g ρ2 with
        | next ρ4 => rw [hb'] at p; exact fun σ G H a => ⟨ρ4, G, a, p⟩
        | cont ρ4 => rw [hb'] at p; exact fun σ G H a => ⟨ρ4, G, a, p⟩
        | brk ρ4 => rw [hb'] at p; exact fun σ G H a => p σ G H (a1.unpin a)
        | ret d ρ4 => rw [hb'] at p; exact fun v σ G H a => p v σ G H (a1.unpin a)
        | err c ρ4 => rw [hb'] at p; exact fun σ G H a => p σ G H (a1.unpin a)
        | bad => rw [hb'] at p; exact p
    · have e : ds.drop i = [] := List.drop_eq_nil_of_le (by omega)
      rw [e] at p
      exact .inl ⟨r1.stop i H G sg a.fz (by omega), p σ G H (a1.unpin a)⟩
def whileF (c : En → Rs Bool) (body : En → Ot) : Nat → En → Ot
  | 0, _ => .bad
  | n + 1, ρ => match c ρ with
    | .ok true ρ1 => match body ρ1 with
      | .next ρ2 => whileF c body n ρ2
      | .cont ρ2 => whileF c body n ρ2
      | .brk ρ2 => .next ρ2
      | .ret d ρ2 => .ret d ρ2
      | .err c ρ2 => .err c ρ2
      | .bad => .bad
    | .ok false ρ1 => .next ρ1
    | .err c ρ1 => .err c ρ1
    | .bad => .bad
theorem ms_while {e : Expr} {body : List Stmt} {t : En → Rs Bool} {g : En → Ot} (n : Nat) (hp : PassesOwn (model X.prog X.w) X.A X.env X.xe) (hc : MT X W e t) (hb : MSs X W body g) : MS X W (.While e body [] pos) (whileF t g n) := fun B => PS.imp (ps_while hp (hc B) (hb B)) fun D σ H ⟨ρ, G, a, p⟩ => by
  refine ⟨fun m σ H => ∃ ρ G, Ab X.K B ρ G σ H ∧ PstS X.K X.mg B W D (whileF t g m ρ), ⟨n, ρ, G, a, p⟩, ?_⟩
  rintro m σ H ⟨ρ, G, a, p⟩
  cases m with
  | zero => exact p.elim
  | succ m =>
    refine ⟨ρ, G, a, ?_⟩
    unfold whileF at p
    cases ht : t ρ with
    | bad => rw [ht] at p; exact p.elim
    | err c ρ1 => rw [ht] at p; exact fun G' H' a' _ => p σ G' H' a'
    | ok b ρ1 =>
      rw [ht] at p
      intro v G1 H1 a1 s1 r1
      have r1 : v = b := r1
      subst r1
      cases v with
      | false => rw [if_neg Bool.false_ne_true]; exact p σ G1 H1 a1
      | true =>
        rw [if_pos rfl]
        refine ⟨fun σ H => ∃ ρ G, Ab X.K B ρ G σ H ∧ PstS X.K X.mg B W D (whileF t g m ρ), fun σ' H' q => ⟨m, Nat.lt_succ_self m, q⟩, ρ1, G1, a1, ?_⟩
        simp only at p
        cases hb' : g ρ1 with
        | next ρ4 => rw [hb'] at p; exact fun σ G H a => ⟨ρ4, G, a, p⟩
        | cont ρ4 => rw [hb'] at p; exact fun σ G H a => ⟨ρ4, G, a, p⟩
        | brk ρ4 => rw [hb'] at p; exact p
        | ret d ρ4 => rw [hb'] at p; exact p
        | err c ρ4 => rw [hb'] at p; exact p
        | bad => rw [hb'] at p; exact p
end
end ML
set_option maxRecDepth 100000
set_option maxHeartbeats 4000000
namespace ML
open PySem L2

/-! ### list comprehensions -/
def wipeE (ρ : En) : List Nat → En
  | [] => ρ
  | v :: vs => (wipeE ρ vs).set v .un
theorem Ab.wipe {K : PySem.W.Frag} {B : Bs} {ρ : En} {G : Hp} {σ : St} {H : Hp} (a : Ab K B ρ G σ H) : ∀ vs : List Nat, Ab K B (wipeE ρ vs) G (L2.wipe σ vs) H
  | [] => a
  | v :: vs => (Ab.wipe a vs).forget v none
theorem wipeE_length (ρ : En) : ∀ vs : List Nat, (wipeE ρ vs).length = ρ.length
  | [] => rfl
  | v :: vs => by unfold wipeE; rw [List.length_set, wipeE_length ρ vs]
theorem wipeE_in {ρ : En} {i : Nat} {s : Sl} : ∀ {vs : List Nat}, i ∈ vs → (wipeE ρ vs)[i]? = some s → s = .un
  | v :: vs, h, e => by
    unfold wipeE at e
    by_cases q : v = i
    · subst q
      have hl : v < (wipeE ρ vs).length := by
        have := (List.getElem?_eq_some_iff.mp e).1
        simpa using this
      rw [List.getElem?_set_self hl] at e
      exact (Option.some.inj e).symm
    · rw [List.getElem?_set_ne q] at e
      rcases List.mem_cons.mp h with z | z
      · exact absurd z.symm q
      · exact wipeE_in z e
theorem wipe_out' {σ : St} {i : Nat} : ∀ {vs : List Nat}, i ∉ vs → (L2.wipe σ vs)[i]? = σ[i]?
  | [], _ => rfl
  | v :: vs, h => by
    unfold L2.wipe
    rw [List.getElem?_set_ne (fun e => h (by rw [e]; exact List.mem_cons_self)), wipe_out' fun z => h (List.mem_cons_of_mem _ z)]
/-- the block's names are forgotten, the names around stand as they stood -/
theorem Ab.unwipe {K : PySem.W.Frag} {B : Bs} {ρ' : En} {G : Hp} {σ : St} {H : Hp} {vs : List Nat} (hl : σ.length = ρ'.length) (a : Ab K B (wipeE ρ' vs) G (L2.wipe σ vs) H) : Ab K B (wipeE ρ' vs) G σ H := by
  have key : ∀ (i : Nat) (s : Sl), (wipeE ρ' vs)[i]? = some s → s = .un ∨ (L2.wipe σ vs)[i]? = σ[i]? := fun i s e => by
    by_cases h : i ∈ vs
    · exact .inl (wipeE_in h e)
    · exact .inr (wipe_out' h)
  refine ⟨a.fz, a.g0, a.nw, a.kp, by rw [wipeE_length]; exact hl, fun i s o e1 e2 => ?_, fun i s p e1 e2 e3 => ?_, a.mh, fun i j s t p e1 e2 e3 e4 e5 e6 => ?_⟩
  · rcases key i s e1 with rfl | q
    · trivial
    · exact a.sl i s o e1 (q.trans e2)
  · rcases key i s e1 with rfl | q
    · cases e2
    · exact a.fr i s p e1 e2 (q.trans e3)
  · rcases key i s e1 with rfl | q
    · cases e3
    · rcases key j t e2 with rfl | q'
      · cases e4
      · exact a.ap i j s t p e1 e2 e3 e4 (q.trans e5) (q'.trans e6)
/-- the loop of a comprehension: what it lays down -/
def lcF (t : Tgt) (c : En → Rs Bool) (e : En → Rs PyData) (vs : List Nat) : List PyData → En → Rs (List PyData)
  | [], ρ => .ok [] ρ
  | d :: ds, ρ => match t d ρ with
    | none => .bad
    | some ρ1 => match c ρ1 with
      | .ok true ρ2 => match e ρ2 with
        | .ok y ρ3 => match lcF t c e vs ds (wipeE ρ3 vs) with
          | .ok ys ρ4 => .ok (y :: ys) ρ4
          | _ => .bad
        | _ => .bad
      | .ok false ρ2 => lcF t c e vs ds (wipeE ρ2 vs)
      | _ => .bad
theorem lcF_noerr (t : Tgt) (c : En → Rs Bool) (e : En → Rs PyData) (vs : List Nat) : ∀ (ds : List PyData) (ρ : En), (∃ ys ρ', lcF t c e vs ds ρ = .ok ys ρ') ∨ lcF t c e vs ds ρ = .bad
  | [], ρ => .inl ⟨_, _, rfl⟩
  | d :: ds, ρ => by
    unfold lcF
    cases t d ρ with
    | none => exact .inr rfl
    | some ρ1 =>
      cases hc : c ρ1 with
      | bad => simp only [hc]; exact .inr trivial
      | err _ _ => simp only [hc]; exact .inr trivial
      | ok b ρ2 =>
        cases b with
        | false => simp only [hc]; exact lcF_noerr t c e vs ds _
        | true =>
          simp only [hc]
          cases he : e ρ2 with
          | bad => exact .inr rfl
          | err _ _ => exact .inr rfl
          | ok y ρ3 =>
            simp only
            rcases lcF_noerr t c e vs ds (wipeE ρ3 vs) with ⟨ys, ρ', h⟩ | h
            · rw [h]; exact .inl ⟨_, _, rfl⟩
            · rw [h]; exact .inr rfl
def lcAll (f : En → Rs (List PyData)) (t : Tgt) (c : En → Rs Bool) (e : En → Rs PyData) (vs : List Nat) (ρ : En) : Rs (List PyData) :=
  (f ρ).bind fun ds ρ1 => (lcF t c e vs ds (wipeE ρ1 vs)).bind fun ys ρ2 => okSize ys ρ2
def MTs (X : Cx) (W : WX) (ifs : List Expr) (f : En → Rs Bool) : Prop := ∀ B, PTs X ifs (tG X.K X.mg B W RelB f)
theorem exTs {X : Cx} {W : WX} {e : List Expr} {f : En → Rs Bool} (h : MTs X W e f) : PTs X e (fun σ H Q => ∃ B, tG X.K X.mg B W RelB f σ H Q) := ⟨fun pins s σ H Q I ⟨B, q⟩ => (h B).run pins s σ H Q I q⟩
section
variable {X : Cx} {W : WX} {k : Nat}
theorem mts_nil : MTs X W [] (fun ρ => .ok true ρ) := fun B => ⟨fun pins s σ H Q I ⟨ρ, G, a, p⟩ => pts_nil.run pins s σ H Q I (p true G H a (Sub.refl _) rfl)⟩
theorem mts_one {c : Expr} {f : En → Rs Bool} (h : MT X W c f) : MTs X W [c] f := fun B => pts_one (h B)
/-- the comprehension's reading of the hand layer, from the function -/
theorem lc_read {wi : TI} {g : TG} {tt : TT} {te : TE} {vs : List Nat} {f : En → Rs (List PyData)} {t : Tgt} {cn : En → Rs Bool} {el : En → Rs PyData} {B : Bs} {σ : St} {H : Hp} {Q : V → Hp → Prop} {ρ : En} {G : Hp}
    (hwi : wi = tG X.K X.mg B W (RelI X.K) f) (hg : g = fun v σ H Q => ∃ B ρ G d, Ab X.K B ρ G σ H ∧ Dp X.K G v d ∧ PstG X.K B vs G σ Q (t d ρ))
    (htt : tt = fun σ H Q => ∃ B, tG X.K X.mg B W0 RelB cn σ H Q) (hte : te = fun σ H Q => ∃ B, tG X.K X.mg B W0 (RelD X.K) el σ H Q)
    (a : Ab X.K B ρ G σ H) (p : PstN X.K X.mg B W G σ Q (lcAll f t cn el vs ρ)) : tLc wi g tt te vs σ H Q := by
  subst hwi hg htt hte
  refine PstN.bind (f := f) a p fun ds ρ1 J G1 H1 _ a1 _ r1 p1 => ?_
  intro D hD
  -- what is kept around: all that stands, and the new list at D
  have own0 : ∀ (H0 : Hp), (∀ b, b ≠ D → H0 b = B.H0 b) → ∀ (i : Nat) (s : Sl) (q : Addr), ∀ {ρ G σ H}, Ab X.K B ρ G σ H → ρ[i]? = some s → isOwn s = true → σ[i]? = some (some (.ref q)) → q ≠ D → frOk { B with H0 := H0, G0 := G } q s := fun H0 e0 i s q ρ G σ H a e1 e2 e3 ne => by
    have z := (a.fr i s q e1 e2 e3).2
    cases s with
    | own xs =>
      have z : B.H0 q = none := z
      exact (e0 q ne).trans z
    | arg xs => exact z
    | un => trivial
    | dat d => trivial
  -- the state at a turn: the frame has the list at D as it is
  let St1 : List PyData → En → Hp → Prop := fun acc ρ H => ∃ G vs' ρ0, Ab X.K { B with H0 := upd B.H0 D (.lst vs'), G0 := G1 } ρ G (wipe σ vs) H ∧ DpAll X.K G vs' acc ∧ ρ = wipeE ρ0 vs ∧ ρ0.length = ρ1.length
  have h0 : B.H0 D = none := a1.h0 hD
  have start : St1 [] (wipeE ρ1 vs) (upd H1 D (.lst [])) := by
    have x : Ext G1 H1 G1 (upd H1 D (.lst [])) := ⟨Sub.refl _, Sub.new hD, a1.fz.upd hD, fun b o e n => by rw [n] at e; cases e⟩
    have a2 := (a1.ext x).wipe vs
    refine ⟨G1, [], ρ1, a2.inner (H0 := upd B.H0 D (.lst [])) (fun b o e m => ?_) (fun i s q e1 e2 e3 => ?_), .nil, rfl, rfl⟩
    · by_cases w : b = D
      · subst w; rw [upd_same] at e ⊢; exact e
      · rw [upd_ne w] at e; exact a2.kp b o e m
    · have ne : q ≠ D := fun w => by
        obtain ⟨i', e3'⟩ : ∃ i', (wipe σ vs)[i']? = some (some (.ref q)) := ⟨i, e3⟩
        have e4 := wipe_some e3
        have sr := a2.sl i s _ e1 e3
        -- an own list stood in H1 already
        have a3 := a1.wipe vs
        have sr' := a3.sl i s _ e1 e3
        exact sr'.there e2 (by rw [w]; exact hD)
      exact own0 _ (fun b w => upd_ne w) i s q a2 e1 e2 e3 ne
  refine ⟨fun i m H => m + i = ds.length ∧ ∃ acc ρ, St1 acc ρ H ∧ ∃ ys ρ', lcF t cn el vs (ds.drop i) ρ = .ok ys ρ' ∧ (acc ++ ys).length ≤ sizeLine ∧
    ∀ v G' H', Ab X.K B ρ' G' σ H' → Sub G1 G' → RelN X.K B ρ' σ G' H' v (acc ++ ys) → Q v H', ?_, ?_⟩
  · refine ⟨ds.length, rfl, [], wipeE ρ1 vs, start, ?_⟩
    have p1 : PstN X.K X.mg B W G1 σ Q ((lcF t cn el vs ds (wipeE ρ1 vs)).bind fun ys ρ2 => okSize ys ρ2) := p1
    rcases lcF_noerr t cn el vs ds (wipeE ρ1 vs) with ⟨ys, ρ', e⟩ | e
    · rw [e] at p1
      have p1 : PstN X.K X.mg B W G1 σ Q (okSize ys ρ') := p1
      unfold okSize at p1
      split at p1
      · rename_i hz
        exact ⟨ys, ρ', e, by simpa using hz, p1⟩
      · exact p1.elim
    · rw [e] at p1; exact p1.elim
  · rintro i m H ⟨hm, acc, ρ, ⟨G, us, ρ0, a, hd, hr0, hl⟩, ys, ρ', e, hz, p⟩
    have sg : Sub G1 G := a.g0
    have hHD : H D = some (.lst us) := a.kp D _ upd_same fun m => by
      have := a.mh D m
      have z : D ∈ B.mt := m
      exact a1.mh D z hD
    by_cases hlt : i < ds.length
    · rw [List.drop_eq_getElem_cons hlt] at e
      unfold lcF at e
      refine .inr ⟨r1.go i H G sg a.fz hlt, fun H => ∃ acc ρ, St1 acc ρ H ∧ ∃ ys ρ', lcF t cn el vs (ds.drop (i + 1)) ρ = .ok ys ρ' ∧ (acc ++ ys).length ≤ sizeLine ∧
        ∀ v G' H', Ab X.K B ρ' G' σ H' → Sub G1 G' → RelN X.K B ρ' σ G' H' v (acc ++ ys) → Q v H', fun H' q => ⟨m - 1, by omega, by omega, q⟩, fun x H' y => ?_⟩
      obtain ⟨G2, ex, hx⟩ := r1.yld i H G x H' _ sg a.fz (List.getElem?_eq_getElem hlt) y
      have a2 := a.ext ex
      refine ⟨_, ρ, G2, _, a2.pin, hx, ?_⟩
      cases ht : t ds[i] ρ with
      | none => rw [ht] at e; cases e
      | some ρ2 =>
        rw [ht] at e
        intro σ3 G3 H3 a3 s3 w3
        have w3' : wipe σ3 vs = wipe σ vs := by
          rw [w3]
          have ww : ∀ us : List Nat, wipe (wipe σ us) us = wipe σ us := by
            intro us
            rw [← wipe_app]
            induction us with
            | nil => rfl
            | cons u us ih =>
              show (wipe σ (us ++ u :: us)).set u none = (wipe σ us).set u none
              have : wipe σ (us ++ u :: us) = (wipe σ (us ++ us)).set u none := by
                rw [wipe_app, wipe_app]
                show (wipe (wipe σ us) us).set u none = _
                rfl
              rw [this, List.set_set, ih]
          exact ww vs
        refine ⟨w3', _, ρ2, G3, a3, ?_⟩
        simp only at e
        cases hc : cn ρ2 with
        | bad => rw [hc] at e; cases e
        | err c ρ4 => rw [hc] at e; cases e
        | ok b ρ4 =>
          rw [hc] at e
          intro b' G4 H4 a4 s4 r4
          have r4 : b' = b := r4
          subst r4
          have sg4 : Sub G G4 := ex.g.trans (s3.trans s4)
          cases b' with
          | false =>
            rw [if_neg Bool.false_ne_true]
            have a5 := (a2.unpin a4).wipe vs
            rw [w3'] at a5
            have l4 : ρ4.length = ρ1.length := by
              have := a4.len
              have l3 : σ3.length = σ.length := by
                have := congrArg List.length w3'
                rw [L2.wipe_length, L2.wipe_length] at this
                exact this
              rw [← this, l3, a1.len]
            exact ⟨acc, _, ⟨G4, us, ρ4, a5, DpAll.mono sg4 hd, rfl, l4⟩, ys, ρ', e, hz, p⟩
          | true =>
            rw [if_pos rfl]
            simp only at e
            cases he : el ρ4 with
            | bad => rw [he] at e; cases e
            | err c ρ5 => rw [he] at e; cases e
            | ok y' ρ5 =>
              rw [he] at e
              simp only at e
              have a4' := a2.unpin a4
              refine ⟨_, ρ4, G4, a4'.pin, ?_⟩
              rw [he]
              intro z G5 H5 a5 s5 r5
              have a5' := a4'.unpin a5
              have hHD5 : H5 D = some (.lst us) := a5'.kp D _ upd_same fun m => a1.mh D m hD
              cases hr : lcF t cn el vs (ds.drop (i + 1)) (wipeE ρ5 vs) with
              | bad => rw [hr] at e; cases e
              | err c ρ6 => rw [hr] at e; cases e
              | ok ys' ρ6 =>
                rw [hr] at e
                cases e
                have hzz : acc.length < sizeLine := by
                  rw [List.length_append, List.length_cons] at hz
                  omega
                refine ⟨us, hHD5, by rw [DpAll.length hd]; exact hzz, acc ++ [y'], wipeE ρ5 vs, ⟨G5, us ++ [z], ρ5, ?_, DpAll.append (DpAll.mono (sg4.trans s5) hd) (DpAll.one r5), rfl, ?_⟩, ys', _, hr, by simpa using hz, ?_⟩
                · have a6 := a5'.wipe vs
                  rw [w3'] at a6
                  have gD : G5 D = none := by
                    cases zz : G5 D with
                    | none => rfl
                    | some o =>
                      have n1 : G1 D = none := a1.fz.gone hD
                      have : upd B.H0 D (.lst us) D = none := a5'.nw D o zz n1
                      rw [upd_same] at this
                      cases this
                  refine ⟨a6.fz.updG gD, a6.g0, fun b o e n => ?_, fun b o e m => ?_, a6.len, fun j s o e1 e2 => ?_, fun j s q e1 e2 e3 => ?_, fun q m => ?_, a6.ap⟩
                  · have this : upd B.H0 D (.lst us) b = none := a6.nw b o e n
                    show upd B.H0 D (.lst (us ++ [z])) b = none
                    by_cases w : b = D
                    · subst w; rw [gD] at e; cases e
                    · rw [upd_ne w] at this ⊢; exact this
                  · have e : upd B.H0 D (.lst (us ++ [z])) b = some o := e
                    by_cases w : b = D
                    · subst w; rw [upd_same] at e ⊢; exact e
                    · rw [upd_ne w] at e ⊢
                      exact a6.kp b o (by show upd B.H0 D (.lst us) b = some o; rw [upd_ne w]; exact e) m
                  · refine (a6.sl j s o e1 e2).heap fun q u w1 w2 w4 => ?_
                    have ne : q ≠ D := fun w => by
                      subst w2
                      have := (a6.fr j s q e1 w1 e2).2
                      cases s with
                      | own xs => have this : (upd B.H0 D (.lst us)) q = none := this; rw [w, upd_same] at this; cases this
                      | arg xs => exact a1.mh D (w ▸ this) hD
                      | un => cases w1
                      | dat d => cases w1
                    rw [upd_ne ne]
                    exact w4
                  · obtain ⟨z1, z2⟩ := a6.fr j s q e1 e2 e3
                    refine ⟨z1, ?_⟩
                    cases s with
                    | own xs =>
                      have z2 : (upd B.H0 D (.lst us)) q = none := z2
                      show (upd B.H0 D (.lst (us ++ [z]))) q = none
                      by_cases w : q = D
                      · rw [w, upd_same] at z2; cases z2
                      · rw [upd_ne w] at z2 ⊢; exact z2
                    | arg xs => exact z2
                    | un => trivial
                    | dat d => trivial
                  · by_cases w : q = D
                    · rw [w, upd_same]; simp
                    · rw [upd_ne w]; exact a6.mh q m
                · have := a5'.len
                  have l3 : σ3.length = σ.length := by
                    have := congrArg List.length w3'
                    rw [L2.wipe_length, L2.wipe_length] at this
                    exact this
                  rw [← this, l3, a1.len]
                · have eq : acc ++ [y'] ++ ys' = acc ++ y' :: ys' := by simp
                  rw [eq]
                  exact p
    · have e' : ds.drop i = [] := List.drop_eq_nil_of_le (by omega)
      rw [e'] at e
      unfold lcF at e
      cases e
      rw [List.append_nil] at p
      refine .inl ⟨r1.stop i H G sg a.fz (by omega), ?_⟩
      subst hr0
      have nD : G D = none := by
        cases zz : G D with
        | none => rfl
        | some o =>
          have n1 : G1 D = none := a1.fz.gone hD
          have : upd B.H0 D (.lst us) D = none := a.nw D o zz n1
          rw [upd_same] at this
          cases this
      have b := a.unwipe (by rw [a1.len, hl])
      have b' := a1.outer (H0 := upd B.H0 D (.lst us)) (Sub.new h0) b
      refine p (.ref D) G H b' sg ⟨D, us, rfl, hHD, hd, nD, h0, fun j s e1 e2 e3 => ?_⟩
      have := (b.fr j s D e1 e2 e3).2
      cases s with
      | own xs =>
        have this : upd B.H0 D (.lst us) D = none := this
        rw [upd_same] at this
        cases this
      | arg xs => exact a1.mh D this hD
      | un => cases e2
      | dat d => cases e2
/-- [elt for target in iter if ..] as a new list -/
theorem mn_lc {elt tg iter : Expr} {ifs : List Expr} {scope : Scope} {pos : Pos} {f : En → Rs (List PyData)} {t : Tgt} {cn : En → Rs Bool} {el : En → Rs PyData} (own : List (Str × Nat)) (c : Mc X W k) (hi : MI X W tg iter f) (ok : blkC X.N X.env.scope scope own = true)
    (hg : ∀ (s : Shared) (H : Hp) (C : Addr) (cl : List (Str × Addr)) (fp : List Addr), MG (X.blk s H scope (compEnvC scope cl C X.env) fp) tg (own.map (·.2)) t)
    (ht : ∀ (s : Shared) (H : Hp) (C : Addr) (cl : List (Str × Addr)) (fp : List Addr), MTs (X.blk s H scope (compEnvC scope cl C X.env) fp) W0 ifs cn)
    (he : ∀ (s : Shared) (H : Hp) (C : Addr) (cl : List (Str × Addr)) (fp : List Addr), ME (X.blk s H scope (compEnvC scope cl C X.env) fp) W0 elt el) (hs : ∀ x, foldedSetIterable iter X.env x = pure x := by intro _; rfl) :
    MN X W (.ListComp elt [⟨tg, iter, ifs, 0⟩] scope pos) (lcAll f t cn el (own.map (·.2))) := fun B =>
  PE.imp (pe_lc c.calm c.nd (hi B) (blkOk_by ok) (fun s H C cl fp => exG (hg s H C cl fp)) (fun s H C cl fp => exTs (ht s H C cl fp)) (fun s H C cl fp => exE (he s H C cl fp)) hs)
    fun σ H Q ⟨ρ, G, a, p⟩ => lc_read rfl rfl rfl rfl a p
/-- name = [..] on one line -/
theorem ms_lc {y : Str} {py : Pos} {elt tg iter : Expr} {ifs : List Expr} {scope : Scope} {pos spos : Pos} {f : En → Rs (List PyData)} {t : Tgt} {cn : En → Rs Bool} {el : En → Rs PyData} (i : Nat) (own : List (Str × Nat)) (c : Mc X W k) (hi : MI X W tg iter f) (ok : blkC X.N X.env.scope scope own = true)
    (hg : ∀ (s : Shared) (H : Hp) (C : Addr) (cl : List (Str × Addr)) (fp : List Addr), MG (X.blk s H scope (compEnvC scope cl C X.env) fp) tg (own.map (·.2)) t)
    (ht : ∀ (s : Shared) (H : Hp) (C : Addr) (cl : List (Str × Addr)) (fp : List Addr), MTs (X.blk s H scope (compEnvC scope cl C X.env) fp) W0 ifs cn)
    (he : ∀ (s : Shared) (H : Hp) (C : Addr) (cl : List (Str × Addr)) (fp : List Addr), ME (X.blk s H scope (compEnvC scope cl C X.env) fp) W0 elt el)
    (hy : X.N[i]? = some y := by rfl) (hyl : X.env.scope.names.lookup y = some .local := by rfl) (hsw : swapsWith (.ListComp elt [⟨tg, iter, ifs, 0⟩] scope pos) (some (.Name y py)) spos.line X.env = pure true := by exact sw_true rfl rfl rfl (by decide +kernel)) (hs : ∀ x, foldedSetIterable iter X.env x = pure x := by intro _; rfl) :
    MS X W (.Assign [.Name y py] (.ListComp elt [⟨tg, iter, ifs, 0⟩] scope pos) spos) (fun ρ => (lcAll f t cn el (own.map (·.2)) ρ).st fun d ρ1 => .next (ρ1.set i (.own d))) := fun B =>
  PS.imp (ps_setLc c.calm c.nd hy hyl hsw (hi B) (blkOk_by ok) (fun s H C cl fp => exG (hg s H C cl fp)) (fun s H C cl fp => exTs (ht s H C cl fp)) (fun s H C cl fp => exE (he s H C cl fp)) hs)
    fun D σ H ⟨ρ, G, a, p⟩ => by
      refine lc_read (f := f) (t := t) (cn := cn) (el := el) (B := B) (Q := fun x H1 => gName i x σ H1 D.nx) rfl rfl rfl rfl a ?_
      have p : PstS X.K X.mg B W D ((lcAll f t cn el (own.map (·.2)) ρ).st fun d ρ1 => .next (ρ1.set i (.own d))) := p
      revert p
      cases lcAll f t cn el (own.map (·.2)) ρ with
      | bad => exact id
      | err cc ρ1 => exact fun p G' H' a' _ => p σ G' H' a'
      | ok d ρ1 => exact fun p v G' H' a' _ r => p _ G' H' (a'.storeN i r)
end
end ML
set_option maxRecDepth 100000
set_option maxHeartbeats 4000000
namespace ML
open PySem L2
open PyProof.Rows (envOfC)

/-! ### defs -/
theorem fnG_of {P : Program} {w : World} {K : PySem.W.Frag} {mg : Str → Option Value} {base : Heap} {k : Nat} {x qual : Str} {st : Stmt} {f : Addr} {fd : FuncData} {N ps : List Str} {sp : Sp}
    (F : Fun K x qual st f fd) (S : FnScope N ps (defScope st)) (len : ∀ vs H Q E, sp vs H Q E → vs.length = ps.length)
    (hb : ∀ (cdv : Value) (A : Around) (o : List Env) (s : Shared) (H : Hp) (vs : List V) (Q : VK) (E : XK), Room k (A.deeper (envOfC qual (defScope st) s.heap.objs.size f cdv)) → A.guards = some [] → sp vs H Q E →
      ∃ t, PSs (cxOf (L2N.CX P w) P w K mg base N qual (defScope st) f cdv A o s H E) (defBody st) t ∧ t { nx := fun _ H' => Q .non H', rt := Q } (L2.start N vs) H) :
    FnG P w K mg base (k + 1) f fd ps sp := by
  obtain ⟨oc, od, kV, doc, pm, an, cdv, ct, osl, rfl, lk, hcd⟩ := F.ex
  refine ⟨len, fun A o s H args us vs Q E hr hg e0 bt rv hsp => ?_⟩
  have hl := len _ _ _ _ hsp
  have kin : K.In s.heap := e0.mod.kin.keeps fun b u e => (e0.bs b u e).1
  have lim : s.heap.NoLimit := e0.mod.nolimit.keeps fun b u e => (e0.bs b u e).1
  have hkd : ∀ y ∈ ps.zip us, (defScope st).names.lookup y.1 = some .local ∨
      ((defScope st).names.lookup y.1 = some .cell ∧ ((cellsFrom (s.heap.objs.size + 1) (defScope st).names []).lookup y.1).isSome = true) := by
    rintro ⟨n, v⟩ hy
    cases S.par n (List.of_mem_zip hy).1 with
    | inl q => exact Or.inl q
    | inr q => exact Or.inr ⟨q, PySem.W.cellsFrom_some _ _ _ (Or.inl q)⟩
  refine codeAny_call_function hr.depth (kin _ _ lk) rfl S.co S.gen rfl (PySem.W.codeRec_of kin hcd) (bt _ _ _ _ ?_)
  refine wpAny_newFunctionEnv_cells S.kind hkd fun env he s1 x1 => ?_
  subst he
  refine ⟨lim.keeps x1.toInCall.keep, codeAny_func ?_⟩
  obtain ⟨t, ht, hq⟩ := hb cdv A o s H vs Q E (hr.deeper _) hg hsp
  refine wpAny_mono (ht.run [] s1 (L2.start N vs) H _ (inv_start S hr.hd e0 hl rv x1) hq) ?_ (fun e s' hs => hs)
  intro fl s' hs
  match fl, hs with
  | .next, ⟨σ', H', J, q⟩ => exact ⟨V.non, H', J.os, J.bare, J.base, J.hok, rfl, q⟩
  | .ret u, ⟨v, σ', H', J, rv, q⟩ => exact ⟨v, H', J.os, J.bare, J.base, J.hok, rv, q⟩
  | .brk, ⟨_, _, _, q⟩ => exact False.elim q
  | .cont, ⟨_, _, _, q⟩ => exact False.elim q
def initE (n : Nat) (ds : List PyData) : En := ds.map .dat ++ List.replicate (n - ds.length) .un
def Ot.rt : Ot → Rt
  | .next _ => .ok .none
  | .ret d _ => .ok d
  | .err c _ => .err c
  | _ => .bad
/-- what a def computes -/
def runF (n m : Nat) (body : En → Ot) (ds : List PyData) : Rt := if ds.length = m then (body (initE n ds)).rt else .bad
def initS (n : Nat) (xs : List PyData) (ds : List PyData) : En := .arg xs :: (ds.map .dat ++ List.replicate (n - (ds.length + 1)) .un)
def backS (d : PyData) (ρ : En) : Rm :=
  match ρ[0]? with
  | some (Sl.arg xs) => .ok d xs
  | _ => .bad
def Ot.rm : Ot → Rm
  | .next ρ => backS .none ρ
  | .ret d ρ => backS d ρ
  | _ => .bad
def runS (n m : Nat) (body : En → Ot) (xs : List PyData) (ds : List PyData) : Rm := if ds.length + 1 = m then (body (initS n xs ds)).rm else .bad
section
variable {P : Program} {w : World} {K : PySem.W.Frag} {mg : Str → Option Value} {base : Heap}
theorem start_len {N : List Str} {vs : List V} (h : vs.length ≤ N.length) : (L2.start N vs).length = N.length := by
  unfold L2.start
  simp
  omega
theorem initE_len {n : Nat} {ds : List PyData} (h : ds.length ≤ n) : (initE n ds).length = n := by
  unfold initE
  simp
  omega
theorem start_at {N : List Str} {vs : List V} {i : Nat} {o : Option V} (h : (L2.start N vs)[i]? = some o) : (∃ v, vs[i]? = some v ∧ o = some v) ∨ (vs.length ≤ i ∧ o = none) := by
  unfold L2.start at h
  by_cases hi : i < vs.length
  · rw [List.getElem?_append_left (by simpa using hi), List.getElem?_map] at h
    obtain ⟨v, e1, e2⟩ := Option.map_eq_some_iff.mp h
    exact .inl ⟨v, e1, e2.symm⟩
  · rw [List.getElem?_append_right (by simpa using hi)] at h
    exact .inr ⟨by omega, (List.mem_replicate.mp (List.mem_of_getElem? h)).2⟩
theorem initE_at {n : Nat} {ds : List PyData} {i : Nat} {s : Sl} (h : (initE n ds)[i]? = some s) : (∃ d, ds[i]? = some d ∧ s = .dat d) ∨ (ds.length ≤ i ∧ s = .un) := by
  unfold initE at h
  by_cases hi : i < ds.length
  · rw [List.getElem?_append_left (by simpa using hi), List.getElem?_map] at h
    obtain ⟨v, e1, e2⟩ := Option.map_eq_some_iff.mp h
    exact .inl ⟨v, e1, e2.symm⟩
  · rw [List.getElem?_append_right (by simpa using hi)] at h
    exact .inr ⟨by omega, (List.mem_replicate.mp (List.mem_of_getElem? h)).2⟩
theorem Ab.begin {N : List Str} {G H : Hp} {vs : List V} {ds : List PyData} (hs : Sub G H) (r : DpAll K G vs ds) (hn : ds.length ≤ N.length) : Ab K ⟨H, G, []⟩ (initE N.length ds) G (L2.start N vs) H := by
  have hl := DpAll.length r
  refine ⟨hs, Sub.refl _, fun a o e n => ?_, fun a o e _ => e, ?_, fun i s o e1 e2 => ?_, fun i s p e1 e2 e3 => ?_, fun p hp => absurd hp (by simp), fun i j s t p e1 e2 e3 e4 e5 e6 => ?_⟩
  · have n : G a = none := n
    rw [n] at e
    cases e
  · rw [start_len (by omega), initE_len hn]
  · rcases initE_at e1 with ⟨d, h1, rfl⟩ | ⟨_, rfl⟩
    · rcases start_at e2 with ⟨v, h2, rfl⟩ | ⟨h2, _⟩
      · obtain ⟨v', h3, h4⟩ := DpAll.get r h1
        rw [h2] at h3
        cases h3
        exact ⟨v, rfl, h4⟩
      · have := (List.getElem?_eq_some_iff.mp h1).1
        omega
    · trivial
  · rcases initE_at e1 with ⟨d, h1, rfl⟩ | ⟨_, rfl⟩ <;> cases e2
  · rcases initE_at e1 with ⟨d, h1, rfl⟩ | ⟨_, rfl⟩ <;> cases e3
theorem Ab.toExt {G H G' H' : Hp} {ρ : En} {σ : St} (a : Ab K ⟨H, G, []⟩ ρ G' σ H') : Ext G H G' H' := ⟨a.g0, fun b o e => a.kp b o e (by simp), a.fz, a.nw⟩
/-- what is known of a def's body's context -/
structure Bx (X : Cx) (P : Program) (w : World) (K : PySem.W.Frag) (mg : Str → Option Value) (base : Heap) (N : List Str) (sc : Scope) (E : XK) (k : Nat) : Prop where
  mc : Mc X (fun cls d _ H => E cls d H) k
  hp : PassesOwn (model X.prog X.w) X.A X.env X.xe
theorem bx_of {N ps : List Str} {qual : Str} {st : Stmt} {f : Addr} {cdv : Value} {A : Around} {o : List Env} {s : Shared} {H : Hp} {E : XK} {k : Nat} (S : FnScope N ps (defScope st))
    (hr : Room k (A.deeper (envOfC qual (defScope st) s.heap.objs.size f cdv))) (hg : A.guards = some []) : Bx (cxOf (L2N.CX P w) P w K mg base N qual (defScope st) f cdv A o s H E) P w K mg base N (defScope st) E k :=
  ⟨⟨L2N.takes_of rfl rfl rfl rfl, rfl, S.nd, hr, hg⟩, passes_of rfl⟩
theorem df_of {x qual : Str} {st : Stmt} {f : Addr} {fd : FuncData} {N ps : List Str} {k : Nat} {body : En → Ot} (F : Fun K x qual st f fd) (S : FnScope N ps (defScope st)) (hm : mg x = some (.ref f)) (hb : Binds K fd ps [])
    (hbody : ∀ (cdv : Value) (A : Around) (o : List Env) (s : Shared) (H : Hp) (E : XK), Bx (cxOf (L2N.CX P w) P w K mg base N qual (defScope st) f cdv A o s H E) P w K mg base N (defScope st) E k →
      MSs (cxOf (L2N.CX P w) P w K mg base N qual (defScope st) f cdv A o s H E) (fun cls d _ H => E cls d H) (defBody st) body) :
    Df P w K mg base (k + 1) x ps (spM K mg (runF N.length ps.length body)) := by
  refine ⟨f, fd, hm, fnG_of F S (fun vs H Q E ⟨G, ds, s1, r, p⟩ => ?_) (fun cdv A o s H vs Q E hr hg ⟨G, ds, s1, r, p⟩ => ?_), hb, F.kp⟩
  · unfold runF at p
    split at p
    · rename_i hl
      rw [DpAll.length r, hl]
    · exact p.elim
  · unfold runF at p
    split at p
    · rename_i hl
      refine ⟨_, hbody cdv A o s H E (bx_of S hr hg) ⟨H, G, []⟩, initE N.length ds, G, Ab.begin s1 r ?_, ?_⟩
      · have := congrArg List.length S.pre
        rw [List.length_take] at this
        omega
      · revert p
        cases body (initE N.length ds) with
        | next ρ => exact fun p σ G' H' a => p .non G' H' a.toExt .non
        | ret d ρ => exact fun p v σ G' H' a r => p v G' H' a.toExt r
        | err c ρ => exact fun p σ G' H' a C hC => p G' H' a.toExt C hC
        | brk ρ => exact fun p => p.elim
        | cont ρ => exact fun p => p.elim
        | bad => exact fun p => p.elim
    · exact p.elim
theorem Ab.beginS {N : List Str} {G H : Hp} {p : Addr} {us vs : List V} {xs ds : List PyData} (hs : Sub G H) (hp : H p = some (.lst us)) (gp : G p = none) (ru : DpAll K G us xs) (r : DpAll K G vs ds) (hn : ds.length + 1 ≤ N.length) :
    Ab K ⟨H, G, [p]⟩ (initS N.length xs ds) G (L2.start N (.ref p :: vs)) H := by
  have hl := DpAll.length r
  have key : ∀ (i : Nat) (s : Sl) (o : Option V), (initS N.length xs ds)[i]? = some s → (L2.start N (.ref p :: vs))[i]? = some o → (i = 0 ∧ s = .arg xs ∧ o = some (.ref p)) ∨ (∃ d v, s = .dat d ∧ o = some v ∧ Dp K G v d) ∨ s = .un := by
    intro i s o e1 e2
    cases i with
    | zero =>
      unfold initS at e1
      unfold L2.start at e2
      simp at e1 e2
      exact .inl ⟨rfl, e1.symm, e2.symm⟩
    | succ i =>
      have e1 : (initE (N.length - 1) ds)[i]? = some s := by
        unfold initS at e1
        unfold initE
        rw [List.getElem?_cons_succ] at e1
        have z : N.length - 1 - ds.length = N.length - (ds.length + 1) := by omega
        rw [z]
        exact e1
      rcases initE_at e1 with ⟨d, h1, rfl⟩ | ⟨_, rfl⟩
      · rcases start_at e2 with ⟨v, h2, rfl⟩ | ⟨h2, _⟩
        · rw [List.getElem?_cons_succ] at h2
          obtain ⟨v', h3, h4⟩ := DpAll.get r h1
          rw [h2] at h3
          cases h3
          exact .inr (.inl ⟨d, v, rfl, rfl, h4⟩)
        · have := (List.getElem?_eq_some_iff.mp h1).1
          rw [List.length_cons] at h2
          omega
      · exact .inr (.inr rfl)
  refine ⟨hs, Sub.refl _, fun a o e n => ?_, fun a o e _ => e, ?_, fun i s o e1 e2 => ?_, fun i s q e1 e2 e3 => ?_, fun q hq => ?_, fun i j s t q e1 e2 e3 e4 e5 e6 => ?_⟩
  · have n : G a = none := n
    rw [n] at e
    cases e
  · rw [start_len (by rw [List.length_cons]; omega)]
    unfold initS
    simp
    omega
  · rcases key i s o e1 e2 with ⟨_, rfl, rfl⟩ | ⟨d, v, rfl, rfl, h⟩ | rfl
    · exact ⟨p, us, rfl, hp, ru⟩
    · exact ⟨v, rfl, h⟩
    · trivial
  · rcases key i s _ e1 e3 with ⟨_, rfl, h⟩ | ⟨d, v, rfl, _, h⟩ | rfl
    · cases h
      exact ⟨gp, List.mem_singleton.mpr rfl⟩
    · cases e2
    · cases e2
  · rw [List.mem_singleton.mp hq]
    show H p ≠ none
    rw [hp]
    simp
  · rcases key i s _ e1 e5 with ⟨h1, rfl, h⟩ | ⟨d, v, rfl, _, h⟩ | rfl
    · rcases key j t _ e2 e6 with ⟨h2, rfl, h⟩ | ⟨d, v, rfl, _, h⟩ | rfl
      · rw [h1, h2]
      · cases e4
      · cases e4
    · cases e3
    · cases e3
theorem dfS_of {x qual : Str} {st : Stmt} {f : Addr} {fd : FuncData} {N ps : List Str} {k : Nat} {body : En → Ot} (F : Fun K x qual st f fd) (S : FnScope N ps (defScope st)) (hm : mg x = some (.ref f)) (hb : Binds K fd ps [])
    (hbody : ∀ (cdv : Value) (A : Around) (o : List Env) (s : Shared) (H : Hp) (E : XK), Bx (cxOf (L2N.CX P w) P w K mg base N qual (defScope st) f cdv A o s H E) P w K mg base N (defScope st) E k →
      MSs (cxOf (L2N.CX P w) P w K mg base N qual (defScope st) f cdv A o s H E) (fun cls d _ H => E cls d H) (defBody st) body) :
    Df P w K mg base (k + 1) x ps (spS K mg (runS N.length ps.length body)) := by
  refine ⟨f, fd, hm, fnG_of F S (fun vs H Q E ⟨G, p, us, xs, vs', ds, ev, hp, gp, ru, s1, r, q⟩ => ?_) (fun cdv A o s H vs Q E hr hg ⟨G, p, us, xs, vs', ds, ev, hp, gp, ru, s1, r, q⟩ => ?_), hb, F.kp⟩
  · unfold runS at q
    split at q
    · rename_i d xs' e
      split at e
      · rename_i hl
        rw [ev, List.length_cons, DpAll.length r, hl]
      · cases e
    · exact q.elim
  · subst ev
    unfold runS at q
    by_cases hl : ds.length + 1 = ps.length
    · rw [if_pos hl] at q
      refine ⟨_, hbody cdv A o s H E (bx_of S hr hg) ⟨H, G, [p]⟩, initS N.length xs ds, G, Ab.beginS s1 hp gp ru r ?_, ?_⟩
      · have := congrArg List.length S.pre
        rw [List.length_take] at this
        omega
      · have back : ∀ (d : PyData) (ρ : En) (v : V) (σ : St) (G' H' : Hp), Ab K ⟨H, G, [p]⟩ ρ G' σ H' → Dp K G' v d → (match backS d ρ with
            | .ok d xs' => ∀ v G' H' us', Sub G G' → (∀ a o, a ≠ p → H a = some o → H' a = some o) → Sub G' H' → (∀ a o, G' a = some o → G a = none → H a = none) → H' p = some (.lst us') → DpAll K G' us' xs' → Dp K G' v d → Q v H'
            | .bad => False) → Q v H' := by
          intro d ρ v σ G' H' a rd q
          unfold backS at q
          cases h0 : ρ[0]? with
          | none => rw [h0] at q; exact q.elim
          | some s0 =>
            rw [h0] at q
            cases s0 with
            | arg xs' =>
              obtain ⟨o, h1, h2⟩ := a.at h0
              obtain ⟨q0, us', rfl, h3, h4⟩ := h2
              have e : q0 ∈ [p] := (a.fr 0 _ q0 h0 rfl h1).2
              rw [List.mem_singleton.mp e] at h3
              exact q v G' H' us' a.g0 (fun b o n e => a.kp b o e (by simpa using n)) a.fz a.nw h3 h4 rd
            | un => exact q.elim
            | dat _ => exact q.elim
            | own _ => exact q.elim
        revert q
        cases body (initS N.length xs ds) with
        | next ρ => exact fun q σ G' H' a => back .none ρ .non σ G' H' a .non q
        | ret d ρ => exact fun q v σ G' H' a r => back d ρ v σ G' H' a r q
        | err c ρ => exact fun p => p.elim
        | brk ρ => exact fun p => p.elim
        | cont ρ => exact fun p => p.elim
        | bad => exact fun p => p.elim
    · rw [if_neg hl] at q
      exact q.elim
end
theorem takesN0 {X : Cx} : L2N.Takes X W0 := fun _ _ ⟨_, _, _, _, _, _, _, _, _, _, _, _, _, _, _, _, z⟩ => z.elim
/-- a comprehension's block -/
theorem Mc.blk {X : Cx} {W : WX} {k : Nat} (c : Mc X W k) {s : Shared} {H : Hp} {scope : Scope} {env : Env} {fp : List Addr} : Mc (X.blk s H scope env fp) W0 k :=
  ⟨takesN0, c.calm, c.nd, c.room, c.gd⟩
end ML
set_option maxRecDepth 100000
set_option maxHeartbeats 4000000
namespace ML
open PySem L2

/-! ### calls of what is built in -/
def CallM (X : Cx) (f : Value) (g : List PyData → Option PyData) : Prop :=
  ∃ r, CallR X f r ∧ ∀ (G H : Hp) (vs : List V) (ds : List PyData) (z : PyData) (Q : VK), Sub G H → DpAll X.K G vs ds → g ds = some z → (∀ v G' H', Ext G H G' H' → Dp X.K G' v z → Q v H') → r vs H Q
def CallN (X : Cx) (f : Value) (g : List PyData → Option (List PyData)) : Prop :=
  ∃ r, CallR X f r ∧ ∀ (G H : Hp) (vs : List V) (ds z : List PyData) (Q : VK), Sub G H → DpAll X.K G vs ds → g ds = some z → (∀ p us, H p = none → DpAll X.K G us z → Q (.ref p) (upd H p (.lst us))) → r vs H Q
section
variable {X : Cx} {W : WX} {k : Nat} {x : Str} {id T : String} {p pos : Pos} {e : Expr} {es : List Expr} {ga : En → Rs (List PyData)}
def callB (g : List PyData → Option PyData) (ga : En → Rs (List PyData)) (ρ : En) : Rs PyData := (ga ρ).bind fun ds ρ1 => ofO (g ds) ρ1
def callN (g : List PyData → Option (List PyData)) (ga : En → Rs (List PyData)) (ρ : En) : Rs (List PyData) := (ga ρ).bind fun ds ρ1 => ofO (g ds) ρ1
theorem callB_ok {g : List PyData → Option PyData} {r : List V → Hp → VK → Prop} (hk : ∀ (G H : Hp) (vs : List V) (ds : List PyData) (z : PyData) (Q : VK), Sub G H → DpAll X.K G vs ds → g ds = some z → (∀ v G' H', Ext G H G' H' → Dp X.K G' v z → Q v H') → r vs H Q)
    {B : Bs} {ρ : En} {G : Hp} {σ : St} {H : Hp} {Q : VK} (a : Ab X.K B ρ G σ H) (q : Pst X.K X.mg B W (RelD X.K) G σ Q (callB g ga ρ)) : tCB r (tG X.K X.mg B W (RelA X.K) ga) σ H Q := by
  refine Pst.bind a q fun ds ρ1 vs G1 H1 _ a1 _ r1 p1 => ?_
  cases hg : g ds with
  | none => rw [hg] at p1; exact p1.elim
  | some z =>
    rw [hg] at p1
    exact hk G1 H1 vs ds z Q a1.fz r1 hg fun v G2 H2 x2 hz => p1 v G2 H2 (a1.ext x2) x2.g hz
theorem callN_ok {g : List PyData → Option (List PyData)} {r : List V → Hp → VK → Prop} (hk : ∀ (G H : Hp) (vs : List V) (ds z : List PyData) (Q : VK), Sub G H → DpAll X.K G vs ds → g ds = some z → (∀ p us, H p = none → DpAll X.K G us z → Q (.ref p) (upd H p (.lst us))) → r vs H Q)
    {B : Bs} {ρ : En} {G : Hp} {σ : St} {H : Hp} {Q : VK} (a : Ab X.K B ρ G σ H) (q : PstN X.K X.mg B W G σ Q (callN g ga ρ)) : tCB r (tG X.K X.mg B W (RelA X.K) ga) σ H Q := by
  refine PstN.bind a q fun ds ρ1 vs G1 H1 _ a1 _ r1 p1 => ?_
  cases hg : g ds with
  | none => rw [hg] at p1; exact p1.elim
  | some z =>
    rw [hg] at p1
    refine hk G1 H1 vs ds z Q a1.fz r1 hg fun p us hp hz => ?_
    obtain ⟨a2, rn⟩ := RelN.fresh a1 hp hz
    exact p1 _ _ _ a2 (Sub.refl _) rn
theorem me_callB {g : List PyData → Option PyData} (h : CallM X (.builtin id) g) (hm : X.mg x = none) (hv : bootBuiltins x = some (.builtin id)) (ha : MA X W (e :: es) ga) (hg : Gl X x := by rfl) (hn : x ≠ "__name__" := by decide) (hdb : (x == ("__debug__" : Str)) = false := by decide)
    (he : starEach (e :: es) X.env = (false, eval e X.env) :: starEach es X.env := by rfl) (hpl : (backTo pos (starEach es X.env)).any (·.1) = false := by rfl) : ME X W (.Call (.Name x p) (e :: es) [] pos) (callB g ga) := by
  obtain ⟨r, hr, hk⟩ := h
  exact fun B => PE.imp (pe_callB hr hg hm hv (ha B) hn hdb he hpl) fun σ H Q ⟨ρ, G, a, q⟩ => callB_ok hk a q
theorem me_callTy {g : List PyData → Option PyData} (h : CallM X (.type T) g) (hm : X.mg x = none) (hv : bootBuiltins x = some (.type T)) (ha : MA X W (e :: es) ga) (hg : Gl X x := by rfl) (hn : x ≠ "__name__" := by decide) (hdb : (x == ("__debug__" : Str)) = false := by decide)
    (he : starEach (e :: es) X.env = (false, eval e X.env) :: starEach es X.env := by rfl) (hpl : (backTo pos (starEach es X.env)).any (·.1) = false := by rfl) : ME X W (.Call (.Name x p) (e :: es) [] pos) (callB g ga) := by
  obtain ⟨r, hr, hk⟩ := h
  exact fun B => PE.imp (pe_callTy hr hg hm hv (ha B) hn hdb he hpl) fun σ H Q ⟨ρ, G, a, q⟩ => callB_ok hk a q
theorem mn_callB {g : List PyData → Option (List PyData)} (h : CallN X (.builtin id) g) (hm : X.mg x = none) (hv : bootBuiltins x = some (.builtin id)) (ha : MA X W (e :: es) ga) (hg : Gl X x := by rfl) (hn : x ≠ "__name__" := by decide) (hdb : (x == ("__debug__" : Str)) = false := by decide)
    (he : starEach (e :: es) X.env = (false, eval e X.env) :: starEach es X.env := by rfl) (hpl : (backTo pos (starEach es X.env)).any (·.1) = false := by rfl) : MN X W (.Call (.Name x p) (e :: es) [] pos) (callN g ga) := by
  obtain ⟨r, hr, hk⟩ := h
  exact fun B => PE.imp (pe_callB hr hg hm hv (ha B) hn hdb he hpl) fun σ H Q ⟨ρ, G, a, q⟩ => callN_ok hk a q
theorem mn_callTy {g : List PyData → Option (List PyData)} (h : CallN X (.type T) g) (hm : X.mg x = none) (hv : bootBuiltins x = some (.type T)) (ha : MA X W (e :: es) ga) (hg : Gl X x := by rfl) (hn : x ≠ "__name__" := by decide) (hdb : (x == ("__debug__" : Str)) = false := by decide)
    (he : starEach (e :: es) X.env = (false, eval e X.env) :: starEach es X.env := by rfl) (hpl : (backTo pos (starEach es X.env)).any (·.1) = false := by rfl) : MN X W (.Call (.Name x p) (e :: es) [] pos) (callN g ga) := by
  obtain ⟨r, hr, hk⟩ := h
  exact fun B => PE.imp (pe_callTy hr hg hm hv (ha B) hn hdb he hpl) fun σ H Q ⟨ρ, G, a, q⟩ => callN_ok hk a q
end
section
variable {X : Cx} {K : PySem.W.Frag} {G : Hp}
theorem DpAll.e1 {vs : List V} {d : PyData} (h : DpAll K G vs [d]) : ∃ v, vs = [v] ∧ Dp K G v d := by
  cases h with
  | cons r q => cases q; exact ⟨_, rfl, r⟩
theorem DpAll.e2 {vs : List V} {d e : PyData} (h : DpAll K G vs [d, e]) : ∃ v u, vs = [v, u] ∧ Dp K G v d ∧ Dp K G u e := by
  cases h with
  | cons r q => obtain ⟨u, rfl, q2⟩ := q.e1; exact ⟨_, u, rfl, r, q2⟩
/-- len -/
def dLen : List PyData → Option PyData
  | [.str y] => if y.length ≤ sizeLine then some (.int y.length) else none
  | [.list xs] => some (.int xs.length)
  | [.tuple xs] => some (.int xs.length)
  | _ => none
theorem cm_len : CallM X (.builtin "len") dLen := by
  refine ⟨_, call_len, fun G H vs ds z Q s r e k => ?_⟩
  unfold dLen at e
  split at e
  · obtain ⟨v, rfl, h⟩ := r.e1
    cases h
    split at e
    · rename_i hz
      cases e
      exact ⟨_, _, rfl, ⟨hz, rfl⟩, k _ G H (Ext.refl s) (.int _)⟩
    · cases e
  · obtain ⟨v, rfl, h⟩ := r.e1
    obtain ⟨q, us, rfl, hq, hu⟩ := Dp.lstE h
    cases e
    exact ⟨_, us.length, rfl, .inl ⟨us, SqL.mono s hq, rfl⟩, by rw [DpAll.length hu]; exact k _ G H (Ext.refl s) (.int _)⟩
  · obtain ⟨v, rfl, h⟩ := r.e1
    obtain ⟨q, us, rfl, hq, hu⟩ := Dp.tupE h
    cases e
    exact ⟨_, us.length, rfl, .inr ⟨us, SqT.mono s hq, rfl⟩, by rw [DpAll.length hu]; exact k _ G H (Ext.refl s) (.int _)⟩
  · cases e
def dAbs : List PyData → Option PyData
  | [.int i] => some (.int (if i < 0 then -i else i))
  | _ => none
theorem cm_abs : CallM X (.builtin "abs") dAbs := by
  refine ⟨_, call_abs, fun G H vs ds z Q s r e k => ?_⟩
  unfold dAbs at e
  split at e
  · obtain ⟨v, rfl, h⟩ := r.e1
    cases h
    cases e
    exact ⟨_, rfl, k _ G H (Ext.refl s) (.int _)⟩
  · cases e
def dMax2 : List PyData → Option PyData
  | [.int i, .int j] => some (.int (if j > i then j else i))
  | _ => none
theorem cm_max2 (hc : X.calm = true) : CallM X (.builtin "max") dMax2 := by
  refine ⟨_, call_max2 hc, fun G H vs ds z Q s r e k => ?_⟩
  unfold dMax2 at e
  split at e
  · obtain ⟨v, u, rfl, h, h'⟩ := r.e2
    cases h; cases h'
    cases e
    exact ⟨_, _, rfl, k _ G H (Ext.refl s) (.int _)⟩
  · cases e
def dMin2 : List PyData → Option PyData
  | [.int i, .int j] => some (.int (if j < i then j else i))
  | _ => none
theorem cm_min2 (hc : X.calm = true) : CallM X (.builtin "min") dMin2 := by
  refine ⟨_, call_min2 hc, fun G H vs ds z Q s r e k => ?_⟩
  unfold dMin2 at e
  split at e
  · obtain ⟨v, u, rfl, h, h'⟩ := r.e2
    cases h; cases h'
    cases e
    exact ⟨_, _, rfl, k _ G H (Ext.refl s) (.int _)⟩
  · cases e
def dInt1 : List PyData → Option PyData
  | [.int i] => some (.int i)
  | [.bool b] => some (.int (if b then 1 else 0))
  | _ => none
theorem cm_int1 : CallM X (.type "int") dInt1 := by
  refine ⟨_, call_int1, fun G H vs ds z Q s r e k => ?_⟩
  unfold dInt1 at e
  split at e
  · obtain ⟨v, rfl, h⟩ := r.e1
    cases h
    cases e
    exact .inl ⟨_, rfl, k _ G H (Ext.refl s) (.int _)⟩
  · obtain ⟨v, rfl, h⟩ := r.e1
    cases h
    cases e
    exact .inr ⟨_, rfl, k _ G H (Ext.refl s) (.int _)⟩
  · cases e
def dStr1 : List PyData → Option PyData
  | [.int i] => if i.natAbs.log2 < 1920 then some (.str (toString i)) else none
  | _ => none
theorem cm_str1 : CallM X (.type "str") dStr1 := by
  refine ⟨_, call_str_int, fun G H vs ds z Q s r e k => ?_⟩
  unfold dStr1 at e
  split at e
  · obtain ⟨v, rfl, h⟩ := r.e1
    cases h
    split at e
    · rename_i hz
      cases e
      exact ⟨_, rfl, hz, k _ G H (Ext.refl s) (.str _)⟩
    · cases e
  · cases e
def intsOf : List PyData → Option (List Int)
  | [] => some []
  | .int i :: r => (intsOf r).map (i :: ·)
  | _ :: _ => none
theorem intsOf_eq : ∀ {ds : List PyData} {ns : List Int}, intsOf ds = some ns → ds = ns.map .int
  | [], _, h => by cases h; rfl
  | d :: r, ns, h => by
    cases d with
    | int i =>
      simp only [intsOf, Option.map_eq_some_iff] at h
      obtain ⟨m, h1, rfl⟩ := h
      rw [intsOf_eq h1]
      rfl
    | _ => cases h
theorem intsOf_map : ∀ (ns : List Int), intsOf (ns.map .int) = some ns
  | [] => rfl
  | n :: ns => by
    show (intsOf (ns.map .int)).map (n :: ·) = _
    rw [intsOf_map ns]
    rfl
def bools : List PyData → Option (List Bool)
  | [] => some []
  | .bool i :: r => (bools r).map (i :: ·)
  | _ :: _ => none
theorem bools_eq : ∀ {ds : List PyData} {ns : List Bool}, bools ds = some ns → ds = ns.map .bool
  | [], _, h => by cases h; rfl
  | d :: r, ns, h => by
    cases d with
    | bool i =>
      simp only [bools, Option.map_eq_some_iff] at h
      obtain ⟨m, h1, rfl⟩ := h
      rw [bools_eq h1]
      rfl
    | _ => cases h
theorem bools_map : ∀ (ns : List Bool), bools (ns.map .bool) = some ns
  | [] => rfl
  | n :: ns => by
    show (bools (ns.map .bool)).map (n :: ·) = _
    rw [bools_map ns]
    rfl
def strsOf : List PyData → Option (List Str)
  | [] => some []
  | .str i :: r => (strsOf r).map (i :: ·)
  | _ :: _ => none
theorem strsOf_eq : ∀ {ds : List PyData} {ns : List Str}, strsOf ds = some ns → ds = ns.map .str
  | [], _, h => by cases h; rfl
  | d :: r, ns, h => by
    cases d with
    | str i =>
      simp only [strsOf, Option.map_eq_some_iff] at h
      obtain ⟨m, h1, rfl⟩ := h
      rw [strsOf_eq h1]
      rfl
    | _ => cases h
theorem strsOf_map : ∀ (ns : List Str), strsOf (ns.map .str) = some ns
  | [] => rfl
  | n :: ns => by
    show (strsOf (ns.map .str)).map (n :: ·) = _
    rw [strsOf_map ns]
    rfl
def dSum : List PyData → Option PyData
  | [.list xs] => (intsOf xs).map fun ns => .int ns.sum
  | _ => none
theorem cm_sum (hc : X.calm = true) : CallM X (.builtin "sum") dSum := by
  refine ⟨_, cr_sum hc, fun G H vs ds z Q s r e k => ?_⟩
  unfold dSum at e
  split at e
  · obtain ⟨v, rfl, h⟩ := r.e1
    obtain ⟨q, us, rfl, hq, hu⟩ := Dp.lstE h
    obtain ⟨ns, h1, rfl⟩ := Option.map_eq_some_iff.mp e
    rw [intsOf_eq h1] at hu
    rw [DpAll.ints hu] at hq
    exact ⟨q, ns, rfl, SqL.mono s hq, k _ G H (Ext.refl s) (.int _)⟩
  · cases e
def dAll : List PyData → Option PyData
  | [.list xs] => (bools xs).map fun ns => .bool (ns.all id)
  | _ => none
theorem cm_all (hc : X.calm = true) : CallM X (.builtin "all") dAll := by
  refine ⟨_, cr_all hc, fun G H vs ds z Q s r e k => ?_⟩
  unfold dAll at e
  split at e
  · obtain ⟨v, rfl, h⟩ := r.e1
    obtain ⟨q, us, rfl, hq, hu⟩ := Dp.lstE h
    obtain ⟨ns, h1, rfl⟩ := Option.map_eq_some_iff.mp e
    rw [bools_eq h1] at hu
    rw [DpAll.bls hu] at hq
    exact ⟨q, ns, rfl, SqL.mono s hq, k _ G H (Ext.refl s) (.bl _)⟩
  · cases e
def dAny : List PyData → Option PyData
  | [.list xs] => (bools xs).map fun ns => .bool (ns.any id)
  | _ => none
theorem cm_any (hc : X.calm = true) : CallM X (.builtin "any") dAny := by
  refine ⟨_, cr_any hc, fun G H vs ds z Q s r e k => ?_⟩
  unfold dAny at e
  split at e
  · obtain ⟨v, rfl, h⟩ := r.e1
    obtain ⟨q, us, rfl, hq, hu⟩ := Dp.lstE h
    obtain ⟨ns, h1, rfl⟩ := Option.map_eq_some_iff.mp e
    rw [bools_eq h1] at hu
    rw [DpAll.bls hu] at hq
    exact ⟨q, ns, rfl, SqL.mono s hq, k _ G H (Ext.refl s) (.bl _)⟩
  · cases e
/-- the greatest of a row of ints -/
def maxI : List Int → Option Int
  | [] => none
  | n :: ns => some (ns.foldl max n)
theorem foldl_max_le : ∀ (ns : List Int) (n : Int), n ≤ ns.foldl max n ∧ (∀ a ∈ ns, a ≤ ns.foldl max n) ∧ (ns.foldl max n = n ∨ ns.foldl max n ∈ ns)
  | [], n => ⟨Int.le_refl _, fun a h => absurd h (by simp), .inl rfl⟩
  | m :: ns, n => by
    obtain ⟨h1, h2, h3⟩ := foldl_max_le ns (max n m)
    refine ⟨Int.le_trans (Int.le_max_left n m) h1, fun a ha => ?_, ?_⟩
    · rcases List.mem_cons.mp ha with rfl | ha
      · exact Int.le_trans (Int.le_max_right n a) h1
      · exact h2 a ha
    · rcases h3 with h3 | h3
      · show List.foldl max (max n m) ns = n ∨ List.foldl max (max n m) ns ∈ m :: ns
        rw [h3]
        by_cases c : n ≤ m
        · rw [Int.max_eq_right c]; exact .inr List.mem_cons_self
        · rw [Int.max_eq_left (by omega)]; exact .inl rfl
      · exact .inr (List.mem_cons_of_mem _ h3)
def dMaxL : List PyData → Option PyData
  | [.list xs] => (intsOf xs).bind fun ns => (maxI ns).map .int
  | _ => none
theorem cm_maxL (hc : X.calm = true) : CallM X (.builtin "max") dMaxL := by
  refine ⟨_, cr_max hc, fun G H vs ds z Q s r e k => ?_⟩
  unfold dMaxL at e
  split at e
  · obtain ⟨v, rfl, h⟩ := r.e1
    obtain ⟨q, us, rfl, hq, hu⟩ := Dp.lstE h
    obtain ⟨ns, h1, e⟩ := Option.bind_eq_some_iff.mp e
    obtain ⟨m, h2, rfl⟩ := Option.map_eq_some_iff.mp e
    rw [intsOf_eq h1] at hu
    rw [DpAll.ints hu] at hq
    cases ns with
    | nil => cases h2
    | cons n ns =>
      cases h2
      obtain ⟨m1, m2, m3⟩ := foldl_max_le ns n
      refine ⟨q, n :: ns, rfl, SqL.mono s hq, by simp, fun m hm hle => ?_⟩
      have : m = ns.foldl max n := by
        apply Int.le_antisymm
        · rcases List.mem_cons.mp hm with rfl | hm
          · exact m1
          · exact m2 m hm
        · rcases m3 with h | h
          · rw [h]; exact hle n List.mem_cons_self
          · exact hle _ (List.mem_cons_of_mem _ h)
      rw [this]
      exact k _ G H (Ext.refl s) (.int _)
  · cases e
def dTupleOf : List PyData → Option PyData
  | [.list xs] => some (.tuple xs)
  | [.tuple xs] => some (.tuple xs)
  | _ => none
theorem cm_tupleOf : CallM X (.type "tuple") dTupleOf := by
  refine ⟨_, call_tuple_of, fun G H vs ds z Q s r e k => ?_⟩
  unfold dTupleOf at e
  split at e
  · obtain ⟨v, rfl, h⟩ := r.e1
    obtain ⟨q, us, rfl, hq, hu⟩ := Dp.lstE h
    cases e
    refine ⟨q, us, rfl, .inl ⟨SqL.mono s hq, fun l hl => ?_⟩⟩
    have x := Ext.new (o := .tup us) s hl
    exact k _ _ _ x (Dp.newT (s.gone hl) hu)
  · obtain ⟨v, rfl, h⟩ := r.e1
    obtain ⟨q, us, rfl, hq, hu⟩ := Dp.tupE h
    cases e
    exact ⟨q, us, rfl, .inr ⟨SqT.mono s hq, k _ G H (Ext.refl s) h⟩⟩
  · cases e
def dListOf : List PyData → Option (List PyData)
  | [.list xs] => some xs
  | [.tuple xs] => some xs
  | _ => none
theorem cn_listOf : CallN X (.type "list") dListOf := by
  refine ⟨_, call_list_of, fun G H vs ds z Q s r e k => ?_⟩
  unfold dListOf at e
  split at e
  · obtain ⟨v, rfl, h⟩ := r.e1
    obtain ⟨q, us, rfl, hq, hu⟩ := Dp.lstE h
    cases e
    exact ⟨q, us, rfl, .inl (SqL.mono s hq), fun l hl => k l us hl hu⟩
  · obtain ⟨v, rfl, h⟩ := r.e1
    obtain ⟨q, us, rfl, hq, hu⟩ := Dp.tupE h
    cases e
    exact ⟨q, us, rfl, .inr (SqT.mono s hq), fun l hl => k l us hl hu⟩
  · cases e
end
end ML
set_option maxRecDepth 100000
set_option maxHeartbeats 4000000
namespace ML
open PySem L2

/-! ### repr -/
def dRepr : List PyData → Option PyData
  | [d] => if itemsOf d ≠ none ∧ d.showable = true ∧ d.hasDict = false ∧ d.depth < 64 ∧ d.shown.length ≤ sizeLine then some (.str d.shown) else none
  | _ => none
def rRepr (K : PySem.W.Frag) : List V → Hp → VK → Prop := fun vs H Q => ∃ a d, vs = [V.ref a] ∧ L2.Dp K H (.ref a) d ∧ d.showable = true ∧ d.hasDict = false ∧ d.depth < 64 ∧ d.shown.length ≤ sizeLine ∧ Q (.str d.shown) H
theorem cr_repr {X : Cx} (hg : X.A.guards = some []) (hu : X.A.units + 64 < cLine) : CallR X (.builtin "repr") (rRepr X.K) := by
  rintro pins s σ H vs us Q I r ⟨a, d, rfl, hd, h1, h2, h3, h4, q⟩
  rw [Vals.ref1 r]
  obtain ⟨as, rd⟩ := L2.Dp.reads I d (.ref a) (.ref a) hd rfl
  refine repr_of_reads' rd h1 (noDict h2) hg (by omega) (fun b o e => e) (fun h' u tk hk => ⟨.str d.shown, H, I.kept hk, ⟨u, rfl⟩, q⟩) h4
where
  noDict {d : PyData} {as : List Addr} (h : d.hasDict = false) : d.hasDict = true → sysModules ∉ as := fun h' => by rw [h] at h'; cases h'
theorem cm_repr {X : Cx} (hg : X.A.guards = some []) (hu : X.A.units + 64 < cLine) : CallM X (.builtin "repr") dRepr := by
  refine ⟨_, cr_repr hg hu, fun G H vs ds z Q s r e k => ?_⟩
  unfold dRepr at e
  split at e
  · obtain ⟨v, rfl, h⟩ := r.e1
    split at e
    · rename_i c
      obtain ⟨c0, c1, c2, c3, c4⟩ := c
      cases e
      have hv : ∃ a, v = .ref a := by
        cases h with
        | lst _ _ => exact ⟨_, rfl⟩
        | tup _ _ => exact ⟨_, rfl⟩
        | _ => exact absurd rfl c0
      obtain ⟨a, rfl⟩ := hv
      exact ⟨a, _, rfl, (Dp.mono s h).dp, c1, c2, c3, c4, k _ G H (Ext.refl s) (.str _)⟩
    · cases e
  · cases e

/-! ### methods of lists that a def holds -/
def MthL (X : Cx) (id : String) (g : List PyData → List PyData → Option (PyData × List PyData)) : Prop :=
  ∃ r, MtR X id r ∧ ∀ (G H : Hp) (l : Addr) (us vs : List V) (xs ds xs' : List PyData) (z : PyData) (Q : VK), Sub G H → H l = some (.lst us) → DpAll X.K G us xs → DpAll X.K G vs ds → g xs ds = some (z, xs') →
    (∀ v us', Dp X.K G v z → DpAll X.K G us' xs' → Q v (upd H l (.lst us'))) → r (.ref l) vs H Q
def methF (i : Nat) (g : List PyData → List PyData → Option (PyData × List PyData)) (ga : En → Rs (List PyData)) (ρ : En) : Rs PyData :=
  (ofO ((ρ[i]?).bind owOf) ρ).bind fun _ ρ => (ga ρ).bind fun ds ρ1 => match ρ1[i]? with
    | some s0 => match owOf s0 with
      | some xs => match g xs ds with
        | some z => .ok z.1 (ρ1.set i (setOw s0 z.2))
        | none => .bad
      | none => .bad
    | none => .bad
section
variable {X : Cx} {W : WX} {k : Nat} {x : Str} {px ap cp : Pos} {e : Expr} {es : List Expr} {ga : En → Rs (List PyData)} {id : String} {name : Str} {g : List PyData → List PyData → Option (PyData × List PyData)}
theorem meth_ok {i : Nat} {r : V → List V → Hp → VK → Prop} (hk : ∀ (G H : Hp) (l : Addr) (us vs : List V) (xs ds xs' : List PyData) (z : PyData) (Q : VK), Sub G H → H l = some (.lst us) → DpAll X.K G us xs → DpAll X.K G vs ds → g xs ds = some (z, xs') →
    (∀ v us', Dp X.K G v z → DpAll X.K G us' xs' → Q v (upd H l (.lst us'))) → r (.ref l) vs H Q) {B : Bs} {ρ : En} {G : Hp} {σ : St} {H : Hp} {Q : VK} (a : Ab X.K B ρ G σ H) (p : Pst X.K X.mg B W (RelD X.K) G σ Q (methF i g ga ρ)) :
    ∃ l, σ[i]? = some (some (.ref l)) ∧ tyV X.K "list" (.ref l) H ∧ tG X.K X.mg B W (RelA X.K) ga σ H fun vs H2 => r (.ref l) vs H2 Q := by
  unfold methF at p
  cases h0 : (ρ[i]?).bind owOf with
  | none => rw [h0] at p; exact p.elim
  | some xs0 =>
    rw [h0] at p
    obtain ⟨s0, hs0, ho0⟩ := Option.bind_eq_some_iff.mp h0
    obtain ⟨o, q1, q2⟩ := a.at hs0
    obtain ⟨l, us0, rfl, hl0, _⟩ := q2.ow ho0
    refine ⟨l, q1, .inl ⟨rfl, us0, SqL.of hl0⟩, ?_⟩
    refine Pst.bind (f := ga) a p fun ds ρ1 vs G1 H1 _ a1 _ r1 p1 => ?_
    cases h1 : ρ1[i]? with
    | none => rw [h1] at p1; exact p1.elim
    | some s1 =>
      rw [h1] at p1
      simp only at p1
      cases h2 : owOf s1 with
      | none => rw [h2] at p1; exact p1.elim
      | some xs =>
        rw [h2] at p1
        simp only at p1
        obtain ⟨o', q3, q4⟩ := a1.at h1
        rw [q1] at q3
        cases q3
        obtain ⟨l', us, e', hq, hu⟩ := q4.ow h2
        cases e'
        cases hg : g xs ds with
        | none => rw [hg] at p1; exact p1.elim
        | some z =>
          rw [hg] at p1
          exact hk G1 H1 l us vs xs ds z.2 z.1 Q a1.fz hq hu r1 hg fun v us' hv hu' => p1 v G1 _ (a1.mutate h1 (isOwn_of h2) q1 hu') (Sub.refl _) hv
theorem me_meth (i : Nat) (h : MthL X id g) (slot : Slot "list" name id) (hty : typeOf (.builtin id) = pure (.type "method_descriptor")) (ha : MA X W (e :: es) ga) (hN : X.N[i]? = some x := by rfl)
    (hv : Vis X.env.scope x := by first | exact .inl rfl | exact .inr (.inl rfl) | exact .inr (.inr rfl)) (hd : (x == ("__debug__" : Str)) = false := by decide) (hcd : (x == ("__classdict__" : Str)) = false := by decide)
    (hbase : attributeBase (.Name x px) name X.env (eval (.Name x px) X.env) = eval (.Name x px) X.env := by rfl)
    (hfew : ((backTo cp (starEach (e :: es) X.env)).all (fun x => !x.1) && (backToKw cp (keywordEach [] X.env)).all (fun x => x.1.isSome)
      && decide ((e :: es).length + ([] : List Keyword).length + (if ([] : List Keyword).isEmpty then 0 else 1) < 30)) = true := by rfl)
    (hline : (ap.endLine == cp.line) = true := by rfl) (hs : starEach (e :: es) X.env = (false, eval e X.env) :: starEach es X.env := by rfl) (hplain : (backTo cp (starEach es X.env)).any (·.1) = false := by rfl) :
    ME X W (.Call (.Attribute (.Name x px) name ap) (e :: es) [] cp) (methF i g ga) := by
  obtain ⟨r, hr, hk⟩ := h
  exact fun B => PE.imp (pe_bm PySem.F.plainAttrs_list slot hty hr (pe_var hN hv hd hcd) (ha B) hbase hfew hline hs hplain) fun σ H Q ⟨ρ, G, a, p⟩ => by
    obtain ⟨l, h1, h2, h3⟩ := meth_ok hk a p
    exact ⟨_, h1, h2, h3⟩
theorem me_meth0 (i : Nat) (h : MthL X id g) (slot : Slot "list" name id) (hty : typeOf (.builtin id) = pure (.type "method_descriptor")) (hN : X.N[i]? = some x := by rfl)
    (hv : Vis X.env.scope x := by first | exact .inl rfl | exact .inr (.inl rfl) | exact .inr (.inr rfl)) (hd : (x == ("__debug__" : Str)) = false := by decide) (hcd : (x == ("__classdict__" : Str)) = false := by decide)
    (hbase : attributeBase (.Name x px) name X.env (eval (.Name x px) X.env) = eval (.Name x px) X.env := by rfl) (hline : (ap.endLine == cp.line) = true := by rfl) :
    ME X W (.Call (.Attribute (.Name x px) name ap) [] [] cp) (methF i g (fun ρ => .ok [] ρ)) := by
  obtain ⟨r, hr, hk⟩ := h
  exact fun B => PE.imp (pe_bm0 PySem.F.plainAttrs_list slot hty hr (pe_var hN hv hd hcd) hbase hline) fun σ H Q ⟨ρ, G, a, p⟩ => by
    obtain ⟨l, h1, h2, h3⟩ := meth_ok hk a p
    refine ⟨_, h1, h2, ?_⟩
    obtain ⟨ρ1, G1, a1, p1⟩ := h3
    exact p1 [] G1 H a1 (Sub.refl _) .nil
end
section
variable {X : Cx}
def gAppend (xs ds : List PyData) : Option (PyData × List PyData) :=
  match ds with
  | [d] => if xs.length < sizeLine then some (.none, xs ++ [d]) else none
  | _ => none
theorem ml_append : MthL X "list.append" gAppend := by
  refine ⟨_, mt_append, fun G H l us vs xs ds xs' z Q s hl hu hv e k => ?_⟩
  unfold gAppend at e
  split at e
  · split at e
    · rename_i hz
      cases e
      obtain ⟨v, rfl, hd⟩ := hv.e1
      exact ⟨l, us, v, rfl, rfl, hl, by rw [DpAll.length hu]; exact hz, k .non _ .non (DpAll.append hu (DpAll.one hd))⟩
    · cases e
  · cases e
def gExtend (xs ds : List PyData) : Option (PyData × List PyData) :=
  match ds with
  | [.list ys] => if xs.length + ys.length ≤ sizeLine then some (.none, xs ++ ys) else none
  | _ => none
theorem ml_extend : MthL X "list.extend" gExtend := by
  refine ⟨_, mt_extS, fun G H l us vs xs ds xs' z Q s hl hu hv e k => ?_⟩
  unfold gExtend at e
  split at e
  · split at e
    · rename_i hz
      cases e
      obtain ⟨v, rfl, hd⟩ := hv.e1
      obtain ⟨q, ws, rfl, hq, hw⟩ := Dp.lstE hd
      exact ⟨l, q, us, ws, rfl, rfl, hl, SqL.mono s hq, by rw [DpAll.length hu, DpAll.length hw]; exact hz, k .non _ .non (DpAll.append hu hw)⟩
    · cases e
  · cases e
def gPop (xs ds : List PyData) : Option (PyData × List PyData) :=
  match ds with
  | [] => (xs[xs.length - 1]?).map fun d => (d, xs.dropLast)
  | _ => none
theorem ml_pop : MthL X "list.pop" gPop := by
  refine ⟨_, mt_pop, fun G H l us vs xs ds xs' z Q s hl hu hv e k => ?_⟩
  unfold gPop at e
  split at e
  · obtain ⟨d, h1, h2⟩ := Option.map_eq_some_iff.mp e
    cases h2
    cases hv
    obtain ⟨v, h3, h4⟩ := DpAll.get hu h1
    exact ⟨l, us, v, rfl, rfl, hl, by rw [DpAll.length hu]; exact h3, k v _ h4 (DpAll.dropLast hu)⟩
  · cases e
def gPopAt (xs ds : List PyData) : Option (PyData × List PyData) :=
  match ds with
  | [.int i] => if -(2 ^ 63) ≤ i ∧ i < 2 ^ 63 then (seqIndex? i xs.length).bind fun j => (xs[j]?).map fun d => (d, xs.eraseIdx j) else none
  | _ => none
theorem DpAll.eraseIdx {K : PySem.W.Frag} {G : Hp} : ∀ {v : List V} {d : List PyData} (i : Nat), DpAll K G v d → DpAll K G (v.eraseIdx i) (d.eraseIdx i)
  | _, _, _, .nil => .nil
  | _, _, 0, .cons _ q => q
  | _, _, i + 1, .cons r q => .cons r (DpAll.eraseIdx i q)
theorem ml_popAt : MthL X "list.pop" gPopAt := by
  refine ⟨_, mt_popAt, fun G H l us vs xs ds xs' z Q s hl hu hv e k => ?_⟩
  unfold gPopAt at e
  split at e
  · split at e
    · rename_i hi
      obtain ⟨j, h0, e⟩ := Option.bind_eq_some_iff.mp e
      obtain ⟨d, h1, h2⟩ := Option.map_eq_some_iff.mp e
      cases h2
      obtain ⟨v, rfl, hd⟩ := hv.e1
      cases hd
      obtain ⟨w, h3, h4⟩ := DpAll.get hu h1
      exact ⟨l, us, _, j, w, rfl, rfl, hl, hi.1, hi.2, by rw [DpAll.length hu]; exact h0, h3, k w _ h4 (DpAll.eraseIdx _ hu)⟩
    · cases e
  · cases e
end

/-! ### x[j] = e, x op= e -/
def gSub (i : Nat) (f : En → Rs PyData) : Tgt := fun d ρ => match (ρ[i]?).bind owOf with
  | none => none
  | some _ => match f ρ with
    | .ok (.int j) ρ1 => match ρ1[i]? with
      | some s0 => match owOf s0 with
        | some xs => (ixN xs.length j).map fun n => ρ1.set i (setOw s0 (xs.set n d))
        | none => none
      | none => none
    | _ => none
section
variable {X : Cx} {W : WX} {k : Nat} {x : Str} {px pos : Pos} {e : Expr}
theorem mg_sub (i : Nat) {f : En → Rs PyData} (h : ME X W e f) (hN : X.N[i]? = some x := by rfl) (hv : Vis X.env.scope x := by first | exact .inl rfl | exact .inr (.inl rfl) | exact .inr (.inr rfl)) (hd : (x == ("__debug__" : Str)) = false := by decide) (hcd : (x == ("__classdict__" : Str)) = false := by decide)
    (ha : ∀ v, assign (.Subscript (.Name x px) e pos) X.env v = (do
      let ov ← holding [v] (eval (.Name x px) X.env)
      let iv ← holding [v, ov] (eval e X.env)
      standAt pos
      holding [v, ov, iv] (setItem ov iv v)
      release [v, ov, iv] []) := by intro _; rfl) : MG X (.Subscript (.Name x px) e pos) [] (gSub i f) := fun B => by
  refine PG.imp (pg_sub (pe_var hN hv hd hcd) (h B) set_list ha) fun v σ H Q ⟨ρ, G, d, a, r, p⟩ => ?_
  unfold gSub at p
  cases h0 : (ρ[i]?).bind owOf with
  | none => rw [h0] at p; exact p.elim
  | some xs0 =>
    rw [h0] at p
    simp only at p
    obtain ⟨s0, hs0, ho0⟩ := Option.bind_eq_some_iff.mp h0
    obtain ⟨o, q1, q2⟩ := a.at hs0
    obtain ⟨l, us0, rfl, hl0, _⟩ := q2.ow ho0
    refine ⟨_, q1, ρ, G, a, ?_⟩
    cases hf : f ρ with
    | bad => rw [hf] at p; exact p.elim
    | err c ρ1 => rw [hf] at p; exact p.elim
    | ok z ρ1 =>
      rw [hf] at p
      intro u G1 H1 a1 s1 r1
      cases z with
      | int j =>
        simp only at p
        cases r1
        cases h1 : ρ1[i]? with
        | none => rw [h1] at p; exact p.elim
        | some s2 =>
          rw [h1] at p
          simp only at p
          cases h2 : owOf s2 with
          | none => rw [h2] at p; exact p.elim
          | some xs =>
            rw [h2] at p
            simp only at p
            obtain ⟨o', q3, q4⟩ := a1.at h1
            rw [q1] at q3
            cases q3
            obtain ⟨l', us, e', hq, hu⟩ := q4.ow h2
            cases e'
            cases hn : ixN xs.length j with
            | none => rw [hn] at p; exact p.elim
            | some n =>
              rw [hn] at p
              have p : ∀ σ' G' H', Ab X.K B (ρ1.set i (setOw s2 (xs.set n d))) G' σ' H' → Sub G G' → wipe σ' [] = wipe σ [] → Q σ' H' := p
              exact ⟨l, us, j, n, rfl, rfl, hq, by rw [DpAll.length hu]; exact hn, p σ G1 _ (a1.mutate h1 (isOwn_of h2) q1 (DpAll.set (Dp.mono s1 r) n hu)) s1 rfl⟩
      | _ => exact p.elim
/-- x op= e -/
def AugM (X : Cx) (op : Operator) (g : PyData → PyData → Option PyData) : Prop :=
  ∃ r : TIp, PIp X op r ∧ ∀ (G H : Hp) (x y : V) (d e z : PyData) (Q : VK), Sub G H → Dp X.K G x d → Dp X.K G y e → g d e = some z → (∀ v G' H', Ext G H G' H' → Dp X.K G' v z → Q v H') → r x y H Q
theorem am_add : AugM X .Add (dIntOp fun i j => .int (i + j)) := by
  refine ⟨_, ip_add, fun G H x y d e z Q s h1 h2 he k => ?_⟩
  cases d with
  | int i =>
    cases e with
    | int j => cases h1; cases h2; cases he; exact ⟨i, j, rfl, rfl, k _ G H (Ext.refl s) (.int _)⟩
    | _ => cases he
  | _ => cases he
theorem am_sub : AugM X .Sub (dIntOp fun i j => .int (i - j)) := by
  refine ⟨_, ip_sub, fun G H x y d e z Q s h1 h2 he k => ?_⟩
  cases d with
  | int i =>
    cases e with
    | int j => cases h1; cases h2; cases he; exact ⟨i, j, rfl, rfl, k _ G H (Ext.refl s) (.int _)⟩
    | _ => cases he
  | _ => cases he
def augS (i : Nat) (g : PyData → PyData → Option PyData) (f : En → Rs PyData) (ρ : En) : Ot :=
  match ρ[i]? with
  | some (.dat d) => (f ρ).st fun e ρ1 => match g d e with
    | some z => .next (ρ1.set i (.dat z))
    | none => .bad
  | _ => .bad
theorem ms_aug {op : Operator} {g : PyData → PyData → Option PyData} {f : En → Rs PyData} (i : Nat) (nd : X.N.Nodup) (ho : AugM X op g) (h : ME X W e f) (hi : X.N[i]? = some x := by rfl) (hx : Loc X.env.scope x := by first | exact .inl rfl | exact .inr rfl)
    (hf : X.fn x = true ∨ X.env.scope.names.lookup x = some .local := by first | exact .inl rfl | exact .inr rfl) : MS X W (.AugAssign (.Name x px) op e pos) (augS i g f) := by
  obtain ⟨r, hr, hk⟩ := ho
  refine fun B => PS.imp (ps_aug nd hi hx (h B) hr hf) fun D σ H ⟨ρ, G, a, p⟩ => ?_
  unfold augS at p
  cases h0 : ρ[i]? with
  | none => rw [h0] at p; exact p.elim
  | some s0 =>
    rw [h0] at p
    cases s0 with
    | dat d =>
      simp only at p
      obtain ⟨o, h1, v, rfl, h2⟩ := a.at h0
      refine ⟨v, h1, ?_⟩
      refine PstS.bind a p fun e' ρ1 u G1 H1 _ a1 s1 r1 p1 => ?_
      cases hg : g d e' with
      | none => rw [hg] at p1; exact p1.elim
      | some z =>
        rw [hg] at p1
        exact hk G1 H1 v u d e' z _ a1.fz (Dp.mono s1 h2) r1 hg fun w G2 H2 x2 hz => p1 _ G2 H2 ((a1.ext x2).store i hz)
    | un => exact p.elim
    | own _ => exact p.elim
    | arg _ => exact p.elim
/-- xs[::-1] of a list -/
def dRev : PyData → Option (List PyData)
  | .list xs => some xs.reverse
  | _ => none
theorem mn_rev {kk : Nat} {p1 p2 p3 : Pos} {f : En → Rs PyData} (h : ME X W e f) : MN X W (.Subscript e (.Slice none none (some (.UnaryOp .USub (.Constant (.int 1) kk p1) p2)) p3) pos) (fun ρ => (f ρ).bind fun d ρ1 => ofO (dRev d) ρ1) := fun B =>
  PE.imp (pe_revL (h B)) fun σ H Q ⟨ρ, G, a, p⟩ => by
    refine PstN.bind a p fun d ρ1 v G1 H1 _ a1 _ r1 p1 => ?_
    cases d with
    | list xs =>
      obtain ⟨q, us, rfl, hq, hu⟩ := Dp.lstE r1
      refine ⟨q, us, rfl, SqL.mono a1.fz hq, fun p hp => ?_⟩
      obtain ⟨a2, rn⟩ := RelN.fresh a1 hp (DpAll.reverse hu)
      exact p1 _ _ _ a2 (Sub.refl _) rn
    | _ => exact p1.elim
end
end ML
set_option maxRecDepth 100000
set_option maxHeartbeats 4000000
namespace ML
open PySem L2

/-! ### times -/
def dMul : PyData → PyData → Option PyData
  | .int i, .int j => if CMul i j then some (.int (i * j)) else none
  | .list xs, .int k => if -(2 ^ 63) ≤ k ∧ k < 2 ^ 63 ∧ xs.length * k.toNat ≤ sizeLine then some (.list (List.replicate k.toNat xs).flatten) else none
  | .tuple xs, .int k => if xs ≠ [] ∧ 2 ≤ k ∧ k ≤ 1000 ∧ xs.length ≤ 1000 then some (.tuple (List.replicate k.toNat xs).flatten) else none
  | _, _ => none
theorem DpAll.rep {K : PySem.W.Frag} {G : Hp} {vs : List V} {ds : List PyData} (h : DpAll K G vs ds) : ∀ k : Nat, DpAll K G (List.replicate k vs).flatten (List.replicate k ds).flatten
  | 0 => .nil
  | k + 1 => by
    simp only [List.replicate_succ, List.flatten_cons]
    exact DpAll.append h (DpAll.rep h k)
theorem om_mulA {X : Cx} : OpM X (binaryOp .Mult) dMul := by
  refine ⟨_, op_mul.or (op_repS.or op_repT), fun G H x y d e z Q s h1 h2 he k => ?_⟩
  cases e with
  | int j =>
    cases h2
    cases d with
    | int i =>
      cases h1
      simp only [dMul] at he
      split at he
      · rename_i hc
        cases he
        exact .inl ⟨_, _, rfl, rfl, hc, k _ G H (Ext.refl s) (.int _)⟩
      · cases he
    | list xs =>
      obtain ⟨p, us, rfl, q1, r1⟩ := Dp.lstE h1
      simp only [dMul] at he
      split at he
      · rename_i hc
        cases he
        refine .inr (.inl ⟨p, j, us, rfl, rfl, SqL.mono s q1, hc.1, hc.2.1, by rw [DpAll.length r1]; exact hc.2.2, fun q hq => ?_⟩)
        exact k _ _ _ (Ext.new s hq) (Dp.newL (s.gone hq) (DpAll.rep r1 _))
      · cases he
    | tuple xs =>
      obtain ⟨p, us, rfl, q1, r1⟩ := Dp.tupE h1
      simp only [dMul] at he
      split at he
      · rename_i hc
        cases he
        refine .inr (.inr ⟨p, j, us, rfl, rfl, SqT.mono s q1, fun n => hc.1 ((DpAll.isNil r1).mp n), hc.2.1, hc.2.2.1, by rw [DpAll.length r1]; exact hc.2.2.2, fun q hq => ?_⟩)
        exact k _ _ _ (Ext.new s hq) (Dp.newT (s.gone hq) (DpAll.rep r1 _))
      · cases he
    | _ => cases he
  | _ => cases d <;> cases he
section
variable {X : Cx} {W : WX} {k : Nat} {a b e : Expr} {pos : Pos}
/-- list + list, list * int as new lists -/
def dCat : PyData → PyData → Option (List PyData)
  | .list xs, .list ys => if xs.length + ys.length ≤ sizeLine then some (xs ++ ys) else none
  | _, _ => none
theorem mn_cat {f g : En → Rs PyData} (ha : ME X W a f) (hb : ME X W b g) : MN X W (.BinOp a .Add b pos) (fun ρ => (f ρ).bind fun d ρ1 => (g ρ1).bind fun e ρ2 => ofO (dCat d e) ρ2) := fun B =>
  PE.imp (pe_op op_catS (ha B) (hb B)) fun σ H Q ⟨ρ, G, q, p⟩ => by
    refine PstN.bind q p fun d ρ1 v G1 H1 _ a1 _ r1 p1 => ?_
    refine PstN.bind a1 p1 fun e ρ2 u G2 H2 _ a2 s2 r2 p2 => ?_
    cases d with
    | list xs =>
      cases e with
      | list ys =>
        obtain ⟨l, us, rfl, q1, h1⟩ := Dp.lstE (Dp.mono s2 r1)
        obtain ⟨l2, ws, rfl, q2, h2⟩ := Dp.lstE r2
        simp only [dCat] at p2
        split at p2
        · rename_i hz
          refine ⟨l, l2, us, ws, rfl, rfl, SqL.mono a2.fz q1, SqL.mono a2.fz q2, by rw [DpAll.length h1, DpAll.length h2]; exact hz, fun q hq => ?_⟩
          obtain ⟨a3, rn⟩ := RelN.fresh a2 hq (DpAll.append h1 h2)
          exact p2 _ _ _ a3 (Sub.refl _) rn
        · exact p2.elim
      | _ => exact p2.elim
    | _ => cases e <;> exact p2.elim
def dRepN : PyData → PyData → Option (List PyData)
  | .list xs, .int k => if -(2 ^ 63) ≤ k ∧ k < 2 ^ 63 ∧ xs.length * k.toNat ≤ sizeLine then some (List.replicate k.toNat xs).flatten else none
  | _, _ => none
theorem mn_rep {f g : En → Rs PyData} (ha : ME X W a f) (hb : ME X W b g) : MN X W (.BinOp a .Mult b pos) (fun ρ => (f ρ).bind fun d ρ1 => (g ρ1).bind fun e ρ2 => ofO (dRepN d e) ρ2) := fun B =>
  PE.imp (pe_op op_repS (ha B) (hb B)) fun σ H Q ⟨ρ, G, q, p⟩ => by
    refine PstN.bind q p fun d ρ1 v G1 H1 _ a1 _ r1 p1 => ?_
    refine PstN.bind a1 p1 fun e ρ2 u G2 H2 _ a2 s2 r2 p2 => ?_
    cases d with
    | list xs =>
      cases e with
      | int j =>
        obtain ⟨l, us, rfl, q1, h1⟩ := Dp.lstE (Dp.mono s2 r1)
        cases r2
        simp only [dRepN] at p2
        split at p2
        · rename_i hz
          refine ⟨l, j, us, rfl, rfl, SqL.mono a2.fz q1, hz.1, hz.2.1, by rw [DpAll.length h1]; exact hz.2.2, fun q hq => ?_⟩
          obtain ⟨a3, rn⟩ := RelN.fresh a2 hq (DpAll.rep h1 _)
          exact p2 _ _ _ a3 (Sub.refl _) rn
        · exact p2.elim
      | _ => exact p2.elim
    | _ => cases e <;> exact p2.elim
/-! ### isinstance(e, T) of data -/
def tyName : PyData → String
  | .none => "NoneType"
  | .bool _ => "bool"
  | .int _ => "int"
  | .str _ => "str"
  | .list _ => "list"
  | .tuple _ => "tuple"
  | .dict _ => "dict"
theorem Dp.tyx {K : PySem.W.Frag} {G H : Hp} {v : V} {d : PyData} (s : Sub G H) (h : Dp K G v d) : TyX K H v (.type (tyName d)) := by
  cases h with
  | non => exact .base .non
  | bl b => exact .base (.bl b)
  | int i => exact .base (.int i)
  | str x => exact .base (.str x)
  | lst r q => exact (by
      rcases SqL.mono s r with (r | ⟨o, r⟩) | ⟨o, its, n, r1, r2, _⟩
      · exact .base (.lst r)
      · exact .base (.frz r)
      · exact .kList r1 r2)
  | tup r q =>
    rcases SqT.mono s r with (r | ⟨o, r⟩) | ⟨o, its, n, r1, r2, _⟩
    · exact .base (.tup r)
    · exact .fTuple r
    · exact .kTuple r1 r2
def isiF (T : String) (f : En → Rs PyData) (ρ : En) : Rs PyData := (f ρ).bind fun d ρ1 => (ofO (kitB (tyName d) T) ρ1).bind fun b ρ1 => .ok (.bool b) ρ1
theorem me_isi {T : String} {t : Str} {p p2 : Pos} {f : En → Rs PyData} (hm : X.mg "isinstance" = none) (hmt : X.mg t = none) (hvt : bootBuiltins t = some (.type T)) (h : ME X W e f) (hg : Gl X "isinstance" := by rfl) (hgt : Gl X t := by rfl)
    (hnt : t ≠ "__name__" := by decide) (hdt : (t == ("__debug__" : Str)) = false := by decide)
    (he : starEach [e, .Name t p2] X.env = (false, eval e X.env) :: starEach [.Name t p2] X.env := by rfl) (hpl : (backTo pos (starEach [.Name t p2] X.env)).any (·.1) = false := by rfl) :
    ME X W (.Call (.Name "isinstance" p) [e, .Name t p2] [] pos) (isiF T f) := fun B =>
  PE.imp (pe_callB call_isi hg hm PyProof.Rows.boot_isinstance (pa_cons (h B) (pa_cons (pe_bltn (v := .ty T) hgt hmt hvt rfl hnt hdt) pa_nil) he) (by decide) (by decide) he hpl) fun σ H Q ⟨ρ, G, q, p⟩ => by
    refine Pst.bind q p fun d ρ1 v G1 H1 _ a1 _ r1 p1 => ?_
    cases hk : kitB (tyName d) T with
    | none => rw [hk] at p1; exact p1.elim
    | some b =>
      rw [hk] at p1
      exact ⟨v, .ty T, _, _, b, rfl, .ty T, Dp.tyx a1.fz r1, kit_ty hk, p1 _ G1 H1 a1 (Sub.refl _) (.bl b)⟩
end

/-! ### [f, g, ..][i](e, ..) -/
section
variable {X : Cx} {W : WX} {k j : Nat} {e ix : Expr} {es : List Expr} {pos lp sp : Pos}
def nmE (q : Str × Pos) : Expr := .Name q.1 q.2
inductive GoodN (X : Cx) (j : Nat) : List (Str × Pos) → List (List PyData → Rt) → Prop
  | nil : GoodN X j [] []
  | cons {x : Str} {p : Pos} {r : List (Str × Pos)} {F : List PyData → Rt} {Fs : List (List PyData → Rt)} : Gl X x → (x == ("__debug__" : Str)) = false →
    (∃ ps, Df X.prog X.w X.K X.mg X.base j x ps (spM X.K X.mg F)) → GoodN X j r Fs → GoodN X j ((x, p) :: r) (F :: Fs)
inductive Refs (X : Cx) (j : Nat) : List V → List (List PyData → Rt) → Prop
  | nil : Refs X j [] []
  | cons {f : Addr} {fd : FuncData} {ps : List Str} {F : List PyData → Rt} {vs : List V} {Fs : List (List PyData → Rt)} : FnG X.prog X.w X.K X.mg X.base j f fd ps (spM X.K X.mg F) → Binds X.K fd ps [] → PySem.W.keepIn X.K (.ref f) = true → Refs X j vs Fs → Refs X j (.ref f :: vs) (F :: Fs)
theorem Refs.length {X : Cx} {j : Nat} {vs : List V} {Fs : List (List PyData → Rt)} (h : Refs X j vs Fs) : vs.length = Fs.length := by
  induction h with
  | nil => rfl
  | cons _ _ _ _ ih => rw [List.length_cons, List.length_cons, ih]
theorem GoodN.length {X : Cx} {j : Nat} {ns : List (Str × Pos)} {Fs : List (List PyData → Rt)} (h : GoodN X j ns Fs) : ns.length = Fs.length := by
  induction h with
  | nil => rfl
  | cons _ _ _ _ ih => rw [List.length_cons, List.length_cons, ih]
theorem Refs.get {X : Cx} {j : Nat} {vs : List V} {Fs : List (List PyData → Rt)} (h : Refs X j vs Fs) : ∀ {i : Nat} {F : List PyData → Rt}, Fs[i]? = some F → ∃ f fd ps, vs[i]? = some (.ref f) ∧ FnG X.prog X.w X.K X.mg X.base j f fd ps (spM X.K X.mg F) ∧ Binds X.K fd ps [] ∧ PySem.W.keepIn X.K (.ref f) = true := by
  induction h with
  | nil => intro i F h; simp at h
  | cons h1 h2 h3 _ ih =>
    intro i F h
    cases i with
    | zero => simp at h; subst h; exact ⟨_, _, _, rfl, h1, h2, h3⟩
    | succ i => simpa using ih (i := i) (by simpa using h)
theorem pa_names : ∀ {ns : List (Str × Pos)} {Fs : List (List PyData → Rt)}, GoodN X j ns Fs → ∃ vs, Refs X j vs Fs ∧ PA X (ns.map nmE) (fun σ H Q => Q vs H)
  | _, _, .nil => ⟨[], .nil, PA.imp pa_nil fun σ H Q q => q⟩
  | _, _, .cons (x := x) (p := p) (r := r) hg hd ⟨ps, D⟩ hr => by
    obtain ⟨vs, h1, h2⟩ := pa_names hr
    obtain ⟨f, fd, hm, FO, hb, hk⟩ := D.ex
    refine ⟨.ref f :: vs, .cons FO hb hk h1, PA.imp (pa_cons (pe_glob (v := .ref f) hg hm rfl hd) h2 rfl) fun σ H Q q => q⟩
def pickF (Fs : List (List PyData → Rt)) (g : En → Rs PyData) (ga : En → Rs (List PyData)) (ρ : En) : Rs PyData :=
  (g ρ).bind fun d ρ1 => (ofO ((intOf d).bind fun i => (ixN Fs.length i).bind fun n => Fs[n]?) ρ1).bind fun F ρ1 => (ga ρ1).bind fun ds ρ2 => callR (F ds) ρ2
theorem pe_callV {f : Expr} {tf : TE} {t : TA} {sp0 : Hp → V → Addr → Prop} {pos : Pos} {r : TE} (hf : PE X f tf) (ha : PA X (e :: es) t)
    (hc : eval (.Call f (e :: es) [] pos) X.env = (do callWith pos (← eval f X.env) [] (backTo pos (starEach (e :: es) X.env)) (backToKw pos (keywordEach [] X.env))))
    (he : starEach (e :: es) X.env = (false, eval e X.env) :: starEach es X.env) (hpl : (backTo pos (starEach es X.env)).any (·.1) = false)
    (hr : ∀ σ H Q, r σ H Q → tf σ H fun v H1 => ∃ a fd ps sp E, v = .ref a ∧ (∃ k, FnG X.prog X.w X.K X.mg X.base k a fd ps sp ∧ Room k X.A) ∧ Binds X.K fd ps [] ∧ PySem.W.keepIn X.K (.ref a) = true ∧ PassesAt (L2N.CX X.prog X.w) X σ E ∧ t σ H1 fun vs H2 => sp vs H2 Q E)
    (hgd : X.A.guards = some []) : PE X (.Call f (e :: es) [] pos) r := ⟨fun pins s σ H Q I h => by
  rw [hc]
  refine wpAny_bind (thn (hf.run pins s σ H _ I (hr σ H Q h)) fun v s1 ⟨x, H1, I1, r1, a, fd, ps, sp, E, ex, ⟨k, F, hroom⟩, hb, hk, hx, q⟩ => ?_)
  subst ex
  cases r1
  refine PySem.W.callWith_K (h₀ := X.base) I1.ok.mod.kin hk ?_ he hpl
  exact thn (ha.run pos pins s1 σ H1 _ I1 q) fun us s2 ⟨vs, H2, I2, r2, q2⟩ => ⟨I2.kIn, F.call hroom hgd hb hx I2 r2 q2⟩⟩
theorem me_pick {ns : List (Str × Pos)} {Fs : List (List PyData → Rt)} {g : En → Rs PyData} {ga : En → Rs (List PyData)} (c : Mc X W k) (D : GoodN X j ns Fs) (hj : j ≤ k) (hi : ME X W ix g) (ha : MA X W (e :: es) ga) (hz : ns.length ≤ 100)
    (hpi : PlainIx ix := by exact fun _ _ => rfl)
    (hc : eval (.Call (.Subscript (.List (ns.map nmE) lp) ix sp) (e :: es) [] pos) X.env = (do callWith pos (← eval (.Subscript (.List (ns.map nmE) lp) ix sp) X.env) [] (backTo pos (starEach (e :: es) X.env)) (backToKw pos (keywordEach [] X.env))) := by rfl)
    (he : starEach (e :: es) X.env = (false, eval e X.env) :: starEach es X.env := by rfl) (hpl : (backTo pos (starEach es X.env)).any (·.1) = false := by rfl) :
    ME X W (.Call (.Subscript (.List (ns.map nmE) lp) ix sp) (e :: es) [] pos) (pickF Fs g ga) := fun B => by
  obtain ⟨vs, h1, h2⟩ := pa_names D
  refine pe_callV (sp0 := fun _ _ _ => True) (pe_ix ix_seq (pe_lst h2) (hi B) hpi) (ha B) hc he hpl (fun σ H Q ⟨ρ, G, a, p⟩ => ?_) c.gd
  have hl : vs.length = ns.length := h1.length.trans D.length.symm
  refine ⟨by rw [hl]; exact Nat.le_trans hz (by decide), fun q hq => ?_⟩
  have x := Ext.new (o := .lst vs) a.fz hq
  have gq := a.fz.gone hq
  have a1 := a.ext x
  have p : Pst X.K X.mg B W (RelD X.K) (upd G q (.lst vs)) σ Q (pickF Fs g ga ρ) := by
    revert p
    cases pickF Fs g ga ρ with
    | bad => exact id
    | err c ρ2 => exact fun h' G' H' a' s' => h' G' H' a' (x.g.trans s')
    | ok d2 ρ2 => exact fun h' v' G' H' a' s' r' => h' v' G' H' a' (x.g.trans s') r'
  refine Pst.bind a1 p fun d ρ1 v G1 H1 _ a2 s2 r1 p1 => ?_
  cases hd : intOf d with
  | none => rw [hd] at p1; exact p1.elim
  | some i =>
    rw [hd, Option.bind_some] at p1
    cases hn : ixN Fs.length i with
    | none => rw [hn] at p1; exact p1.elim
    | some n =>
      rw [hn, Option.bind_some] at p1
      cases hF : Fs[n]? with
      | none => rw [hF] at p1; exact p1.elim
      | some F =>
        rw [hF] at p1
        obtain ⟨f, fd, ps, e1, FO, hb, hk⟩ := h1.get hF
        have hq1 : H1 q = some (.lst vs) := a2.fz _ _ (s2 _ _ upd_same)
        refine .inl ⟨q, vs, i, .ref f, rfl, Dp.intE r1 hd, SqL.of hq1, ?_, f, fd, ps, _, _, rfl, ⟨j, FO, c.room.mono hj⟩, hb, hk, L2N.passAt c.tk σ, ?_⟩
        · unfold L2.atI
          rw [h1.length, hn]
          exact e1
        · refine Pst.bind (f := ga) a2 p1 fun ds ρ2 us G2 H2 e2 a3 _ r2 p2 => ?_
          refine ⟨G2, ds, a3.fz, r2, ?_⟩
          revert p2
          cases F ds with
          | bad => exact id
          | ok d => exact fun p1 v G' H' x' h => p1 v G' H' (a3.ext x') x'.g h
          | err c => exact fun p1 G' H' x' C hC => p1 G' H' (a3.ext x') x'.g C hC
end
end ML
set_option maxRecDepth 100000
set_option maxHeartbeats 4000000
/-! while an exception is handled: the end of a list's walk, sum, a comprehension, isinstance -/
namespace ML
open PySem L2
open PyProof.Rows (envOfC IntsAre)
open HotX (HotAt raiseNew_hot)
section
variable {prog : Program} {w : World} {A : Around} {E : Value → Shared → Prop} {s : Shared}
theorem hot_list_end {it l x1 : Addr} {i : Nat} {its : Array Value} {Q : Option Value → Shared → Prop} (hot : HotAt A x1 s.heap) (ne : x1 ≠ it) (hit : s.heap.IsListIter it l i) (hl : s.heap.IsList l its) (hx : its[i]? = none)
    (hQ : ∀ h', (∀ b o, b ≠ it → s.heap.get? b = some o → h'.get? b = some o) → Q none { s with heap := h' }) : wpAny (model prog w) A (pyNext (.ref it)) Q E s := by
  obtain ⟨o, ho, _, hd⟩ := id hit
  obtain ⟨ol, hol, _, nl, hdl⟩ := hl
  obtain ⟨hh, o1, v1, g1, d1, c1⟩ := hot
  unfold pyNext
  have body := wpAny_call_entry (prog := prog) (w := w) (A := A) (E := fun e s' => wpAny (model prog w) A (isInstance e (.type "StopIteration")) (fun b s₂ => wpAny (model prog w) A (if b = true then pure none else throw e) Q E s₂) E s') (s := s) slot_listiter_next hit.typeIs entry_listiter_next (Q := fun v s' => Q (some v) s') ?_ (args_listiter_next _)
  · first
      | exact wpAny_bind (wpAny_attempt (wpAny_callSpecial?_slot (name := Str.ofString "__next__") hit.typeIs slot_listiter_next (wpAny_mono body (fun v s' q => wpAny_pure q) fun e s' q => wpAny_bind q)))
      | exact wpAny_bind (wpAny_attempt (wpAny_callSpecial?_slot (name := Str.ofString "__next__") hit.typeIs slot_listiter_next (wpAny_mono body (fun v s' q => q) fun e s' q => wpAny_bind q)))
  · show wpAny _ _ (field (.ref it) 0 >>= _) _ _ s
    refine wpAny_bind (wpAny_field ho hd (x := .ref l) rfl ?_)
    show wpAny _ _ (if (Value.ref l == Value.none) = true then _ else _) _ _ s
    rw [if_neg (show ¬ ((Value.ref l == Value.none) = true) from nofun)]
    refine wpAny_bind (wpAny_field ho hd (x := .int i 0) rfl ?_)
    show wpAny _ _ (seqItems? (.ref l) >>= _) _ _ s
    refine wpAny_bind (wpAny_seqItems hol hdl ?_)
    simp only [Int.toNat_natCast, hx]
    refine wpAny_bind (wpAny_rule (wpAny_bind (wpAny_setField ho hd (by simp) ?_)))
    show wpAny _ _ (newExc (.type "StopIteration") [] >>= _) _ _ _
    refine wpAny_bind ?_
    simp only [newExc, newTuple]
    refine wpAny_bind (wpAny_newObj_type ?_ (by size_fits))
    refine wpAny_bind (m := firstArgMember _ _) (wpAny_of_eq (a := Value.none) (by first | rfl | (simp only [firstArgMember]; rfl)) ?_)
    refine wpAny_newObj_type ?_ (by size_fits)
    have up : ∀ f, Heap.ExtBut it s.heap (s.heap.update it f) := fun f => (Heap.SameBut.update ..).extBut
    have g2 := fun f o => Heap.get?_push_of_some o (up f _ _ ne g1)
    refine raiseNew_hot (x1 := x1) ⟨hh, o1, v1, Heap.get?_push_of_some _ (g2 _ _), d1, c1⟩ (Nat.ne_of_lt (Heap.lt_size (g2 _ _))) (Heap.get?_push_size _ rfl) rfl (by first | (simp; done) | (simp; omega) | (simp only [Array.size_append]; simp; omega)) ?_
    refine wpAny_isInstance (T := "StopIteration") (b := true) ⟨_, Heap.get?_update_self _ (Heap.get?_push_size _ rfl) rfl, rfl⟩ isSubtype_stop ?_
    rw [if_pos rfl]
    refine wpAny_pure (hQ _ fun b u n e => ?_)
    rw [Heap.get?_update_other _ _ (Nat.ne_of_gt (Heap.lt_size (Heap.get?_push_of_some _ (up _ b u n e))))]
    exact Heap.get?_push_of_some _ (Heap.get?_push_of_some _ (up _ b u n e))
theorem walks_hot {x1 : Addr} (I ax : Addr) (hne : ax ≠ I) (hx : x1 ≠ I) (its : Array Value) :
    Walks prog w A I [I, ax, x1] [I] its.size (fun i v => its[i]? = some v) (fun i h => (h.IsListIter I ax i ∧ h.IsList ax its) ∧ HotAt A x1 h) where
  sub := fun b hb => by simp at hb; simp [hb]
  frame := fun i h h' st hk => by
    obtain ⟨⟨st1, st2⟩, hh, o1, v1, g1, r⟩ := st
    exact ⟨⟨st1.at fun o e => hk I (by simp) o e, st2.at fun o e => hk ax (by simp) o e⟩, hh, o1, v1, hk x1 (by simp) _ g1, r⟩
  item := fun i s Q E hi st hQ => by
    obtain ⟨⟨st1, st2⟩, hh, o1, v1, g1, r⟩ := st
    refine wpAny_pyNext_list_item st1 st2 (x := its[i]) (by simp [hi]) fun h' hit' hs' => ?_
    have ex := hs'.extBut
    exact hQ _ h' s.toks (by simp [hi]) ⟨⟨hit', st2.extBut ex hne⟩, hh, o1, v1, ex _ _ hx g1, r⟩ fun b o hb e => ex b o (fun h => hb (by simp [h])) e
  done := fun s Q E st hQ => by
    obtain ⟨⟨st1, st2⟩, hot⟩ := st
    exact hot_list_end hot hx st1 st2 (by simp) fun h' he' => hQ h' s.toks fun b o hb e => he' b o (fun h => hb (by simp [h])) e
  self := fun _ _ _ _ st hQ => wpAny_pyIter_listiter st.1.1 hQ
/-- the context's handled exception, as it lies in the state -/
theorem hot_sum {x1 l : Addr} {xs : List Value} {ns : List Int} {Q : Value → Shared → Prop} (hot : HotAt A x1 s.heap) (hl : s.heap.IsList l xs.toArray) (hi : IntsAre xs ns)
    (h : ∀ h' tk t', (∀ b o, s.heap.get? b = some o → h'.get? b = some o) → Q (.int ns.sum t') { s with heap := h', toks := tk }) : wpAny (model prog w) A (call (.builtin "sum") [.ref l]) Q E s := by
  obtain ⟨xs', e⟩ := hi.allInts.items
  have hn : numsOf (intItems xs').toList = ns := by rw [← e]; exact hi.numsOf
  rw [nums_intItems] at hn
  rw [e] at hl
  obtain ⟨hh, o1, v1, g1, r⟩ := hot
  refine call_sum_walkG (iter_intList hl fun s₂ es st hfp hne => ?_)
  subst es
  have nx : x1 ≠ s.heap.objs.size := Nat.ne_of_lt (Heap.lt_size g1)
  refine ⟨_, _, _, _, _, _, numAt xs', rfl, walks_hot (A := A.in1) (x1 := x1) _ l hne nx (intItems xs'), ⟨st, hh, o1, v1, Heap.get?_push_of_some _ g1, r⟩, fun b hb => ?_, (fun _ _ => intItems_at), fun h' tk t' hk => ?_⟩
  · rcases List.mem_cons.mp hb with q | hb
    · exact hfp b (by simp [q])
    · rcases List.mem_cons.mp hb with q | hb
      · exact hfp b (by simp [q])
      · rw [List.mem_singleton.mp hb]
        exact Heap.lt_size (Heap.get?_push_of_some _ g1)
  · have q := h h' tk t' fun b o e => hk b o (by simpa using Nat.ne_of_lt (Heap.lt_size e)) (Heap.get?_push_of_some _ e)
    rw [preSum_eq, List.take_of_length_le (by simp [intItems]), hn]
    exact q
end
/-- the handled exception, as the context tells it -/
structure HotE (X : Cx) (a : Addr) (oe : Obj) (D : Addr) : Prop where
  hd : X.A.handled = some (.ref a)
  pn : (a, oe) ∈ X.pn
  z : L2N.Zn (.ref D) none oe
  f : ∃ vs, oe.data = .fields vs
theorem HotE.at {X : Cx} {a D : Addr} {oe : Obj} (h : HotE X a oe D) {pins : List (Addr × Obj)} {σ : St} {H : Hp} {s : Shared} (I : Inv X pins σ H s) : HotAt X.A a s.heap := by
  obtain ⟨vs, hv⟩ := h.f
  exact ⟨h.hd, oe, vs, (I.pin (a, oe) (List.mem_append_left _ h.pn)).1, hv, h.z.2.2 vs hv⟩
theorem cr_isE {X : Cx} {a D : Addr} {oe : Obj} (h : HotE X a oe D) (C : ExcC X.K D) : CallR X (.builtin "isinstance") (rIsE X.K D a) := by
  rintro pins s σ H xs us Q I r ⟨c, cv, b, rfl, hcv, e, q⟩
  obtain ⟨u1, u2, rfl, r1, r2⟩ := vals2 r
  cases r1
  have ec := hcv _ r2
  subst ec
  have hget := (I.pin (a, oe) (List.mem_append_left _ h.pn)).1
  obtain ⟨vs, hv⟩ := h.f
  obtain ⟨h1, h2, _⟩ := h.z
  obtain ⟨oc, od, oda, osl⟩ := oe
  dsimp only at h1 h2 hv
  subst h1 h2 hv
  have J : PySem.W.InstAt s.heap a ⟨.ref D, none, .fields vs, osl⟩ D none := ⟨hget, rfl, rfl, trivial⟩
  exact PySem.W.kia_one (PySem.W.handS_kitx_exc C.hg C.hk C.hs C.hd C.ha C.hn C.ht C.hm) I.kIn J e nofun fun tk => ⟨.bl b, H, I.kept (t' := tk) fun _ _ z => z, rfl, q⟩
/-- sum([int(x) for x in y]), y a name of a list of bools -/
def tSumB (i : Nat) : TE := fun σ H Q => ∃ (l : Addr) (bs : List Bool), σ[i]? = some (some (.ref l)) ∧ H l = some (.lst (bs.map V.bl)) ∧ Q (.int ((bs.map fun b => if b = true then (1 : Int) else 0).sum)) H
theorem elt_int {prog : Program} {w : World} {A : Around} {E : Value → Shared → Prop} {env : Env} {s : Shared} {x : Str} {m : Str → Option Value} {b : Bool} {p1 p2 p3 : Pos} (hk : env.scope.kind = .function) (hx : env.scope.names.lookup x = some .local) (hn : s.heap.Ns env.locals m) (hm : m x = some (.bool b))
    (hG : ∀ Q : Value → Shared → Prop, Q (.type "int") s → wpAny (model prog w) A (eval (.Name "int" p1) env) Q E s) (hd : (x == ("__debug__" : Str)) = false) :
    wpAny (model prog w) A (eval (.Call (.Name "int" p1) [.Name x p2] [] p3) env) (fun y s₄ => (∃ t, y = .int (if b = true then 1 else 0) t) ∧ Keeps s s₄) E s := by
  refine wpAny_Call_Name_kw (hG _ (PyProof.Rows.callWith_type1 (Calls.spliced_cons (wpAny_Name (wpAny_loadName_local hk hx hn hm (Calls.spliced_nil ?_)) hd))))
  exact call_int_bool ⟨⟨_, rfl⟩, s.heap, _, rfl, fun _ _ e => e⟩
def eltF (v y : Value) : Prop := ∃ b t, v = .bool b ∧ y = .int (if b = true then 1 else 0) t
theorem ints_of_elt : ∀ {vs ys : List Value} {bs : List Bool}, Paired eltF vs ys → vs = bs.map Value.bool → IntsAre ys (bs.map fun b => if b = true then (1 : Int) else 0)
  | _, _, [], .nil, _ => .nil
  | _, _, b :: bs, .cons h t, e => by
    obtain ⟨b', tk, rfl, rfl⟩ := h
    rw [List.map_cons] at e
    injection e with e1 e2
    cases e1
    exact .cons _ _ (ints_of_elt t e2)
  | _, _, [], .cons h t, e => by simp at e
  | _, _, b :: bs, .nil, e => by simp at e
theorem list_of_at {vs : List Value} {bs : List Bool} (hl : vs.length = bs.length) (h : ∀ (j : Nat) (v : Value), vs[j]? = some v → (bs.map Value.bool).toArray[j]? = some v) : vs = bs.map Value.bool := by
  refine List.ext_getElem? fun j => ?_
  by_cases hj : j < vs.length
  · have := h j _ (List.getElem?_eq_getElem hj)
    rw [List.getElem?_eq_getElem hj, ← this]
    simp
  · rw [List.getElem?_eq_none (by omega), List.getElem?_eq_none (by simp; omega)]
theorem pe_sumB {X : Cx} {a D : Addr} {oe : Obj} (h : HotE X a oe D) (i : Nat) {x y : Str} {p p1 p2 p3 p4 p5 p6 p7 : Pos} {scope : Scope} (hm : X.mg "sum" = none) (hmi : X.mg "int" = none)
    (hg : Gl X "sum" := by rfl) (hN : X.N[i]? = some y := by rfl) (hv : Vis X.env.scope y := by first | exact .inl rfl | exact .inr (.inl rfl) | exact .inr (.inr rfl)) (hd : (y == ("__debug__" : Str)) = false := by decide) (hcd : (y == ("__classdict__" : Str)) = false := by decide)
    (hfree : ∀ z ∈ scope.names, z.2 ≠ .free := by decide) (hcell : ∀ z ∈ scope.names, z.2 ≠ .cell := by decide) (hkind : scope.kind = .function := by rfl)
    (hnames : ∀ z ∈ scope.names, z.2 = .local → scope.names.lookup z.1 = some .local := by decide) (hx : scope.names.lookup x = some .local := by rfl) (hgi : scope.names.lookup ("int" : Str) = some .globalImplicit := by rfl) (hdx : (x == ("__debug__" : Str)) = false := by decide) :
    PE X (.Call (.Name "sum" p) [.ListComp (.Call (.Name "int" p1) [.Name x p2] [] p3) [⟨.Name x p4, .Name y p5, [], 0⟩] scope p6] [] p7) (tSumB i) := by
  refine ⟨fun pins s σ H Q I ⟨l, bs, h1, h2, q⟩ => ?_⟩
  refine wpAny_Call_Name_kw (ld_blt I hg hm PyProof.Rows.boot_sum (PyProof.Rows.callWith_builtin1 (Calls.spliced_cons ?_) rfl rfl) (by decide) (by decide))
  refine wpAny_ListComp_walk (fun _ => true) eltF hfree hcell hkind hnames hx ?_
  refine thn ((pe_var hN hv hd hcd).run pins s σ H (fun v H' => v = .ref l ∧ H' = H) I ⟨_, h1, rfl, rfl⟩) fun u s1 ⟨v, H1, I1, rv, ev, eH⟩ => ?_
  subst ev eH
  cases rv
  obtain ⟨z, its, n, r, hl, e⟩ := I1.lstM h2
  have ei : its = bs.map Value.bool := r.bls
  have pl : s1.heap.IsList l its.toArray := ⟨_, e, rfl, n, rfl⟩
  obtain ⟨hh, o1, v1, g1, r1⟩ := h.at I1
  refine wpAny_pyIter_list pl ?_
  have lt : l < s1.heap.objs.size := Heap.lt_size e
  refine ⟨_, _, _, _, _, _, rfl, walks_hot (x1 := a) s1.heap.objs.size l (Nat.ne_of_lt lt) (Nat.ne_of_lt (Heap.lt_size g1)) its.toArray, ?_, ⟨⟨⟨_, Heap.get?_push_size _ rfl, rfl, rfl⟩, pl.push _⟩, hh, o1, v1, Heap.get?_push_of_some _ g1, r1⟩, ?_, ⟨?_, ?_⟩, ?_⟩
  · rw [List.size_toArray, ← hl]
    exact z
  · intro b hb
    rcases List.mem_cons.mp hb with rfl | hb
    · show _ < (s1.heap.push _).objs.size
      rw [Heap.size_push]
      exact Nat.lt_succ_self _
    · show _ < (s1.heap.push _).objs.size
      rw [Heap.size_push]
      rcases List.mem_cons.mp hb with rfl | hb
      · exact Nat.lt_succ_of_lt lt
      · rw [List.mem_singleton.mp hb]
        exact Nat.lt_succ_of_lt (Heap.lt_size g1)
  · intro C j v s₃ m₃ E' hv hn hm' hk htk
    exact wpAny_tests_nil ⟨rfl, s₃.heap, s₃.toks, rfl, fun _ _ e => e⟩
  · intro C j v s₃ m₃ E' hv hp hn hm' hk htk
    have hb : ∃ b, v = .bool b := by
      rw [ei] at hv
      have hv : (bs.map Value.bool)[j]? = some v := by simpa using hv
      rw [List.getElem?_map] at hv
      obtain ⟨b, _, rfl⟩ := Option.map_eq_some_iff.mp hv
      exact ⟨b, rfl⟩
    obtain ⟨b, rfl⟩ := hb
    refine wpAny_mono (elt_int (b := b) (m := m₃) hkind hx hn hm' (fun Q q => ?_) hdx) (fun y s₄ h4 => ⟨?_, h4.2⟩) fun _ _ e => e
    · have bk : ∀ b o, X.base.get? b = some o → s₃.heap.get? b = some o := fun b o e => hk b o (by
        intro hb
        rw [List.mem_singleton.mp hb] at e
        have := Heap.lt_size (I1.bk _ _ e)
        exact Nat.lt_irrefl _ this) (Heap.get?_push_of_some _ (I1.bk b o e))
      obtain ⟨mb, b1, b2⟩ := I1.mod.blt
      refine Calls.Name_function_global hkind hgi (Calls.loadGlobal_builtin (mg := X.mg) (mb := mb) ?_ hmi ?_ ((b2 "int" (by decide)).trans PyProof.Rows.boot_int) q) (by decide)
      · show s₃.heap.Ns X.env.globals X.mg
        rw [I1.ok.glob]
        exact I1.mod.glob.keeps bk
      · show s₃.heap.Ns X.env.builtins mb
        rw [I1.ok.blt]
        exact b1.keeps bk
    · obtain ⟨t, rfl⟩ := h4.1
      exact ⟨b, t, rfl, rfl⟩
  · intro D' h' tk ys vs hD hl' hpl hlen hP hF hk
    have ev : vs = bs.map Value.bool := list_of_at (by rw [hlen, List.size_toArray, ei, List.length_map]) fun j v hj => by rw [← ei]; exact hP j v hj
    have hI : IntsAre ys.toList (bs.map fun b => if b = true then (1 : Int) else 0) := ints_of_elt (by rw [List.filter_eq_self.mpr fun _ _ => rfl] at hF; exact hF) ev
    have old : ∀ b o, s1.heap.get? b = some o → h'.get? b = some o := fun b o e => hk b o (by
      intro hb
      rw [List.mem_singleton.mp hb] at e
      exact Nat.lt_irrefl _ (Heap.lt_size e)) (Heap.get?_push_of_some _ e)
    refine Calls.spliced_nil ?_
    refine hot_sum (x1 := a) (xs := ys.toList) ⟨hh, o1, v1, old _ _ g1, r1⟩ (by simpa using hl') hI fun h2 tk2 t2 hk2 => ?_
    exact ⟨.int _, H1, I1.kept (t' := tk2) fun b o e => hk2 b o (old b o e), ⟨t2, rfl⟩, q⟩
end ML
set_option maxRecDepth 100000
set_option maxHeartbeats 4000000
/-! try, except F as e: return g(e); raise C('..') -/
namespace ML
open PySem L2
open PyProof.Rows (envOfC)
open L2H (RoomH PinOk cxH Hot1)

/-- a def that is called with the handled exception: what it tells by the class's name -/
structure FnE (P : Program) (w : World) (K : PySem.W.Frag) (mg : Str → Option Value) (base : Heap) (k : Nat) (f : Addr) (fd : FuncData) (x0 : Str) (res : Str → Option Str) : Prop where
  go : ∀ (A : Around) (o : List Env) (s : Shared) (H : Hp) (a D : Addr) (oe : Obj) (c t : Str) (Q : VK) (E : XK),
    RoomH k A → A.handled = some (.ref a) → PinOk o H s (a, oe) → L2N.Zn (.ref D) none oe → (∃ vs, oe.data = .fields vs) → mg c = some (.ref D) → res c = some t →
    Env0 P w K mg base A o s H → BindsTo s fd ⟨[.ref a], []⟩ ([x0].zip [.ref a]) → (∀ H', Sub H H' → Q (.str t) H') →
    codeAny (model P w) A (.call (.ref f) ⟨[.ref a], []⟩) (CR (L2N.CX P w) o P w H s Q E) s
structure DfE (P : Program) (w : World) (K : PySem.W.Frag) (mg : Str → Option Value) (base : Heap) (j : Nat) (x x0 : Str) (res : Str → Option Str) : Prop where
  ex : ∃ (f : Addr) (fd : FuncData), mg x = some (.ref f) ∧ FnE P w K mg base j f fd x0 res ∧ Binds K fd [x0] [] ∧ PySem.W.keepIn K (.ref f) = true
theorem fnE_of {P : Program} {w : World} {K : PySem.W.Frag} {mg : Str → Option Value} {base : Heap} {k : Nat} {x qual : Str} {st : Stmt} {f : Addr} {fd : FuncData} {N : List Str} {x0 : Str} {res : Str → Option Str}
    (F : Fun K x qual st f fd) (S : FnScope N [x0] (defScope st))
    (hb : ∀ (cdv : Value) (A : Around) (o : List Env) (s : Shared) (H : Hp) (a D : Addr) (oe : Obj) (c t : Str) (Q : VK) (E : XK), HotE (cxH (L2N.CX P w) P w K mg base N qual (defScope st) f cdv A o s H E (a, oe)) a oe D → mg c = some (.ref D) → res c = some t → (∀ H', Sub H H' → Q (.str t) H') →
      ∃ t0, PSs (cxH (L2N.CX P w) P w K mg base N qual (defScope st) f cdv A o s H E (a, oe)) (defBody st) t0 ∧ t0 { nx := fun _ H' => Q .non H', rt := Q } (L2.start N [.ref a]) H) :
    FnE P w K mg base (k + 1) f fd x0 res := by
  obtain ⟨oc, od, kV, doc, pm, an, cdv, ct, osl, rfl, lk, hcd⟩ := F.ex
  refine ⟨fun A o s H a D oe c t Q E hr hh hp hz hf hc ht e0 bt hq => ?_⟩
  have kin : K.In s.heap := e0.mod.kin.keeps fun b u e => (e0.bs b u e).1
  have lim : s.heap.NoLimit := e0.mod.nolimit.keeps fun b u e => (e0.bs b u e).1
  have hkd : ∀ y ∈ [x0].zip [Value.ref a], (defScope st).names.lookup y.1 = some .local ∨
      ((defScope st).names.lookup y.1 = some .cell ∧ ((cellsFrom (s.heap.objs.size + 1) (defScope st).names []).lookup y.1).isSome = true) := by
    rintro ⟨n, v⟩ hy
    cases S.par n (List.of_mem_zip hy).1 with
    | inl q => exact Or.inl q
    | inr q => exact Or.inr ⟨q, PySem.W.cellsFrom_some _ _ _ (Or.inl q)⟩
  refine codeAny_call_function hr.depth (kin _ _ lk) rfl S.co S.gen rfl (PySem.W.codeRec_of kin hcd) (bt _ _ _ _ ?_)
  refine wpAny_newFunctionEnv_cells S.kind hkd fun env he s1 x1 => ?_
  subst he
  refine ⟨lim.keeps x1.toInCall.keep, codeAny_func ?_⟩
  have hot : HotE (cxH (L2N.CX P w) P w K mg base N qual (defScope st) f cdv A o s H E (a, oe)) a oe D := ⟨hh, List.mem_singleton.mpr rfl, hz, hf⟩
  obtain ⟨t0, h0, hq0⟩ := hb cdv A o s H a D oe c t Q E hot hc ht hq
  have rv : Vals [V.ref a] [Value.ref a] := .cons rfl .nil
  refine wpAny_mono (h0.run [] s1 (L2.start N [.ref a]) H _ (L2H.inv_startH S hp e0 rfl rv x1) hq0) ?_ (fun e s' hs => hs)
  intro fl s' hs
  match fl, hs with
  | .next, ⟨σ', H', J, q⟩ => exact ⟨V.non, H', J.os, J.bare, J.base, J.hok, rfl, q⟩
  | .ret u, ⟨v, σ', H', J, rv, q⟩ => exact ⟨v, H', J.os, J.bare, J.base, J.hok, rv, q⟩
  | .brk, ⟨_, _, _, q⟩ => exact False.elim q
  | .cont, ⟨_, _, _, q⟩ => exact False.elim q
section
variable {X : Cx}
/-- g(e), e the handled exception -/
theorem pe_callE {k j i : Nat} {x x0 e : Str} {p q pos : Pos} {res : Str → Option Str} {a D : Addr} {oe : Obj} (h : HotE X a oe D) (F : DfE X.prog X.w X.K X.mg X.base j x x0 res) (hr : RoomH k X.A) (hj : j ≤ k)
    (hg : Gl X x := by rfl) (hN : X.N[i]? = some e := by rfl) (hv : Vis X.env.scope e := by first | exact .inl rfl | exact .inr (.inl rfl) | exact .inr (.inr rfl)) (hd : (e == ("__debug__" : Str)) = false := by decide) (hcd : (e == ("__classdict__" : Str)) = false := by decide)
    (hdb : (x == ("__debug__" : Str)) = false := by decide) (he : starEach [.Name e q] X.env = (false, eval (.Name e q) X.env) :: starEach [] X.env := by rfl) (hpl : (backTo pos (starEach [] X.env)).any (·.1) = false := by rfl) :
    PE X (.Call (.Name x p) [.Name e q] [] pos) (fun σ H Q => σ[i]? = some (some (.ref a)) ∧ ∃ c t, X.mg c = some (.ref D) ∧ res c = some t ∧ ∀ H', Sub H H' → Q (.str t) H') := ⟨fun pins s σ H Q I ⟨h1, c, t, hc, ht, hq⟩ => by
  obtain ⟨f, fd, hm, FE, hb, hk⟩ := F.ex
  refine wpAny_Call_Name_kw (ld_glob I hg hm ?_ hdb)
  have ha : PA X [.Name e q] (tCons (tVar i) tNil) := pa_cons (pe_var hN hv hd hcd) pa_nil he
  refine PySem.W.callWith_K (h₀ := X.base) I.ok.mod.kin hk (thn (ha.run pos pins s σ H (fun vs H1 => vs = [V.ref a] ∧ H1 = H) I ⟨_, h1, rfl, rfl⟩) fun us s1 ⟨vs, H1, I1, r, ev, eH⟩ => ⟨I1.kIn, ?_⟩) he hpl
  subst ev eH
  rw [Vals.ref1 r]
  have b := hb s1 [.ref a] I1.kIn rfl
  have P1 := I1.pin (a, oe) (List.mem_append_left _ h.pn)
  have hpin : PinOk X.stack H1 s1 (a, oe) := ⟨P1.1, P1.2.1, fun hm => (List.mem_cons.mp (I1.stkSub a hm)).elim P1.2.2.1 P1.2.2.2.1, P1.2.2.2.2⟩
  have go := FE.go X.A X.stack s1 H1 a D oe c t Q (fun _ _ _ => False) (hr.mono hj) h.hd hpin h.z h.f hc ht I1.env0 b hq
  refine wpAny_call (codeAny_mono go fun r s' hq' => ?_)
  match r, hq' with
  | .error _, ⟨_, _, _, _, _, _, _, _, _, _, _, _, z⟩ => exact z.elim
  | .ok (.ret u), hq' => exact I1.after hq'⟩
/-- a class that the clause «except F» takes -/
def CatchC (K : PySem.W.Frag) (mg : Str → Option Value) (F : Str) (c : Str) : Prop := ∃ C D, mg F = some (.ref C) ∧ mg c = some (.ref D) ∧ PySem.W.exmOne K (.ref D) (.ref C) = some true
def tryF (i : Nat) (res : Str → Option Str) (g : En → Ot) (ρ : En) : Ot :=
  match g ρ with
  | .err c ρ1 => match res c with
    | some t => if i < ρ1.length then .ret (.str t) (ρ1.set i .un) else .bad
    | none => .bad
  | .next ρ1 => .next ρ1
  | .ret d ρ1 => .ret d ρ1
  | .brk ρ1 => .brk ρ1
  | .cont ρ1 => .cont ρ1
  | .bad => .bad
theorem roomH_mark {k : Nat} {A : Around} (r : Room k A) (v : Option Value) : RoomH k (A.mark v) := ⟨r.dp, r.un⟩
theorem ms_try {W : WX} {k j : Nat} {F x x0 n : Str} {body : List Stmt} {np p q pos pos2 pos' rpos : Pos} {res : Str → Option Str} {g : En → Ot} (i : Nat) (m : Mc X W k) (hs : X.stack = X.env :: X.outer) (hf : X.env.frame = some X.env.locals)
    (D : DfE X.prog X.w X.K X.mg X.base j x x0 res) (hj : j ≤ k) (hC : ∀ c t, res c = some t → CatchC X.K X.mg F c)
    (hb : ∀ (W : WX) (pn : List (Addr × Obj)) (xe : Value → Shared → Prop), Mc (X.tr pn xe) W k → PassesOwn (model X.prog X.w) X.A X.env xe → MSs (X.tr pn xe) W body g)
    (hg : Gl X x := by rfl) (hgF : Gl X F := by rfl) (hN : X.N[i]? = some n := by rfl) (hln : X.env.kindOf n = some .local := by rfl) (hd : (n == ("__debug__" : Str)) = false := by decide) (hcd : (n == ("__classdict__" : Str)) = false := by decide)
    (hdb : (x == ("__debug__" : Str)) = false := by decide) (hdF : (F == ("__debug__" : Str)) = false := by decide) (he : starEach [.Name n q] X.env = (false, eval (.Name n q) X.env) :: starEach [] X.env := by rfl) (hpl : (backTo pos (starEach [] X.env)).any (·.1) = false := by rfl) (hF : ∃ C, X.mg F = some (.ref C)) :
    MS X W (.Try body [.ExceptHandler (some (.Name F np)) (some n) [.Return (some (.Call (.Name x p) [.Name n q] [] pos)) rpos] pos2] [] [] pos') (tryF i res g) := fun B => by
  obtain ⟨C, hFC⟩ := hF
  refine PS.imp (L2N.ps_try_as (c := .ref C) (i := i) (Wout := W) (tb := fun W' => tS X.K X.mg B W' g) (ts := fun a cls d D' σ H => σ[i]? = some (some (.ref a)) ∧ ∃ c t D, cls = .ref D ∧ d = none ∧ X.mg c = some (.ref D) ∧ res c = some t ∧ ∀ H', Sub H H' → D'.rt (.str t) H')
    hs hf m.nd hN hln ⟨hgF, hdF, .inl hFC⟩ m.tk (fun W' pn xe tk hp => hb W' pn xe ⟨tk, m.calm, m.nd, m.room, m.gd⟩ hp B) (fun a oe cls d pn hz hfl => ?_)) ?_
  · refine ⟨fun pins s σ H D' I ⟨h1, c, t, DD, ecls, ed, hc, ht, hq⟩ => ?_⟩
    subst ecls ed
    have hot : HotE (X.suite a ((a, oe) :: pn)) a oe DD := ⟨rfl, List.mem_cons_self, hz, hfl⟩
    have key := pe_callE (X := X.suite a ((a, oe) :: pn)) (i := i) (p := p) (q := q) (pos := pos) hot D (roomH_mark m.room _) hj hg hN (.inl hln) hd hcd hdb he hpl
    exact (pss_one (ps_ret key)).run pins s σ H D' I ⟨h1, c, t, hc, ht, hq⟩
  · rintro D' σ H ⟨ρ, G, a, p⟩
    refine ⟨ρ, G, a, ?_⟩
    unfold tryF at p
    cases hgρ : g ρ with
    | next ρ1 => rw [hgρ] at p; exact p
    | ret d ρ1 => rw [hgρ] at p; exact p
    | brk ρ1 => rw [hgρ] at p; exact p
    | cont ρ1 => rw [hgρ] at p; exact p
    | bad => rw [hgρ] at p; exact p
    | err c ρ1 =>
      rw [hgρ] at p
      simp only at p
      cases hr : res c with
      | none => rw [hr] at p; exact p.elim
      | some t =>
        rw [hr] at p
        simp only at p
        by_cases hi : i < ρ1.length
        · rw [if_pos hi] at p
          intro σ1 G1 H1 a1 DD hDD
          obtain ⟨C', D2, e1, e2, e3⟩ := hC c t hr
          rw [hFC] at e1
          cases e1
          rw [hDD] at e2
          cases e2
          refine ⟨true, e3, fun _ b nb => ⟨?_, c, t, DD, rfl, rfl, hDD, hr, fun H' sub => ?_⟩, fun z => by cases z⟩
          · rw [List.getElem?_set_self (by rw [a1.len]; exact hi)]
          · have x : Ext G1 H1 G1 H' := ⟨Sub.refl _, sub, a1.fz.trans sub, fun b o e n => by rw [n] at e; cases e⟩
            exact p _ _ G1 H' ((a1.forget i (some (.ref b))).ext x) (.str t)
        · rw [if_neg hi] at p
          exact p.elim
/-- raise C('..') -/
theorem ms_raise {W : WX} {k : Nat} {C : Str} {m : Str} {j : Nat} {p p2 pos pos' : Pos} {A : Addr} {bmB : List Value} {B newId initId : String} (c : Mc X W k) (F : ExcBaseFacts B newId initId bmB) (q : PySem.W.excIn X.K A bmB newId = true) (gC : X.mg C = some (.ref A))
    (kC : PySem.W.keepIn X.K (.ref A) = true) (r : Raises X (.ref A)) (hg : Gl X C := by rfl) (hdb : (C == ("__debug__" : Str)) = false := by decide) : MS X W (.Raise (some (.Call (.Name C p) [.Constant (.str m) j p2] [] pos)) none pos') (.err C) := fun B =>
  PS.imp (L2N.ps_raise c.calm c.tk (L2N.pmk_own F q gC kC r hg hdb)) fun D σ H ⟨ρ, G, a, p⟩ => p σ G H a A gC
end
end ML
set_option maxRecDepth 100000
set_option maxHeartbeats 4000000
/-! sets of objects that are told apart by what they say: a kind of elements, and what the set does with it -/
namespace ML
open PySem L2

/-- a kind of elements: objects that hash and compare by the key they tell -/
structure SK (P : Program) (w : World) (κ : Type) [DecidableEq κ] where
  is : Heap → κ → Addr → Prop
  hash : κ → Int
  draws : κ → Nat
  room : Around → Prop
  inj : ∀ {h : Heap} {x y : κ} {b : Addr}, is h x b → is h y b → x = y
  stay : ∀ {h h' : Heap} {k : κ} {a b : Addr} {o : Obj} {es : Array (Int × Value)} {ep : Nat} {t : SetTable}, is h k b → h.get? a = some o → o.data = .set es ep t → Heap.SameBut a h h' → is h' k b
  keep : ∀ {h h' : Heap} {k : κ} {b : Addr}, is h k b → (∀ c o, h.get? c = some o → h'.get? c = some o) → is h' k b
  hashes : ∀ {A : Around} {E : Value → Shared → Prop} {s : Shared} {k : κ} {b : Addr} {Q : Int → Shared → Prop}, room A → is s.heap k b → Q (hash k) { s with toks := s.toks + draws k } → wpAny (model P w) A (pyHash (.ref b)) Q E s
  eqs : ∀ {A : Around} {E : Value → Shared → Prop} {s : Shared} {x y : κ} {b c : Addr} {Q : Bool → Shared → Prop}, room A → is s.heap x b → is s.heap y c → Q (decide (x = y)) s → wpAny (model P w) A (eqBool (.ref b) (.ref c)) Q E s
  calm : ∀ {A : Around} {E : Value → Shared → Prop} {s : Shared} {k : κ} {b : Addr} {ys : List Value} {Q : Bool → Shared → Prop}, is s.heap k b → (∀ y ∈ ys, ∃ k' c, y = .ref c ∧ is s.heap k' c) → Q false s → wpAny (model P w) A (searchCouldBeSeen (.ref b) ys) Q E s
  plain : ∀ {A : Around} {E : Value → Shared → Prop} {s : Shared} {k : κ} {b : Addr} {Q : Bool → Shared → Prop}, is s.heap k b → (∀ c, Q c s) → wpAny (model P w) A (hashByValue 8 (.ref b)) Q E s

section
variable {P : Program} {w : World} {κ : Type} [DecidableEq κ] {S : SK P w κ}
abbrev Els (κ : Type) := List (Addr × κ)
/-- the entries of a set with these elements -/
def entries (S : SK P w κ) (L : Els κ) : List (Int × Value) := L.map fun p => (S.hash p.2, .ref p.1)
structure NS (S : SK P w κ) (h : Heap) (a : Addr) (L : Els κ) (es : Array (Int × Value)) (ep : Nat) (t : SetTable) : Prop where
  ob : ∃ o, h.get? a = some o ∧ o.ExactSet ∧ o.data = .set es ep t
  en : es.toList = entries S L
  tb : TabOk t (L.map fun p => S.hash p.2)
  dist : (L.map (·.2)).Nodup
  each : ∀ p ∈ L, S.is h p.2 p.1
  how : w.params.followText "set-order" = true ∨ t.led = true
  free : L.length * 5 < t.mask * 3
  small : L.length < 64
variable {h : Heap} {a : Addr} {L : Els κ} {es : Array (Int × Value)} {ep : Nat} {t : SetTable}
theorem entries_len (S : SK P w κ) {L : Els κ} {es : Array (Int × Value)} (e : es.toList = entries S L) : es.size = L.length := by
  rw [← Array.length_toList, e]
  unfold entries
  rw [List.length_map]
theorem NS.len (R : NS S h a L es ep t) : es.size = L.length := entries_len S R.en
theorem NS.psz (R : NS S h a L es ep t) : t.place.size = L.length := by
  have := R.tb.sz
  rwa [List.length_map] at this
theorem fits_of {t : SetTable} {n : Nat} (d : t.dummies = #[]) (p : t.place.size = n) (m : n ≤ t.mask) : t.fits n = true := by
  unfold SetTable.fits SetTable.fill
  rw [d, Bool.and_eq_true, beq_iff_eq, decide_eq_true_eq]
  exact ⟨p, by show t.place.size + 0 ≤ t.mask; omega⟩
theorem NS.fit (R : NS S h a L es ep t) : t.fits es.size = true := by
  have := R.free
  rw [R.len]
  exact fits_of R.tb.dm R.psz (by omega)
theorem NS.at (R : NS S h a L es ep t) {i : Nat} {p : Addr × κ} (e : L[i]? = some p) : es[i]? = some (S.hash p.2, .ref p.1) := by
  rw [← Array.getElem?_toList, R.en]
  unfold entries
  rw [List.getElem?_map, e]
  rfl
theorem NS.stands (R : NS S h a L es ep t) : ¬ t.gaveWay = true := by
  unfold SetTable.gaveWay
  rw [mask_odd R.tb.mok]
  decide
/-- the c-th probe for a hash -/
abbrev prb (m : Nat) (x : Int) (c : Nat) : SetTable.Probe := nth m (runAt m (SetTable.bits x % (m + 1)) (SetTable.bits x)) c
theorem prb_clean (m : Nat) : ∀ (c : Nat) (p : SetTable.Probe), p.dummy = none → (nth m p c).dummy = none
  | 0, _, e => e
  | c + 1, p, e => prb_clean m c (adv m p) (by unfold adv; split <;> exact e)
theorem prb_more (m : Nat) (x : Int) (c d : Nat) : nth m (prb m x c) d = prb m x (c + d) := (nth_add m c _ d).symm

/-- looking for an element, from the c-th probe on; n is where the first empty slot is met -/
theorem NS.look {A : Around} {E : Value → Shared → Prop} {s : Shared} (R : NS S s.heap a L es ep t) {b : Addr} {k : κ} (hb : S.is s.heap k b) (hr : S.room A) {n : Nat} (hn : n < 10 * SetTable.turns t.mask)
    (gap : way t.mask (S.hash k) n ∉ t.place.toList) (full : ∀ c, c < n → way t.mask (S.hash k) c ∈ t.place.toList) {Q : SetFound → Shared → Prop}
    (yes : k ∈ L.map (·.2) → Q (.there none) s) (no : k ∉ L.map (·.2) → Q (.free (way t.mask (S.hash k) n) false) s) :
    ∀ (f c : Nat) (st : Option SetTable.Probe), st.getD (t.probeStart (S.hash k)) = prb t.mask (S.hash k) c → c ≤ n → n - c < f →
      (∀ (i : Nat) (p : Addr × κ), L[i]? = some p → p.2 = k → ∃ d, c ≤ d ∧ d < n ∧ t.place.toList[i]? = some (way t.mask (S.hash k) d)) →
      wpAny (model P w) A (setSearchFrom a (.ref b) (S.hash k) true f st) Q E s := by
  intro f
  induction f with
  | zero => intro c st _ _ hf _; exact absurd hf (Nat.not_lt_zero _)
  | succ f ih =>
    intro c st hst hc hf ahead
    obtain ⟨o, ho, hx, hd⟩ := R.ob
    have state : ∀ {α : Type} (g : Array (Int × Value) × Nat × SetTable → Sem α) (Q' : α → Shared → Prop), wpAny (model P w) A (g (es, ep, t)) Q' E s → wpAny (model P w) A (setState a >>= g) Q' E s := fun g Q' q => wpAny_bind (wpAny_setState_of ho hd R.fit q)
    rw [setSearchFrom_succ]
    refine state _ _ ?_
    dsimp only
    refine wp_if_neg R.stands ?_
    try refine wpAny_bind (wpAny_pure ?_)
    generalize hhf : (fun (i : Nat) => ((es[i]?).map fun (z : Int × Value) => z.1).getD 0) = hf0
    have hat : ∀ {i : Nat} {p : Addr × κ}, L[i]? = some p → hf0 i = S.hash p.2 := fun e => by
      rw [← hhf]
      dsimp only
      rw [R.at e]
      rfl
    have wj : ∀ q, (nth t.mask (prb t.mask (S.hash k) c) q).j = way t.mask (S.hash k) (c + q) := fun q => congrArg SetTable.Probe.j (prb_more t.mask (S.hash k) c q)
    have back : c + (n - c) = n := by omega
    have spec := go_spec t R.tb.ris R.tb.dm hf0 (S.hash k) (10 * SetTable.turns t.mask) (n - c) (prb t.mask (S.hash k) c) (prb_clean _ _ _ rfl) (by omega)
      (fun q hq => by rw [wj]; exact full (c + q) (by omega)) (by rw [wj, back]; exact gap)
    rcases spec with ⟨q, i, hq, hi, hh, hno, hp⟩ | ⟨hno, hp⟩
    · have hp' : t.probe hf0 (S.hash k) (st.getD (t.probeStart (S.hash k))) = some (.candidate (way t.mask (S.hash k) (c + q)) i (prb t.mask (S.hash k) (c + (q + 1)))) := by
        rw [hst, ← wj, ← prb_more]
        exact hp
      rw [hp']
      dsimp only
      rw [wj] at hi
      have hiL : i < L.length := by
        rw [← R.psz, ← Array.length_toList]
        exact (List.getElem?_eq_some_iff.mp hi).1
      obtain ⟨p, hpL⟩ : ∃ p, L[i]? = some p := ⟨_, List.getElem?_eq_getElem hiL⟩
      have pm : p ∈ L := List.mem_of_getElem? hpL
      have slot := slot_live R.tb.ris hi
      have rest : wpAny (model P w) A (searchRest a (.ref b) (S.hash k) true f es t (way t.mask (S.hash k) (c + q)) i (prb t.mask (S.hash k) (c + (q + 1)))) Q E s := by
        unfold searchRest
        rw [R.at hpL]
        dsimp only
        refine wpAny_bind (wpAny_holding (S.eqs hr (R.each p pm) hb ?_))
        refine state _ _ ?_
        dsimp only
        by_cases same : p.2 = k
        · refine wp_if_pos (by simp [same]) (wpAny_pure (yes ?_))
          exact List.mem_map.mpr ⟨p, pm, same⟩
        · refine wp_if_neg (by simp [same]) ?_
          try refine wpAny_bind (wpAny_pure ?_)
          rw [sameMem]
          dsimp only
          simp only [if_true, slot, R.at hpL]
          refine wpAny_bind (wpAny_isSame_ref_self (wpAny_bind (wpAny_pure ?_)))
          simp only [if_true]
          refine wp_if_neg (by simp [same]) ?_
          refine ih (c + (q + 1)) _ rfl (by omega) (by omega) fun i0 p0 h0 e0 => ?_
          obtain ⟨d, d1, d2, d3⟩ := ahead i0 p0 h0 e0
          have le : c + q ≤ d := Nat.le_of_not_lt fun (z : d < c + q) => hno (d - c) i0 (by omega) (by rw [wj, show c + (d - c) = d by omega]; exact d3) ((hat h0).trans (congrArg S.hash e0))
          have ne : c + q ≠ d := fun z => by
            rw [← z] at d3
            have s0 := slot_live R.tb.ris d3
            rw [slot] at s0
            injection s0 with s0
            rw [← s0, hpL] at h0
            cases h0
            exact same e0
          exact ⟨d, by omega, d2, d3⟩
      by_cases hl : t.led = true
      · refine wp_if_neg (by simp [hl]) ?_
        try refine wpAny_bind (wpAny_pure ?_)
        exact rest
      · refine wp_if_pos (by simp [hl]) (wpAny_bind (S.calm hb (fun y hy => ?_) ?_))
        · obtain ⟨e, he, rfl⟩ := List.mem_map.mp hy
          have m1 : e ∈ es := by
            have : e ∈ es ∧ e.1 = S.hash k := by simpa using he
            exact this.1
          have m2 : e ∈ entries S L := by
            rw [← R.en]
            simpa using m1
          obtain ⟨p2, m3, rfl⟩ := List.mem_map.mp m2
          exact ⟨p2.2, p2.1, rfl, R.each p2 m3⟩
        · refine wp_if_neg (by decide) ?_
          try refine wpAny_bind (wpAny_pure ?_)
          exact rest
    · have hp' : t.probe hf0 (S.hash k) (st.getD (t.probeStart (S.hash k))) = some (.empty (way t.mask (S.hash k) n) none) := by
        have e2 := wj (n - c)
        rw [back] at e2
        rw [hst, ← e2]
        exact hp
      rw [hp']
      dsimp only
      refine wpAny_pure (no fun hm => ?_)
      obtain ⟨p0, m0, e0⟩ := List.mem_map.mp hm
      obtain ⟨i0, h0⟩ := List.getElem?_of_mem m0
      obtain ⟨d, d1, d2, d3⟩ := ahead i0 p0 h0 e0
      exact hno (d - c) i0 (by omega) (by rw [wj, show c + (d - c) = d by omega]; exact d3) ((hat h0).trans (congrArg S.hash e0))
theorem NS.lookAll {A : Around} {E : Value → Shared → Prop} {s : Shared} (R : NS S s.heap a L es ep t) {b : Addr} {k : κ} (hb : S.is s.heap k b) (hr : S.room A) {Q : SetFound → Shared → Prop} (yes : k ∈ L.map (·.2) → Q (.there none) s)
    (no : ∀ n, k ∉ L.map (·.2) → way t.mask (S.hash k) n ∉ t.place.toList → (∀ c, c < n → way t.mask (S.hash k) c ∈ t.place.toList) → Q (.free (way t.mask (S.hash k) n) false) s) :
    wpAny (model P w) A (setSearch a (.ref b) (S.hash k) true) Q E s := by
  have hfree := R.free
  obtain ⟨n, n1, n2, n3⟩ := R.tb.first (by rw [List.length_map]; omega) (S.hash k)
  have nb : n < 100000 := by
    refine Nat.lt_of_lt_of_le n1 ?_
    unfold SetTable.turns
    rcases R.tb.mok with e | e | e <;> rw [e] <;> decide
  unfold setSearch
  refine R.look hb hr n1 n2 n3 yes (fun z => no n z n2 n3) 100000 0 none rfl (Nat.zero_le _) (by omega) fun i p e ek => ?_
  have e1 : (L.map fun p => S.hash p.2)[i]? = some (S.hash k) := by
    rw [List.getElem?_map, e, ← ek]
    rfl
  have hiL : i < t.place.toList.length := by
    rw [Array.length_toList, R.psz]
    exact (List.getElem?_eq_some_iff.mp e).1
  obtain ⟨d, d1, d2⟩ := R.tb.before n2 e1 (List.getElem?_eq_getElem hiL)
  exact ⟨d, Nat.zero_le _, d1, by rw [List.getElem?_eq_getElem hiL, d2]⟩
end
end ML
set_option maxRecDepth 100000
set_option maxHeartbeats 4000000
namespace ML
open PySem L2
section
variable {P : Program} {w : World} {κ : Type} [DecidableEq κ] {S : SK P w κ} {a : Addr} {L : Els κ} {es : Array (Int × Value)} {ep : Nat} {t : SetTable}
/-- entries picked by their numbers, in another order -/
theorem picked (S : SK P w κ) (L : Els κ) (es : Array (Int × Value)) (e : es.toList = entries S L) : ∀ l : List Nat, (∀ i ∈ l, i < L.length) →
    l.filterMap (fun i => es[i]?) = entries S (l.filterMap fun i => L[i]?) ∧ ((l.filterMap fun i => L[i]?).map fun p => S.hash p.2) = l.map fun i => (es.map (·.1)).getD i 0
  | [], _ => ⟨rfl, rfl⟩
  | i :: l, hl => by
    have hi := hl i List.mem_cons_self
    obtain ⟨h1, h2⟩ := picked S L es e l fun j hj => hl j (List.mem_cons_of_mem _ hj)
    have ei : es[i]? = some (S.hash (L[i]).2, .ref (L[i]).1) := by
      rw [← Array.getElem?_toList, e]
      unfold entries
      rw [List.getElem?_map, List.getElem?_eq_getElem hi]
      rfl
    have eL : L[i]? = some L[i] := List.getElem?_eq_getElem hi
    have ed : (es.map (·.1)).getD i 0 = S.hash (L[i]).2 := by
      have : (es.map (·.1))[i]? = some (S.hash (L[i]).2) := by
        rw [Array.getElem?_map, ei]
        rfl
      simp [Array.getD_eq_getD_getElem?, this]
    rw [List.filterMap_cons_some ei, List.filterMap_cons_some eL, h1, List.map_cons, List.map_cons, h2, ed]
    exact ⟨rfl, rfl⟩
theorem fm_congr {α β : Type} {f g : α → Option β} : ∀ {l : List α}, (∀ i ∈ l, f i = g i) → l.filterMap f = l.filterMap g
  | [], _ => rfl
  | i :: l, h => by
    rw [List.filterMap_cons, List.filterMap_cons, h i List.mem_cons_self, fm_congr fun j hj => h j (List.mem_cons_of_mem _ hj)]
theorem all_picked {α : Type} (L : List α) : (List.range L.length).filterMap (fun i => L[i]?) = L := by
  refine List.ext_getElem? fun i => ?_
  have key : ∀ (L : List α) (n : Nat), (List.range' n L.length).filterMap (fun i => if n ≤ i then L[i - n]? else none) = L := by
    intro L
    induction L with
    | nil => intro n; rfl
    | cons x L ih =>
      intro n
      rw [List.length_cons, List.range'_succ, List.filterMap_cons]
      simp only [Nat.le_refl, if_true, Nat.sub_self, List.getElem?_cons_zero]
      congr 1
      refine Eq.trans (fm_congr fun i hi => ?_) (ih (n + 1))
      have hi := List.mem_range'_1.mp hi
      rw [if_pos (by omega), if_pos (by omega), show i - n = (i - (n + 1)) + 1 by omega, List.getElem?_cons_succ]
  have k0 := key L 0
  simp only [Nat.zero_le, if_true, Nat.sub_zero] at k0
  rw [List.range_eq_range', k0]
theorem into_perm {α : Type} (L : List α) (p : Nat) (x : α) : (L.take p ++ x :: L.drop p).Perm (x :: L) := by
  refine List.perm_middle.trans ?_
  rw [List.take_append_drop]
theorem entries_into (S : SK P w κ) (L : Els κ) (p : Nat) (b : Addr) (k : κ) : entries S (L.take p ++ (b, k) :: L.drop p) = (entries S L).take p ++ (S.hash k, .ref b) :: (entries S L).drop p := by
  unfold entries
  simp only [List.map_append, List.map_cons, List.map_take, List.map_drop]

/-- the table is laid anew -/
theorem relay_ok {A : Around} {E : Value → Shared → Prop} {s : Shared} {o : Obj} (ho : s.heap.get? a = some o) (hx : o.ExactSet) (hd : o.data = .set es ep t) (en : es.toList = entries S L) (psz : t.place.size = es.size) (dm : t.dummies = #[]) (fit : es.size ≤ t.mask)
    (dist : (L.map (·.2)).Nodup) (each : ∀ p ∈ L, S.is s.heap p.2 p.1) (how : w.params.followText "set-order" = true ∨ t.led = true) (small : L.length < 64) {want m : Nat} (h1 : SetTable.sizeAbove want - 1 = m) (h2 : MaskOk m) (h3 : SetTable.sizeAbove want ≤ 128) (h4 : L.length * 5 < m * 3)
    {Q : Unit → Shared → Prop} (q : ∀ h' L' es' ep' t', Heap.SameBut a s.heap h' → NS S h' a L' es' ep' t' → L'.Perm L → Q () { s with heap := h' }) : wpAny (model P w) A (setRelay a want) Q E s := by
  have el := entries_len S en
  obtain ⟨t', order, e, pm, T, em, eld, epl, edm⟩ := relaid_ok t (hs := es.map (·.1)) (wanted := want) h1 h2 (by rw [Array.size_map, el]; omega)
  rw [Array.size_map, el] at pm
  obtain ⟨e1, e2⟩ := picked S L es en order.toList fun i hi => List.mem_range.mp (pm.mem_iff.mp hi)
  have pL : (order.toList.filterMap fun i => L[i]?).Perm L := by
    have := pm.filterMap fun i => L[i]?
    rwa [all_picked] at this
  generalize order.toList.filterMap (fun i => L[i]?) = L2 at e1 e2 pL
  have e1' : (order.filterMap (es[·]?)).toList = entries S L2 := by first | (rw [Array.toList_filterMap]; exact e1) | simpa using e1
  have el2 : (order.filterMap (es[·]?)).size = L.length := by rw [entries_len S e1', pL.length_eq]
  rw [← e2] at T
  rw [setRelay_eq]
  refine wpAny_bind (wpAny_setState_of ho hd (fits_of dm psz fit) ?_)
  dsimp only
  refine wp_if_neg (by rw [sizeLine_eq]; omega) ?_
  try refine wpAny_bind (wpAny_pure ?_)
  rw [e]
  dsimp only
  refine wpAny_bind (wp_if_neg (by rw [el2, el]; simp) ?_)
  try refine wpAny_bind (wpAny_pure ?_)
  refine wpAny_pure ?_
  dsimp only
  refine wpAny_storeSet_of ho hd ?_ (by rw [el2, sizeLine_eq]; omega)
  have sb : Heap.SameBut a s.heap (s.heap.update a (Obj.putSet (order.filterMap (es[·]?)) t')) := .update ..
  refine q _ L2 _ (ep + 1) t' sb ⟨⟨_, store_at ho hd, ⟨hx.1, hx.2.1, hx.2.2⟩, rfl⟩, e1', T, (pL.map (·.2)).nodup_iff.mpr dist, fun p hp => S.stay (each p (pL.mem_iff.mp hp)) ho hd sb, ?_, ?_, ?_⟩ pL
  · rw [eld]; exact how
  · rw [pL.length_eq, em]; exact h4
  · rw [pL.length_eq]; exact small
/-- an element comes -/
theorem NS.add {A : Around} {E : Value → Shared → Prop} {s : Shared} (R : NS S s.heap a L es ep t) {b : Addr} {k : κ} (hb : S.is s.heap k b) (hr : S.room A) (few : L.length + 1 < 64) {Q : Bool → Shared → Prop}
    (q : ∀ c h' L' es' ep' t', Heap.SameBut a s.heap h' → NS S h' a L' es' ep' t' → (k ∈ L.map (·.2) → L' = L) → (k ∉ L.map (·.2) → L'.Perm ((b, k) :: L)) → Q c { s with heap := h' }) :
    wpAny (model P w) A (setAddHashed a (.ref b) (S.hash k)) Q E s := by
  obtain ⟨o, ho, hx, hd⟩ := R.ob
  have el := R.len
  have hfree := R.free
  unfold setAddHashed
  refine wpAny_holding ?_
  rw [show (100000 : Nat) = 99999 + 1 from rfl, setAddHashedIn_succ]
  refine wpAny_bind (wpAny_setState_of ho hd R.fit ?_)
  dsimp only
  refine wp_if_neg (by simp [byScan, Value.scannable]) ?_
  try refine wpAny_bind (wpAny_pure ?_)
  refine wpAny_bind (R.lookAll hb hr (fun yes => ?_) fun n no gap full => ?_)
  · dsimp only
    exact wpAny_pure (q false s.heap L es ep t (.refl a s.heap) R (fun _ => rfl) fun z => absurd yes z)
  dsimp only
  refine wpAny_bind (wpAny_setState_of ho hd R.fit ?_)
  dsimp only
  generalize hj : way t.mask (S.hash k) n = j at gap full
  have gap' : way t.mask (S.hash k) n ∉ t.place.toList := by rw [hj]; exact gap
  have put := R.tb.put gap' full
  rw [hj] at put
  obtain ⟨q1, q2, q3, q4, q5, q6, q7, q8, q9⟩ := put
  generalize t.put j = pt at q1 q3 q4 q5 q6 q7 q8 q9 ⊢
  obtain ⟨t0, p⟩ := pt
  dsimp only at q1 q3 q4 q5 q6 q7 q8 q9 ⊢
  subst q1
  -- the table, told plain or not
  have fin : ∀ t1 : SetTable, (t1 = t0 ∨ t1 = { t0 with plain := false }) → wpAny (model P w) A (do
      storeSet a (SetTable.insertAt es (SetTable.below t.place j) (S.hash k, Value.ref b)) t1
      if !false && t1.tooFull then setRelay a (SetTable.grown (es.size + 1))
      return true) Q E s := ?fin
  · cases hpl : t0.plain with
    | false =>
      have e : (!false && t0.tooFull) = t0.tooFull := rfl
      first
        | exact wpAny_bind (wpAny_pure (by simpa using fin t0 (.inl rfl)))
        | (simp only [hpl, Bool.false_eq_true, if_false]; refine wpAny_bind (wpAny_pure ?_); exact fin t0 (.inl rfl))
    | true =>
      simp only [hpl, if_true]
      refine wpAny_bind (S.plain hb fun c => ?_)
      cases c with
      | true => simpa using fin t0 (.inl rfl)
      | false => simpa using fin { t0 with plain := false } (.inr rfl)
  case fin =>
  intro t1 ht1
  have key : ∀ {hs : List Int}, TabOk t0 hs → TabOk t1 hs := fun z => by
    rcases ht1 with rfl | rfl
    · exact z
    · obtain ⟨z1, z2, z3, z4, z5, z6⟩ := z
      exact ⟨z1, z2, z3, z4, z5, z6⟩
  have q3 := key q3
  clear key
  have q4 : t1.mask = t.mask := by rcases ht1 with rfl | rfl <;> exact q4
  have q5 : t1.led = t.led := by rcases ht1 with rfl | rfl <;> exact q5
  have q9 : t1.fill = (List.map (fun p => S.hash p.2) L).length + 1 := by rcases ht1 with rfl | rfl <;> exact q9
  have en1 : (SetTable.insertAt es (SetTable.below t.place j) (S.hash k, .ref b)).toList = entries S (L.take (SetTable.below t.place j) ++ (b, k) :: L.drop (SetTable.below t.place j)) := by
    rw [SetTable.toList_insertAt, entries_into, R.en]
  generalize SetTable.below t.place j = p at q2 q3 en1 ⊢
  have pm := into_perm L p (b, k)
  have hm1 : (L.take p ++ (b, k) :: L.drop p).map (fun p => S.hash p.2) = (L.map fun p => S.hash p.2).take p ++ S.hash k :: (L.map fun p => S.hash p.2).drop p := by
    simp only [List.map_append, List.map_cons, List.map_take, List.map_drop]
  rw [← hm1] at q3
  generalize L.take p ++ (b, k) :: L.drop p = L1 at pm q3 en1
  have ll : L1.length = L.length + 1 := pm.length_eq
  have e1 := entries_len S en1
  generalize SetTable.insertAt es p (S.hash k, Value.ref b) = es1 at en1 e1 ⊢
  refine wpAny_bind (wpAny_storeSet_of ho hd ?_ (by rw [e1, ll, sizeLine_eq]; omega))
  have sb : Heap.SameBut a s.heap (s.heap.update a (Obj.putSet es1 t1)) := .update ..
  have ho1 := store_at (es' := es1) (t' := t1) ho hd
  generalize s.heap.update a (Obj.putSet es1 t1) = h1 at sb ho1 ⊢
  have dist1 : (L1.map (·.2)).Nodup := (pm.map (·.2)).nodup_iff.mpr (List.nodup_cons.mpr ⟨no, R.dist⟩)
  have each1 : ∀ p ∈ L1, S.is h1 p.2 p.1 := fun p hp => by
    cases List.mem_cons.mp (pm.mem_iff.mp hp) with
    | inl e => rw [e]; exact S.stay hb ho hd sb
    | inr hp => exact S.stay (R.each p hp) ho hd sb
  have how1 : w.params.followText "set-order" = true ∨ t1.led = true := by rw [q5]; exact R.how
  by_cases hf : t1.tooFull = true
  · first
      | refine wpAny_bind (wp_if_pos (by simp [hf]) ?_)
      | refine wp_if_pos (by simp [hf]) (wpAny_bind ?_)
    have hz : (L.length + 1) * 5 ≥ t1.mask * 3 := by
      have z := hf
      unfold SetTable.tooFull at z
      rwa [decide_eq_true_eq, q9, List.length_map] at z
    have psz1 : t1.place.size = es1.size := by
      have z := q3.sz
      rw [List.length_map] at z
      rw [z, e1]
    have two : (t.mask = 7 ∧ L.length = 4) ∨ (t.mask = 31 ∧ L.length = 18) := by
      rw [q4] at hz
      rcases R.tb.mok with e | e | e <;> rw [e] at hz hfree <;> omega
    rw [el]
    have go : ∀ m, SetTable.sizeAbove (SetTable.grown (L.length + 1)) - 1 = m → MaskOk m → SetTable.sizeAbove (SetTable.grown (L.length + 1)) ≤ 128 → (L.length + 1) * 5 < m * 3 →
        wpAny (model P w) A (setRelay a (SetTable.grown (L.length + 1))) (fun _ s' => wpAny (model P w) A (pure true) Q E s') E { s with heap := h1 } := fun m z1 z2 z3 z4 =>
      relay_ok (s := { s with heap := h1 }) ho1 ⟨hx.1, hx.2.1, hx.2.2⟩ rfl en1 psz1 q3.dm (by rw [e1, ll, q4]; rcases two with ⟨e, _⟩ | ⟨e, _⟩ <;> omega) dist1 each1 how1 (by omega) z1 z2 z3 (by rw [ll]; exact z4)
        fun h2 L2 es2 ep2 t2 sb2 R2 pm2 => wpAny_pure (q true h2 L2 es2 ep2 t2 (sb.trans sb2) R2 (fun z => absurd z no) fun _ => pm2.trans pm)
    rcases two with ⟨_, e2⟩ | ⟨_, e2⟩
    · exact go 31 (by rw [e2, size_20]) (.inr (.inl rfl)) (by rw [e2, size_20]; decide) (by omega)
    · exact go 127 (by rw [e2, size_76]) (.inr (.inr rfl)) (by rw [e2, size_76]; decide) (by omega)
  · first
      | refine wp_if_neg (by simp [hf]) ?_
      | refine wpAny_bind (wp_if_neg (by simp [hf]) (wpAny_pure ?_))
    refine wpAny_pure (q true h1 L1 es1 (ep + 1) t1 sb ⟨⟨_, ho1, ⟨hx.1, hx.2.1, hx.2.2⟩, rfl⟩, en1, q3, dist1, each1, how1, ?_, by omega⟩ (fun z => absurd z no) fun _ => pm)
    have z := hf
    unfold SetTable.tooFull at z
    rw [decide_eq_true_eq, q9, List.length_map] at z
    rw [ll]
    omega
end
end ML
set_option maxRecDepth 100000
set_option maxHeartbeats 4000000
namespace ML
open PySem L2
section
variable {P : Program} {w : World} {κ : Type} [DecidableEq κ] {S : SK P w κ}
/-- what has come of the first n -/
structure Come (ks : Els κ) (n : Nat) (L : Els κ) : Prop where
  from_ : ∀ p ∈ L, p ∈ ks.take n
  all : ∀ p ∈ ks.take n, p.2 ∈ L.map (·.2)
  le : L.length ≤ n
theorem take1 {α : Type} {l : List α} {i : Nat} {x : α} (h : l[i]? = some x) : l.take (i + 1) = l.take i ++ [x] := by
  rw [List.take_add_one, h]
  rfl
theorem Come.next {ks L L' : Els κ} {i : Nat} {p : Addr × κ} (c : Come ks i L) (h : ks[i]? = some p) (yes : p.2 ∈ L.map (·.2) → L' = L) (no : p.2 ∉ L.map (·.2) → L'.Perm (p :: L)) : Come ks (i + 1) L' := by
  have e := take1 h
  by_cases m : p.2 ∈ L.map (·.2)
  · rw [yes m]
    refine ⟨fun q hq => by rw [e]; exact List.mem_append_left _ (c.from_ q hq), fun q hq => ?_, Nat.le_succ_of_le c.le⟩
    rw [e] at hq
    rcases List.mem_append.mp hq with z | z
    · exact c.all q z
    · rw [List.mem_singleton.mp z]; exact m
  · have pm := no m
    refine ⟨fun q hq => ?_, fun q hq => ?_, by rw [pm.length_eq]; exact Nat.succ_le_succ c.le⟩
    · rw [e]
      rcases List.mem_cons.mp (pm.mem_iff.mp hq) with z | z
      · rw [z]; exact List.mem_append_right _ List.mem_cons_self
      · exact List.mem_append_left _ (c.from_ q z)
    · rw [(pm.map (·.2)).mem_iff, List.map_cons]
      rw [e] at hq
      rcases List.mem_append.mp hq with z | z
      · exact List.mem_cons_of_mem _ (c.all q z)
      · rw [List.mem_singleton.mp z]; exact List.mem_cons_self
theorem NS.moved {h h' : Heap} {a : Addr} {L : Els κ} {es : Array (Int × Value)} {ep : Nat} {t : SetTable} (R : NS S h a L es ep t) (ha : ∀ o, h.get? a = some o → h'.get? a = some o) (each : ∀ p ∈ L, S.is h' p.2 p.1) : NS S h' a L es ep t := by
  obtain ⟨o, ho, r⟩ := R.ob
  exact ⟨⟨o, ha o ho, r⟩, R.en, R.tb, R.dist, each, R.how, R.free, R.small⟩
theorem NS.empty {h : Heap} {a : Addr} (ho : h.get? a = some { cls := .type "set", dict := none, data := .set #[] 0 (.fresh 0 0 (!w.params.followText "set-order")) }) : NS S h a [] #[] 0 (.fresh 0 0 (!w.params.followText "set-order")) := by
  refine ⟨⟨_, ho, ⟨rfl, rfl, rfl⟩, rfl⟩, rfl, ⟨.nil, rfl, rfl, .inl rfl, fun x hx => (by cases hx), fun i h j hi => (by simp at hi)⟩, .nil, fun p hp => (by cases hp), ?_, (by decide : 0 * 5 < 7 * 3), (by decide : 0 < 64)⟩
  show _ ∨ (!w.params.followText "set-order") = true
  cases w.params.followText "set-order"
  · exact .inr rfl
  · exact .inl rfl
variable {A : Around}
/-- the loop behind set(xs) -/
theorem NS.loop {I : Addr} {fp wr : List Addr} {n : Nat} {Pv : Nat → Value → Prop} {St : Nat → Heap → Prop} {R : Result → Shared → Prop} (W : Walks P w A.in1 I fp wr n Pv St) (D : Addr) (hD : D ∉ fp) (ks : Els κ) (hn : n = ks.length) (few : ks.length < 64)
    (val : ∀ i v, Pv i v → ∃ p, ks[i]? = some p ∧ v = .ref p.1) (h0 : Heap) (each : ∀ p ∈ ks, S.is h0 p.2 p.1) (D0 : h0.get? D = none) (w0 : ∀ b ∈ wr, h0.get? b = none) (room : S.room A.in1) :
    ∀ (m i : Nat) (s : Shared), n - i = m → i ≤ n → St i s.heap → (∀ b o, h0.get? b = some o → s.heap.get? b = some o) → (∃ L es ep t, NS S s.heap D L es ep t ∧ Come ks i L) →
      (∀ h' tk L es ep t, (∀ b o, h0.get? b = some o → h'.get? b = some o) → NS S h' D L es ep t → Come ks n L → R (.ok (.ret .none)) { s with heap := h', toks := tk }) →
      codeAny (model P w) A (.builtin "set.update.loop" ⟨[.ref D, .ref I], []⟩) R s := by
  have Dw : D ∉ wr := fun z => hD (W.sub _ z)
  have keep : ∀ {h h' : Heap}, (∀ b o, b ∉ wr → h.get? b = some o → h'.get? b = some o) → (∀ b o, h0.get? b = some o → h.get? b = some o) → ∀ b o, h0.get? b = some o → h'.get? b = some o := fun k k0 b o e =>
    k b o (fun z => by rw [w0 b z] at e; cases e) (k0 b o e)
  intro m
  induction m with
  | zero =>
    intro i s hm hi st k0 ⟨L, es, ep, t, N, c⟩ q
    have hin : i = n := by omega
    subst hin
    refine codeAny_builtin PyProof.Rows.F.entry_set_update_loop ?_
    rw [Around.under_plainId PyProof.Rows.F.plain_set_update_loop _]
    show wpAny _ A.in1 (pyNext (.ref I) >>= _) _ _ s
    refine wpAny_bind (W.done s _ _ st fun h' tk k => ?_)
    show wpAny _ A.in1 (ret Value.none) _ _ _
    have k' := keep k k0
    exact wpAny_pure (q h' tk L es ep t k' (N.moved (fun o e => k D o Dw e) fun p hp => S.keep (each p (List.mem_of_mem_take (c.from_ p hp))) k') c)
  | succ m ih =>
    intro i s hm hi st k0 ⟨L, es, ep, t, N, c⟩ q
    have lt : i < n := by omega
    refine codeAny_builtin PyProof.Rows.F.entry_set_update_loop ?_
    rw [Around.under_plainId PyProof.Rows.F.plain_set_update_loop _]
    show wpAny _ A.in1 (pyNext (.ref I) >>= _) _ _ s
    refine wpAny_bind (W.item i s _ _ lt st fun v h1 tk hv st1 k => ?_)
    obtain ⟨p, hp, rfl⟩ := val i v hv
    have k1 := keep k k0
    have N1 : NS S h1 D L es ep t := N.moved (fun o e => k D o Dw e) fun p hp => S.keep (each p (List.mem_of_mem_take (c.from_ p hp))) k1
    have is1 : S.is h1 p.2 p.1 := S.keep (each p (List.mem_of_getElem? hp)) k1
    show wpAny _ A.in1 (holding [Value.ref p.1] (setAdd D (.ref p.1)) >>= _) _ _ _
    refine wpAny_bind (wpAny_holding ?_)
    unfold setAdd
    refine wpAny_holding (wpAny_bind (S.hashes room is1 ?_))
    refine NS.add (s := { s with heap := h1, toks := tk + S.draws p.2 }) N1 is1 room (by have := c.le; omega) fun b h' L' es' ep' t' sb N2 yes no => ?_
    have k2 : ∀ b o, h0.get? b = some o → h'.get? b = some o := fun b o e => (sb.2 b (fun z => by rw [z, D0] at e; cases e)).trans (k1 b o e)
    exact wpAny_pure ⟨plainId_quiet PyProof.Rows.F.plain_set_update_loop _, ih (i + 1) _ (by omega) lt (W.frame _ _ _ st1 fun b hb o e => (sb.2 b (fun z => hD (z ▸ hb))).trans e) k2 ⟨L', es', ep', t', N2, c.next hp yes no⟩
      fun h2 tk2 L2 es2 ep2 t2 => q h2 tk2 L2 es2 ep2 t2⟩
open PyProof.Rows in
/-- the new set object -/
def set0 (w : World) : Obj := { cls := .type "set", dict := none, data := .set #[] 0 (.fresh 0 0 (!w.params.followText "set-order")) }
open PyProof.Rows in
/-- set(xs), xs a list of such objects -/
theorem call_setN {E : Value → Shared → Prop} {s : Shared} {l : Addr} {xs : Array Value} (ks : Els κ) {Q : Value → Shared → Prop} (calm : A.handled = none) (hl : s.heap.IsList l xs) (hx : xs.toList = ks.map fun p => Value.ref p.1)
    (each : ∀ p ∈ ks, S.is s.heap p.2 p.1) (few : ks.length < 64) (room : S.room A.in1.in1.in1)
    (q : ∀ (h' : Heap) (tk : Nat) L es ep t, NS S h' s.heap.objs.size L es ep t → Come ks ks.length L → (∀ b o, s.heap.get? b = some o → h'.get? b = some o) → Q (.ref s.heap.objs.size) { s with heap := h', toks := tk }) :
    wpAny (model P w) A (call (.type "set") [.ref l]) Q E s := by
  have xl : xs.size = ks.length := by rw [← Array.length_toList, hx, List.length_map]
  obtain ⟨c0, tl0, mro0⟩ := F.called_set.mro
  have m1 := F.called_set.made
  have m2 := F.called_set.sub
  refine wpAny_call (codeAny_of_tree ?_)
  show wpAny _ _ (callAny (.type "set") _) _ _ _
  refine wpAny_pure ⟨Code.quiet_builtin _ (by decide +kernel), codeAny_builtin F.entry_type_call ?_⟩
  rw [Around.under_plain (weight_type_call_type "set" [.ref l] []) rfl]
  have m3 := F.called_set.notType
  have m4 := F.called_set.canCreate
  have m5 := F.typeCall_set_1 (.ref l)
  repeat (any_goals (first | assumption | wp_step))
  generalize hD : s.heap.objs.size = D at q
  have made := code_set_led1 (P := P) (w := w) (A := A.in1) (E := E) (s := s) (.ref l) (Q₁ := fun ob s₁ => ob = .ref D ∧ s₁ = { s with heap := s.heap.push (set0 w) }) ⟨by rw [hD], rfl⟩
  refine codeAny_mono made fun r s₁ hr => ?_
  match r, hr with
  | .error e, hr => exact hr
  | .ok (.ret ob), hr =>
    obtain ⟨rfl, rfl⟩ := hr
    have gD : (s.heap.push (set0 w)).get? D = some (set0 w) := by rw [← hD]; exact Heap.get?_push_size _ rfl
    have tD : Shared.TypeIs { s with heap := s.heap.push (set0 w) } (.ref D) "set" := ⟨_, gD, rfl⟩
    have i1 := F.called_set.init.lookup
    have i2 := F.called_set.init.bind (.ref D)
    repeat (any_goals (first | assumption | wp_step))
    let Done : Value → Shared → Prop := fun r s₂ => r = .none ∧ ∃ h' tk L es ep t, s₂ = { s with heap := h', toks := tk } ∧ NS S h' D L es ep t ∧ Come ks ks.length L ∧ ∀ b o, s.heap.get? b = some o → h'.get? b = some o
    refine codeAny_mono (codeAny_call_builtin (R := wants Done E) F.called_set.init.plain F.entry_set_init (check_set_init_1 tD ?_)) fun r₂ s₂ hr₂ => ?_
    · obtain ⟨ol, gl, cl, nl, dl⟩ := hl
      obtain ⟨c1, d1, dt1, sl1⟩ := ol
      dsimp only at cl dl
      subst cl dl
      have gl' := Heap.get?_push_of_some (set0 w) gl
      have l1 : (s.heap.push (set0 w)).IsList l xs := ⟨_, gl', rfl, nl, rfl⟩
      have u1 := F.sub_list_set
      have u2 := F.sub_list_frozenset
      have u3 : (Value.type "list" == Value.type "dict") = false := by decide
      unfold Builtin.«set.__init__» noKeywords Builtin.Frozenset.updateFrom
      generalize hPI : pyIter = PI
      wp_walk
      subst hPI
      refine wpAny_pyIter_list l1 (wpAny_bind (wpAny_runValue ?_))
      have ll : l < D := by rw [← hD]; exact Heap.lt_size gl
      have z1 : (s.heap.push (set0 w)).objs.size = D + 1 := by rw [Heap.size_push, hD]
      have fresh : ∀ b, D ≤ b → s.heap.get? b = none := fun b hb => by
        cases z : s.heap.get? b with
        | none => rfl
        | some o => exact absurd (Heap.lt_size z) (by rw [hD]; exact Nat.not_lt.mpr hb)
      rw [z1]
      refine NS.loop (S := S) (A := A.in1.in1) (Walks.list (A := A.in1.in1.in1) calm (D + 1) l (Nat.ne_of_lt (Nat.lt_succ_of_lt ll)) xs) D (by simp only [List.mem_cons, List.not_mem_nil, or_false, not_or]; exact ⟨Nat.ne_of_lt (Nat.lt_succ_self D), Nat.ne_of_gt ll⟩) ks xl few (fun i v hv => ?_) s.heap each (fresh D (Nat.le_refl _)) (fun b hb => fresh b (by rw [List.mem_singleton.mp hb]; exact Nat.le_succ D)) room xs.size 0 _ rfl (Nat.zero_le _)
        ⟨⟨_, by rw [← z1]; exact Heap.get?_push_size _ rfl, rfl, rfl⟩, l1.push _⟩ (fun b o e => Heap.get?_push_of_some _ (Heap.get?_push_of_some _ e)) ⟨[], #[], 0, _, NS.empty (Heap.get?_push_of_some _ gD), ⟨fun p hp => (by cases hp), fun p hp => (by simp at hp), Nat.le_refl _⟩⟩ fun h' tk L es ep t k N c => ?_
      · have z : xs.toList[i]? = some v := by rw [Array.getElem?_toList]; exact hv
        rw [hx, List.getElem?_map] at z
        obtain ⟨p, z1, z2⟩ := Option.map_eq_some_iff.mp z
        exact ⟨p, z1, z2.symm⟩
      · show wpAny _ _ _ _ _ _
        refine wpAny_pure ?_
        show wpAny _ _ (ret Value.none) _ _ _
        rw [xl] at c
        exact wpAny_pure ⟨rfl, h', tk, L, es, ep, t, rfl, N, c, k⟩
    · match r₂, hr₂ with
      | .error e, hr₂ => exact hr₂
      | .ok (.ret r), ⟨er, h', tk, L, es, ep, t, es', N, c, k⟩ =>
        subst er es'
        repeat (any_goals (first | assumption | wp_step))
        exact q h' tk L es ep t N c k
end
end ML
set_option maxRecDepth 100000
set_option maxHeartbeats 4000000
namespace ML
open PySem L2
open PySem.W (dataLe dataLt keyToks keyToksAll alike alikeAll AllAlike Sortable EachIs)
open PyProof.Rows (lexLt)

/-! ### flat tuples: whole numbers and texts -/
def kD : Key → PyData
  | .inl i => .int i
  | .inr x => .str x
def tD (k : List Key) : PyData := .tuple (k.map kD)
def keyD : PyData → Option Key
  | .int i => some (.inl i)
  | .str x => some (.inr x)
  | _ => none
def keysD : List PyData → Option (List Key)
  | [] => some []
  | d :: ds => (keyD d).bind fun k => (keysD ds).map (k :: ·)
def flatD : PyData → Option (List Key)
  | .tuple ds => keysD ds
  | _ => none
def flatsD : List PyData → Option (List (List Key))
  | [] => some []
  | d :: ds => (flatD d).bind fun k => (flatsD ds).map (k :: ·)
theorem keyD_eq {d : PyData} {k : Key} (h : keyD d = some k) : d = kD k := by
  cases d <;> cases h <;> rfl
theorem keysD_eq : ∀ {ds : List PyData} {k : List Key}, keysD ds = some k → ds = k.map kD
  | [], _, h => by cases h; rfl
  | d :: ds, k, h => by
    obtain ⟨a, h1, h⟩ := Option.bind_eq_some_iff.mp h
    obtain ⟨r, h2, rfl⟩ := Option.map_eq_some_iff.mp h
    rw [List.map_cons, ← keyD_eq h1, ← keysD_eq h2]
theorem flatD_eq {d : PyData} {k : List Key} (h : flatD d = some k) : d = tD k := by
  cases d with
  | tuple ds => rw [show ds = k.map kD from keysD_eq h]; rfl
  | _ => cases h
theorem flatsD_eq : ∀ {ds : List PyData} {k : List (List Key)}, flatsD ds = some k → ds = k.map tD
  | [], _, h => by cases h; rfl
  | d :: ds, k, h => by
    obtain ⟨a, h1, h⟩ := Option.bind_eq_some_iff.mp h
    obtain ⟨r, h2, rfl⟩ := Option.map_eq_some_iff.mp h
    rw [List.map_cons, ← flatD_eq h1, ← flatsD_eq h2]
theorem keysD_map : ∀ (k : List Key), keysD (k.map kD) = some k
  | [] => rfl
  | a :: k => by
    have : keyD (kD a) = some a := by cases a <;> rfl
    simp only [List.map_cons, keysD, this, keysD_map k, Option.bind_some, Option.map_some]
theorem flatsD_map : ∀ (k : List (List Key)), flatsD (k.map tD) = some k
  | [] => rfl
  | a :: k => by
    have : flatD (tD a) = some a := keysD_map a
    simp only [List.map_cons, flatsD, this, flatsD_map k, Option.bind_some, Option.map_some]

section
variable {P : Program} {w : World} {A : Around} {E : Value → Shared → Prop} {s : Shared}
abbrev IsF (P : Program) (w : World) (h : Heap) (k : List Key) (b : Addr) : Prop := IsTupleKey (mixKind P w) h k b
theorem flat_items {k : List Key} {vs : List Value} (h : ItemsAre (mixKind P w) k vs) : ∀ v ∈ vs, (∃ i t, v = Value.int i t) ∨ ∃ x t, v = Value.str x t := by
  induction h with
  | nil => intro v hv; cases hv
  | cons h1 _ ih =>
    intro v hv
    rcases List.mem_cons.mp hv with rfl | hv
    · rcases keyIs_shape h1 with ⟨i, t, _, e⟩ | ⟨x, t, _, e⟩
      · exact .inl ⟨i, t, e⟩
      · exact .inr ⟨x, t, e⟩
    · exact ih v hv
theorem flat_noClass {k : List Key} {b : Addr} {Q : Bool → Shared → Prop} (hk : IsF P w s.heap k b) (h : Q false s) : wpAny (model P w) A (ofAClassStatement 8 (.ref b)) Q E s := by
  have ty := hk.typeIs
  obtain ⟨o, xs, n, ho, _, hd, hi⟩ := hk
  have fl := flat_items hi
  unfold ofAClassStatement
  refine wpAny_bind (wpAny_typeOf ty ?_)
  have yes : (("tuple" : String) == "tuple") = true := by decide
  dsimp only
  simp only [yes, if_true, Bool.not_true, Bool.false_eq_true, if_false]
  try refine wpAny_bind (wpAny_pure ?_)
  try simp only [Bool.not_true, Bool.false_eq_true, if_false]
  show wpAny _ _ (seqItems? (.ref b) >>= _) _ _ s
  refine wpAny_bind (wpAny_seqItems ho hd ?_)
  dsimp only
  refine wpAny_bind ?_
  show wpAny _ _ (forIn xs _ _) _ _ s
  rw [← Array.forIn_toList]
  refine wpAny_forIn_list _ (fun rest r s' => r.1 = none ∧ s' = s ∧ ∀ v ∈ rest, v ∈ xs.toList) _ (fun v rest r s' hh => ?_) (fun r s' hh => ?_) _ _ ⟨rfl, rfl, fun v hv => hv⟩
  · obtain ⟨hr, rfl, all⟩ := hh
    have no : ofAClassStatement 7 v = pure false := by
      rcases fl v (all v List.mem_cons_self) with ⟨i, t, rfl⟩ | ⟨x, t, rfl⟩ <;> rfl
    rw [no]
    refine wpAny_bind (wpAny_pure ?_)
    simp only [Bool.false_eq_true, if_false]
    exact wpAny_pure ⟨rfl, rfl, fun u hu => all u (List.mem_cons_of_mem _ hu)⟩
  · obtain ⟨r1, r2⟩ := r
    obtain ⟨hr, rfl, _⟩ := hh
    dsimp only at hr
    subst hr
    exact wpAny_pure h
theorem flat_byVal {k : List Key} {b : Addr} {Q : Bool → Shared → Prop} (hk : IsF P w s.heap k b) (h : ∀ c, Q c s) : wpAny (model P w) A (hashByValue 8 (.ref b)) Q E s := by
  have ty := hk.typeIs
  obtain ⟨o, xs, n, ho, _, hd, hi⟩ := hk
  have fl := flat_items hi
  unfold hashByValue
  refine wpAny_bind (wpAny_specialOf ty F.slot_tuple_hash.lookup ?_)
  show wpAny _ _ (seqItems? (.ref b) >>= _) _ _ s
  refine wpAny_bind (wpAny_seqItems ho hd ?_)
  refine wpAny_bind ?_
  show wpAny _ _ (forIn xs _ _) _ _ s
  rw [← Array.forIn_toList]
  refine wpAny_forIn_list _ (fun rest r s' => s' = s ∧ ∀ v ∈ rest, v ∈ xs.toList) _ (fun v rest r s' hh => ?_) (fun r s' hh => ?_) _ _ ⟨rfl, fun v hv => hv⟩
  · obtain ⟨rfl, all⟩ := hh
    rcases fl v (all v List.mem_cons_self) with ⟨i, t, rfl⟩ | ⟨x, t, rfl⟩
    · rw [show hashByValue 7 (.int i t) = pure true from rfl]
      refine wpAny_bind (wpAny_pure ?_)
      simp only [Bool.not_true, Bool.false_eq_true, if_false]
      exact wpAny_pure ⟨rfl, fun u hu => all u (List.mem_cons_of_mem _ hu)⟩
    · rw [show hashByValue 7 (.str x t) = pure false from rfl]
      refine wpAny_bind (wpAny_pure ?_)
      simp only [Bool.not_false, if_true]
      exact wpAny_pure (wpAny_pure (h _))
  · obtain ⟨r1, r2⟩ := r
    obtain ⟨rfl, _⟩ := hh
    cases r1 with
    | none => exact wpAny_pure (h _)
    | some c => exact wpAny_pure (h _)
/-- flat tuples as a kind of elements -/
def flatSK (P : Program) (w : World) : SK P w (List Key) where
  is := fun h k b => IsF P w h k b
  hash := tupleKeyHash (mixKind P w)
  draws := (tupleKind (mixKind P w)).draws
  room := fun A => A.units < cLine
  inj := fun x y => x.inj y
  stay := fun {h h' k a b o es ep t} x ho hd hs => by
    obtain ⟨o', xs, n, ho', hc, hd', hi⟩ := x
    have ne : b ≠ a := by
      rintro rfl
      rw [ho] at ho'
      cases ho'
      rw [hd] at hd'
      cases hd'
    exact ⟨o', xs, n, (hs.2 b ne).trans ho', hc, hd', hi⟩
  keep := fun x k => by
    obtain ⟨o, xs, n, ho, r⟩ := x
    exact ⟨o, xs, n, k _ o ho, r⟩
  hashes := fun hr x q => (tupleKind (mixKind P w)).pyHash hr x q
  eqs := fun hr x y q => (tupleKind (mixKind P w)).eqBool hr x y q
  plain := fun x q => flat_byVal x q
  calm := fun {A E s k b ys Q} x all q => by
    unfold searchCouldBeSeen
    refine wpAny_bind ?_
    refine wpAny_forIn_list _ (fun rest r s' => r.1 = none ∧ s' = s ∧ ∀ y ∈ rest, ∃ k' c, y = .ref c ∧ IsF P w s.heap k' c) _ (fun v rest r s' hh => ?_) (fun r s' hh => ?_) _ _ ⟨rfl, rfl, all⟩
    · obtain ⟨hr, rfl, hall⟩ := hh
      obtain ⟨k', c, rfl, hc⟩ := hall v List.mem_cons_self
      have left : ∀ y ∈ rest, ∃ k' c, y = .ref c ∧ IsF P w s'.heap k' c := fun u hu => hall u (List.mem_cons_of_mem _ hu)
      dsimp only
      by_cases hv : (b == c || (carriedByValue (.ref b) && carriedByValue (.ref c))) = true
      · exact wp_if_pos hv (wpAny_pure ⟨rfl, rfl, left⟩)
      · refine wp_if_neg hv (wpAny_bind ((tupleKind (mixKind P w)).quiet x ?_))
        simp only [Bool.not_true, Bool.false_eq_true, if_false]
        refine wpAny_bind ((tupleKind (mixKind P w)).quiet hc ?_)
        simp only [Bool.not_true, Bool.false_eq_true, if_false]
        refine wpAny_bind (flat_noClass x ?_)
        simp only [Bool.false_eq_true, if_false]
        refine wpAny_bind (flat_noClass hc ?_)
        simp only [Bool.false_eq_true, if_false]
        exact wpAny_pure ⟨rfl, rfl, left⟩
    · obtain ⟨r1, r2⟩ := r
      obtain ⟨hr, rfl, _⟩ := hh
      dsimp only at hr
      subst hr
      exact wpAny_pure q
end

/-! ### the order of flat tuples -/
def kLe : List Key → List Key → Bool := dataLe false tD
theorem toks_inj : ∀ {a b : List Key}, keyToksAll (a.map kD) = keyToksAll (b.map kD) → a = b
  | [], [], _ => rfl
  | [], y :: b, h => by simp [keyToksAll] at h
  | x :: a, [], h => by simp [keyToksAll] at h
  | x :: a, y :: b, h => by
    simp only [List.map_cons, keyToksAll] at h
    injection h with _ h
    cases x with
    | inl i =>
      cases y with
      | inl j =>
        simp only [kD, keyToks, List.cons_append, List.nil_append] at h
        injection h with h1 h2
        cases h1
        rw [toks_inj h2]
      | inr j =>
        simp only [kD, keyToks, List.cons_append, List.nil_append] at h
        injection h with h1 _
        cases h1
    | inr i =>
      cases y with
      | inl j =>
        simp only [kD, keyToks, List.cons_append, List.nil_append] at h
        injection h with h1 _
        cases h1
      | inr j =>
        simp only [kD, keyToks, List.cons_append, List.nil_append] at h
        injection h with h1 h2
        injection h1 with h1
        rw [toks_inj h2, PySem.W.str_of_cps h1]
theorem kLe_eq (a b : List Key) : kLe a b = !dataLt (tD b) (tD a) := by
  unfold kLe
  rw [PySem.W.dataLe_eq]
  rfl
theorem kLt_eq (a b : List Key) : dataLt (tD a) (tD b) = lexLt PyProof.Rows.itemOrd (keyToksAll (a.map kD)) (keyToksAll (b.map kD)) := PySem.W.dataLt_tuple _ _
theorem kLe_anti {a b : List Key} (h1 : kLe a b = true) (h2 : kLe b a = true) : a = b := by
  rw [kLe_eq, Bool.not_eq_true', kLt_eq] at h1 h2
  exact toks_inj (PyProof.Rows.lex_total _ _ h2 h1)
theorem kLe_total (a b : List Key) : (kLe a b || kLe b a) = true := by
  rw [kLe_eq, kLe_eq, kLt_eq, kLt_eq]
  cases h1 : lexLt PyProof.Rows.itemOrd (keyToksAll (b.map kD)) (keyToksAll (a.map kD)) with
  | false => rfl
  | true =>
    cases h2 : lexLt PyProof.Rows.itemOrd (keyToksAll (a.map kD)) (keyToksAll (b.map kD)) with
    | false => rfl
    | true =>
      have := PyProof.Rows.lex_trans _ _ _ h1 h2
      rw [PyProof.Rows.lex_irrefl] at this
      cases this
theorem kLe_trans (a b c : List Key) (h1 : kLe a b = true) (h2 : kLe b c = true) : kLe a c = true := by
  rw [kLe_eq, Bool.not_eq_true', kLt_eq] at *
  cases h : lexLt PyProof.Rows.itemOrd (keyToksAll (c.map kD)) (keyToksAll (a.map kD)) with
  | false => rfl
  | true =>
    rcases PyProof.Rows.lex_negTrans _ (keyToksAll (b.map kD)) _ h with z | z
    · rw [h2] at z; cases z
    · rw [h1] at z; cases z
theorem sort_same {a b : List (List Key)} (h : a.Perm b) : a.mergeSort kLe = b.mergeSort kLe := by
  refine List.Perm.eq_of_pairwise (le := fun x y => kLe x y = true) (fun x y _ _ => kLe_anti) (List.pairwise_mergeSort kLe_trans kLe_total a) (List.pairwise_mergeSort kLe_trans kLe_total b) ?_
  exact ((List.mergeSort_perm a kLe).trans h).trans (List.mergeSort_perm b kLe).symm
/-- the distinct ones -/
def memK (k : List Key) : List (List Key) → Bool
  | [] => false
  | x :: r => decide (k = x) || memK k r
theorem memK_iff {k : List Key} : ∀ {l : List (List Key)}, memK k l = true ↔ k ∈ l
  | [] => by simp [memK]
  | x :: r => by rw [memK, Bool.or_eq_true, decide_eq_true_eq, memK_iff (l := r), List.mem_cons]
def uniq : List (List Key) → List (List Key)
  | [] => []
  | k :: r => if memK k r = true then uniq r else k :: uniq r
theorem mem_uniq {k : List Key} : ∀ {l : List (List Key)}, k ∈ uniq l ↔ k ∈ l
  | [] => Iff.rfl
  | x :: r => by
    unfold uniq
    by_cases h : memK x r = true
    · rw [if_pos h, mem_uniq (l := r), List.mem_cons]
      exact ⟨.inr, fun z => z.elim (fun e => e ▸ memK_iff.mp h) id⟩
    · rw [if_neg h, List.mem_cons, List.mem_cons, mem_uniq (l := r)]
theorem nodup_uniq : ∀ l : List (List Key), (uniq l).Nodup
  | [] => .nil
  | x :: r => by
    unfold uniq
    by_cases h : memK x r = true
    · rw [if_pos h]; exact nodup_uniq r
    · rw [if_neg h]
      exact List.nodup_cons.mpr ⟨fun z => h (memK_iff.mpr (mem_uniq.mp z)), nodup_uniq r⟩
/-- .. in order -/
def sortSet (ks : List (List Key)) : List (List Key) := (uniq ks).mergeSort kLe
theorem sortSet_of {ks : List (List Key)} {L : List (List Key)} (nd : L.Nodup) (h : ∀ k, k ∈ L ↔ k ∈ ks) : L.mergeSort kLe = sortSet ks :=
  sort_same ((List.perm_ext_iff_of_nodup nd (nodup_uniq ks)).mpr fun k => by rw [h k, mem_uniq])
theorem mem_sortSet {k : List Key} {ks : List (List Key)} : k ∈ sortSet ks ↔ k ∈ ks := by
  unfold sortSet
  rw [(List.mergeSort_perm _ _).mem_iff, mem_uniq]
/-- sorted(set(xs)) of data -/
def dSortSet : PyData → Option (List PyData)
  | .list xs => (flatsD xs).bind fun ks => if ks.length < 64 ∧ (ks.all fun a => ks.all fun b => alike (tD a) (tD b)) = true ∧ (ks.all fun a => !a.isEmpty) = true then some ((sortSet ks).map tD) else none
  | _ => none
section
variable {X : Cx}
theorem Dp.isF {pins : List (Addr × Obj)} {σ : St} {G H : Hp} {s : Shared} (I : Inv X pins σ H s) (sb : Sub G H) {v : V} {k : List Key} (h : Dp X.K G v (tD k)) : ∃ b, v = .ref b ∧ IsF X.prog X.w s.heap k b := by
  obtain ⟨b, vs, rfl, hq, hv⟩ := Dp.tupE h
  obtain ⟨its, r, ⟨o, ho, hc, n, hd⟩, hz⟩ := I.tuple (SqT.mono sb hq)
  refine ⟨b, rfl, o, its.toArray, n, ho, hc, hd, ?_⟩
  show ItemsAre (mixKind X.prog X.w) k its
  clear ho hd hq h hz
  induction k generalizing vs its with
  | nil =>
    cases hv
    cases r
    exact .nil
  | cons x k ih =>
    cases hv with
    | cons h1 h2 =>
      cases r with
      | cons r1 r2 =>
        refine .cons ?_ (ih _ h2 _ r2)
        cases x with
        | inl i => cases h1; obtain ⟨t, rfl⟩ := r1; exact keyIs_int i t
        | inr x => cases h1; obtain ⟨t, rfl⟩ := r1; exact keyIs_str x t
theorem flats_refs {pins : List (Addr × Obj)} {σ : St} {G H : Hp} {s : Shared} (I : Inv X pins σ H s) (sb : Sub G H) : ∀ {vs : List V} {us : List Value} {ks : List (List Key)}, DpAll X.K G vs (ks.map tD) → Vals vs us →
    ∃ ps : Els (List Key), us = ps.map (fun p => Value.ref p.1) ∧ ps.map (·.2) = ks ∧ (∀ p ∈ ps, IsF X.prog X.w s.heap p.2 p.1) ∧ vs = ps.map (fun p => V.ref p.1)
  | _, _, [], .nil, .nil => ⟨[], rfl, rfl, fun p hp => (by cases hp), rfl⟩
  | _, _, k :: ks, .cons h t, .cons r rr => by
    obtain ⟨b, rfl, hb⟩ := Dp.isF I sb h
    obtain ⟨ps, e1, e2, e3, e4⟩ := flats_refs I sb t rr
    cases r
    refine ⟨(b, k) :: ps, by rw [e1]; rfl, by rw [List.map_cons, e2], fun p hp => ?_, by rw [e4]; rfl⟩
    rcases List.mem_cons.mp hp with rfl | hp
    · exact hb
    · exact e3 p hp
end
end ML
set_option maxRecDepth 100000
set_option maxHeartbeats 4000000
namespace ML
open PySem L2
open PySem.W (dataLe AllAlike Sortable EachIs alike)
open PyProof.Rows (kind_sorted plain_sorted entry_sorted args_sorted1 seqObj sortedHeap sortedHeap_at sortedHeap_old)
section
variable {P : Program} {w : World} {A : Around} {E : Value → Shared → Prop} {s : Shared}
theorem reads_keys {h : Heap} : ∀ {k : List Key} {vs : List Value}, ItemsAre (mixKind P w) k vs → ∃ as, ReadsAll h vs (k.map kD) as ∧ as = []
  | _, _, .nil => ⟨_, .nil, rfl⟩
  | _, _, .cons h1 t => by
    obtain ⟨as, r, rfl⟩ := reads_keys (h := h) t
    rcases keyIs_shape h1 with ⟨i, t, rfl, rfl⟩ | ⟨x, t, rfl, rfl⟩
    · exact ⟨_, .cons (.int i t) r, rfl⟩
    · exact ⟨_, .cons (.str x t) r, rfl⟩
theorem reads_flat {h : Heap} {k : List Key} {b : Addr} (x : IsF P w h k b) : Reads h (.ref b) (tD k) [] := by
  obtain ⟨o, xs, n, ho, hc, hd, hi⟩ := x
  obtain ⟨as, r, rfl⟩ := reads_keys (P := P) (w := w) (h := h) hi
  exact .tuple ho hc hd r
theorem depth_flat (k : List Key) : (tD k).depth ≤ 1 := by
  have key : ∀ k : List Key, PyData.depthAll (k.map kD) = 0 := by
    intro k
    induction k with
    | nil => rfl
    | cons x k ih => cases x <;> simp [PyData.depthAll, kD, PyData.depth, ih]
  show PyData.depthAll (k.map kD) + 1 ≤ 1
  rw [key]
  omega
theorem each_of {R : Value → (Addr × List Key) → Prop} : ∀ {vs : List Value} {bs : Els (List Key)}, vs = bs.map (fun p => Value.ref p.1) → (∀ p ∈ bs, R (.ref p.1) p) → EachIs R vs bs
  | _, [], rfl, _ => .nil
  | _, p :: bs, rfl, h => .cons (h p List.mem_cons_self) (each_of rfl fun q hq => h q (List.mem_cons_of_mem _ hq))
theorem each_refs : ∀ {vs : List Value} {bs : Els (List Key)}, EachIs (fun v (p : Addr × List Key) => v = Value.ref p.1) vs bs → vs = bs.map fun p => Value.ref p.1
  | _, _, .nil => rfl
  | _, _, .cons h t => by rw [h, each_refs t]; rfl
/-- sorted(set) -/
theorem sorted_setN {a : Addr} {L : Els (List Key)} {es : Array (Int × Value)} {ep : Nat} {t : SetTable} {Q : Value → Shared → Prop} (N : NS (flatSK P w) s.heap a L es ep t) (calm : A.handled = none) (room : A.units + 8 < cLine)
    (al : ∀ p ∈ L, ∀ q ∈ L, alike (tD p.2) (tD q.2) = true) (ne : ∀ p ∈ L, p.2 ≠ [])
    (q : ∀ s' p (out : Array Value) (c : Nat) (L' : Els (List Key)), (∀ b o, s.heap.get? b = some o → s'.heap.get? b = some o) → s'.gens = s.gens → s'.os = s.os → s.heap.objs.size ≤ p →
      s'.heap.get? p = some (seqObj "list" out c) → out.toList = L'.map (fun r => Value.ref r.1) → L'.Perm L → L'.map (·.2) = (L.map (·.2)).mergeSort kLe → Q (.ref p) s') :
    wpAny (model P w) A (call (.builtin "sorted") [.ref a]) Q E s := by
  obtain ⟨o, ho, hx, hd⟩ := N.ob
  have small := N.small
  have len := N.len
  refine Calls.call_function_entry kind_sorted plain_sorted entry_sorted (args_sorted1 _) ?_
  unfold Builtin.«sorted»
  refine wpAny_bind (m := checkCount "sorted" 1 1 _) (wpAny_pure ?_)
  refine wpAny_bind (collect_set (A := A.in1) calm ⟨o, ho, hx.1, hd⟩ N.fit (by unfold scanBound; omega) N.tb.ris N.how fun s1 vs k1 z1 g1 o1 pm => ?_)
  have een : es.toList.map (·.2) = L.map fun p => Value.ref p.1 := by
    rw [N.en]
    unfold entries
    rw [List.map_map]
    rfl
  rw [een] at pm
  -- the values as elements
  have one : ∀ p ∈ L, ∀ r ∈ L, p.1 = r.1 → p = r := fun p hp r hr e => by
    have x := N.each p hp
    rw [e] at x
    exact Prod.ext e ((flatSK P w).inj x (N.each r hr))
  obtain ⟨L1, e1, pL⟩ : ∃ L1 : Els (List Key), vs = L1.map (fun p => Value.ref p.1) ∧ L1.Perm L := by
    have key : ∀ vs : List Value, (∀ v ∈ vs, ∃ p ∈ L, v = Value.ref p.1) → ∃ L1 : Els (List Key), vs = L1.map (fun p => Value.ref p.1) ∧ ∀ p ∈ L1, p ∈ L := by
      intro vs
      induction vs with
      | nil => exact fun _ => ⟨[], rfl, fun p hp => (by cases hp)⟩
      | cons v vs ih =>
        intro hv
        obtain ⟨p, hp, rfl⟩ := hv v List.mem_cons_self
        obtain ⟨L1, rfl, h2⟩ := ih fun u hu => hv u (List.mem_cons_of_mem _ hu)
        exact ⟨p :: L1, rfl, fun r hr => (List.mem_cons.mp hr).elim (fun e => e ▸ hp) (h2 r)⟩
    obtain ⟨L1, e1, h1⟩ := key vs fun v hv => by
      obtain ⟨p, hp, e⟩ := List.mem_map.mp (pm.mem_iff.mp hv)
      exact ⟨p, hp, e.symm⟩
    refine ⟨L1, e1, ?_⟩
    have nL : L.Nodup := List.Pairwise.of_map (·.2) (fun _ _ hne e => hne (congrArg _ e)) N.dist
    have nV : (L.map fun p => Value.ref p.1).Nodup := List.pairwise_map.mpr (List.Pairwise.imp_of_mem (fun {p r} hp hr hne e => by injection e with e; exact hne (one p hp r hr e)) nL)
    have n1 : L1.Nodup := List.Pairwise.of_map (fun p => Value.ref p.1) (fun _ _ hne e => hne (congrArg (fun p => Value.ref p.1) e)) (e1 ▸ pm.nodup_iff.mpr nV)
    refine (List.perm_ext_iff_of_nodup n1 nL).mpr fun p => ⟨h1 p, fun hp => ?_⟩
    have m : Value.ref p.1 ∈ L1.map fun p => Value.ref p.1 := by
      rw [← e1]
      exact pm.mem_iff.mpr (List.mem_map.mpr ⟨p, hp, rfl⟩)
    obtain ⟨r, hr, e⟩ := List.mem_map.mp m
    injection e with e
    rw [← one r (h1 r hr) p hp e]
    exact hr
  have vl : vs.length = L.length := by rw [e1, List.length_map, pL.length_eq]
  refine wpAny_bind (wpAny_newList ?_ (by rw [vl, sizeLine_eq]; omega))
  have gL : (s1.heap.push (seqObj "list" vs.toArray 0)).get? s1.heap.objs.size = some (seqObj "list" vs.toArray 0) := Heap.get?_push_size _ rfl
  have up : ∀ b u, s.heap.get? b = some u → (s1.heap.push (seqObj "list" vs.toArray 0)).get? b = some u := fun b u e => Heap.get?_push_of_some _ (k1 b u e)
  have here : ∀ p ∈ L1, IsF P w (s1.heap.push (seqObj "list" vs.toArray 0)) p.2 p.1 := fun p hp => (flatSK P w).keep (N.each p (pL.mem_iff.mp hp)) up
  have alk : AllAlike (L1.map fun p => tD p.2) := fun d hd d' hd' => by
    obtain ⟨p, hp, rfl⟩ := List.mem_map.mp hd
    obtain ⟨r, hr, rfl⟩ := List.mem_map.mp hd'
    exact al p (pL.mem_iff.mp hp) r (pL.mem_iff.mp hr)
  have srt : Sortable (L1.map fun p => tD p.2) := .inl fun d hd => by
    obtain ⟨p, hp, rfl⟩ := List.mem_map.mp hd
    have := ne p (pL.mem_iff.mp hp)
    cases hk : p.2 with
    | nil => exact absurd hk this
    | cons x r => exact ⟨kD x, r.map kD, rfl⟩
  refine wpAny_bind (wpAny_holding (PySem.W.list_sort_data (A := A.in1) (s := { s1 with heap := s1.heap.push (seqObj "list" vs.toArray 0) }) (enc := fun p : Addr × List Key => tD p.2) (R := fun v (p : Addr × List Key) => v = Value.ref p.1) gL (each_of e1 fun p _ => rfl) (each_of e1 fun p hp => ⟨[], reads_flat (here p hp), by simp⟩) alk srt
    (by rw [pL.length_eq, sizeLine_eq]; omega) (fun p _ => by have := depth_flat p.2; show A.units + 1 + 1 + (tD p.2).depth < cLine; omega) fun out lo eo => ?_))
  obtain ⟨c, hc⟩ := sortedHeap_at (vs := vs) (out := out.toArray) gL
  refine wpAny_pure ⟨_, rfl, q _ s1.heap.objs.size out.toArray c (L1.mergeSort (dataLe false fun p => tD p.2)) (fun b u e => ?_) g1 o1 z1 hc (each_refs eo) ((List.mergeSort_perm _ _).trans pL) ?_⟩
  · have e2 := k1 b u e
    have lt := Heap.lt_size e2
    show (sortedHeap (s1.heap.push (seqObj "list" vs.toArray 0)) s1.heap.objs.size vs out.toArray).get? b = some u
    rw [sortedHeap_old (Nat.ne_of_lt lt) (by rw [Heap.size_push]; exact Nat.lt_succ_of_lt lt)]
    exact Heap.get?_push_of_some _ e2
  · have pw : ((L1.mergeSort (dataLe false fun p => tD p.2)).map (·.2)).Pairwise fun x y => kLe x y = true :=
      List.pairwise_map.mpr (List.pairwise_mergeSort (le := dataLe false fun p : Addr × List Key => tD p.2) (fun a b c => kLe_trans a.2 b.2 c.2) (fun a b => kLe_total a.2 b.2) L1)
    refine List.Perm.eq_of_pairwise (le := fun x y => kLe x y = true) (fun x y _ _ => kLe_anti) pw (List.pairwise_mergeSort kLe_trans kLe_total _) ?_
    exact ((((List.mergeSort_perm _ _).trans pL).map (·.2))).trans (List.mergeSort_perm _ _).symm
end
section
variable {X : Cx} {W : WX} {k : Nat} {e : Expr} {p1 p2 pos pos2 : Pos}
theorem vals_refs : ∀ (l : Els (List Key)), Vals (l.map fun p => V.ref p.1) (l.map fun p => Value.ref p.1)
  | [] => .nil
  | p :: l => .cons (show RelV (V.ref p.1) (Value.ref p.1) from rfl) (vals_refs l)
theorem dp_at {K : PySem.W.Frag} {G1 : Hp} : ∀ {ps : Els (List Key)}, DpAll K G1 (ps.map fun p => V.ref p.1) (ps.map fun p => tD p.2) → ∀ p ∈ ps, Dp K G1 (.ref p.1) (tD p.2)
  | [], _, p, hp => (by cases hp)
  | r :: ps, h, p, hp => by
    cases h with
    | cons h t =>
      rcases List.mem_cons.mp hp with rfl | hp
      · exact h
      · exact dp_at t p hp
theorem mn_sortSet {f : En → Rs PyData} (c : Mc X W k) (h : ME X W e f) (hms : X.mg "sorted" = none) (hmt : X.mg "set" = none) (hg : Gl X "sorted" := by rfl) (hgt : Gl X "set" := by rfl)
    (he : starEach [e] X.env = (false, eval e X.env) :: starEach [] X.env := by rfl)
    (he2 : starEach [.Call (.Name "set" p2) [e] [] pos2] X.env = (false, eval (.Call (.Name "set" p2) [e] [] pos2) X.env) :: starEach [] X.env := by rfl) :
    MN X W (.Call (.Name "sorted" p1) [.Call (.Name "set" p2) [e] [] pos2] [] pos) (fun ρ => (f ρ).bind fun d ρ1 => ofO (dSortSet d) ρ1) := fun B => ⟨fun pins s σ H Q I ⟨ρ, G, a, q⟩ => by
  refine wpAny_Call_Name_kw (ld_blt I hg hms (by decide +kernel : bootBuiltins "sorted" = some (.builtin "sorted")) ?_ (by decide) (by decide))
  refine PyProof.Rows.callWith_builtin1 ?_ he2 rfl
  rw [he2]
  show wpAny _ _ (spliced ((false, eval (.Call (.Name "set" p2) [e] [] pos2) X.env) :: backTo pos (starEach [] X.env))) _ _ _
  refine Calls.spliced_cons (wpAny_Call_Name_kw (ld_blt I hgt hmt (by decide +kernel : bootBuiltins "set" = some (.type "set")) ?_ (by decide) (by decide)))
  refine PyProof.Rows.callWith_type1 ?_ he rfl
  rw [he]
  show wpAny _ _ (spliced ((false, eval e X.env) :: backTo pos2 (starEach [] X.env))) _ _ _
  refine Calls.spliced_cons ?_
  have st : tG X.K X.mg B W (RelD X.K) f σ H fun v H1 => ∃ d ρ1 G1, Ab X.K B ρ1 G1 σ H1 ∧ Dp X.K G1 v d ∧ PstN X.K X.mg B W G1 σ Q (ofO (dSortSet d) ρ1) :=
    PstN.bind a q fun d ρ1 v G1 H1 _ a1 _ r1 p1 => ⟨d, ρ1, G1, a1, r1, p1⟩
  refine thn ((h B).run pins s σ H _ I st) fun u s1 ⟨v, H1, I1, rv, d, ρ1, G1, a1, r1, q1⟩ => Calls.spliced_nil ?_
  cases d with
  | list xs =>
    unfold dSortSet at q1
    simp only at q1
    cases hf : flatsD xs with
    | none => rw [hf] at q1; exact q1.elim
    | some ks =>
      rw [hf, Option.bind_some] at q1
      split at q1
      · rename_i cond
        obtain ⟨few, al, ne⟩ := cond
        obtain ⟨l, us, rfl, hl, hu⟩ := Dp.lstE r1
        cases rv
        obtain ⟨its, rr, pl, hz⟩ := I1.list (SqL.mono a1.fz hl)
        rw [flatsD_eq hf] at hu
        obtain ⟨ps, e1, e2, e3, e4⟩ := flats_refs I1 a1.fz hu rr
        have hu64 := c.hu
        have lps : ps.length = ks.length := by rw [← e2, List.length_map]
        refine call_setN (S := flatSK X.prog X.w) ps (I1.ok.hd c.calm) pl.isList (by simpa using e1) e3 (by omega) (by show X.A.units + 1 + 1 + 1 < cLine; omega) fun h' tk L es ep t N cm kp => Calls.spliced_nil ?_
        have mem : ∀ k, k ∈ L.map (·.2) ↔ k ∈ ks := fun k => by
          rw [← e2]
          constructor
          · intro hk
            obtain ⟨p, hp, rfl⟩ := List.mem_map.mp hk
            exact List.mem_map.mpr ⟨p, List.mem_of_mem_take (cm.from_ p hp), rfl⟩
          · intro hk
            obtain ⟨p, hp, rfl⟩ := List.mem_map.mp hk
            exact cm.all p (by rw [List.take_length]; exact hp)
        have memK : ∀ p ∈ L, p.2 ∈ ks := fun p hp => (mem p.2).mp (List.mem_map.mpr ⟨p, hp, rfl⟩)
        have I2 : Inv X pins σ H1 { s1 with heap := h', toks := tk } := I1.kept kp
        refine sorted_setN (s := { s1 with heap := h', toks := tk }) N (I1.ok.hd c.calm) (by omega) (fun p hp r hr => ?_) (fun p hp => ?_) fun s' q out cc L' kq gg oo sz hq ho pm ss => ?_
        · exact List.all_eq_true.mp (List.all_eq_true.mp al _ (memK p hp)) _ (memK r hr)
        · have := List.all_eq_true.mp ne _ (memK p hp)
          intro z
          rw [z] at this
          cases this
        · have hn : H1 q = none := I2.hok.fresh sz
          have hL' : ∀ p ∈ L', p ∈ ps := fun p hp => List.mem_of_mem_take (cm.from_ p (pm.mem_iff.mp hp))
          have hv : Vals (L'.map fun p => V.ref p.1) out.toList := by rw [ho]; exact vals_refs L'
          have small : (L'.map fun p => V.ref p.1).length ≤ sizeLine := by
            have := N.small
            rw [List.length_map, pm.length_eq, sizeLine_eq]
            omega
          have J : Inv X pins σ (upd H1 q (.lst (L'.map fun p => V.ref p.1))) { ({ s1 with heap := h', toks := tk } : Shared) with heap := s'.heap, gens := s'.gens, drawn := s'.drawn, toks := s'.toks } :=
            I2.call (ch := []) (Un.laid kq sz hn) (I2.hok.laid kq sz ⟨small, out.toList, cc, hv, hq⟩) (by rw [gg]; exact I2.bare) (fun _ z => nomatch z)
          have es' : s' = { s1 with heap := s'.heap, gens := s'.gens, drawn := s'.drawn, toks := s'.toks } := by
            cases s'
            cases oo
            rfl
          rw [es']
          have hu' : DpAll X.K G1 (ps.map fun p => V.ref p.1) (ps.map fun p => tD p.2) := by
            rw [← e4]
            have : ps.map (fun p => tD p.2) = ks.map tD := by rw [← e2, List.map_map]; rfl
            rw [this]
            exact hu
          have hd : DpAll X.K G1 (L'.map fun p => V.ref p.1) ((sortSet ks).map tD) := by
            have e5 : (sortSet ks).map tD = L'.map fun p => tD p.2 := by
              rw [← sortSet_of N.dist mem, ← ss, List.map_map]
              rfl
            rw [e5]
            have key : ∀ l : Els (List Key), (∀ p ∈ l, p ∈ ps) → DpAll X.K G1 (l.map fun p => V.ref p.1) (l.map fun p => tD p.2) := by
              intro l
              induction l with
              | nil => exact fun _ => .nil
              | cons p l ih => exact fun hl => .cons (dp_at hu' p (hl p List.mem_cons_self)) (ih fun r hr => hl r (List.mem_cons_of_mem _ hr))
            exact key L' hL'
          obtain ⟨a2, rn⟩ := RelN.fresh a1 hn hd
          exact ⟨.ref q, _, J, rfl, q1 _ G1 _ a2 (Sub.refl _) rn⟩
      · exact q1.elim
  | _ => exact q1.elim⟩
end
end ML
set_option maxRecDepth 100000
set_option maxHeartbeats 4000000
/-! the functions that the rules tell, under short names -/
namespace ML
open PySem L2
section
variable {α : Type}
abbrev cst (d : PyData) : En → Rs PyData := fun ρ => .ok d ρ
abbrev un1 (g : PyData → Option α) (f : En → Rs PyData) : En → Rs α := fun ρ => (f ρ).bind fun d ρ1 => ofO (g d) ρ1
abbrev binN (g : PyData → PyData → Option (List PyData)) (f1 f2 : En → Rs PyData) : En → Rs (List PyData) := fun ρ => (f1 ρ).bind fun d ρ1 => (f2 ρ1).bind fun e ρ2 => ofO (g d e) ρ2
abbrev notV (f : En → Rs PyData) : En → Rs PyData := fun ρ => (f ρ).bind fun d ρ1 => (ofO (boolOf d) ρ1).bind fun b ρ1 => .ok (.bool (!b)) ρ1
abbrev newL (f : En → Rs (List PyData)) : En → Rs PyData := fun ρ => (f ρ).map .list
abbrev tup (g : En → Rs (List PyData)) : En → Rs PyData := fun ρ => (g ρ).bind mkTup
abbrev lst (g : En → Rs (List PyData)) : En → Rs (List PyData) := fun ρ => (g ρ).bind okSize
abbrev slc (f : En → Rs PyData) (fl fh : En → Rs (Option Int)) : En → Rs PyData := fun ρ => (f ρ).bind fun d ρ1 => (fl ρ1).bind fun l ρ2 => (fh ρ2).bind fun h ρ3 => ofO (dSl d l h) ρ3
abbrev oNo : En → Rs (Option Int) := fun ρ => .ok none ρ
abbrev oYes (f : En → Rs PyData) : En → Rs (Option Int) := fun ρ => (f ρ).bind fun d ρ1 => (ofO (intOf d) ρ1).bind fun i ρ1 => .ok (some i) ρ1
abbrev aNil : En → Rs (List PyData) := fun ρ => .ok [] ρ
abbrev aCons (f : En → Rs PyData) (g : En → Rs (List PyData)) : En → Rs (List PyData) := fun ρ => (f ρ).bind fun d ρ1 => (g ρ1).bind fun ds ρ2 => .ok (d :: ds) ρ2
abbrev aStar (f : En → Rs PyData) (g : En → Rs (List PyData)) : En → Rs (List PyData) := fun ρ => (f ρ).bind fun d ρ1 => (ofO (itemsOf d) ρ1).bind fun xs ρ1 => (g ρ1).bind fun ds ρ2 => .ok (xs ++ ds) ρ2
abbrev callF (F : List PyData → Rt) (g : En → Rs (List PyData)) : En → Rs PyData := fun ρ => (g ρ).bind fun ds ρ1 => callR (F ds) ρ1
abbrev tval (f : En → Rs PyData) : En → Rs Bool := fun ρ => (f ρ).bind fun d ρ1 => ofO (boolOf d) ρ1
abbrev notT (f : En → Rs Bool) : En → Rs Bool := fun ρ => (f ρ).bind fun b ρ1 => .ok (!b) ρ1
abbrev tYes' : En → Rs Bool := fun ρ => .ok true ρ
abbrev argI (g : List PyData → Option (List PyData)) (f : En → Rs (List PyData)) : En → Rs (List PyData) := fun ρ => (f ρ).bind fun ds ρ1 => ofO (g ds) ρ1
abbrev setS (i : Nat) (f : En → Rs PyData) : En → Ot := fun ρ => (f ρ).st fun d ρ1 => .next (ρ1.set i (.dat d))
abbrev setNS (i : Nat) (f : En → Rs (List PyData)) : En → Ot := fun ρ => (f ρ).st fun d ρ1 => .next (ρ1.set i (.own d))
abbrev asgS (f : En → Rs PyData) (t : Tgt) : En → Ot := fun ρ => (f ρ).st fun d ρ1 => match t d ρ1 with | some ρ2 => .next ρ2 | none => .bad
abbrev retS (f : En → Rs PyData) : En → Ot := fun ρ => (f ρ).st fun d ρ1 => .ret d ρ1
abbrev exprS (f : En → Rs PyData) : En → Ot := fun ρ => (f ρ).st fun _ ρ1 => .next ρ1
abbrev forS (f : En → Rs (List PyData)) (t : Tgt) (g : En → Ot) : En → Ot := fun ρ => (f ρ).st fun ds ρ1 => forF t g ds ρ1
end
/-- len(x) of a list's name: the list stays the def's own -/
def lenV (i : Nat) (ρ : En) : Rs PyData := (ofO (lstAt ρ i) ρ).bind fun xs ρ => .ok (.int xs.length) ρ
section
variable {X : Cx} {W : WX} {k : Nat} {x : Str} {p px pos : Pos}
theorem me_lenV (i : Nat) (hm : X.mg "len" = none) (hN : X.N[i]? = some x := by rfl) (hv : Vis X.env.scope x := by first | exact .inl rfl | exact .inr (.inl rfl) | exact .inr (.inr rfl)) (hd : (x == ("__debug__" : Str)) = false := by decide) (hcd : (x == ("__classdict__" : Str)) = false := by decide)
    (hg : Gl X "len" := by rfl) (he : starEach [.Name x px] X.env = (false, eval (.Name x px) X.env) :: starEach [] X.env := by rfl) (hpl : (backTo pos (starEach [] X.env)).any (·.1) = false := by rfl) : ME X W (.Call (.Name "len" p) [.Name x px] [] pos) (lenV i) := fun B =>
  PE.imp (pe_callB call_len_seq hg hm boot_len (pa_cons (pe_var hN hv hd hcd) pa_nil he) (by decide) (by decide) he hpl) fun σ H Q ⟨ρ, G, a, q⟩ => by
    unfold lenV at q
    cases h0 : lstAt ρ i with
    | none => rw [h0] at q; exact q.elim
    | some xs =>
      rw [h0] at q
      obtain ⟨l, us, h1, h2, h3⟩ := a.lst h0
      exact ⟨_, h1, l, us, rfl, .inl h2, by rw [DpAll.length h3]; exact q _ G H a (Sub.refl _) (.int _)⟩
end
end ML
set_option maxRecDepth 100000
set_option maxHeartbeats 4000000
/-! the law's end: from the promise of the def that is the law to what the row asks -/
namespace ML
open PySem L2
open PyProof.Rows (IntsAre AllBare)
section
variable {P : Program} {w : World} {K : PySem.W.Frag} {mg mb : Str → Option Value} {k : Nat} {fa a : Addr} {fd : FuncData} {x : Str} {sp : Sp} {s : Shared} {vs : List Value} {ns : List Int}
/-- from an abstract heap that tracks the script alone, or nothing -/
theorem end_at (KX : K.In s.heap) (gl : s.heap.Ns mainGlobals mg) (bl : s.heap.Ns builtinsNs mb) (bb : ∀ x : Str, x ≠ "__name__" → mb x = bootBuiltins x) (nl : s.heap.NoLimit) (ng : s.gens = #[])
    (ha : s.heap.get? a = some { cls := .type "list", data := .seq vs.toArray }) (hr : Room k callerA) (F : ∀ base : Heap, K.In base → base.Ns mainGlobals mg → FnG P w K mg base k fa fd [x] sp)
    (bind : ∀ (s : Shared) (u : Value), BindsTo s fd ⟨[u], []⟩ [(x, u)]) {H : Hp} (only : ∀ b u, H b = some u → b = a ∧ ∃ o xs, u = .frz o (.lst xs)) (hok : HOk P w H s.heap) (nK : H a ≠ none → K.lookup a = none)
    (hsp : sp [.ref a] H (fun v _ => v = .bl true) fun _ _ _ => False) :
    codeAny (model P w) callerA (.call (.ref fa) ⟨[.ref a], []⟩) (fun r s' => r = .ok (.ret (.bool true)) ∧ OldK s.heap s'.heap ∧ s'.os = s.os ∧ AllBare s'.gens) s := by
  have keepB : ∀ {b : Addr} {o : Obj}, s.heap.get? b = some o → H b = none → (hidT s.heap H).get? b = some o := fun e n => hidT_get e n
  have noDict : ∀ {b : Addr} {o : Obj} {es : Array DictEntry} {ep : Nat}, s.heap.get? b = some o → o.data = .dict es ep → H b = none := fun {b o es ep} e d => by
    cases z : H b with
    | none => rfl
    | some u =>
      obtain ⟨rfl, _⟩ := only b u z
      rw [ha] at e
      cases e
      cases d
  have ns' : ∀ {b : Addr} {m : Str → Option Value}, s.heap.Ns b m → (hidT s.heap H).Ns b m := fun ⟨o, es, ep, e, d, r⟩ => ⟨o, es, ep, keepB e (noDict e d), d, r⟩
  have KB : K.In (hidT s.heap H) := fun b o e => keepB (KX b o e) (by
    cases z : H b with
    | none => rfl
    | some u =>
      obtain ⟨rfl, _⟩ := only b u z
      rw [nK (by rw [z]; nofun)] at e
      cases e)
  have M : Mod K mg (hidT s.heap H) := ⟨KB, ns' gl, ⟨mb, ns' bl, bb⟩, nl.imp fun _ h => ⟨ns' h.1, h.2⟩⟩
  have e0 : Env0 P w K mg (hidT s.heap H) callerA [] s H := ⟨rfl, M, fun b o e => of_hidT e, Nat.le_of_eq (hidT_size _ _), trivial, fun b hb => absurd (show b ∈ ([] : List Addr) from hb) (by simp), hok, .of_eq ng⟩
  have go := (F _ KB (ns' gl)).go callerA [] s H ⟨[.ref a], []⟩ [.ref a] [.ref a] _ _ hr rfl e0 (bind s (.ref a)) (.cons rfl .nil) hsp
  refine codeAny_mono go fun r s' h => ?_
  match r, h with
  | .error _, ⟨_, _, _, _, _, _, _, _, _, _, _, _, z⟩ => exact z.elim
  | .ok (.ret u), ⟨v, H', os, bare, un, hok', r', q⟩ =>
    have q : v = .bl true := q
    subst q
    obtain rfl : u = Value.bool true := r'
    refine ⟨rfl, .of_keep fun b o e => ?_, os, bare⟩
    cases z : H b with
    | none => exact un.keep b o e z (fun m => absurd (show b ∈ ([] : List Addr) from m) (by simp)) (by simp)
    | some u =>
      obtain ⟨rfl, ob, xs, rfl⟩ := only b u z
      obtain ⟨e1, _⟩ := hok b _ z
      obtain ⟨e2, _⟩ := hok' b _ (un.frzs b ob _ z)
      rw [e] at e1
      cases e1
      exact e2
theorem end_call (KX : K.In s.heap) (gl : s.heap.Ns mainGlobals mg) (bl : s.heap.Ns builtinsNs mb) (bb : ∀ x : Str, x ≠ "__name__" → mb x = bootBuiltins x) (nl : s.heap.NoLimit) (ng : s.gens = #[])
    (ha : s.heap.get? a = some { cls := .type "list", data := .seq vs.toArray }) (hi : IntsAre vs ns) (small : ns.length ≤ sizeLine) (hr : Room k callerA) (F : ∀ base : Heap, K.In base → base.Ns mainGlobals mg → FnG P w K mg base k fa fd [x] sp)
    (bind : ∀ (s : Shared) (u : Value), BindsTo s fd ⟨[u], []⟩ [(x, u)]) (hsp : ∀ H : Hp, SqL K H a (ns.map V.int) → sp [.ref a] H (fun v _ => v = .bl true) fun _ _ _ => False) :
    codeAny (model P w) callerA (.call (.ref fa) ⟨[.ref a], []⟩) (fun r s' => r = .ok (.ret (.bool true)) ∧ OldK s.heap s'.heap ∧ s'.os = s.os ∧ AllBare s'.gens) s := by
  have rv := vals_ints hi
  cases hk : K.lookup a with
  | some o =>
    have e := KX a o hk
    rw [ha] at e
    cases e
    exact end_at (H := fun _ => none) KX gl bl bb nl ng ha hr F bind (fun b u z => by cases z) (fun b u z => by cases (show (none : Option HO) = some u from z)) (fun z => absurd rfl z)
      (hsp _ (.inr ⟨_, vs.toArray, _, hk, rfl, rfl, rfl, by rw [List.size_toArray, hi.length]; exact small, by simpa using rv⟩))
  | none =>
    let ob : Obj := { cls := .type "list", data := .seq vs.toArray }
    have at_a : (fun b => if b = a then some (HO.frz ob (.lst (ns.map V.int))) else none) a = some (HO.frz ob (.lst (ns.map V.int))) := if_pos rfl
    have sole : ∀ b u, (fun b => if b = a then some (HO.frz ob (.lst (ns.map V.int))) else none) b = some u → b = a ∧ u = HO.frz ob (.lst (ns.map V.int)) := fun b u z => by
      dsimp only at z
      by_cases h : b = a
      · rw [if_pos h] at z
        cases z
        exact ⟨h, rfl⟩
      · rw [if_neg h] at z
        cases z
    refine end_at KX gl bl bb nl ng ha hr F bind (fun b u z => ⟨(sole b u z).1, _, _, (sole b u z).2⟩) (fun b u z => ?_) (fun _ => hk) (hsp _ (.inl (.inr ⟨ob, at_a⟩)))
    obtain ⟨rfl, rfl⟩ := sole b u z
    exact ⟨ha, by rw [List.length_map]; exact small, vs, _, rv, ha⟩
end
/-- a law whose def keeps the promise F on every script of at most n whole numbers -/
theorem walk_end {l : PySem.W.OpenLaw} {n k : Nat} {q : Program} {loose : List Str} {XP : (Str → Option Value) → Heap → Prop} {YP : World → Heap → Prop} {d : DefRec} {x : Str} (hn : l.most = some n) (hn2 : n ≤ sizeLine) (hdf : d.params.defaults = []) (hr : Room k callerA)
    (F : ∀ (w : World) (mg : Str → Option Value) (fa : Addr) (h : Heap), YP w h → h.Ns mainGlobals mg → mg d.name = some (.ref fa) →
      ∃ (K : PySem.W.Frag) (fd : FuncData) (f : List PyData → Rt), K.In h ∧ (∀ (s : Shared) (u : Value), BindsTo s fd ⟨[u], []⟩ [(x, u)]) ∧ (∀ ns : List Int, ns.length ≤ n → f [.list (dInts ns)] = .ok (.bool true)) ∧
        ∀ base : Heap, K.In base → base.Ns mainGlobals mg → FnG l.prog w K mg base k fa fd [x] (spM K mg f)) : PySem.W.WalkO q loose XP YP l.row.toRowW d [] (fun f vs => PySem.call f vs) := by
  refine Att.attach_call hn hdf fun w s₀ s₁ mg mb fa o pm cd doc a vs ns G Y ho hd hcd hmg hobj hints hlen hg => ?_
  obtain ⟨K, fd, f, KX, hb, hf, hF⟩ := F w mg fa _ Y G.T.g hmg
  refine end_call KX G.T.g G.T.b G.T.builtins G.T.nolimit hg hobj hints (Nat.le_trans hlen hn2) hr hF hb fun H hS => ?_
  refine ⟨H, [.list (dInts ns)], Sub.refl H, .cons (.lst hS (DpAll.of_ints ns)) .nil, ?_⟩
  rw [hf ns hlen]
  intro v G' H' x r
  cases r
  rfl
end ML
set_option maxRecDepth 100000
set_option maxHeartbeats 4000000
/-! the head: facts by names, with own errors among them -/
namespace ML
open PySem L2
/-- an error class of the program's own, below Exception -/
def excB : List Value := [.type "Exception", .type "BaseException", .type "object"]
def excOk (K : PySem.W.Frag) (x : Str) : Bool :=
  let C := He.ga K x
  PySem.W.excIn K C excB "Exception.__new__" && (PySem.W.keepIn K (.ref C) && (decide (PySem.W.subIn K (.ref C) (.type "BaseException") = some true) && decide (PySem.W.typeIn K (.ref C) = some (.type "type"))))
def excCOk (K : PySem.W.Frag) (x : Str) : Bool :=
  let C := He.ga K x
  decide (PySem.W.findIn K (.ref C) "__getattribute__" = some (some (.builtin "BaseException.__getattribute__"))) && (decide (PySem.W.findIn K (.ref C) "__getattr__" = some none) && (decide (PySem.W.subIn K (.ref C) (.type "BaseException") = some true) &&
    (PySem.W.hasDictIn K C && (decide (PySem.W.findIn K (.ref C) "__class__" = some (some (.builtin "object.__class__"))) && (decide (PySem.W.specialIn K (.builtin "object.__class__") "__get__" = some (some (.builtin "getset_descriptor.__get__"))) &&
    (decide (PySem.W.takesIn K (.builtin "object.__class__") = some true) && decide (PySem.W.mroIn K C (.type "object") = some true)))))))
def exmOk (K : PySem.W.Frag) (F : Str) (x : Str) : Bool := decide (PySem.W.exmOne K (.ref (He.ga K x)) (.ref (He.ga K F)) = some true)
def kitOk (K : PySem.W.Frag) (x y : Str) (b : Bool) : Bool := decide (PySem.W.kitOne K (.ref (He.ga K x)) (.ref (He.ga K y)) = some b)
/-- all that is asked of the errors: those that are raised (rs), those that isinstance asks of (cs), the class that is caught -/
def errsOk (rs cs : List Str) (F : Str) (K : PySem.W.Frag) : Bool :=
  (rs.all fun x => excOk K x && (excCOk K x && (exmOk K F x && cs.all fun y => kitOk K x y (decide (x = y))))) 
structure ErrOk (K : PySem.W.Frag) (x : Str) : Prop where
  ex : PySem.W.excIn K (He.ga K x) excB "Exception.__new__" = true
  kp : PySem.W.keepIn K (.ref (He.ga K x)) = true
  sb : PySem.W.subIn K (.ref (He.ga K x)) (.type "BaseException") = some true
  ty : PySem.W.typeIn K (.ref (He.ga K x)) = some (.type "type")
  cc : ExcC K (He.ga K x)
theorem errsOk_at {rs cs : List Str} {F : Str} {K : PySem.W.Frag} (h : errsOk rs cs F K = true) {x : Str} (hx : x ∈ rs) : ErrOk K x ∧ PySem.W.exmOne K (.ref (He.ga K x)) (.ref (He.ga K F)) = some true ∧ ∀ y ∈ cs, PySem.W.kitOne K (.ref (He.ga K x)) (.ref (He.ga K y)) = some (decide (x = y)) := by
  have h1 := List.all_eq_true.mp h x hx
  unfold excOk excCOk exmOk kitOk at h1
  simp only [Bool.and_eq_true, decide_eq_true_eq, List.all_eq_true] at h1
  obtain ⟨⟨a1, a2, a3, a4⟩, ⟨b1, b2, b3, b4, b5, b6, b7, b8⟩, c1, c2⟩ := h1
  exact ⟨⟨a1, a2, a3, a4, ⟨b1, b2, b3, b4, b5, b6, b7, b8⟩⟩, c1, c2⟩
abbrev AlX : Type := Bool × He.AlD
def obsX (ck : PySem.W.Frag → Bool) (fa : List He.Fa) (fn : List He.DefD) (n : Nat) (g : Addr → Option Obj) : AlX := (ck (He.frG g (He.asD g n)), He.obsD fa fn (He.frG g (He.asD g n)))
def hookX (n : Nat) (ck : PySem.W.Frag → Bool) (fa : List He.Fa) (fn : List He.DefD) : PySem.W.Hook where
  α := AlX
  obs := fun s => obsX ck fa fn n s.heap.get?
  val := fun _ => (true, He.valD fn)
  says := fun _ h => ∃ K : PySem.W.Frag, K.In h ∧ ck K = true ∧ He.SaysD fa fn K
  of := fun _ _ e => ⟨_, He.frG_in, congrArg Prod.fst e, congrArg Prod.snd e⟩
  keeps := fun _ _ _ ⟨K, hK, c⟩ k => ⟨K, PySem.W.Frag.In.keeps hK k, c⟩
theorem obsX_eq {n : Nat} {ck : PySem.W.Frag → Bool} {fa : List He.Fa} {fn : List He.DefD} {g : Addr → Option Obj} {s : Shared} (h : ∀ a, g a = s.heap.get? a) : obsX ck fa fn n g = (hookX n ck fa fn).obs s := by
  have e : g = s.heap.get? := funext h
  rw [e] <;> rfl
theorem fun_ofD {K : PySem.W.Frag} {x : Str} {st : Stmt} {f : Addr} {fd : FuncData} (F : FunD K x x (defArgs st) (defBody st) (defScope st) [] [] f fd) : Fun K x x st f fd := by
  obtain ⟨oc, od, dV, kV, doc, pm, an, cdv, ct, osl, e, lk, hcd, hD, _⟩ := F.ex
  rcases hD with ⟨_, rfl⟩ | ⟨e, _⟩
  · exact ⟨⟨oc, od, kV, doc, pm, an, cdv, ct, osl, e, lk, hcd⟩, F.kp⟩
  · exact absurd rfl e
end ML
set_option maxRecDepth 100000
set_option maxHeartbeats 4000000
/-! a chain of comparisons as a test -/
namespace ML
open PySem L2
section
variable {X : Cx} {W : WX}
theorem chain_read {g g' : PyData → PyData → Option PyData} {r r' : R2} {f1 f2 f3 : En → Rs PyData} {B : Bs} {σ : St} {H : Hp} {G : Hp} {ρ : En} {Q : V → Hp → Prop}
    (hk : ∀ (G H : Hp) (x y : V) (d e z : PyData) (Q : VK), Sub G H → Dp X.K G x d → Dp X.K G y e → g d e = some z → (∀ v G' H', Ext G H G' H' → Dp X.K G' v z → Q v H') → r x y H Q) (hk' : ∀ (G H : Hp) (x y : V) (d e z : PyData) (Q : VK), Sub G H → Dp X.K G x d → Dp X.K G y e → g' d e = some z → (∀ v G' H', Ext G H G' H' → Dp X.K G' v z → Q v H') → r' x y H Q) (a : Ab X.K B ρ G σ H) (p : Pst X.K X.mg B W (RelD X.K) G σ Q (chain3 g g' f1 f2 f3 ρ)) :
    tChain r r' (tG X.K X.mg B W (RelD X.K) f1) (tG X.K X.mg B W (RelD X.K) f2) (tG X.K X.mg B W (RelD X.K) f3) σ H Q := by
  refine Pst.bind a p fun d ρ1 v G1 H1 _ a1 _ r1 p1 => ?_
  refine Pst.bind a1 p1 fun e ρ2 u G2 H2 _ a2 s2 r2 p2 => ?_
  cases hg : g d e with
  | none => rw [hg] at p2; exact p2.elim
  | some z =>
    rw [hg] at p2
    cases hz : boolOf z with
    | none => rw [Option.bind_some, hz] at p2; exact p2.elim
    | some k =>
      rw [Option.bind_some, hz] at p2
      refine hk G2 H2 v u d e z _ a2.fz (Dp.mono s2 r1) r2 hg fun w G3 H3 x hw => ⟨k, Dp.bool hw hz, ?_⟩
      have a3 := a2.ext x
      cases k with
      | false =>
        rw [if_neg Bool.false_ne_true]
        exact p2 _ G3 H3 a3 x.g (.bl false)
      | true =>
        rw [if_pos rfl]
        have p3 : Pst X.K X.mg B W (RelD X.K) G2 σ Q ((f3 ρ2).bind fun h ρ3 => ofO (g' e h) ρ3) := p2
        have p3 : Pst X.K X.mg B W (RelD X.K) G3 σ Q ((f3 ρ2).bind fun h ρ3 => ofO (g' e h) ρ3) := by
          revert p3
          cases (f3 ρ2).bind fun h ρ3 => ofO (g' e h) ρ3 with
          | bad => exact id
          | err c ρ1 => exact fun z G' H' a' s' => z G' H' a' (x.g.trans s')
          | ok d ρ1 => exact fun z v G' H' a' s' r' => z v G' H' a' (x.g.trans s') r'
        refine Pst.bind a3 p3 fun i ρ4 w4 G4 H4 _ a4 s4 r4 p4 => ?_
        cases hg' : g' e i with
        | none => rw [hg'] at p4; exact p4.elim
        | some z' =>
          rw [hg'] at p4
          exact hk' G4 H4 u w4 e i z' Q a4.fz (Dp.mono (x.g.trans s4) r2) r4 hg' fun w5 G5 H5 x5 hz5 => p4 w5 G5 H5 (a4.ext x5) x5.g hz5
theorem mt_chain {op op' : CmpOp} {g g' : PyData → PyData → Option PyData} {a b c : Expr} {f1 f2 f3 : En → Rs PyData} {pos : Pos} (ho : OpM X (compareOp op) g) (ho' : OpM X (compareOp op') g') (ha : ME X W a f1) (hb : ME X W b f2) (hc : ME X W c f3)
    (hm : lastMarks [op, op'] [b, c] = false := by with_unfolding_all rfl) : MT X W (.Compare a [op, op'] [b, c] pos) (tval (chain3 g g' f1 f2 f3)) := by
  obtain ⟨r, h, hk⟩ := ho
  obtain ⟨r', h', hk'⟩ := ho'
  refine fun B => PT.imp (pt_chain h h' (ha B) (hb B) (hc B) hm) fun σ H Q ⟨ρ, G, a, p⟩ => ?_
  have p' := Pst.bindD (f := chain3 g g' f1 f2 f3) p
  refine chain_read hk hk' a ?_
  revert p'
  cases chain3 g g' f1 f2 f3 ρ with
  | bad => exact id
  | err c ρ1 => exact id
  | ok d ρ1 =>
    intro p' v G1 H1 a1 s1 r1
    obtain ⟨d', ρ', G', a', s', r', p2⟩ := p' v G1 H1 a1 s1 r1
    cases hb : boolOf d' with
    | none => rw [hb] at p2; exact p2.elim
    | some b =>
      rw [hb] at p2
      exact ⟨b, Dp.bool r' hb, p2 b G' H1 a' (Sub.refl _) rfl⟩
end
end ML
set_option maxRecDepth 100000
set_option maxHeartbeats 4000000
/-! enumerate(zip(x, y)) of two tuples: the pair that zip has handed out stays alive, so it makes a new one at each turn; told here for either standing -/
namespace ML
open PySem L2
open RZ (nextOf_tuple_item nextOf_tuple_end)
/-- zip's record; f0 tells the pair that was handed out -/
def ZR (h : Heap) (z TI TO : Addr) (f0 : Value) (f1 : Bool) : Prop :=
  h.get? z = some { cls := .type "zip", dict := none, data := .fields #[f0, .bool f1, .bool false, .ref TI, .ref TO], slots := #[] }
def F0 (f : Value) : Prop := f = .none ∨ ∃ T : Nat, f = rawInt T
section
variable {prog : Program} {w : World} {A : Around} {E : Value → Shared → Prop} {s : Shared}
theorem own_free {z TI TO : Addr} {f0 : Value} {f1 : Bool} {Q : Bool → Shared → Prop} (hz : ZR s.heap z TI TO f0 f1) (hf : F0 f0)
    (ht : Q true s) (hn : ∀ g, ZR g z TI TO f0 true → Heap.SameBut z s.heap g → Q false { s with heap := g }) : wpAny (model prog w) A (Builtin.SmallTypes.ownedTupleIsFree (.ref z)) Q E s := by
  unfold Builtin.SmallTypes.ownedTupleIsFree
  rcases hf with rfl | ⟨T, rfl⟩
  · exact wpAny_bind (wpAny_field hz rfl (x := .none) rfl (wpAny_pure ht))
  · refine wpAny_bind (wpAny_field hz rfl (x := rawInt T) rfl ?_)
    show wpAny _ _ (loadIfAlive (T : Int).toNat >>= _) _ _ s
    have key : ∀ {β : Type} (a : Addr) (k : Option Obj → Sem β) (R : β → Shared → Prop), wpAny (model prog w) A (k (s.heap.get? a)) R E s → wpAny (model prog w) A (loadIfAlive a >>= k) R E s := fun a k R h Γ p hΓ => h Γ p hΓ
    refine key _ _ _ ?_
    cases hT : s.heap.get? (T : Int).toNat with
    | none => exact wpAny_pure ht
    | some o =>
      show wpAny _ _ (field (.ref z) 1 >>= _) _ _ s
      refine wpAny_bind (wpAny_field hz rfl (x := .bool f1) rfl ?_)
      cases f1 with
      | true => exact wpAny_bind (wpAny_pure (wpAny_pure (by
          have := hn s.heap hz ⟨rfl, fun _ _ => rfl⟩
          exact this)))
      | false => exact wpAny_bind (wpAny_setField_rec hz (by simp) fun g hg sb => wpAny_pure (hn g hg sb))
/-- the two draws of the free way and of the other one -/
theorem zipG_item {z TI TO i1 i2 l1 l2 : Addr} {k1 k2 : Nat} {xs ys : Array Value} {x y a b f0 : Value} {f1 : Bool} {Q : Value → Shared → Prop} (D : ZipApart z TI TO i1 i2 l1 l2)
    (hz : ZR s.heap z TI TO f0 f1) (hf : F0 f0) (hTI : IsPair s.heap TI (.ref i1) (.ref i2)) (hTO : IsPair s.heap TO a b)
    (p1 : s.heap.IsTupleIter i1 l1 k1) (p2 : s.heap.IsTupleIter i2 l2 k2) (q1 : s.heap.IsTuple l1 xs) (q2 : s.heap.IsTuple l2 ys) (hx : xs[k1]? = some x) (hy : ys[k2]? = some y)
    (hQ : ∀ g f c u v, F0 f → ZR g z TI TO f c → IsPair g TO u v → g.IsTupleIter i1 l1 (k1 + 1) → g.IsTupleIter i2 l2 (k2 + 1) → IsPair g s.heap.objs.size x y → g.objs.size = s.heap.objs.size + 1 →
      (∀ c o, c ≠ z → c ≠ TO → c ≠ i1 → c ≠ i2 → s.heap.get? c = some o → g.get? c = some o) → Q (.ref s.heap.objs.size) { s with heap := g }) :
    wpAny (model prog w) A (Builtin.«zip.__next__» ⟨[.ref z], []⟩) (fun fin s' => ∃ v, fin = .done (.ret v) ∧ Q v s') E s := by
  show wpAny _ _ (field (.ref z) 2 >>= _) _ _ _
  refine wpAny_bind (wpAny_field hz rfl (x := .bool false) rfl ?_)
  show wpAny _ _ (field (.ref z) 3 >>= _) _ _ _
  refine wpAny_bind (wpAny_field hz rfl (x := .ref TI) rfl ?_)
  refine wpAny_bind (wpAny_seqItems hTI rfl ?_)
  show wpAny _ _ (Builtin.SmallTypes.ownedTupleIsFree (.ref z) >>= _) _ _ _
  refine wpAny_bind (own_free hz hf ?_ fun g0 hz0 sb0 => ?_)
  · simp only [if_true]
    refine wpAny_bind (wpAny_rule ?_)
    refine wpAny_bind (wpAny_field hz rfl (x := .ref TO) rfl ?_)
    refine wpAny_bind (wpAny_setField_rec hz (by simp) fun g1 hz1 sb1 => ?_)
    replace hz1 : ZR g1 z TI TO .ellipsis f1 := hz1
    refine wpAny_bind ?_
    simp only [List.zipIdx_cons, List.zipIdx_nil, List.forIn_cons, List.forIn_nil]
    refine wpAny_bind (wpAny_bind (wpAny_onRaise ?_))
    show wpAny _ _ (Builtin.SmallTypes.nextOf (.ref i1) >>= _) _ _ _
    refine wpAny_bind (nextOf_tuple_item (p1.extBut sb1.extBut D.i1z) (q1.extBut sb1.extBut D.l1z) hx fun g2 p12 sb2 => wpAny_pure ?_)
    have t2 : IsPair g2 TO a b := sb2.extBut _ _ D.TOi1 (sb1.extBut _ _ D.TOz hTO)
    refine wpAny_bind (wpAny_seqItems t2 rfl ?_)
    refine wpAny_bind (wpAny_updateSeq_pair t2 fun g3 t3 sb3 => ?_)
    replace t3 : IsPair g3 TO x b := t3
    refine wpAny_bind (wpAny_letGo (wpAny_pure ?_))
    refine wpAny_bind (wpAny_bind (wpAny_onRaise ?_))
    show wpAny _ _ (Builtin.SmallTypes.nextOf (.ref i2) >>= _) _ _ _
    refine wpAny_bind (nextOf_tuple_item (((p2.extBut sb1.extBut D.i2z).extBut sb2.extBut D.i12.symm).extBut sb3.extBut D.TOi2.symm) (((q2.extBut sb1.extBut D.l2z).extBut sb2.extBut D.l2i1).extBut sb3.extBut D.l2TO) hy fun g4 p24 sb4 => wpAny_pure ?_)
    have t4 : IsPair g4 TO x b := sb4.extBut _ _ D.TOi2 t3
    refine wpAny_bind (wpAny_seqItems t4 rfl ?_)
    refine wpAny_bind (wpAny_updateSeq_pair t4 fun g5 t5 sb5 => ?_)
    replace t5 : IsPair g5 TO x y := t5
    refine wpAny_bind (wpAny_letGo (wpAny_pure (wpAny_pure ?_)))
    refine wpAny_bind (wpAny_seqItems t5 rfl ?_)
    refine wpAny_bind (wpAny_newTuple ?_)
    have sz : g5.objs.size = s.heap.objs.size := by rw [sb5.1, sb4.1, sb3.1, sb2.1, sb1.1]
    have z5 : ZR g5 z TI TO .ellipsis f1 := sb5.extBut _ _ D.TOz.symm (sb4.extBut _ _ D.i2z.symm (sb3.extBut _ _ D.TOz.symm (sb2.extBut _ _ D.i1z.symm hz1)))
    have kp : ∀ c o, c ≠ z → c ≠ TO → c ≠ i1 → c ≠ i2 → s.heap.get? c = some o → g5.get? c = some o := fun c o n1 n2 n3 n4 e =>
      sb5.extBut _ _ n2 (sb4.extBut _ _ n4 (sb3.extBut _ _ n2 (sb2.extBut _ _ n3 (sb1.extBut _ _ n1 e))))
    have p15 : g5.IsTupleIter i1 l1 (k1 + 1) := ((p12.extBut sb3.extBut D.TOi1.symm).extBut sb4.extBut D.i12).extBut sb5.extBut D.TOi1.symm
    have p25 : g5.IsTupleIter i2 l2 (k2 + 1) := p24.extBut sb5.extBut D.TOi2.symm
    have zlt : z < g5.objs.size := Heap.lt_size z5
    show wpAny _ _ (Builtin.SmallTypes.ownedTupleHandOut (.ref z) (.ref g5.objs.size) >>= _) _ _ _
    refine wpAny_bind ?_
    unfold Builtin.SmallTypes.ownedTupleHandOut
    have z6 : ZR (g5.push { cls := .type "tuple", data := .seq #[x, y] }) z TI TO .ellipsis f1 := Heap.get?_push_of_some _ z5
    refine wpAny_bind (wpAny_setField_rec z6 (by simp) fun g7 z7 sb7 => ?_)
    replace z7 : ZR g7 z TI TO (rawInt g5.objs.size) f1 := z7
    refine wpAny_setField_rec z7 (by simp) fun g8 z8 sb8 => ?_
    replace z8 : ZR g8 z TI TO (rawInt g5.objs.size) false := z8
    have up : ∀ c o, c ≠ z → g5.get? c = some o → g8.get? c = some o := fun c o n1 e => sb8.extBut _ _ n1 (sb7.extBut _ _ n1 (Heap.get?_push_of_some _ e))
    have t8 : IsPair g8 g5.objs.size x y := sb8.extBut _ _ (Nat.ne_of_gt zlt) (sb7.extBut _ _ (Nat.ne_of_gt zlt) (Heap.get?_push_size _ rfl))
    have s8 : g8.objs.size = g5.objs.size + 1 := by rw [sb8.1, sb7.1, Heap.size_push]
    rw [sz] at z8 t8 s8
    refine wpAny_pure ⟨_, rfl, ?_⟩
    show Q (.ref g5.objs.size) _
    rw [sz]
    exact hQ g8 _ _ _ _ (.inr ⟨_, rfl⟩) z8 (up _ _ D.TOz t5) (p15.at fun o e => up _ o D.i1z e) (p25.at fun o e => up _ o D.i2z e) t8 s8 fun c o n1 n2 n3 n4 e => up c o n1 (kp c o n1 n2 n3 n4 e)
  · simp only [Bool.false_eq_true, if_false]
    refine wpAny_bind ?_
    simp only [List.forIn_toArray, List.forIn_cons, List.forIn_nil]
    have w1 := p1.extBut sb0.extBut D.i1z
    refine wpAny_bind (wpAny_bind (wpAny_holding ?_))
    show wpAny _ _ (Builtin.SmallTypes.nextOf (.ref i1) >>= _) _ _ _
    refine wpAny_bind (nextOf_tuple_item w1 (q1.extBut sb0.extBut D.l1z) hx fun g2 p12 sb2 => wpAny_pure ?_)
    refine wpAny_pure ?_
    refine wpAny_bind (wpAny_bind (wpAny_holding ?_))
    show wpAny _ _ (Builtin.SmallTypes.nextOf (.ref i2) >>= _) _ _ _
    refine wpAny_bind (nextOf_tuple_item ((p2.extBut sb0.extBut D.i2z).extBut sb2.extBut D.i12.symm) ((q2.extBut sb0.extBut D.l2z).extBut sb2.extBut D.l2i1) hy fun g4 p24 sb4 => wpAny_pure ?_)
    refine wpAny_pure ?_
    refine wpAny_pure ?_
    refine wpAny_bind (wpAny_newTuple ?_ (hsz := by show 2 ≤ sizeLine; decide))
    have sz : g4.objs.size = s.heap.objs.size := by rw [sb4.1, sb2.1, sb0.1]
    have z4 : ZR g4 z TI TO f0 true := sb4.extBut _ _ D.i2z.symm (sb2.extBut _ _ D.i1z.symm hz0)
    have kp : ∀ c o, c ≠ z → c ≠ i1 → c ≠ i2 → s.heap.get? c = some o → g4.get? c = some o := fun c o n1 n3 n4 e =>
      sb4.extBut _ _ n4 (sb2.extBut _ _ n3 (sb0.extBut _ _ n1 e))
    refine wpAny_pure ⟨_, rfl, ?_⟩
    show Q (.ref g4.objs.size) _
    have up : ∀ c o, g4.get? c = some o → (g4.push { cls := .type "tuple", data := .seq #[x, y] }).get? c = some o := fun c o e => Heap.get?_push_of_some _ e
    have tn : IsPair (g4.push { cls := .type "tuple", data := .seq #[x, y] }) g4.objs.size x y := Heap.get?_push_size _ rfl
    have sn : (g4.push { cls := .type "tuple", data := .seq #[x, y] }).objs.size = g4.objs.size + 1 := Heap.size_push ..
    rw [sz] at tn sn ⊢
    exact hQ _ _ _ _ _ hf (up _ _ z4) (up _ _ (kp _ _ D.TOz D.TOi1 D.TOi2 hTO)) ((p12.extBut sb4.extBut D.i12).at (up _)) (p24.at (up _)) tn sn fun c o n1 n2 n3 n4 e => up c o (kp c o n1 n3 n4 e)
theorem zipG_end {z TI TO i1 i2 l1 l2 : Addr} {k1 k2 : Nat} {xs ys : Array Value} {a b f0 : Value} {f1 : Bool} {Q : Fin → Shared → Prop} (hh : A.handled = none) (D : ZipApart z TI TO i1 i2 l1 l2)
    (hz : ZR s.heap z TI TO f0 f1) (hf : F0 f0) (hTI : IsPair s.heap TI (.ref i1) (.ref i2)) (hTO : IsPair s.heap TO a b)
    (p1 : s.heap.IsTupleIter i1 l1 k1) (p2 : s.heap.IsTupleIter i2 l2 k2) (q1 : s.heap.IsTuple l1 xs) (q2 : s.heap.IsTuple l2 ys) (hend : xs[k1]? = none ∨ ys[k2]? = none)
    (hE : ∀ g e, (∀ c o, c ≠ z → c ≠ TO → c ≠ i1 → c ≠ i2 → s.heap.get? c = some o → g.get? c = some o) → (∃ o, g.get? e = some o ∧ o.cls = .type "StopIteration") → E (.ref e) { s with heap := g }) :
    wpAny (model prog w) A (Builtin.«zip.__next__» ⟨[.ref z], []⟩) Q E s := by
  show wpAny _ _ (field (.ref z) 2 >>= _) _ _ _
  refine wpAny_bind (wpAny_field hz rfl (x := .bool false) rfl ?_)
  show wpAny _ _ (field (.ref z) 3 >>= _) _ _ _
  refine wpAny_bind (wpAny_field hz rfl (x := .ref TI) rfl ?_)
  refine wpAny_bind (wpAny_seqItems hTI rfl ?_)
  show wpAny _ _ (Builtin.SmallTypes.ownedTupleIsFree (.ref z) >>= _) _ _ _
  refine wpAny_bind (own_free hz hf ?_ fun g0 hz0 sb0 => ?_)
  · simp only [if_true]
    refine wpAny_bind (wpAny_rule ?_)
    refine wpAny_bind (wpAny_field hz rfl (x := .ref TO) rfl ?_)
    refine wpAny_bind (wpAny_setField_rec hz (by simp) fun g1 hz1 sb1 => ?_)
    replace hz1 : ZR g1 z TI TO .ellipsis f1 := hz1
    refine wpAny_bind ?_
    simp only [List.zipIdx_cons, List.zipIdx_nil, List.forIn_cons, List.forIn_nil]
    refine wpAny_bind (wpAny_bind (wpAny_onRaise ?_))
    show wpAny _ _ (Builtin.SmallTypes.nextOf (.ref i1) >>= _) _ _ _
    cases hx : xs[k1]? with
    | none =>
      refine wpAny_bind (nextOf_tuple_end hh (p1.extBut sb1.extBut D.i1z) (q1.extBut sb1.extBut D.l1z) hx fun g2 e sb2 he => ?_)
      obtain ⟨oe, hoe, hce⟩ := he
      have z2 : ZR g2 z TI TO .ellipsis f1 := sb2 _ _ D.i1z.symm hz1
      have nez : e ≠ z := fun x => by subst x; rw [show g2.get? e = some _ from z2] at hoe; cases hoe; simp at hce
      refine wpAny_setField_rec z2 (by simp) fun g3 _ sb3 => hE g3 e (fun c o n1 _ n3 _ x => sb3.extBut _ _ n1 (sb2 _ _ n3 (sb1.extBut _ _ n1 x))) ⟨oe, sb3.extBut _ _ nez hoe, hce⟩
    | some x =>
      have hy : ys[k2]? = none := by
        rcases hend with h | h
        · rw [hx] at h; cases h
        · exact h
      refine wpAny_bind (nextOf_tuple_item (p1.extBut sb1.extBut D.i1z) (q1.extBut sb1.extBut D.l1z) hx fun g2 p12 sb2 => wpAny_pure ?_)
      have t2 : IsPair g2 TO a b := sb2.extBut _ _ D.TOi1 (sb1.extBut _ _ D.TOz hTO)
      refine wpAny_bind (wpAny_seqItems t2 rfl ?_)
      refine wpAny_bind (wpAny_updateSeq_pair t2 fun g3 t3 sb3 => ?_)
      refine wpAny_bind (wpAny_letGo (wpAny_pure ?_))
      refine wpAny_bind (wpAny_bind (wpAny_onRaise ?_))
      show wpAny _ _ (Builtin.SmallTypes.nextOf (.ref i2) >>= _) _ _ _
      refine wpAny_bind (nextOf_tuple_end hh (((p2.extBut sb1.extBut D.i2z).extBut sb2.extBut D.i12.symm).extBut sb3.extBut D.TOi2.symm) (((q2.extBut sb1.extBut D.l2z).extBut sb2.extBut D.l2i1).extBut sb3.extBut D.l2TO) hy fun g4 e sb4 he => ?_)
      obtain ⟨oe, hoe, hce⟩ := he
      have z4 : ZR g4 z TI TO .ellipsis f1 := sb4 _ _ D.i2z.symm (sb3.extBut _ _ D.TOz.symm (sb2.extBut _ _ D.i1z.symm hz1))
      have nez : e ≠ z := fun x => by subst x; rw [show g4.get? e = some _ from z4] at hoe; cases hoe; simp at hce
      refine wpAny_setField_rec z4 (by simp) fun g5 _ sb5 => hE g5 e (fun c o n1 n2 n3 n4 x => sb5.extBut _ _ n1 (sb4 _ _ n4 (sb3.extBut _ _ n2 (sb2.extBut _ _ n3 (sb1.extBut _ _ n1 x))))) ⟨oe, sb5.extBut _ _ nez hoe, hce⟩
  · simp only [Bool.false_eq_true, if_false]
    refine wpAny_bind ?_
    simp only [List.forIn_toArray, List.forIn_cons, List.forIn_nil]
    refine wpAny_bind (wpAny_bind (wpAny_holding ?_))
    show wpAny _ _ (Builtin.SmallTypes.nextOf (.ref i1) >>= _) _ _ _
    cases hx : xs[k1]? with
    | none =>
      exact wpAny_bind (nextOf_tuple_end hh (p1.extBut sb0.extBut D.i1z) (q1.extBut sb0.extBut D.l1z) hx fun g2 e sb2 he => hE g2 e (fun c o n1 _ n3 _ x => sb2 _ _ n3 (sb0.extBut _ _ n1 x)) he)
    | some x =>
      have hy : ys[k2]? = none := by
        rcases hend with h | h
        · rw [hx] at h; cases h
        · exact h
      refine wpAny_bind (nextOf_tuple_item (p1.extBut sb0.extBut D.i1z) (q1.extBut sb0.extBut D.l1z) hx fun g2 p12 sb2 => wpAny_pure ?_)
      refine wpAny_pure ?_
      refine wpAny_bind (wpAny_bind (wpAny_holding ?_))
      show wpAny _ _ (Builtin.SmallTypes.nextOf (.ref i2) >>= _) _ _ _
      exact wpAny_bind (nextOf_tuple_end hh ((p2.extBut sb0.extBut D.i2z).extBut sb2.extBut D.i12.symm) ((q2.extBut sb0.extBut D.l2z).extBut sb2.extBut D.l2i1) hy fun g4 e sb4 he => hE g4 e (fun c o n1 _ n3 n4 x => sb4 _ _ n4 (sb2.extBut _ _ n3 (sb0.extBut _ _ n1 x))) he)
theorem nextOf_zip {z TI TO : Addr} {f0 : Value} {f1 : Bool} {Q : Value → Shared → Prop} (hz : ZR s.heap z TI TO f0 f1)
    (h : wpAny (model prog w) A.in1 (Builtin.«zip.__next__» ⟨[.ref z], []⟩) (fun fin s' => ∃ v, fin = .done (.ret v) ∧ Q v s') E s) : wpAny (model prog w) A (Builtin.SmallTypes.nextOf (.ref z)) Q E s := by
  have hT : s.TypeIs (.ref z) "zip" := ⟨_, hz, rfl⟩
  unfold Builtin.SmallTypes.nextOf
  refine wpAny_bind (wpAny_callSpecial?_slot (name := Str.ofString "__next__") hT F.slot_zip_next (wpAny_call_entry F.slot_zip_next hT F.entry_zip_next ?_ (F.args_zip_next_1 _)))
  exact wpAny_mono h (fun fin s' ⟨v, e, q⟩ => ⟨v, e, wpAny_pure q⟩) fun _ _ q => q
theorem enumZ_item {e z TI TO : Addr} {i : Nat} {old f0 : Value} {f1 : Bool} {Q : Option Value → Shared → Prop} (he : IsEnum s.heap e z i old) (hz : ZR s.heap z TI TO f0 f1)
    (inner : wpAny (model prog w) A.in1.in1 (Builtin.«zip.__next__» ⟨[.ref z], []⟩) (fun fin s1 => ∃ v, fin = .done (.ret v) ∧ IsEnum s1.heap e z i old ∧ ∀ g, IsEnumOut g e z ((i : Int) + 1) v s1.heap.objs.size →
      g.get? s1.heap.objs.size = some { cls := .type "tuple", data := .seq #[.int i s1.toks, v] } → g.objs.size = s1.heap.objs.size + 1 → (∀ b o, b ≠ e → s1.heap.get? b = some o → g.get? b = some o) →
      Q (some (.ref s1.heap.objs.size)) { s1 with heap := g, toks := s1.toks + 1 }) (fun e' s' => wpAny (model prog w) A (do if ← isInstance e' (.type "StopIteration") then pure none else throw e') Q E s') s) :
    wpAny (model prog w) A (pyNext (.ref e)) Q E s := by
  have hT : s.TypeIs (.ref e) "enumerate" := ⟨_, he, rfl⟩
  unfold pyNext
  refine wpAny_bind (wpAny_attempt (wpAny_callSpecial?_slot (name := Str.ofString "__next__") hT F.slot_enumerate_next (wpAny_call_entry F.slot_enumerate_next hT F.entry_enumerate_next ?_ (F.args_enumerate_next_1 _))))
  show wpAny _ _ (field (.ref e) 2 >>= _) _ _ _
  refine wpAny_bind (wpAny_field he rfl (x := .ref z) rfl ?_)
  refine wpAny_bind (nextOf_zip hz (wpAny_mono inner (fun fin s1 ⟨v, ev, he1, hq⟩ => ⟨v, ev, ?_⟩) fun _ _ q => q))
  show wpAny _ _ (field (.ref e) 3 >>= _) _ _ s1
  refine wpAny_bind (wpAny_field he1 rfl (x := rawInt i) rfl ?_)
  show wpAny _ _ (field (.ref e) 4 >>= _) _ _ s1
  refine wpAny_bind (wpAny_field he1 rfl (x := .none) rfl ?_)
  show wpAny _ _ (mkInt i >>= _) _ _ s1
  refine wpAny_bind (wpAny_mkInt ?_)
  show wpAny _ _ (setField (.ref e) 3 (rawInt ((i : Int) + 1)) >>= _) _ _ _
  refine wpAny_bind (wpAny_setField_rec he1 (by simp) fun g2 e2 sb2 => ?_)
  replace e2 : IsEnum g2 e z ((i : Int) + 1) old := e2
  show wpAny _ _ (setField (.ref e) 4 .none >>= _) _ _ _
  refine wpAny_bind (wpAny_setField_rec e2 (by simp) fun g3 e3 sb3 => ?_)
  replace e3 : IsEnum g3 e z ((i : Int) + 1) old := e3
  refine wpAny_bind (wpAny_newTuple ?_)
  have e4 : IsEnum (g3.push { cls := .type "tuple", data := .seq #[.int i s1.toks, v] }) e z ((i : Int) + 1) old := Heap.get?_push_of_some _ e3
  have sz : g3.objs.size = s1.heap.objs.size := by rw [sb3.1, sb2.1]
  have elt : e < s1.heap.objs.size := Heap.lt_size he1
  have t4 : (g3.push { cls := .type "tuple", data := .seq #[.int i s1.toks, v] }).get? s1.heap.objs.size = some { cls := .type "tuple", data := .seq #[.int i s1.toks, v] } := by rw [← sz]; exact Heap.get?_push_size _ rfl
  have z4 : (g3.push { cls := .type "tuple", data := .seq #[.int i s1.toks, v] }).objs.size = s1.heap.objs.size + 1 := by rw [Heap.size_push, sz]
  have k4 : ∀ b o, b ≠ e → s1.heap.get? b = some o → (g3.push { cls := .type "tuple", data := .seq #[.int i s1.toks, v] }).get? b = some o := fun b o n x => Heap.get?_push_of_some _ (sb3.extBut b o n (sb2.extBut b o n x))
  show wpAny _ _ (Builtin.SmallTypes.ownedTupleIsFree (.ref e) >>= _) _ _ _
  rw [sz]
  refine wpAny_bind ?_
  unfold Builtin.SmallTypes.ownedTupleIsFree
  refine wpAny_bind (wpAny_field e4 rfl (x := .none) rfl (wpAny_pure ?_))
  simp only [if_true]
  refine wpAny_bind (wpAny_rule ?_)
  refine wpAny_bind (wpAny_field e4 rfl (x := old) rfl ?_)
  refine wpAny_bind (wpAny_setField_rec e4 (by simp) fun g5 e5 sb5 => ?_)
  replace e5 : IsEnum g5 e z ((i : Int) + 1) v := e5
  show wpAny _ _ (Builtin.SmallTypes.ownedTupleHandOut (.ref e) (.ref s1.heap.objs.size) >>= _) _ _ _
  refine wpAny_bind ?_
  unfold Builtin.SmallTypes.ownedTupleHandOut
  refine wpAny_bind (wpAny_setField_rec e5 (by simp) fun g6 e6 sb6 => ?_)
  replace e6 : IsEnumOut g6 e z ((i : Int) + 1) v s1.heap.objs.size := e6
  refine wpAny_setField_rec e6 (by simp) fun g7 e7 sb7 => ?_
  replace e7 : IsEnumOut g7 e z ((i : Int) + 1) v s1.heap.objs.size := e7
  have up : ∀ b o, b ≠ e → (g3.push { cls := .type "tuple", data := .seq #[.int i s1.toks, v] }).get? b = some o → g7.get? b = some o := fun b o n x => sb7.extBut b o n (sb6.extBut b o n (sb5.extBut b o n x))
  exact wpAny_bind (wpAny_letGo (wpAny_pure ⟨_, rfl, wpAny_pure (hq g7 e7 (up _ _ (Nat.ne_of_gt elt) t4) (by rw [sb7.1, sb6.1, sb5.1]; exact z4) fun b o n x => up b o n (k4 b o n x))⟩))
theorem enumZ_end {e z TI TO : Addr} {i : Int} {old f0 : Value} {f1 : Bool} {Q : Option Value → Shared → Prop} (he : IsEnum s.heap e z i old) (hz : ZR s.heap z TI TO f0 f1)
    (inner : ∀ (E : Value → Shared → Prop), (∀ g x, (∃ o, g.get? x = some o ∧ o.cls = .type "StopIteration") → Q none { s with heap := g } → E (.ref x) { s with heap := g }) → wpAny (model prog w) A.in1.in1 (Builtin.«zip.__next__» ⟨[.ref z], []⟩) (fun fin s1 => ∃ v, fin = .done (.ret v) ∧ False) E s) :
    wpAny (model prog w) A (pyNext (.ref e)) Q E s := by
  have hT : s.TypeIs (.ref e) "enumerate" := ⟨_, he, rfl⟩
  unfold pyNext
  refine wpAny_bind (wpAny_attempt (wpAny_callSpecial?_slot (name := Str.ofString "__next__") hT F.slot_enumerate_next (wpAny_call_entry F.slot_enumerate_next hT F.entry_enumerate_next ?_ (F.args_enumerate_next_1 _))))
  show wpAny _ _ (field (.ref e) 2 >>= _) _ _ _
  refine wpAny_bind (wpAny_field he rfl (x := .ref z) rfl ?_)
  refine wpAny_bind (nextOf_zip hz (wpAny_mono (inner _ fun g x hx q => ?_) (fun fin s1 ⟨v, _, h⟩ => h.elim) fun _ _ q => q))
  obtain ⟨o, ho, hc⟩ := hx
  refine wpAny_bind (wpAny_isInstance (T := "StopIteration") (b := true) ⟨o, ho, hc⟩ isSubtype_stop ?_)
  exact wpAny_pure q
end
/-- the tuples at a and b as they stand at each turn: the number and the pair, both tuples new -/
def ItEZ (K : PySem.W.Frag) (a b : Addr) : It :=
  ⟨(RZ.ItzT K a b).go,
    fun i H v H' => ∃ T U x y, v = .ref U ∧ H T = none ∧ H U = none ∧ T ≠ U ∧ H' = upd (upd H T (.tup [x, y])) U (.tup [.int (i : Nat), .ref T]) ∧ (∀ xs, SqT K H a xs → xs[i]? = some x) ∧ ∀ ys, SqT K H b ys → ys[i]? = some y,
    (RZ.ItzT K a b).stop⟩
theorem turn_enumZ {P : Program} {w : World} {K : PySem.W.Frag} {elts : List Expr} {kk : Nat} {tpos : Pos} {a b e z TI TO i1 i2 : Addr} (D : ZipApart z TI TO i1 i2 a b) (hne : e ∉ [z, TI, TO, i1, i2]) :
    Turn P w K (.Tuple elts kk tpos) (ItEZ K a b) [e, z, TI, TO, i1, i2] e (fun i h => (∃ old, IsEnum h e z ((i : Nat) : Int) old) ∧ (∃ f0 f1, F0 f0 ∧ ZR h z TI TO f0 f1) ∧ IsPair h TI (.ref i1) (.ref i2) ∧ (∃ x y, IsPair h TO x y) ∧ h.IsTupleIter i1 a i ∧ h.IsTupleIter i2 b i) := by
  have n1 : e ≠ z := fun q => hne (by simp [q])
  have n2 : e ≠ TI := fun q => hne (by simp [q])
  have n3 : e ≠ TO := fun q => hne (by simp [q])
  have n4 : e ≠ i1 := fun q => hne (by simp [q])
  have n5 : e ≠ i2 := fun q => hne (by simp [q])
  refine ⟨by simp, fun i h st c hc => ?_, fun i h h' st k => ?_, ?_, ?_, fun A i s Q E st h => let ⟨⟨_, he⟩, _⟩ := st; wpAny_pyIter_enum he h⟩
  · obtain ⟨⟨old, he⟩, ⟨f0, f1, _, hz⟩, hTI, ⟨x, y, hTO⟩, ⟨o1, e1, _, d1⟩, ⟨o2, e2, _, d2⟩⟩ := st
    have q : c = e ∨ c = z ∨ c = TI ∨ c = TO ∨ c = i1 ∨ c = i2 := by simpa using hc
    rcases q with q | q | q | q | q | q
    · rw [q]; exact ⟨_, he, fun v q => nomatch q⟩
    · rw [q]; exact ⟨_, hz, fun v q => nomatch q⟩
    · rw [q]; exact ⟨_, hTI, fun v q => nomatch q⟩
    · rw [q]; exact ⟨_, hTO, fun v q => nomatch q⟩
    · rw [q]; exact ⟨o1, e1, fun v q => by rw [d1] at q; cases q⟩
    · rw [q]; exact ⟨o2, e2, fun v q => by rw [d2] at q; cases q⟩
  · obtain ⟨⟨old, he⟩, ⟨f0, f1, hf, hz⟩, hTI, ⟨x, y, hTO⟩, h1, h2⟩ := st
    exact ⟨⟨old, k e (by simp) _ he⟩, ⟨f0, f1, hf, k z (by simp) _ hz⟩, k TI (by simp) _ hTI, ⟨x, y, k TO (by simp) _ hTO⟩, h1.at fun o q => k i1 (by simp) o q, h2.at fun o q => k i2 (by simp) o q⟩
  · intro X hP hw hK hc i pins s σ H E I hf st hg
    subst hP hw hK
    obtain ⟨⟨old, he⟩, ⟨f0, f1, hF, hz⟩, hTI, ⟨x0, y0, hTO⟩, h1, h2⟩ := st
    obtain ⟨xs, ys, x, y, hqx, hqy, hx, hy⟩ := hg
    obtain ⟨its, rv, p, _⟩ := I.tuple hqx
    obtain ⟨its2, rv2, p2, _⟩ := I.tuple hqy
    obtain ⟨u, hu, ru⟩ := rv.get hx
    obtain ⟨u2, hu2, ru2⟩ := rv2.get hy
    have lt : ∀ c ∈ [e, z, TI, TO, i1, i2], c < s.heap.objs.size := fun c hcm => by
      have q : c = e ∨ c = z ∨ c = TI ∨ c = TO ∨ c = i1 ∨ c = i2 := by simpa using hcm
      rcases q with q | q | q | q | q | q
      · rw [q]; exact Heap.lt_size he
      · rw [q]; exact Heap.lt_size hz
      · rw [q]; exact Heap.lt_size hTI
      · rw [q]; exact Heap.lt_size hTO
      · rw [q]; obtain ⟨_, e1, _⟩ := h1; exact Heap.lt_size e1
      · rw [q]; obtain ⟨_, e2, _⟩ := h2; exact Heap.lt_size e2
    refine enumZ_item he hz (zipG_item D hz hF hTI hTO h1 h2 p p2 (x := u) (y := u2) (by simpa using hu) (by simpa using hu2) fun g1 f c v1 v2 hF' z1 t1 w1 w2 tp1 sz1 k1 => ?_)
    refine ⟨k1 _ _ n1 n3 n4 n5 he, fun g2 eo tp2 sz2 k2 => ?_⟩
    refine ⟨_, rfl, wpAny_letOwnedTupleGo_enum (s := { s with heap := g2, toks := s.toks + 1 }) eo fun g3 e3 sb3 => ?_⟩
    have I1 : Inv X pins σ (upd H s.heap.objs.size (.tup [x, y])) { s with heap := g1, toks := s.toks } :=
      I.turnedNew (ch := [e, z, TI, TO, i1, i2]) (fun c o hb q => k1 c o (fun q' => hb (by simp [q'])) (fun q' => hb (by simp [q'])) (fun q' => hb (by simp [q'])) (fun q' => hb (by simp [q'])) q) hf (Nat.le_refl _)
        ⟨by show 2 ≤ sizeLine; decide, [u, u2], .cons ru (.cons ru2 .nil), ⟨_, tp1, rfl, _, rfl⟩⟩
    have hf1 : ∀ c ∈ [e, z, TI, TO, i1, i2], FpOk X pins (upd H s.heap.objs.size (.tup [x, y])) c := fun c hcm => ⟨by rw [upd_ne (Nat.ne_of_lt (lt c hcm))]; exact (hf c hcm).1, (hf c hcm).2⟩
    have elt : e < g1.objs.size := by rw [sz1]; exact Nat.lt_succ_of_lt (lt e (by simp))
    have tp3 : g3.get? g1.objs.size = some { cls := .type "tuple", data := .seq #[.int i s.toks, .ref s.heap.objs.size] } := (sb3.2 _ (Nat.ne_of_gt elt)).trans tp2
    have I2 : Inv X pins σ (upd (upd H s.heap.objs.size (.tup [x, y])) g1.objs.size (.tup [.int (i : Nat), .ref s.heap.objs.size])) { s with heap := g3, toks := s.toks + 1 } :=
      I1.turnedNew (ch := [e, z, TI, TO, i1, i2]) (fun c o hb q => (sb3.2 c (fun q' => hb (by simp [q']))).trans (k2 c o (fun q' => hb (by simp [q'])) q)) hf1 (Nat.le_refl _)
        ⟨by show 2 ≤ sizeLine; decide, [.int i s.toks, .ref s.heap.objs.size], .cons ⟨_, rfl⟩ (.cons rfl .nil), ⟨_, tp3, rfl, _, rfl⟩⟩
    have up : ∀ c o, c ≠ e → g1.get? c = some o → g3.get? c = some o := fun c o n q => (sb3.2 c n).trans (k2 c o n q)
    refine ⟨.ref g1.objs.size, _, I2, rfl, ⟨_, _, x, y, rfl, I.hok.fresh (Nat.le_refl _), I.hok.fresh (by rw [sz1]; exact Nat.le_succ _), by rw [sz1]; exact Nat.ne_of_lt (Nat.lt_succ_self _), rfl, fun l hl => by rw [I.tuple_inj hl hqx]; exact hx, fun l hl => by rw [I.tuple_inj hl hqy]; exact hy⟩, ⟨⟨.ref s.heap.objs.size, ?_⟩, ⟨f, c, hF', up _ _ (Ne.symm n1) z1⟩, ?_, ⟨v1, v2, up _ _ (Ne.symm n3) t1⟩, ?_, ?_⟩, fun c hcm => ?_⟩
    · have e1 : ((i + 1 : Nat) : Int) = (i : Int) + 1 := by omega
      rw [e1]
      exact e3
    · exact up _ _ (Ne.symm n2) (k1 _ _ D.TIz D.TITO D.TIi1 D.TIi2 hTI)
    · exact w1.at fun o q => up _ _ (Ne.symm n4) q
    · exact w2.at fun o q => up _ _ (Ne.symm n5) q
    · have l0 := lt c hcm
      rw [upd_ne (by rw [sz1]; exact Nat.ne_of_lt (Nat.lt_succ_of_lt l0)), upd_ne (Nat.ne_of_lt l0)]
      exact (hf c hcm).1
  · intro X hP hw hK hc i pins s σ H E I hf st hg
    subst hP hw hK
    obtain ⟨⟨old, he⟩, ⟨f0, f1, hF, hz⟩, hTI, ⟨x0, y0, hTO⟩, h1, h2⟩ := st
    obtain ⟨xs, ys, hqx, hqy, hend⟩ := hg
    obtain ⟨its, rv, p, _⟩ := I.tuple hqx
    obtain ⟨its2, rv2, p2, _⟩ := I.tuple hqy
    have l1 := rv.length
    have l2 := rv2.length
    have hh : its.toArray[i]? = none ∨ its2.toArray[i]? = none := by
      rcases hend with q | q
      · exact .inl (by simp; omega)
      · exact .inr (by simp; omega)
    exact enumZ_end he hz fun E' hE' => zipG_end (I.ok.hd hc) D hz hF hTI hTO h1 h2 p p2 hh fun g x hk hx => hE' g x hx ⟨rfl, I.turnedL (t' := s.toks) (ch := [e, z, TI, TO, i1, i2]) (fun c o hb q =>
      hk c o (fun q' => hb (by simp [q'])) (fun q' => hb (by simp [q'])) (fun q' => hb (by simp [q'])) (fun q' => hb (by simp [q'])) q) hf⟩
end ML
set_option maxRecDepth 100000
set_option maxHeartbeats 4000000
/-! enumerate(zip(x, y)): how it is made; the loop's rule -/
namespace ML
open PySem L2
open PyProof.Rows (Call_ boot_enumerate)
open PySem.AutoSeq1 (wpAny_loadPart')
theorem meets_enumZ_new (l TI TO : Addr) :
    Meets (Builtin.«enumerate.__new__» ⟨[.type "enumerate", .ref l], []⟩) (fun _ R s => IsZip s.heap l TI TO .none ∧ R (.ok (.ret (.ref s.heap.objs.size)))
      { s with heap := s.heap.push { cls := .type "enumerate", data := .fields #[.none, .bool false, .ref l, rawInt 0, .none, .none] } }) :=
  .of_wp fun prog w A R s h => by
    obtain ⟨hp, g, d, tk, os⟩ := s; obtain ⟨hl, h⟩ := h
    have hsub := sub_enumerate
    have hL : IsZip (Shared.heap ⟨hp, g, d, tk, os⟩) l TI TO .none := hl
    wp_walk using wpAny_loadPart' hl
    refine wpAny_stack_any fun st => wpAny_pure ?_
    split
    · rename_i c _ _ _ _ _
      cases (c == Value.type "enumerate")
      all_goals
        wp_walk using wpAny_loadPart' hl, wpAny_pyIter_zip hL
        exact ⟨_, rfl, h⟩
    · wp_walk using wpAny_loadPart' hl, wpAny_pyIter_zip hL
      exact ⟨_, rfl, h⟩
section
variable {prog : Program} {w : World} {A : Around} {E : Value → Shared → Prop} {s : Shared}
theorem call_enumZ {z TI TO : Addr} {Q : Value → Shared → Prop} (hz : IsZip s.heap z TI TO .none)
    (h : ∀ g, IsEnum g s.heap.objs.size z 0 .none → (∀ b o, s.heap.get? b = some o → g.get? b = some o) → Q (.ref s.heap.objs.size) { s with heap := g }) : wpAny (model prog w) A (call (.type "enumerate") [.ref z]) Q E s := by
  refine callType_new F.called_enumerate (by decide) (F.typeCall_enumerate_1 _) (F.newCall_enumerate_1 _) (fun obj => F.args_object_init_2 obj _) F.entry_enumerate_new (meets_enumZ_new z TI TO) ⟨hz, ?_⟩
  have he : IsEnum (s.heap.push { cls := .type "enumerate", data := .fields #[.none, .bool false, .ref z, rawInt 0, .none, .none] }) s.heap.objs.size z 0 .none := Heap.get?_push_size _ rfl
  exact ⟨⟨_, he, rfl⟩, h _ he fun b o x => Heap.get?_push_of_some _ x⟩
end
def iEZ (K : PySem.W.Frag) (ta : TA) : TI := fun σ H R => ta σ H fun vs H1 => ∃ a b xs ys, vs = [.ref a, .ref b] ∧ SqT K H1 a xs ∧ SqT K H1 b ys ∧ R (ItEZ K a b) H1
theorem pi_enumZ {X : Cx} {x y : Expr} {ta : TA} {p p' pos pos' tpos : Pos} {elts : List Expr} {kk : Nat} (hg : Gl X "enumerate") (hm : X.mg "enumerate" = none) (hg' : Gl X "zip") (hm' : X.mg "zip" = none) (ha : PA X [x, y] ta)
    (hs : starEach [x, y] X.env = (false, eval x X.env) :: starEach [y] X.env := by rfl) (hpl : (backTo pos' (starEach [y] X.env)).any (·.1) = false := by rfl)
    (hs2 : starEach [Expr.Call (.Name "zip" p') [x, y] [] pos'] X.env = [(false, eval (.Call (.Name "zip" p') [x, y] [] pos') X.env)] := by rfl) :
    PI X (.Tuple elts kk tpos) (.Call (.Name "enumerate" p) [.Call (.Name "zip" p') [x, y] [] pos'] [] pos) (iEZ X.K ta) := by
  refine ⟨fun pins s σ H R I h => ?_⟩
  refine Call_ (ld_blt I hg hm boot_enumerate (PyProof.Rows.callWith_type1 (Calls.spliced_cons (Call_ (ld_blt I hg' hm' PyProof.Rows.boot_zip (PyProof.Rows.callWith_type1 (thn (ha.run pos' pins s σ H _ I h) fun us s1 ⟨vs, H1, I1, r1, q1⟩ => ?_) hs hpl)))) hs2 rfl))
  obtain ⟨a, b, xs, ys, ex, hqx, hqy, q⟩ := q1
  subst ex
  cases r1 with
  | cons r rr =>
    cases rr with
    | cons r' rr =>
      cases rr
      cases r
      cases r'
      obtain ⟨its, rv, p1, _⟩ := I1.tuple hqx
      obtain ⟨its2, rv2, p2, _⟩ := I1.tuple hqy
      obtain ⟨o1, ho1, _⟩ := id p1
      obtain ⟨o2, ho2, _⟩ := id p2
      have hs : ∀ c, s1.heap.objs.size ≤ c → FpOk X pins H1 c := fun c hle => I1.fpOk hle (I1.hok.fresh hle)
      refine RZ.call_zipT (show s1.heap.IsTuple a its.toArray from p1) (show s1.heap.IsTuple b its2.toArray from p2) fun g1 hz hTI hTO h1 h2 hsz hk => Calls.spliced_nil (call_enumZ hz fun g2 he hk2 => wpAny_pyIter_enum he ?_)
      have I2 : Inv X pins σ H1 { s1 with heap := g2 } := I1.kept (t' := s1.toks) fun b o e => hk2 b o (hk b o e)
      refine ⟨g1.objs.size, [g1.objs.size, s1.heap.objs.size + 4, s1.heap.objs.size + 2, s1.heap.objs.size + 3, s1.heap.objs.size, s1.heap.objs.size + 1], _, _, H1, rfl, I2, turn_enumZ (PySem.W.ktu_apart s1.heap.objs.size a b (Heap.lt_size ho1) (Heap.lt_size ho2)) ?_,
        ⟨⟨_, he⟩, ⟨_, _, .inl rfl, hk2 _ _ hz⟩, hk2 _ _ hTI, ⟨_, _, hk2 _ _ hTO⟩, h1.at fun o q => hk2 _ o q, h2.at fun o q => hk2 _ o q⟩, fun c hcm => hs c ?_, q⟩
      · show ¬ g1.objs.size ∈ _
        rw [hsz]
        simp
      · rw [hsz] at hcm
        rcases List.mem_cons.mp hcm with e | hcm
        · rw [e]; exact Nat.le_add_right _ _
        · have q : c = s1.heap.objs.size + 4 ∨ c = s1.heap.objs.size + 2 ∨ c = s1.heap.objs.size + 3 ∨ c = s1.heap.objs.size ∨ c = s1.heap.objs.size + 1 := by simpa using hcm
          rcases q with z | z | z | z | z
          all_goals
            rw [z]
            first | exact Nat.le_refl _ | exact Nat.le_add_right _ _
section
variable {X : Cx} {W : WX} {p p' pos pos' : Pos} {a b : Expr}
def enumZipD : List PyData → Option (List PyData)
  | [.tuple xs, .tuple ys] => some ((List.zipWith (fun x y => PyData.tuple [x, y]) xs ys).zipIdx.map fun z => .tuple [.int z.2, z.1])
  | _ => none
theorem enumZ_get {xs ys : List PyData} {i : Nat} {d : PyData} (h : ((List.zipWith (fun x y => PyData.tuple [x, y]) xs ys).zipIdx.map fun z => PyData.tuple [.int z.2, z.1])[i]? = some d) : ∃ x y, xs[i]? = some x ∧ ys[i]? = some y ∧ d = .tuple [.int i, .tuple [x, y]] := by
  rw [List.getElem?_map, List.getElem?_zipIdx] at h
  cases hz : (List.zipWith (fun x y => PyData.tuple [x, y]) xs ys)[i]? with
  | none => rw [hz] at h; cases h
  | some q =>
    rw [hz] at h
    obtain ⟨x, y, e1, e2, rfl⟩ := zipW_get hz
    simp at h
    exact ⟨x, y, e1, e2, h.symm⟩
theorem mi_enumZip {elts : List Expr} {kk : Nat} {tpos : Pos} {g : En → Rs (List PyData)} (hm : X.mg "enumerate" = none) (hm' : X.mg "zip" = none) (ha : MA X W [a, b] g) (hg : Gl X "enumerate" := by rfl) (hg' : Gl X "zip" := by rfl)
    (hs : starEach [a, b] X.env = (false, eval a X.env) :: starEach [b] X.env := by rfl) (hpl : (backTo pos' (starEach [b] X.env)).any (·.1) = false := by rfl)
    (hs2 : starEach [Expr.Call (.Name "zip" p') [a, b] [] pos'] X.env = [(false, eval (.Call (.Name "zip" p') [a, b] [] pos') X.env)] := by rfl) :
    MI X W (.Tuple elts kk tpos) (.Call (.Name "enumerate" p) [.Call (.Name "zip" p') [a, b] [] pos'] [] pos) (argI enumZipD g) := fun B =>
  PI.imp (pi_enumZ hg hm hg' hm' (ha B) hs hpl hs2) fun σ H R ⟨ρ, G, a, p⟩ => by
    refine Pst.bind a p fun ds ρ1 vs G1 H1 e1 a1 s1 r1 p1 => ?_
    unfold enumZipD at p1
    split at p1
    · rename_i xs ys
      cases r1 with
      | cons r r' =>
        cases r' with
        | cons r' r'' =>
          cases r''
          obtain ⟨q, us, rfl, hq, hu⟩ := Dp.tupE r
          obtain ⟨q', ws, rfl, hq', hw⟩ := Dp.tupE r'
          refine ⟨q, q', us, ws, rfl, SqT.mono a1.fz hq, SqT.mono a1.fz hq', p1 _ G1 H1 a1 (Sub.refl _) ⟨fun i H G2 s1 s2 hi => ?_, fun i H G2 x H' d s1 s2 hd y => ?_, fun i H G2 s1 s2 hi => ?_⟩⟩
          · obtain ⟨x, y, e1, e2, _⟩ := enumZ_get (List.getElem?_eq_getElem hi)
            obtain ⟨u, f1, _⟩ := DpAll.get hu e1
            obtain ⟨w, f2, _⟩ := DpAll.get hw e2
            exact ⟨us, ws, u, w, SqT.mono (s1.trans s2) hq, SqT.mono (s1.trans s2) hq', f1, f2⟩
          · obtain ⟨x0, y0, e1, e2, rfl⟩ := enumZ_get hd
            obtain ⟨T, U, x', y', rfl, hT, hU, hTU, rfl, f1, f2⟩ := y
            obtain ⟨u, g1, g2⟩ := DpAll.get hu e1
            obtain ⟨w, g3, g4⟩ := DpAll.get hw e2
            have z1 : u = x' := Option.some.inj (g1.symm.trans (f1 us (SqT.mono (s1.trans s2) hq)))
            have z2 : w = y' := Option.some.inj (g3.symm.trans (f2 ws (SqT.mono (s1.trans s2) hq')))
            subst z1 z2
            have x := Ext.new (o := .tup [u, w]) s2 hT
            have dT := Dp.newT (s2.gone hT) (.cons (Dp.mono s1 g2) (.cons (Dp.mono s1 g4) .nil))
            have hU' : upd H T (.tup [u, w]) U = none := by rw [upd_ne (Ne.symm hTU)]; exact hU
            have x2 := Ext.new (o := .tup [.int (i : Nat), .ref T]) x.f hU'
            exact ⟨_, x.trans x2, Dp.newT (x.f.gone hU') (.cons (.int _) (.cons dT .nil))⟩
          · refine ⟨us, ws, SqT.mono (s1.trans s2) hq, SqT.mono (s1.trans s2) hq', ?_⟩
            simp only [List.length_map, List.length_zipIdx, List.length_zipWith] at hi
            rw [DpAll.length hu, DpAll.length hw]
            omega
    · exact p1.elim
end
end ML
set_option maxRecDepth 100000
set_option maxHeartbeats 4000000
/-! the first step of an induction on the depth: nothing is promised -/
namespace ML
open PySem L2
theorem df_bad {P : Program} {w : World} {K : PySem.W.Frag} {mg : Str → Option Value} {base : Heap} {x qual : Str} {st : Stmt} {f : Addr} {fd : FuncData} {ps : List Str} {k : Nat} (F : Fun K x qual st f fd) (hm : mg x = some (.ref f)) (hb : Binds K fd ps []) :
    Df P w K mg base k x ps (spM K mg fun _ => .bad) :=
  ⟨f, fd, hm, ⟨fun _ _ _ _ ⟨_, _, _, _, p⟩ => p.elim, fun _ _ _ _ _ _ _ _ _ _ _ _ _ _ ⟨_, _, _, _, p⟩ => p.elim⟩, hb, F.kp⟩
theorem dfS_bad {P : Program} {w : World} {K : PySem.W.Frag} {mg : Str → Option Value} {base : Heap} {x qual : Str} {st : Stmt} {f : Addr} {fd : FuncData} {ps : List Str} {k : Nat} (F : Fun K x qual st f fd) (hm : mg x = some (.ref f)) (hb : Binds K fd ps []) :
    Df P w K mg base k x ps (spS K mg fun _ _ => .bad) :=
  ⟨f, fd, hm, ⟨fun _ _ _ _ ⟨_, _, _, _, _, _, _, _, _, _, _, _, p⟩ => p.elim, fun _ _ _ _ _ _ _ _ _ _ _ _ _ _ ⟨_, _, _, _, _, _, _, _, _, _, _, _, p⟩ => p.elim⟩, hb, F.kp⟩
end ML
set_option maxRecDepth 100000
set_option maxHeartbeats 4000000
namespace ML
open PySem L2
def errNames : List Str := ["NotAllowed", "TooLarge", "Missing", "BadPaper", "BadForm"]
def res (c : Str) : Option Str := if c = "NotAllowed" then some "refused" else if c = "TooLarge" then some "large" else none
def top (i : Nat) : Stmt := PySem.Challenge.pw_recastform_k51_changes_of_documents.main.body.getD i (.Pass ⟨0, 0, 0, 0⟩)
abbrev s_is_label : Stmt := top 14
abbrev s_measured : Stmt := top 15
abbrev s_nodes : Stmt := top 16
abbrev s_check_document : Stmt := top 17
abbrev s_known_at : Stmt := top 18
abbrev s_known_put : Stmt := top 19
abbrev s_with_inner : Stmt := top 20
abbrev s_inner_cost : Stmt := top 22
abbrev s_cost_between : Stmt := top 23
abbrev s_changes_of : Stmt := top 24
abbrev s_changes : Stmt := top 25
abbrev s_changed : Stmt := top 26
abbrev s__law_same : Stmt := top 28
abbrev s__law_stream : Stmt := top 29
abbrev s__law_next : Stmt := top 30
abbrev s__law_error : Stmt := top 31
abbrev s__law_is_label : Stmt := top 32
abbrev s__law_size : Stmt := top 33
abbrev s__law_depth : Stmt := top 34
abbrev s__law_nodes : Stmt := top 35
abbrev s__law_put : Stmt := top 36
abbrev s__law_at : Stmt := top 37
abbrev s__law_label : Stmt := top 38
abbrev s__law_signs : Stmt := top 39
abbrev s__law_document : Stmt := top 40
abbrev s__law_document_due : Stmt := top 41
abbrev s__law_exact : Stmt := top 42
abbrev s__law_cost : Stmt := top 43
abbrev s__law_told : Stmt := top 44
abbrev s__law_due : Stmt := top 45
abbrev s__law_price : Stmt := top 46
abbrev s__law_listed : Stmt := top 47
abbrev s__law_near : Stmt := top 48
abbrev s_law : Stmt := top 49
/-- what the module holds, by names -/
structure Facts (K : PySem.W.Frag) (mg : Str → Option Value) : Prop where
  f_is_label : ∃ f fd, Fun K "is_label" "is_label" s_is_label f fd ∧ mg "is_label" = some (.ref f)
  f_measured : ∃ f fd, Fun K "measured" "measured" s_measured f fd ∧ mg "measured" = some (.ref f)
  f_nodes : ∃ f fd, Fun K "nodes" "nodes" s_nodes f fd ∧ mg "nodes" = some (.ref f)
  f_check_document : ∃ f fd, Fun K "check_document" "check_document" s_check_document f fd ∧ mg "check_document" = some (.ref f)
  f_known_at : ∃ f fd, Fun K "known_at" "known_at" s_known_at f fd ∧ mg "known_at" = some (.ref f)
  f_known_put : ∃ f fd, Fun K "known_put" "known_put" s_known_put f fd ∧ mg "known_put" = some (.ref f)
  f_with_inner : ∃ f fd, Fun K "with_inner" "with_inner" s_with_inner f fd ∧ mg "with_inner" = some (.ref f)
  f_inner_cost : ∃ f fd, Fun K "inner_cost" "inner_cost" s_inner_cost f fd ∧ mg "inner_cost" = some (.ref f)
  f_cost_between : ∃ f fd, Fun K "cost_between" "cost_between" s_cost_between f fd ∧ mg "cost_between" = some (.ref f)
  f_changes_of : ∃ f fd, Fun K "changes_of" "changes_of" s_changes_of f fd ∧ mg "changes_of" = some (.ref f)
  f_changes : ∃ f fd, Fun K "changes" "changes" s_changes f fd ∧ mg "changes" = some (.ref f)
  f_changed : ∃ f fd, Fun K "changed" "changed" s_changed f fd ∧ mg "changed" = some (.ref f)
  f__law_same : ∃ f fd, Fun K "_law_same" "_law_same" s__law_same f fd ∧ mg "_law_same" = some (.ref f)
  f__law_stream : ∃ f fd, Fun K "_law_stream" "_law_stream" s__law_stream f fd ∧ mg "_law_stream" = some (.ref f)
  f__law_next : ∃ f fd, Fun K "_law_next" "_law_next" s__law_next f fd ∧ mg "_law_next" = some (.ref f)
  f__law_error : ∃ f fd, Fun K "_law_error" "_law_error" s__law_error f fd ∧ mg "_law_error" = some (.ref f)
  f__law_is_label : ∃ f fd, Fun K "_law_is_label" "_law_is_label" s__law_is_label f fd ∧ mg "_law_is_label" = some (.ref f)
  f__law_size : ∃ f fd, Fun K "_law_size" "_law_size" s__law_size f fd ∧ mg "_law_size" = some (.ref f)
  f__law_depth : ∃ f fd, Fun K "_law_depth" "_law_depth" s__law_depth f fd ∧ mg "_law_depth" = some (.ref f)
  f__law_nodes : ∃ f fd, Fun K "_law_nodes" "_law_nodes" s__law_nodes f fd ∧ mg "_law_nodes" = some (.ref f)
  f__law_put : ∃ f fd, Fun K "_law_put" "_law_put" s__law_put f fd ∧ mg "_law_put" = some (.ref f)
  f__law_at : ∃ f fd, Fun K "_law_at" "_law_at" s__law_at f fd ∧ mg "_law_at" = some (.ref f)
  f__law_label : ∃ f fd, Fun K "_law_label" "_law_label" s__law_label f fd ∧ mg "_law_label" = some (.ref f)
  f__law_signs : ∃ f fd, Fun K "_law_signs" "_law_signs" s__law_signs f fd ∧ mg "_law_signs" = some (.ref f)
  f__law_document : ∃ f fd, Fun K "_law_document" "_law_document" s__law_document f fd ∧ mg "_law_document" = some (.ref f)
  f__law_document_due : ∃ f fd, Fun K "_law_document_due" "_law_document_due" s__law_document_due f fd ∧ mg "_law_document_due" = some (.ref f)
  f__law_exact : ∃ f fd, Fun K "_law_exact" "_law_exact" s__law_exact f fd ∧ mg "_law_exact" = some (.ref f)
  f__law_cost : ∃ f fd, Fun K "_law_cost" "_law_cost" s__law_cost f fd ∧ mg "_law_cost" = some (.ref f)
  f__law_told : ∃ f fd, Fun K "_law_told" "_law_told" s__law_told f fd ∧ mg "_law_told" = some (.ref f)
  f__law_due : ∃ f fd, Fun K "_law_due" "_law_due" s__law_due f fd ∧ mg "_law_due" = some (.ref f)
  f__law_price : ∃ f fd, Fun K "_law_price" "_law_price" s__law_price f fd ∧ mg "_law_price" = some (.ref f)
  f__law_listed : ∃ f fd, Fun K "_law_listed" "_law_listed" s__law_listed f fd ∧ mg "_law_listed" = some (.ref f)
  f__law_near : ∃ f fd, Fun K "_law_near" "_law_near" s__law_near f fd ∧ mg "_law_near" = some (.ref f)
  f_law : ∃ f fd, Fun K "law" "law" s_law f fd ∧ mg "law" = some (.ref f)
  b_abs : mg "abs" = none
  b_all : mg "all" = none
  b_enumerate : mg "enumerate" = none
  b_int : mg "int" = none
  b_isinstance : mg "isinstance" = none
  b_len : mg "len" = none
  b_max : mg "max" = none
  b_min : mg "min" = none
  b_range : mg "range" = none
  b_repr : mg "repr" = none
  b_set : mg "set" = none
  b_sorted : mg "sorted" = none
  b_str : mg "str" = none
  b_sum : mg "sum" = none
  b_tuple : mg "tuple" = none
  b_zip : mg "zip" = none
  k_MAX_LABEL : ∃ t, mg "MAX_LABEL" = some (.int 12 t)
  k_MAX_RANK : ∃ t, mg "MAX_RANK" = some (.int 3 t)
  k_MAX_SIZE : ∃ t, mg "MAX_SIZE" = some (.int 300 t)
  k_MAX_DEPTH : ∃ t, mg "MAX_DEPTH" = some (.int 40 t)
  k_FIRST : ∃ t, mg "FIRST" = some (.str "abcdefghijklmnopqrstuvwxyz" t)
  k_LATER : ∃ t, mg "LATER" = some (.str "abcdefghijklmnopqrstuvwxyz0123456789" t)
  g_NotAllowed : mg "NotAllowed" = some (.ref (He.ga K "NotAllowed"))
  g_TooLarge : mg "TooLarge" = some (.ref (He.ga K "TooLarge"))
  g_Missing : mg "Missing" = some (.ref (He.ga K "Missing"))
  g_BadPaper : mg "BadPaper" = some (.ref (He.ga K "BadPaper"))
  g_BadForm : mg "BadForm" = some (.ref (He.ga K "BadForm"))
  g_FormError : mg "FormError" = some (.ref (He.ga K "FormError"))
  e_NotAllowed : ErrOk K "NotAllowed" ∧ PySem.W.exmOne K (.ref (He.ga K "NotAllowed")) (.ref (He.ga K "FormError")) = some true ∧ ∀ y ∈ errNames, PySem.W.kitOne K (.ref (He.ga K "NotAllowed")) (.ref (He.ga K y)) = some (decide (("NotAllowed" : Str) = y))
  e_TooLarge : ErrOk K "TooLarge" ∧ PySem.W.exmOne K (.ref (He.ga K "TooLarge")) (.ref (He.ga K "FormError")) = some true ∧ ∀ y ∈ errNames, PySem.W.kitOne K (.ref (He.ga K "TooLarge")) (.ref (He.ga K y)) = some (decide (("TooLarge" : Str) = y))
/-! fun is_label -/
def B_is_label  : En → Ot :=
  (seqS (ifS (orT (notT (tval (chain3 (dIntOp fun i j => .bool (decide (i ≤ j))) (dIntOp fun i j => .bool (decide (i ≤ j))) (cst (.int 1)) (callB dLen (aCons (rdVar 0) aNil)) (cst (.int 12))))) (bin2B dNotInS (bin2 dIx (rdVar 0) (cst (.int 0))) (cst (.str "abcdefghijklmnopqrstuvwxyz")))) (retS (cst (.bool false))) .next)
    (retS (callB dAll (aCons (newL (lcAll (un1 seqItems (rdVar 0)) (gN 1) tYes' (bin2 dInS (rdVar 1) (cst (.str "abcdefghijklmnopqrstuvwxyz0123456789"))) [1])) aNil))))
def F_is_label := runF 2 1 B_is_label
/-! fun measured -/
def B_measured (R_measured : List PyData → Rt) : En → Ot :=
  (seqS (asgS (tup (aCons (cst (.int 1)) (aCons (cst (.int 0)) aNil))) (gT 2 (gsCons (gN 1) (gsCons (gN 2) gsNil))))
    (seqS (forS (un1 seqItems (slc (rdVar 0) (oYes (cst (.int 1))) oNo)) (gN 3) (seqS (asgS (callF R_measured (aCons (rdVar 3) aNil)) (gT 2 (gsCons (gN 4) (gsCons (gN 5) gsNil))))
    (seqS (augS 1 (dIntOp fun i j => .int (i + j)) (rdVar 4))
    (setS 2 (callB dMax2 (aCons (rdVar 2) (aCons (bin2 dAdd (rdVar 5) (cst (.int 1))) aNil)))))))
    (retS (tup (aCons (rdVar 1) (aCons (rdVar 2) aNil))))))
def F_measured : Nat → List PyData → Rt
  | 0 => fun _ => .bad
  | n + 1 => runF 6 1 (B_measured (F_measured n))
/-! fun nodes -/
def B_nodes  : En → Ot :=
  (seqS (setNS 1 (lst aNil))
    (seqS (setNS 2 (lst (aCons (tup (aCons (tup aNil) (aCons (rdVar 0) aNil))) aNil)))
    (seqS (whileF (bin2B (dIntOp fun i j => .bool (decide (j < i))) (lenV 2) (cst (.int 0))) (seqS (asgS (methF 2 gPop aNil) (gT 2 (gsCons (gN 3) (gsCons (gN 4) gsNil))))
    (seqS (exprS (methF 1 gAppend (aCons (tup (aCons (rdVar 3) (aCons (rdVar 4) aNil))) aNil)))
    (forS (argI rngD (aCons (bin2 (dIntOp fun i j => .int (i - j)) (callB dLen (aCons (rdVar 4) aNil)) (cst (.int 1))) (aCons (cst (.int 0)) (aCons (un1 dNeg (cst (.int 1))) aNil)))) (gN 5) (exprS (methF 2 gAppend (aCons (tup (aCons (tup (aStar (rdVar 3) (aCons (bin2 (dIntOp fun i j => .int (i - j)) (rdVar 5) (cst (.int 1))) aNil))) (aCons (bin2 dIx (rdVar 4) (rdVar 5)) aNil))) aNil)))))) 400)
    (retS (rdVar 1)))))
def F_nodes := runF 6 1 B_nodes
/-! fun check_document -/
def B_check_document  : En → Ot :=
  (seqS (asgS (callF (F_measured 80) (aCons (rdVar 0) aNil)) (gT 2 (gsCons (gN 1) (gsCons (gN 2) gsNil))))
    (seqS (ifS (orT (bin2B (dIntOp fun i j => .bool (decide (j < i))) (rdVar 1) (cst (.int 300))) (bin2B (dIntOp fun i j => .bool (decide (j < i))) (rdVar 2) (cst (.int 40)))) (.err "TooLarge") .next)
    (seqS (forS (un1 seqItems (callF F_nodes (aCons (rdVar 0) aNil))) (gT 2 (gsCons (gN 3) (gsCons (gN 4) gsNil))) (ifS (orT (notT (tval (callF F_is_label (aCons (bin2 dIx (rdVar 4) (cst (.int 0))) aNil)))) (bin2B (dIntOp fun i j => .bool (decide (j < i))) (bin2 (dIntOp fun i j => .int (i - j)) (callB dLen (aCons (rdVar 4) aNil)) (cst (.int 1))) (cst (.int 3)))) (.err "NotAllowed") .next))
    (retS (cst .none)))))
def F_check_document := runF 5 1 B_check_document
/-! fun known_at -/
def B_known_at  : En → Ot :=
  (seqS (setS 2 (rdVar 0))
    (seqS (forS (un1 seqItems (rdVar 1)) (gN 3) (seqS (ifS (notT (tval (chain3 (dIntOp fun i j => .bool (decide (i ≤ j))) (dIntOp fun i j => .bool (decide (i < j))) (cst (.int 0)) (rdVar 3) (bin2 (dIntOp fun i j => .int (i - j)) (callB dLen (aCons (rdVar 2) aNil)) (cst (.int 1)))))) (retS (cst .none)) .next)
    (setS 2 (bin2 dIx (rdVar 2) (bin2 dAdd (rdVar 3) (cst (.int 1)))))))
    (retS (rdVar 2))))
def F_known_at := runF 4 2 B_known_at
/-! fun known_put -/
def B_known_put  : En → Ot :=
  (seqS (setNS 3 (lst aNil))
    (seqS (setS 4 (rdVar 0))
    (seqS (forS (un1 seqItems (rdVar 1)) (gN 5) (seqS (exprS (methF 3 gAppend (aCons (tup (aCons (rdVar 4) (aCons (rdVar 5) aNil))) aNil)))
    (setS 4 (bin2 dIx (rdVar 4) (bin2 dAdd (rdVar 5) (cst (.int 1)))))))
    (seqS (forS (un1 seqItems (newL (un1 dRev (rdVar 3)))) (gT 2 (gsCons (gN 6) (gsCons (gN 5) gsNil))) (setS 2 (tup (aStar (slc (rdVar 6) oNo (oYes (bin2 dAdd (rdVar 5) (cst (.int 1))))) (aCons (rdVar 2) (aStar (slc (rdVar 6) (oYes (bin2 dAdd (rdVar 5) (cst (.int 2)))) oNo) aNil))))))
    (retS (rdVar 2))))))
def F_known_put := runF 7 3 B_known_put
/-! fun with_inner -/
def B_with_inner  : En → Ot :=
  (seqS (exprS (callF F_check_document (aCons (rdVar 0) aNil)))
    (seqS (ifS (bin2B dIs (callF F_known_at (aCons (rdVar 0) (aCons (rdVar 1) aNil))) (cst .none)) (.err "NotAllowed") .next)
    (seqS (exprS (callF F_check_document (aCons (rdVar 2) aNil)))
    (seqS (setS 3 (callF F_known_put (aCons (rdVar 0) (aCons (rdVar 1) (aCons (rdVar 2) aNil)))))
    (seqS (asgS (callF (F_measured 80) (aCons (rdVar 3) aNil)) (gT 2 (gsCons (gN 4) (gsCons (gN 5) gsNil))))
    (seqS (ifS (orT (bin2B (dIntOp fun i j => .bool (decide (j < i))) (rdVar 4) (cst (.int 300))) (bin2B (dIntOp fun i j => .bool (decide (j < i))) (rdVar 5) (cst (.int 40)))) (.err "TooLarge") .next)
    (retS (rdVar 3))))))))
def F_with_inner := runF 6 3 B_with_inner
/-! fun inner_cost -/
def B_inner_cost (R_inner_cost : List PyData → Rt) (R_cost_between : List PyData → Rt) : En → Ot :=
  (seqS (setNS 2 (lcAll (argI zipD (aCons (slc (rdVar 0) (oYes (cst (.int 1))) oNo) (aCons (slc (rdVar 1) (oYes (cst (.int 1))) oNo) aNil))) (gT 2 (gsCons (gN 3) (gsCons (gN 4) gsNil))) tYes' (callF R_cost_between (aCons (rdVar 3) (aCons (rdVar 4) aNil))) [3, 4]))
    (retS (bin2 dAdd (callB dInt1 (aCons (bin2 dNe (bin2 dIx (rdVar 0) (cst (.int 0))) (bin2 dIx (rdVar 1) (cst (.int 0)))) aNil)) (callB dSum (aCons (rdVar 2) aNil)))))
/-! fun cost_between -/
def B_cost_between (R_inner_cost : List PyData → Rt) (R_cost_between : List PyData → Rt) : En → Ot :=
  (seqS (setS 2 (bin2 dAdd (bin2 dIx (callF (F_measured 80) (aCons (rdVar 0) aNil)) (cst (.int 0))) (bin2 dIx (callF (F_measured 80) (aCons (rdVar 1) aNil)) (cst (.int 0)))))
    (retS (ifT (bin2B dNe (callB dLen (aCons (rdVar 0) aNil)) (callB dLen (aCons (rdVar 1) aNil))) (rdVar 2) (callB dMin2 (aCons (rdVar 2) (aCons (callF R_inner_cost (aCons (rdVar 0) (aCons (rdVar 1) aNil))) aNil))))))
def F_inner_cost_cost_between : Nat → (List PyData → Rt) × (List PyData → Rt)
  | 0 => (fun _ => .bad, fun _ => .bad)
  | n + 1 => (runF 5 2 (B_inner_cost (F_inner_cost_cost_between n).1 (F_inner_cost_cost_between n).2), runF 3 2 (B_cost_between (F_inner_cost_cost_between n).1 (F_inner_cost_cost_between n).2))
def F_inner_cost (n : Nat) : List PyData → Rt := (F_inner_cost_cost_between n).1
def F_cost_between (n : Nat) : List PyData → Rt := (F_inner_cost_cost_between n).2
/-! fun changes_of -/
def B_changes_of (R_changes_of : List PyData → Rt) : En → Ot :=
  (seqS (ifS (bin2B dNe (callB dLen (aCons (rdVar 0) aNil)) (callB dLen (aCons (rdVar 1) aNil))) (retS (newL (lst (aCons (tup (aCons (rdVar 2) (aCons (rdVar 1) aNil))) aNil)))) .next)
    (seqS (ifS (bin2B (dIntOp fun i j => .bool (decide (j < i))) (callF (F_inner_cost 50) (aCons (rdVar 0) (aCons (rdVar 1) aNil))) (bin2 dAdd (bin2 dIx (callF (F_measured 80) (aCons (rdVar 0) aNil)) (cst (.int 0))) (bin2 dIx (callF (F_measured 80) (aCons (rdVar 1) aNil)) (cst (.int 0))))) (retS (newL (lst (aCons (tup (aCons (rdVar 2) (aCons (rdVar 1) aNil))) aNil)))) .next)
    (seqS (setNS 3 (ifT (bin2B dEq (bin2 dIx (rdVar 0) (cst (.int 0))) (bin2 dIx (rdVar 1) (cst (.int 0)))) (lst aNil) (lst (aCons (tup (aCons (rdVar 2) (aCons (bin2 dIx (rdVar 1) (cst (.int 0))) aNil))) aNil))))
    (seqS (forS (argI enumZipD (aCons (slc (rdVar 0) (oYes (cst (.int 1))) oNo) (aCons (slc (rdVar 1) (oYes (cst (.int 1))) oNo) aNil))) (gT 2 (gsCons (gN 4) (gsCons (gT 2 (gsCons (gN 5) (gsCons (gN 6) gsNil))) gsNil))) (exprS (methF 3 gExtend (aCons (callF R_changes_of (aCons (rdVar 5) (aCons (rdVar 6) (aCons (tup (aStar (rdVar 2) (aCons (rdVar 4) aNil))) aNil)))) aNil))))
    (retS (rdVar 3))))))
def F_changes_of : Nat → List PyData → Rt
  | 0 => fun _ => .bad
  | n + 1 => runF 7 3 (B_changes_of (F_changes_of n))
/-! fun changes -/
def B_changes  : En → Ot :=
  (seqS (exprS (callF F_check_document (aCons (rdVar 0) aNil)))
    (seqS (exprS (callF F_check_document (aCons (rdVar 1) aNil)))
    (retS (callB dTupleOf (aCons (callF (F_changes_of 25) (aCons (rdVar 0) (aCons (rdVar 1) (aCons (tup aNil) aNil)))) aNil)))))
def F_changes := runF 2 2 B_changes
/-! fun changed -/
def B_changed  : En → Ot :=
  (seqS (exprS (callF F_check_document (aCons (rdVar 0) aNil)))
    (seqS (forS (un1 seqItems (rdVar 1)) (gT 2 (gsCons (gN 2) (gsCons (gN 3) gsNil))) (seqS (setS 4 (callF F_known_at (aCons (rdVar 0) (aCons (rdVar 2) aNil))))
    (seqS (ifS (bin2B dIs (rdVar 4) (cst .none)) (.err "NotAllowed") .next)
    (ifS (tval (isiF "str" (rdVar 3))) (seqS (ifS (notT (tval (callF F_is_label (aCons (rdVar 3) aNil)))) (.err "NotAllowed") .next)
    (setS 0 (callF F_known_put (aCons (rdVar 0) (aCons (rdVar 2) (aCons (tup (aCons (rdVar 3) (aStar (slc (rdVar 4) (oYes (cst (.int 1))) oNo) aNil))) aNil)))))) (setS 0 (callF F_with_inner (aCons (rdVar 0) (aCons (rdVar 2) (aCons (rdVar 3) aNil)))))))))
    (retS (rdVar 0))))
def F_changed := runF 5 2 B_changed
/-! fun _law_same -/
def B__law_same  : En → Ot :=
  (retS (bin2 dEq (callB dRepr (aCons (newL (lst (aCons (rdVar 0) aNil))) aNil)) (callB dRepr (aCons (newL (lst (aCons (rdVar 1) aNil))) aNil))))
def F__law_same := runF 2 2 B__law_same
/-! fun _law_stream -/
def B__law_stream  : En → Ot :=
  (seqS (setNS 1 (lst aNil))
    (seqS (forS (un1 seqItems (slc (rdVar 0) oNo (oYes (cst (.int 63))))) (gN 2) (seqS (setS 3 (callB dAbs (aCons (callB dInt1 (aCons (rdVar 2) aNil)) aNil)))
    (ifS (bin2B (dIntOp fun i j => .bool (decide (j ≤ i))) (rdVar 3) (bin2 (dIntOpC CPow fun i j => .int (i ^ j.toNat)) (cst (.int 10)) (cst (.int 18)))) (forS (argI rng1 (aCons (cst (.int 60)) aNil)) (gN 4) (seqS (exprS (methF 1 gAppend (aCons (bin2 (dIntOpC (fun _ j => 0 < j) fun i j => .int (i % j)) (callB dInt1 (aCons (rdVar 3) aNil)) (cst (.int 1009))) aNil)))
    (seqS (setS 3 (bin2 (dIntOpC CDiv fun i j => .int (i / j)) (rdVar 3) (cst (.int 1009))))
    (ifS (bin2B dEq (rdVar 3) (cst (.int 0))) .brk .next)))) (seqS (setS 5 (bin2 (dIntOpC (fun _ j => 0 < j) fun i j => .int (i % j)) (callB dInt1 (aCons (rdVar 3) aNil)) (cst (.int 2147483647))))
    (forS (argI rng1 (aCons (cst (.int 10)) aNil)) (gN 4) (seqS (setS 5 (bin2 (dIntOpC (fun _ j => 0 < j) fun i j => .int (i % j)) (callB dInt1 (aCons (bin2 dAdd (bin2 dAdd (bin2 dMul (rdVar 5) (cst (.int 48271))) (bin2 dMul (cst (.int 7)) (rdVar 4))) (cst (.int 11))) aNil)) (cst (.int 2147483647))))
    (exprS (methF 1 gAppend (aCons (bin2 (dIntOpC (fun _ j => 0 < j) fun i j => .int (i % j)) (bin2 (dIntOpC (fun _ j => 0 < j) fun i j => .int (i % j)) (callB dInt1 (aCons (bin2 dAdd (bin2 dMul (rdVar 5) (cst (.int 69621))) (rdVar 4)) aNil)) (cst (.int 2147483629))) (cst (.int 1009))) aNil)))))))))
    (seqS (ifS (bin2B dEq (lenV 1) (cst (.int 0))) (exprS (methF 1 gAppend (aCons (cst (.int 0)) aNil))) .next)
    (retS (rdVar 1)))))
def F__law_stream := runF 6 1 B__law_stream
/-! fun _law_next -/
def B__law_next  : En → Ot :=
  (seqS (asgS (bin2 dAdd (ixvF 0 (cst (.int 1))) (cst (.int 1))) (gSub 0 (cst (.int 1))))
    (seqS (setS 2 (bin2 (dIntOpC CDiv fun i j => .int (i / j)) (ixvF 0 (cst (.int 1))) (callB dLen (aCons (ixvF 0 (cst (.int 0))) aNil))))
    (retS (bin2 (dIntOpC (fun _ j => 0 < j) fun i j => .int (i % j)) (callB dInt1 (aCons (bin2 dAdd (bin2 dAdd (bin2 dIx (ixvF 0 (cst (.int 0))) (bin2 (dIntOpC (fun _ j => 0 < j) fun i j => .int (i % j)) (ixvF 0 (cst (.int 1))) (callB dLen (aCons (ixvF 0 (cst (.int 0))) aNil)))) (bin2 dMul (rdVar 2) (cst (.int 389)))) (bin2 dMul (bin2 dMul (ixvF 0 (cst (.int 1))) (rdVar 2)) (cst (.int 17)))) aNil)) (rdVar 1)))))
def F__law_next := runS 3 2 B__law_next
/-! fun _law_is_label -/
def B__law_is_label  : En → Ot :=
  (retS (andV (chain3 (dIntOp fun i j => .bool (decide (i ≤ j))) (dIntOp fun i j => .bool (decide (i ≤ j))) (cst (.int 1)) (callB dLen (aCons (rdVar 0) aNil)) (cst (.int 12))) (andV (bin2 dInS (bin2 dIx (rdVar 0) (cst (.int 0))) (cst (.str "abcdefghijklmnopqrstuvwxyz"))) (callB dAll (aCons (newL (lcAll (un1 seqItems (rdVar 0)) (gN 1) tYes' (bin2 dInS (rdVar 1) (cst (.str "abcdefghijklmnopqrstuvwxyz0123456789"))) [1])) aNil)))))
def F__law_is_label := runF 2 1 B__law_is_label
/-! fun _law_size -/
def B__law_size (R__law_size : List PyData → Rt) : En → Ot :=
  (retS (bin2 dAdd (cst (.int 1)) (callB dSum (aCons (newL (lcAll (un1 seqItems (slc (rdVar 0) (oYes (cst (.int 1))) oNo)) (gN 1) tYes' (callF R__law_size (aCons (rdVar 1) aNil)) [1])) aNil))))
def F__law_size : Nat → List PyData → Rt
  | 0 => fun _ => .bad
  | n + 1 => runF 2 1 (B__law_size (F__law_size n))
/-! fun _law_depth -/
def B__law_depth (R__law_depth : List PyData → Rt) : En → Ot :=
  (retS (callB dMaxL (aCons (bin2 dAdd (newL (lst (aCons (cst (.int 0)) aNil))) (newL (lcAll (un1 seqItems (slc (rdVar 0) (oYes (cst (.int 1))) oNo)) (gN 1) tYes' (bin2 dAdd (cst (.int 1)) (callF R__law_depth (aCons (rdVar 1) aNil))) [1]))) aNil)))
def F__law_depth : Nat → List PyData → Rt
  | 0 => fun _ => .bad
  | n + 1 => runF 2 1 (B__law_depth (F__law_depth n))
/-! fun _law_nodes -/
def B__law_nodes (R__law_nodes : List PyData → Rt) : En → Ot :=
  (seqS (setNS 2 (lst (aCons (tup (aCons (rdVar 1) (aCons (rdVar 0) aNil))) aNil)))
    (seqS (forS (argI rng1 (aCons (bin2 (dIntOp fun i j => .int (i - j)) (callB dLen (aCons (rdVar 0) aNil)) (cst (.int 1))) aNil)) (gN 3) (exprS (methF 2 gExtend (aCons (callF R__law_nodes (aCons (bin2 dIx (rdVar 0) (bin2 dAdd (rdVar 3) (cst (.int 1)))) (aCons (bin2 dAdd (rdVar 1) (tup (aCons (rdVar 3) aNil))) aNil))) aNil))))
    (retS (rdVar 2))))
def F__law_nodes : Nat → List PyData → Rt
  | 0 => fun _ => .bad
  | n + 1 => runF 4 2 (B__law_nodes (F__law_nodes n))
/-! fun _law_put -/
def B__law_put (R__law_put : List PyData → Rt) : En → Ot :=
  (seqS (ifS (bin2B dEq (callB dLen (aCons (rdVar 1) aNil)) (cst (.int 0))) (retS (rdVar 2)) .next)
    (seqS (setS 3 (bin2 dAdd (bin2 dIx (rdVar 1) (cst (.int 0))) (cst (.int 1))))
    (retS (bin2 dAdd (bin2 dAdd (slc (rdVar 0) oNo (oYes (rdVar 3))) (tup (aCons (callF R__law_put (aCons (bin2 dIx (rdVar 0) (rdVar 3)) (aCons (slc (rdVar 1) (oYes (cst (.int 1))) oNo) (aCons (rdVar 2) aNil)))) aNil))) (slc (rdVar 0) (oYes (bin2 dAdd (rdVar 3) (cst (.int 1)))) oNo)))))
def F__law_put : Nat → List PyData → Rt
  | 0 => fun _ => .bad
  | n + 1 => runF 4 3 (B__law_put (F__law_put n))
/-! fun _law_at -/
def B__law_at  : En → Ot :=
  (seqS (forS (un1 seqItems (rdVar 1)) (gN 2) (setS 0 (bin2 dIx (rdVar 0) (bin2 dAdd (rdVar 2) (cst (.int 1))))))
    (retS (rdVar 0)))
def F__law_at := runF 3 2 B__law_at
/-! fun _law_label -/
def B__law_label  : En → Ot :=
  (seqS (setS 1 (cst (.str "abcdefghijklmnopqrstuvwxyz")))
    (seqS (setS 2 (bin2 dIx (rdVar 1) (callSF 0 F__law_next (aCons (cst (.int 26)) aNil))))
    (seqS (forS (argI rng1 (aCons (bin2 dIx (newL (lst (aCons (cst (.int 0)) (aCons (cst (.int 0)) (aCons (cst (.int 1)) (aCons (cst (.int 2)) (aCons (cst (.int 11)) aNil))))))) (callSF 0 F__law_next (aCons (cst (.int 5)) aNil))) aNil)) (gN 3) (setS 2 (bin2 dAdd (rdVar 2) (bin2 dIx (bin2 dAdd (rdVar 1) (cst (.str "0123456789"))) (callSF 0 F__law_next (aCons (cst (.int 36)) aNil))))))
    (retS (rdVar 2)))))
def F__law_label := runS 4 1 B__law_label
/-! fun _law_signs -/
def B__law_signs  : En → Ot :=
  (seqS (setNS 2 (lst (aCons (tup (aCons (callSF 0 F__law_label aNil) (aCons (cst (.int 0)) aNil))) aNil)))
    (seqS (forS (argI rng1 (aCons (callSF 0 F__law_next (aCons (rdVar 1) aNil)) aNil)) (gN 3) (exprS (methF 2 gAppend (aCons (tup (aCons (callSF 0 F__law_label aNil) (aCons (bin2 dIx (newL (lst (aCons (cst (.int 0)) (aCons (cst (.int 1)) (aCons (cst (.int 1)) (aCons (cst (.int 2)) (aCons (cst (.int 2)) (aCons (bin2 dIx (newL (lst (aCons (cst (.int 2)) (aCons (cst (.int 3)) aNil)))) (callB dInt1 (aCons (bin2 dEq (callSF 0 F__law_next (aCons (cst (.int 5)) aNil)) (cst (.int 0))) aNil))) aNil)))))))) (callSF 0 F__law_next (aCons (cst (.int 6)) aNil))) aNil))) aNil))))
    (retS (callB dTupleOf (aCons (newL (un1 dSortSet (rdVar 2))) aNil)))))
def F__law_signs := runS 4 2 B__law_signs
/-! fun _law_document -/
def B__law_document (R__law_document : List PyData → List PyData → Rm) : En → Ot :=
  (seqS (setNS 3 (lcAll (un1 seqItems (rdVar 1)) (gT 2 (gsCons (gN 4) (gsCons (gN 5) gsNil))) tYes' (rdVar 5) [4, 5]))
    (seqS (setNS 6 (lcAll (un1 seqItems (rdVar 1)) (gT 2 (gsCons (gN 4) (gsCons (gN 5) gsNil))) (bin2B dEq (rdVar 5) (cst (.int 0))) (rdVar 4) [4, 5]))
    (seqS (ifS (orT (bin2B (dIntOp fun i j => .bool (decide (i < j))) (rdVar 2) (cst (.int 2))) (bin2B dEq (callB dMaxL (aCons (rdVar 3) aNil)) (cst (.int 0)))) (retS (tup (aCons (bin2 dIx (rdVar 6) (callSF 0 F__law_next (aCons (callB dLen (aCons (rdVar 6) aNil)) aNil))) aNil))) .next)
    (seqS (setNS 7 (lcAll (un1 seqItems (rdVar 1)) (gN 8) (andT (bin2B (dIntOp fun i j => .bool (decide (j < i))) (bin2 dIx (rdVar 8) (cst (.int 1))) (cst (.int 0))) (bin2B (dIntOp fun i j => .bool (decide (i < j))) (bin2 dIx (rdVar 8) (cst (.int 1))) (rdVar 2))) (rdVar 8) [8]))
    (seqS (ifS (bin2B dEq (callB dLen (aCons (rdVar 7) aNil)) (cst (.int 0))) (retS (tup (aCons (bin2 dIx (rdVar 6) (callSF 0 F__law_next (aCons (callB dLen (aCons (rdVar 6) aNil)) aNil))) aNil))) .next)
    (seqS (asgS (bin2 dIx (rdVar 7) (callSF 0 F__law_next (aCons (callB dLen (aCons (rdVar 7) aNil)) aNil))) (gT 2 (gsCons (gN 4) (gsCons (gN 5) gsNil))))
    (seqS (setS 9 (bin2 (dIntOp fun i j => .int (i - j)) (rdVar 2) (cst (.int 1))))
    (seqS (setNS 10 (lst aNil))
    (seqS (forS (argI rng1 (aCons (rdVar 5) aNil)) (gN 11) (seqS (setS 12 (bin2 (dIntOp fun i j => .int (i - j)) (rdVar 9) (bin2 (dIntOp fun i j => .int (i - j)) (bin2 (dIntOp fun i j => .int (i - j)) (rdVar 5) (rdVar 11)) (cst (.int 1)))))
    (seqS (ifS (bin2B (dIntOp fun i j => .bool (decide (i < j))) (rdVar 11) (bin2 (dIntOp fun i j => .int (i - j)) (rdVar 5) (cst (.int 1)))) (setS 12 (bin2 dAdd (cst (.int 1)) (callSF 0 F__law_next (aCons (rdVar 12) aNil)))) .next)
    (seqS (exprS (methF 10 gAppend (aCons (callSF 0 R__law_document (aCons (rdVar 1) (aCons (rdVar 12) aNil))) aNil)))
    (setS 9 (bin2 (dIntOp fun i j => .int (i - j)) (rdVar 9) (rdVar 12)))))))
    (retS (bin2 dAdd (tup (aCons (rdVar 4) aNil)) (callB dTupleOf (aCons (rdVar 10) aNil)))))))))))))
def F__law_document : Nat → List PyData → List PyData → Rm
  | 0 => fun _ _ => .bad
  | n + 1 => runS 13 3 (B__law_document (F__law_document n))
/-! fun _law_document_due -/
def B__law_document_due  : En → Ot :=
  (seqS (ifS (orT (bin2B (dIntOp fun i j => .bool (decide (j < i))) (callF (F__law_size 80) (aCons (rdVar 0) aNil)) (cst (.int 300))) (bin2B (dIntOp fun i j => .bool (decide (j < i))) (callF (F__law_depth 80) (aCons (rdVar 0) aNil)) (cst (.int 40)))) (retS (cst (.str "large"))) .next)
    (retS (bin2 dIx (newL (lst (aCons (cst .none) (aCons (cst (.str "refused")) aNil)))) (callB dInt1 (aCons (notV (callB dAll (aCons (newL (lcAll (un1 seqItems (callF (F__law_nodes 80) (aCons (rdVar 0) (aCons (tup aNil) aNil)))) (gT 2 (gsCons (gN 1) (gsCons (gN 2) gsNil))) tYes' (andV (callF F__law_is_label (aCons (bin2 dIx (rdVar 2) (cst (.int 0))) aNil)) (bin2 (dIntOp fun i j => .bool (decide (i < j))) (callB dLen (aCons (rdVar 2) aNil)) (cst (.int 5)))) [1, 2])) aNil))) aNil)))))
def F__law_document_due := runF 3 1 B__law_document_due
/-! fun _law_exact -/
def B__law_exact (R__law_exact : List PyData → Rt) : En → Ot :=
  (seqS (ifS (bin2B dEq (rdVar 0) (cst (.int 1))) (retS (tup (aCons (cst (.str "a")) aNil))) .next)
    (seqS (ifS (bin2B (dIntOp fun i j => .bool (decide (i < j))) (rdVar 0) (cst (.int 4))) (retS (tup (aCons (cst (.str "g")) (aCons (callF R__law_exact (aCons (bin2 (dIntOp fun i j => .int (i - j)) (rdVar 0) (cst (.int 1))) aNil)) aNil)))) .next)
    (seqS (setS 1 (bin2 (dIntOpC CDiv fun i j => .int (i / j)) (bin2 (dIntOp fun i j => .int (i - j)) (rdVar 0) (cst (.int 1))) (cst (.int 3))))
    (retS (tup (aCons (cst (.str "f")) (aCons (callF R__law_exact (aCons (rdVar 1) aNil)) (aCons (callF R__law_exact (aCons (rdVar 1) aNil)) (aCons (callF R__law_exact (aCons (bin2 (dIntOp fun i j => .int (i - j)) (bin2 (dIntOp fun i j => .int (i - j)) (rdVar 0) (cst (.int 1))) (bin2 dMul (cst (.int 2)) (rdVar 1))) aNil)) aNil)))))))))
def F__law_exact : Nat → List PyData → Rt
  | 0 => fun _ => .bad
  | n + 1 => runF 2 1 (B__law_exact (F__law_exact n))
/-! fun _law_cost -/
def B__law_cost (R__law_cost : List PyData → Rt) : En → Ot :=
  (seqS (setS 2 (bin2 dAdd (callF (F__law_size 80) (aCons (rdVar 0) aNil)) (callF (F__law_size 80) (aCons (rdVar 1) aNil))))
    (seqS (ifS (bin2B dNe (callB dLen (aCons (rdVar 0) aNil)) (callB dLen (aCons (rdVar 1) aNil))) (retS (rdVar 2)) .next)
    (seqS (setS 3 (callB dInt1 (aCons (bin2 dNe (bin2 dIx (rdVar 0) (cst (.int 0))) (bin2 dIx (rdVar 1) (cst (.int 0)))) aNil)))
    (seqS (forS (argI rng2 (aCons (cst (.int 1)) (aCons (callB dLen (aCons (rdVar 0) aNil)) aNil))) (gN 4) (setS 3 (bin2 dAdd (rdVar 3) (callF R__law_cost (aCons (bin2 dIx (rdVar 0) (rdVar 4)) (aCons (bin2 dIx (rdVar 1) (rdVar 4)) aNil))))))
    (retS (callB dMin2 (aCons (rdVar 2) (aCons (rdVar 3) aNil))))))))
def F__law_cost : Nat → List PyData → Rt
  | 0 => fun _ => .bad
  | n + 1 => runF 5 2 (B__law_cost (F__law_cost n))
/-! fun _law_told -/
def B__law_told  : En → Ot :=
  (tryF 3 res (retS (tup (aCons (cst (.str "told")) (aCons (pickF [F_changes, F_changed] (rdVar 0) (aCons (rdVar 1) (aCons (rdVar 2) aNil))) aNil)))))
def F__law_told := runF 4 3 B__law_told
/-! fun _law_due -/
def B__law_due  : En → Ot :=
  (seqS (forS (un1 seqItems (rdVar 1)) (gT 2 (gsCons (gN 2) (gsCons (gN 3) gsNil))) (seqS (setS 4 (rdVar 0))
    (seqS (forS (un1 seqItems (rdVar 2)) (gN 5) (seqS (ifS (notT (tval (chain3 (dIntOp fun i j => .bool (decide (i ≤ j))) (dIntOp fun i j => .bool (decide (i < j))) (cst (.int 0)) (rdVar 5) (bin2 (dIntOp fun i j => .int (i - j)) (callB dLen (aCons (rdVar 4) aNil)) (cst (.int 1)))))) (retS (cst (.str "refused"))) .next)
    (setS 4 (bin2 dIx (rdVar 4) (bin2 dAdd (rdVar 5) (cst (.int 1)))))))
    (ifS (tval (isiF "str" (rdVar 3))) (seqS (ifS (notT (tval (callF F__law_is_label (aCons (rdVar 3) aNil)))) (retS (cst (.str "refused"))) .next)
    (setS 0 (callF (F__law_put 80) (aCons (rdVar 0) (aCons (rdVar 2) (aCons (bin2 dAdd (tup (aCons (rdVar 3) aNil)) (slc (rdVar 4) (oYes (cst (.int 1))) oNo)) aNil)))))) (seqS (setS 6 (callF F__law_document_due (aCons (rdVar 3) aNil)))
    (seqS (ifS (bin2B dIsNot (rdVar 6) (cst .none)) (retS (rdVar 6)) .next)
    (seqS (setS 0 (callF (F__law_put 80) (aCons (rdVar 0) (aCons (rdVar 2) (aCons (rdVar 3) aNil)))))
    (ifS (orT (bin2B (dIntOp fun i j => .bool (decide (j < i))) (callF (F__law_size 80) (aCons (rdVar 0) aNil)) (cst (.int 300))) (bin2B (dIntOp fun i j => .bool (decide (j < i))) (callF (F__law_depth 80) (aCons (rdVar 0) aNil)) (cst (.int 40)))) (retS (cst (.str "large"))) .next))))))))
    (retS (tup (aCons (cst (.str "told")) (aCons (rdVar 0) aNil)))))
def F__law_due := runF 7 2 B__law_due
/-! fun _law_price -/
def B__law_price  : En → Ot :=
  (seqS (setS 2 (cst (.int 0)))
    (seqS (forS (un1 seqItems (rdVar 1)) (gT 2 (gsCons (gN 3) (gsCons (gN 4) gsNil))) (ifS (tval (isiF "str" (rdVar 4))) (setS 2 (bin2 dAdd (rdVar 2) (cst (.int 1)))) (setS 2 (bin2 dAdd (bin2 dAdd (rdVar 2) (callF (F__law_size 80) (aCons (callF F__law_at (aCons (rdVar 0) (aCons (rdVar 3) aNil))) aNil))) (callF (F__law_size 80) (aCons (rdVar 4) aNil))))))
    (retS (rdVar 2))))
def F__law_price := runF 5 2 B__law_price
/-! fun _law_listed -/
def B__law_listed (R__law_listed : List PyData → Rt) : En → Ot :=
  (seqS (ifS (bin2B dNe (callB dLen (aCons (rdVar 0) aNil)) (callB dLen (aCons (rdVar 1) aNil))) (retS (newL (lst (aCons (tup (aCons (rdVar 2) (aCons (rdVar 1) aNil))) aNil)))) .next)
    (seqS (setS 3 (bin2 dAdd (callB dInt1 (aCons (bin2 dNe (bin2 dIx (rdVar 0) (cst (.int 0))) (bin2 dIx (rdVar 1) (cst (.int 0)))) aNil)) (callB dSum (aCons (newL (lcAll (argI rng2 (aCons (cst (.int 1)) (aCons (callB dLen (aCons (rdVar 0) aNil)) aNil))) (gN 4) tYes' (callF (F__law_cost 25) (aCons (bin2 dIx (rdVar 0) (rdVar 4)) (aCons (bin2 dIx (rdVar 1) (rdVar 4)) aNil))) [4])) aNil))))
    (seqS (ifS (bin2B (dIntOp fun i j => .bool (decide (j < i))) (rdVar 3) (bin2 dAdd (callF (F__law_size 80) (aCons (rdVar 0) aNil)) (callF (F__law_size 80) (aCons (rdVar 1) aNil)))) (retS (newL (lst (aCons (tup (aCons (rdVar 2) (aCons (rdVar 1) aNil))) aNil)))) .next)
    (seqS (setNS 5 (binN dRepN (newL (lst (aCons (tup (aCons (rdVar 2) (aCons (bin2 dIx (rdVar 1) (cst (.int 0))) aNil))) aNil))) (callB dInt1 (aCons (bin2 dNe (bin2 dIx (rdVar 0) (cst (.int 0))) (bin2 dIx (rdVar 1) (cst (.int 0)))) aNil))))
    (seqS (forS (argI rng2 (aCons (cst (.int 1)) (aCons (callB dLen (aCons (rdVar 0) aNil)) aNil))) (gN 4) (exprS (methF 5 gExtend (aCons (callF R__law_listed (aCons (bin2 dIx (rdVar 0) (rdVar 4)) (aCons (bin2 dIx (rdVar 1) (rdVar 4)) (aCons (bin2 dAdd (rdVar 2) (tup (aCons (bin2 (dIntOp fun i j => .int (i - j)) (rdVar 4) (cst (.int 1))) aNil))) aNil)))) aNil))))
    (retS (rdVar 5)))))))
def F__law_listed : Nat → List PyData → Rt
  | 0 => fun _ => .bad
  | n + 1 => runF 6 3 (B__law_listed (F__law_listed n))
/-! fun _law_near -/
def B__law_near  : En → Ot :=
  (seqS (forS (argI rng1 (aCons (bin2 dAdd (cst (.int 1)) (callSF 0 F__law_next (aCons (cst (.int 3)) aNil))) aNil)) (gN 3) (seqS (setS 4 (callF (F__law_nodes 80) (aCons (rdVar 1) (aCons (tup aNil) aNil))))
    (seqS (asgS (bin2 dIx (rdVar 4) (callSF 0 F__law_next (aCons (callB dLen (aCons (rdVar 4) aNil)) aNil))) (gT 2 (gsCons (gN 5) (gsCons (gN 6) gsNil))))
    (setS 1 (callF (F__law_put 80) (aCons (rdVar 1) (aCons (rdVar 5) (aCons (bin2 dIx (newL (lst (aCons (bin2 dAdd (tup (aCons (callSF 0 F__law_label aNil) aNil)) (slc (rdVar 6) (oYes (cst (.int 1))) oNo)) (aCons (callSF 0 (F__law_document 14) (aCons (rdVar 2) (aCons (bin2 dAdd (cst (.int 1)) (callSF 0 F__law_next (aCons (cst (.int 4)) aNil))) aNil))) aNil)))) (callSF 0 F__law_next (aCons (cst (.int 2)) aNil))) aNil))))))))
    (retS (rdVar 1)))
def F__law_near := runS 7 3 B__law_near
/-! fun law -/
def B_law  : En → Ot :=
  (seqS (setNS 1 (lst (aCons (callF F__law_stream (aCons (rdVar 0) aNil)) (aCons (cst (.int 0)) aNil))))
    (seqS (forS (argI rng1 (aCons (cst (.int 6)) aNil)) (gN 2) (seqS (setS 3 (callSF 1 F__law_signs (aCons (cst (.int 5)) aNil)))
    (seqS (setS 4 (callSF 1 (F__law_document 14) (aCons (rdVar 3) (aCons (bin2 dAdd (cst (.int 1)) (callSF 1 F__law_next (aCons (cst (.int 12)) aNil))) aNil))))
    (seqS (setS 5 (bin2 dIx (newL (lst (aCons (callSF 1 (F__law_document 14) (aCons (rdVar 3) (aCons (bin2 dAdd (cst (.int 1)) (callSF 1 F__law_next (aCons (cst (.int 12)) aNil))) aNil))) (aCons (callSF 1 F__law_near (aCons (rdVar 4) (aCons (rdVar 3) aNil))) aNil)))) (callSF 1 F__law_next (aCons (cst (.int 2)) aNil))))
    (seqS (setS 6 (callB dRepr (aCons (tup (aCons (rdVar 4) (aCons (rdVar 5) aNil))) aNil)))
    (seqS (setS 7 (callF F__law_told (aCons (cst (.int 0)) (aCons (rdVar 4) (aCons (rdVar 5) aNil)))))
    (seqS (ifS (orT (notT (tval (callF F__law_same (aCons (rdVar 7) (aCons (tup (aCons (cst (.str "told")) (aCons (callB dTupleOf (aCons (callF (F__law_listed 25) (aCons (rdVar 4) (aCons (rdVar 5) (aCons (tup aNil) aNil)))) aNil)) aNil))) aNil))))) (bin2B dNe (callF F__law_price (aCons (rdVar 4) (aCons (bin2 dIx (rdVar 7) (cst (.int 1))) aNil))) (callF (F__law_cost 25) (aCons (rdVar 4) (aCons (rdVar 5) aNil))))) (retS (cst (.bool false))) .next)
    (seqS (ifS (notT (tval (callF F__law_same (aCons (newL (lst (aCons (callF F__law_told (aCons (cst (.int 1)) (aCons (rdVar 4) (aCons (bin2 dIx (rdVar 7) (cst (.int 1))) aNil)))) (aCons (callF F__law_told (aCons (cst (.int 0)) (aCons (rdVar 4) (aCons (rdVar 4) aNil)))) aNil)))) (aCons (newL (lst (aCons (tup (aCons (cst (.str "told")) (aCons (rdVar 5) aNil))) (aCons (tup (aCons (cst (.str "told")) (aCons (tup aNil) aNil))) aNil)))) aNil))))) (retS (cst (.bool false))) .next)
    (seqS (setNS 8 (lst aNil))
    (seqS (setS 9 (bin2 dAdd (newL (lcAll (un1 seqItems (callF (F__law_nodes 80) (aCons (rdVar 4) (aCons (tup aNil) aNil)))) (gT 2 (gsCons (gN 10) (gsCons (gN 11) gsNil))) tYes' (rdVar 10) [10, 11])) (newL (lst (aCons (tup (aCons (cst (.int 9)) aNil)) (aCons (tup (aCons (cst (.int 0)) (aCons (un1 dNeg (cst (.int 1))) aNil))) aNil))))))
    (seqS (forS (argI rng1 (aCons (callSF 1 F__law_next (aCons (cst (.int 4)) aNil)) aNil)) (gN 12) (seqS (setS 13 (bin2 dIx (newL (lst (aCons (callSF 1 F__law_label aNil) (aCons (cst (.str "")) (aCons (cst (.str "A")) (aCons (cst (.str "ab")) aNil)))))) (callSF 1 F__law_next (aCons (cst (.int 4)) aNil))))
    (exprS (methF 8 gAppend (aCons (tup (aCons (bin2 dIx (rdVar 9) (callSF 1 F__law_next (aCons (callB dLen (aCons (rdVar 9) aNil)) aNil))) (aCons (bin2 dIx (newL (lst (aCons (rdVar 13) (aCons (rdVar 5) (aCons (tup (aCons (cst (.str "A")) aNil)) aNil))))) (bin2 dIx (newL (lst (aCons (cst (.int 0)) (aCons (cst (.int 0)) (aCons (cst (.int 1)) (aCons (cst (.int 1)) (aCons (cst (.int 2)) aNil))))))) (callSF 1 F__law_next (aCons (cst (.int 5)) aNil)))) aNil))) aNil)))))
    (seqS (ifS (notT (tval (callF F__law_same (aCons (callF F__law_told (aCons (cst (.int 1)) (aCons (rdVar 4) (aCons (callB dTupleOf (aCons (rdVar 8) aNil)) aNil)))) (aCons (callF F__law_due (aCons (rdVar 4) (aCons (callB dTupleOf (aCons (rdVar 8) aNil)) aNil))) aNil))))) (retS (cst (.bool false))) .next)
    (ifS (orT (bin2B dNe (bin2 dAdd (newL (lcAll (argI rng1 (aCons (cst (.int 2)) aNil)) (gN 12) tYes' (callF F__law_told (aCons (rdVar 12) (aCons (tup (aCons (cst (.str "A")) aNil)) (aCons (tup aNil) aNil)))) [12])) (newL (lst (aCons (callF F__law_told (aCons (cst (.int 0)) (aCons (rdVar 4) (aCons (tup (aCons (cst (.str "A")) aNil)) aNil)))) aNil)))) (bin2 dMul (newL (lst (aCons (cst (.str "refused")) aNil))) (cst (.int 3)))) (bin2B dNe (callB dRepr (aCons (tup (aCons (rdVar 4) (aCons (rdVar 5) aNil))) aNil)) (rdVar 6))) (retS (cst (.bool false))) .next)))))))))))))
    (seqS (setS 14 (callF (F__law_exact 12) (aCons (cst (.int 150)) aNil)))
    (seqS (setS 10 (bin2 dIx (bin2 dIx (callF (F__law_nodes 80) (aCons (rdVar 14) (aCons (tup aNil) aNil))) (un1 dNeg (cst (.int 1)))) (cst (.int 0))))
    (seqS (setS 15 (bin2 dAdd (cst (.int 151)) (callSF 1 F__law_next (aCons (cst (.int 2)) aNil))))
    (seqS (setS 8 (tup (aCons (tup (aCons (rdVar 10) (aCons (callF (F__law_exact 12) (aCons (rdVar 15) aNil)) aNil))) (aCons (tup (aCons (rdVar 10) (aCons (cst (.str "b")) aNil))) aNil))))
    (retS (callF F__law_same (aCons (callF F__law_told (aCons (cst (.int 1)) (aCons (rdVar 14) (aCons (rdVar 8) aNil)))) (aCons (callF F__law_due (aCons (rdVar 14) (aCons (rdVar 8) aNil))) aNil))))))))))
def F_law := runF 16 1 B_law
end ML
set_option maxRecDepth 100000
set_option maxHeartbeats 4000000
namespace ML
open PySem L2
/-! ok is_label -/
theorem sc_is_label : FnScope ["text", "sign"] ["text"] (defScope s_is_label) := ⟨rfl, rfl, rfl, by decide +kernel, rfl, by decide +kernel, by decide +kernel⟩
theorem ok_is_label {P : Program} {w : World} {K : PySem.W.Frag} {mg : Str → Option Value} {base : Heap} (fc : Facts K mg) : Df P w K mg base (0 + 1) "is_label" ["text"] (spM K mg (runF 2 1 (B_is_label ))) := by
  obtain ⟨f, fd, F, hm⟩ := fc.f_is_label
  refine df_of F sc_is_label hm (F.binds fun _ _ _ _ _ _ us hl => match us, hl with | [_], _ => rfl) fun cdv A o s H E b => ?_
  obtain ⟨c, hp⟩ := b
  generalize hk : 0 = k at c
  exact (mss_cons (ms_if (mt_w (mw_or (mt_not (mt_chain om_le om_le me_int (me_callB cm_len fc.b_len (by decide +kernel) (ma_cons (me_var 0) ma_nil)) (me_gint rfl fc.k_MAX_LABEL.choose_spec))) (mw_or1 (mt_cmp om_notInS (me_ix (me_var 0) me_int) (me_gstr rfl fc.k_FIRST.choose_spec) (by with_unfolding_all rfl))))) (mss_one (ms_ret me_bl)) mss_nil)
    (mss_one (ms_ret (me_callB (cm_all c.calm) fc.b_all (by decide +kernel) (ma_cons (me_new (mn_lc [("sign", 1)] c (mi_seq (me_var 0)) (show blkC ["text", "sign"] (defScope s_is_label) _ [("sign", 1)] = true by decide +kernel) (fun _ _ _ _ _ => (mg_name 1 c.blk.nd)) (fun _ _ _ _ _ => mts_nil) (fun _ _ _ _ _ => (me_cmp om_inS (me_var 1) (me_gstr rfl fc.k_LATER.choose_spec) (by with_unfolding_all rfl))))) ma_nil)))))
/-! ok measured -/
theorem sc_measured : FnScope ["document", "size", "deep", "inner", "more", "below"] ["document"] (defScope s_measured) := ⟨rfl, rfl, rfl, by decide +kernel, rfl, by decide +kernel, by decide +kernel⟩
theorem ok_measured {P : Program} {w : World} {K : PySem.W.Frag} {mg : Str → Option Value} {base : Heap} {R_measured : List PyData → Rt} (fc : Facts K mg) {j : Nat} (hjb : 0 ≤ j) (d_measured : Df P w K mg base j "measured" ["document"] (spM K mg R_measured)) : Df P w K mg base (j + 1) "measured" ["document"] (spM K mg (runF 6 1 (B_measured R_measured))) := by
  obtain ⟨f, fd, F, hm⟩ := fc.f_measured
  refine df_of F sc_measured hm (F.binds fun _ _ _ _ _ _ us hl => match us, hl with | [_], _ => rfl) fun cdv A o s H E b => ?_
  obtain ⟨c, hp⟩ := b
  generalize hk : j = k at c
  exact (mss_cons (ms_asg (me_tup (ma_cons me_int (ma_cons me_int ma_nil))) (mg_tup c.calm (mgs_cons (mg_name 1 c.nd) (mgs_cons (mg_name 2 c.nd) mgs_nil))))
    (mss_cons (ms_for c hp (mi_seq (me_sl (me_var 0) (mo_some me_int) mo_none)) (mg_name 3 c.nd) (mss_cons (ms_asg (me_call c d_measured (by omega) (ma_cons (me_var 3) ma_nil)) (mg_tup c.calm (mgs_cons (mg_name 4 c.nd) (mgs_cons (mg_name 5 c.nd) mgs_nil))))
    (mss_cons (ms_aug 1 c.nd am_add (me_var 4))
    (mss_one (ms_set 2 c.nd (me_callB (cm_max2 c.calm) fc.b_max (by decide +kernel) (ma_cons (me_var 2) (ma_cons (me_op om_add (me_var 5) me_int) ma_nil))))))))
    (mss_one (ms_ret (me_tup (ma_cons (me_var 1) (ma_cons (me_var 2) ma_nil)))))))
/-! ok nodes -/
theorem sc_nodes : FnScope ["document", "found", "waiting", "path", "here", "at"] ["document"] (defScope s_nodes) := ⟨rfl, rfl, rfl, by decide +kernel, rfl, by decide +kernel, by decide +kernel⟩
theorem ok_nodes {P : Program} {w : World} {K : PySem.W.Frag} {mg : Str → Option Value} {base : Heap} (fc : Facts K mg) : Df P w K mg base (0 + 1) "nodes" ["document"] (spM K mg (runF 6 1 (B_nodes ))) := by
  obtain ⟨f, fd, F, hm⟩ := fc.f_nodes
  refine df_of F sc_nodes hm (F.binds fun _ _ _ _ _ _ us hl => match us, hl with | [_], _ => rfl) fun cdv A o s H E b => ?_
  obtain ⟨c, hp⟩ := b
  generalize hk : 0 = k at c
  exact (mss_cons (ms_setN 1 c.nd (mn_lst ma_nil))
    (mss_cons (ms_setN 2 c.nd (mn_lst (ma_cons (me_tup (ma_cons (me_tup ma_nil) (ma_cons (me_var 0) ma_nil))) ma_nil)))
    (mss_cons (ms_while 400 hp (mt_cmp om_gt (me_lenV 2 fc.b_len) me_int (nomark _)) (mss_cons (ms_asg (me_meth0 2 ml_pop PySem.F.slot_list_pop PySem.F.type_list_pop) (mg_tup c.calm (mgs_cons (mg_name 3 c.nd) (mgs_cons (mg_name 4 c.nd) mgs_nil))))
    (mss_cons (ms_expr (me_meth 1 ml_append PySem.F.slot_list_append PySem.F.type_list_append (ma_cons (me_tup (ma_cons (me_var 3) (ma_cons (me_var 4) ma_nil))) ma_nil)))
    (mss_one (ms_for c hp (mi_rangeD fc.b_range (ma_cons (me_op om_sub (me_callB cm_len fc.b_len (by decide +kernel) (ma_cons (me_var 4) ma_nil)) me_int) (ma_cons me_int (ma_cons (me_un um_neg me_int) ma_nil)))) (mg_name 5 c.nd) (mss_one (ms_expr (me_meth 2 ml_append PySem.F.slot_list_append PySem.F.type_list_append (ma_cons (me_tup (ma_cons (me_tup (ma_star (me_var 3) (ma_cons (me_op om_sub (me_var 5) me_int) ma_nil))) (ma_cons (me_ix (me_var 4) (me_var 5)) ma_nil))) ma_nil)))))))))
    (mss_one (ms_ret (me_var 1))))))
/-! ok check_document -/
theorem sc_check_document : FnScope ["document", "size", "deep", "_", "here"] ["document"] (defScope s_check_document) := ⟨rfl, rfl, rfl, by decide +kernel, rfl, by decide +kernel, by decide +kernel⟩
theorem ok_check_document {P : Program} {w : World} {K : PySem.W.Frag} {mg : Str → Option Value} {base : Heap} (fc : Facts K mg) (d_measured : Df P w K mg base 80 "measured" ["document"] (spM K mg (F_measured 80))) (d_nodes : Df P w K mg base 1 "nodes" ["document"] (spM K mg F_nodes)) (d_is_label : Df P w K mg base 1 "is_label" ["text"] (spM K mg F_is_label)) : Df P w K mg base (80 + 1) "check_document" ["document"] (spM K mg (runF 5 1 (B_check_document ))) := by
  obtain ⟨f, fd, F, hm⟩ := fc.f_check_document
  refine df_of F sc_check_document hm (F.binds fun _ _ _ _ _ _ us hl => match us, hl with | [_], _ => rfl) fun cdv A o s H E b => ?_
  obtain ⟨c, hp⟩ := b
  generalize hk : 80 = k at c
  exact (mss_cons (ms_asg (me_call c d_measured (by omega) (ma_cons (me_var 0) ma_nil)) (mg_tup c.calm (mgs_cons (mg_name 1 c.nd) (mgs_cons (mg_name 2 c.nd) mgs_nil))))
    (mss_cons (ms_if (mt_w (mw_or (mt_cmp om_gt (me_var 1) (me_gint rfl fc.k_MAX_SIZE.choose_spec) (nomark _)) (mw_or1 (mt_cmp om_gt (me_var 2) (me_gint rfl fc.k_MAX_DEPTH.choose_spec) (nomark _))))) (mss_one (ms_raise c PySem.F.excBase_Exception (fc.e_TooLarge).1.ex fc.g_TooLarge (fc.e_TooLarge).1.kp (raises_own (fc.e_TooLarge).1.sb (fc.e_TooLarge).1.ty))) mss_nil)
    (mss_cons (ms_for c hp (mi_seq (me_call c d_nodes (by omega) (ma_cons (me_var 0) ma_nil))) (mg_tup c.calm (mgs_cons (mg_name 3 c.nd) (mgs_cons (mg_name 4 c.nd) mgs_nil))) (mss_one (ms_if (mt_w (mw_or (mt_not (mt_val (me_call c d_is_label (by omega) (ma_cons (me_ix (me_var 4) me_int) ma_nil)))) (mw_or1 (mt_cmp om_gt (me_op om_sub (me_callB cm_len fc.b_len (by decide +kernel) (ma_cons (me_var 4) ma_nil)) me_int) (me_gint rfl fc.k_MAX_RANK.choose_spec) (nomark _))))) (mss_one (ms_raise c PySem.F.excBase_Exception (fc.e_NotAllowed).1.ex fc.g_NotAllowed (fc.e_NotAllowed).1.kp (raises_own (fc.e_NotAllowed).1.sb (fc.e_NotAllowed).1.ty))) mss_nil)))
    (mss_one (ms_ret me_non)))))
/-! ok known_at -/
theorem sc_known_at : FnScope ["document", "path", "here", "at"] ["document", "path"] (defScope s_known_at) := ⟨rfl, rfl, rfl, by decide +kernel, rfl, by decide +kernel, by decide +kernel⟩
theorem ok_known_at {P : Program} {w : World} {K : PySem.W.Frag} {mg : Str → Option Value} {base : Heap} (fc : Facts K mg) : Df P w K mg base (0 + 1) "known_at" ["document", "path"] (spM K mg (runF 4 2 (B_known_at ))) := by
  obtain ⟨f, fd, F, hm⟩ := fc.f_known_at
  refine df_of F sc_known_at hm (F.binds fun _ _ _ _ _ _ us hl => match us, hl with | [_, _], _ => rfl) fun cdv A o s H E b => ?_
  obtain ⟨c, hp⟩ := b
  generalize hk : 0 = k at c
  exact (mss_cons (ms_set 2 c.nd (me_var 0))
    (mss_cons (ms_for c hp (mi_seq (me_var 1)) (mg_name 3 c.nd) (mss_cons (ms_if (mt_not (mt_chain om_le om_lt me_int (me_var 3) (me_op om_sub (me_callB cm_len fc.b_len (by decide +kernel) (ma_cons (me_var 2) ma_nil)) me_int))) (mss_one (ms_ret me_non)) mss_nil)
    (mss_one (ms_set 2 c.nd (me_ix (me_var 2) (me_op om_add (me_var 3) me_int))))))
    (mss_one (ms_ret (me_var 2)))))
/-! ok known_put -/
theorem sc_known_put : FnScope ["document", "path", "other", "rows", "here", "at", "above"] ["document", "path", "other"] (defScope s_known_put) := ⟨rfl, rfl, rfl, by decide +kernel, rfl, by decide +kernel, by decide +kernel⟩
theorem ok_known_put {P : Program} {w : World} {K : PySem.W.Frag} {mg : Str → Option Value} {base : Heap} (fc : Facts K mg) : Df P w K mg base (0 + 1) "known_put" ["document", "path", "other"] (spM K mg (runF 7 3 (B_known_put ))) := by
  obtain ⟨f, fd, F, hm⟩ := fc.f_known_put
  refine df_of F sc_known_put hm (F.binds fun _ _ _ _ _ _ us hl => match us, hl with | [_, _, _], _ => rfl) fun cdv A o s H E b => ?_
  obtain ⟨c, hp⟩ := b
  generalize hk : 0 = k at c
  exact (mss_cons (ms_setN 3 c.nd (mn_lst ma_nil))
    (mss_cons (ms_set 4 c.nd (me_var 0))
    (mss_cons (ms_for c hp (mi_seq (me_var 1)) (mg_name 5 c.nd) (mss_cons (ms_expr (me_meth 3 ml_append PySem.F.slot_list_append PySem.F.type_list_append (ma_cons (me_tup (ma_cons (me_var 4) (ma_cons (me_var 5) ma_nil))) ma_nil)))
    (mss_one (ms_set 4 c.nd (me_ix (me_var 4) (me_op om_add (me_var 5) me_int))))))
    (mss_cons (ms_for c hp (mi_seq (me_new (mn_rev (me_var 3)))) (mg_tup c.calm (mgs_cons (mg_name 6 c.nd) (mgs_cons (mg_name 5 c.nd) mgs_nil))) (mss_one (ms_set 2 c.nd (me_tup (ma_star (me_sl (me_var 6) mo_none (mo_some (me_op om_add (me_var 5) me_int))) (ma_cons (me_var 2) (ma_star (me_sl (me_var 6) (mo_some (me_op om_add (me_var 5) me_int)) mo_none) ma_nil)))))))
    (mss_one (ms_ret (me_var 2)))))))
/-! ok with_inner -/
theorem sc_with_inner : FnScope ["document", "path", "other", "found", "size", "deep"] ["document", "path", "other"] (defScope s_with_inner) := ⟨rfl, rfl, rfl, by decide +kernel, rfl, by decide +kernel, by decide +kernel⟩
theorem ok_with_inner {P : Program} {w : World} {K : PySem.W.Frag} {mg : Str → Option Value} {base : Heap} (fc : Facts K mg) (d_check_document : Df P w K mg base 81 "check_document" ["document"] (spM K mg F_check_document)) (d_known_at : Df P w K mg base 1 "known_at" ["document", "path"] (spM K mg F_known_at)) (d_known_put : Df P w K mg base 1 "known_put" ["document", "path", "other"] (spM K mg F_known_put)) (d_measured : Df P w K mg base 80 "measured" ["document"] (spM K mg (F_measured 80))) : Df P w K mg base (81 + 1) "with_inner" ["document", "path", "other"] (spM K mg (runF 6 3 (B_with_inner ))) := by
  obtain ⟨f, fd, F, hm⟩ := fc.f_with_inner
  refine df_of F sc_with_inner hm (F.binds fun _ _ _ _ _ _ us hl => match us, hl with | [_, _, _], _ => rfl) fun cdv A o s H E b => ?_
  obtain ⟨c, hp⟩ := b
  generalize hk : 81 = k at c
  exact (mss_cons (ms_expr (me_call c d_check_document (by omega) (ma_cons (me_var 0) ma_nil)))
    (mss_cons (ms_if (mt_cmp om_is (me_call c d_known_at (by omega) (ma_cons (me_var 0) (ma_cons (me_var 1) ma_nil))) me_non (nomark _)) (mss_one (ms_raise c PySem.F.excBase_Exception (fc.e_NotAllowed).1.ex fc.g_NotAllowed (fc.e_NotAllowed).1.kp (raises_own (fc.e_NotAllowed).1.sb (fc.e_NotAllowed).1.ty))) mss_nil)
    (mss_cons (ms_expr (me_call c d_check_document (by omega) (ma_cons (me_var 2) ma_nil)))
    (mss_cons (ms_set 3 c.nd (me_call c d_known_put (by omega) (ma_cons (me_var 0) (ma_cons (me_var 1) (ma_cons (me_var 2) ma_nil)))))
    (mss_cons (ms_asg (me_call c d_measured (by omega) (ma_cons (me_var 3) ma_nil)) (mg_tup c.calm (mgs_cons (mg_name 4 c.nd) (mgs_cons (mg_name 5 c.nd) mgs_nil))))
    (mss_cons (ms_if (mt_w (mw_or (mt_cmp om_gt (me_var 4) (me_gint rfl fc.k_MAX_SIZE.choose_spec) (nomark _)) (mw_or1 (mt_cmp om_gt (me_var 5) (me_gint rfl fc.k_MAX_DEPTH.choose_spec) (nomark _))))) (mss_one (ms_raise c PySem.F.excBase_Exception (fc.e_TooLarge).1.ex fc.g_TooLarge (fc.e_TooLarge).1.kp (raises_own (fc.e_TooLarge).1.sb (fc.e_TooLarge).1.ty))) mss_nil)
    (mss_one (ms_ret (me_var 3)))))))))
/-! ok inner_cost -/
theorem sc_inner_cost : FnScope ["document", "other", "rows", "one", "two"] ["document", "other"] (defScope s_inner_cost) := ⟨rfl, rfl, rfl, by decide +kernel, rfl, by decide +kernel, by decide +kernel⟩
theorem ok_inner_cost {P : Program} {w : World} {K : PySem.W.Frag} {mg : Str → Option Value} {base : Heap} {R_inner_cost : List PyData → Rt} {R_cost_between : List PyData → Rt} (fc : Facts K mg) {j : Nat} (hjb : 80 ≤ j) (d_cost_between : Df P w K mg base j "cost_between" ["document", "other"] (spM K mg R_cost_between)) : Df P w K mg base (j + 1) "inner_cost" ["document", "other"] (spM K mg (runF 5 2 (B_inner_cost R_inner_cost R_cost_between))) := by
  obtain ⟨f, fd, F, hm⟩ := fc.f_inner_cost
  refine df_of F sc_inner_cost hm (F.binds fun _ _ _ _ _ _ us hl => match us, hl with | [_, _], _ => rfl) fun cdv A o s H E b => ?_
  obtain ⟨c, hp⟩ := b
  generalize hk : j = k at c
  exact (mss_cons (ms_lc 2 [("one", 3), ("two", 4)] c (mi_zip fc.b_zip (ma_cons (me_sl (me_var 0) (mo_some me_int) mo_none) (ma_cons (me_sl (me_var 1) (mo_some me_int) mo_none) ma_nil))) (show blkC ["document", "other", "rows", "one", "two"] (defScope s_inner_cost) _ [("one", 3), ("two", 4)] = true by decide +kernel) (fun _ _ _ _ _ => (mg_tup c.blk.calm (mgs_cons (mg_name 3 c.blk.nd) (mgs_cons (mg_name 4 c.blk.nd) mgs_nil)))) (fun _ _ _ _ _ => mts_nil) (fun _ _ _ _ _ => (me_call c.blk d_cost_between (by omega) (ma_cons (me_var 3) (ma_cons (me_var 4) ma_nil)))))
    (mss_one (ms_ret (me_op om_add (me_callTy cm_int1 fc.b_int (by decide +kernel) (ma_cons (me_cmp (om_ne c.hu) (me_ix (me_var 0) me_int) (me_ix (me_var 1) me_int) (nomark _)) ma_nil)) (me_callB (cm_sum c.calm) fc.b_sum (by decide +kernel) (ma_cons (me_var 2) ma_nil))))))
/-! ok cost_between -/
theorem sc_cost_between : FnScope ["document", "other", "whole"] ["document", "other"] (defScope s_cost_between) := ⟨rfl, rfl, rfl, by decide +kernel, rfl, by decide +kernel, by decide +kernel⟩
theorem ok_cost_between {P : Program} {w : World} {K : PySem.W.Frag} {mg : Str → Option Value} {base : Heap} {R_inner_cost : List PyData → Rt} {R_cost_between : List PyData → Rt} (fc : Facts K mg) {j : Nat} (hjb : 80 ≤ j) (d_measured : Df P w K mg base 80 "measured" ["document"] (spM K mg (F_measured 80))) (d_inner_cost : Df P w K mg base j "inner_cost" ["document", "other"] (spM K mg R_inner_cost)) : Df P w K mg base (j + 1) "cost_between" ["document", "other"] (spM K mg (runF 3 2 (B_cost_between R_inner_cost R_cost_between))) := by
  obtain ⟨f, fd, F, hm⟩ := fc.f_cost_between
  refine df_of F sc_cost_between hm (F.binds fun _ _ _ _ _ _ us hl => match us, hl with | [_, _], _ => rfl) fun cdv A o s H E b => ?_
  obtain ⟨c, hp⟩ := b
  generalize hk : j = k at c
  exact (mss_cons (ms_set 2 c.nd (me_op om_add (me_ix (me_call c d_measured (by omega) (ma_cons (me_var 0) ma_nil)) me_int) (me_ix (me_call c d_measured (by omega) (ma_cons (me_var 1) ma_nil)) me_int)))
    (mss_one (ms_ret (me_if (mt_cmp (om_ne c.hu) (me_callB cm_len fc.b_len (by decide +kernel) (ma_cons (me_var 0) ma_nil)) (me_callB cm_len fc.b_len (by decide +kernel) (ma_cons (me_var 1) ma_nil)) (nomark _)) (me_var 2) (me_callB (cm_min2 c.calm) fc.b_min (by decide +kernel) (ma_cons (me_var 2) (ma_cons (me_call c d_inner_cost (by omega) (ma_cons (me_var 0) (ma_cons (me_var 1) ma_nil))) ma_nil)))))))
/-! ok changes_of -/
theorem sc_changes_of : FnScope ["document", "other", "path", "found", "at", "one", "two"] ["document", "other", "path"] (defScope s_changes_of) := ⟨rfl, rfl, rfl, by decide +kernel, rfl, by decide +kernel, by decide +kernel⟩
theorem ok_changes_of {P : Program} {w : World} {K : PySem.W.Frag} {mg : Str → Option Value} {base : Heap} {R_changes_of : List PyData → Rt} (fc : Facts K mg) {j : Nat} (hjb : 130 ≤ j) (d_inner_cost : Df P w K mg base 130 "inner_cost" ["document", "other"] (spM K mg (F_inner_cost 50))) (d_measured : Df P w K mg base 80 "measured" ["document"] (spM K mg (F_measured 80))) (d_changes_of : Df P w K mg base j "changes_of" ["document", "other", "path"] (spM K mg R_changes_of)) : Df P w K mg base (j + 1) "changes_of" ["document", "other", "path"] (spM K mg (runF 7 3 (B_changes_of R_changes_of))) := by
  obtain ⟨f, fd, F, hm⟩ := fc.f_changes_of
  refine df_of F sc_changes_of hm (F.binds fun _ _ _ _ _ _ us hl => match us, hl with | [_, _, _], _ => rfl) fun cdv A o s H E b => ?_
  obtain ⟨c, hp⟩ := b
  generalize hk : j = k at c
  exact (mss_cons (ms_if (mt_cmp (om_ne c.hu) (me_callB cm_len fc.b_len (by decide +kernel) (ma_cons (me_var 0) ma_nil)) (me_callB cm_len fc.b_len (by decide +kernel) (ma_cons (me_var 1) ma_nil)) (nomark _)) (mss_one (ms_ret (me_new (mn_lst (ma_cons (me_tup (ma_cons (me_var 2) (ma_cons (me_var 1) ma_nil))) ma_nil))))) mss_nil)
    (mss_cons (ms_if (mt_cmp om_gt (me_call c d_inner_cost (by omega) (ma_cons (me_var 0) (ma_cons (me_var 1) ma_nil))) (me_op om_add (me_ix (me_call c d_measured (by omega) (ma_cons (me_var 0) ma_nil)) me_int) (me_ix (me_call c d_measured (by omega) (ma_cons (me_var 1) ma_nil)) me_int)) (nomark _)) (mss_one (ms_ret (me_new (mn_lst (ma_cons (me_tup (ma_cons (me_var 2) (ma_cons (me_var 1) ma_nil))) ma_nil))))) mss_nil)
    (mss_cons (ms_setN 3 c.nd (mn_if (mt_cmp (om_eq c.hu) (me_ix (me_var 0) me_int) (me_ix (me_var 1) me_int) (nomark _)) (mn_lst ma_nil) (mn_lst (ma_cons (me_tup (ma_cons (me_var 2) (ma_cons (me_ix (me_var 1) me_int) ma_nil))) ma_nil))))
    (mss_cons (ms_for c hp (mi_enumZip fc.b_enumerate fc.b_zip (ma_cons (me_sl (me_var 0) (mo_some me_int) mo_none) (ma_cons (me_sl (me_var 1) (mo_some me_int) mo_none) ma_nil))) (mg_tup c.calm (mgs_cons (mg_name 4 c.nd) (mgs_cons (mg_tup c.calm (mgs_cons (mg_name 5 c.nd) (mgs_cons (mg_name 6 c.nd) mgs_nil))) mgs_nil))) (mss_one (ms_expr (me_meth 3 ml_extend PySem.F.slot_list_extend PySem.F.type_list_extend (ma_cons (me_call c d_changes_of (by omega) (ma_cons (me_var 5) (ma_cons (me_var 6) (ma_cons (me_tup (ma_star (me_var 2) (ma_cons (me_var 4) ma_nil))) ma_nil)))) ma_nil)))))
    (mss_one (ms_ret (me_var 3)))))))
/-! ok changes -/
theorem sc_changes : FnScope ["document", "other"] ["document", "other"] (defScope s_changes) := ⟨rfl, rfl, rfl, by decide +kernel, rfl, by decide +kernel, by decide +kernel⟩
theorem ok_changes {P : Program} {w : World} {K : PySem.W.Frag} {mg : Str → Option Value} {base : Heap} (fc : Facts K mg) (d_check_document : Df P w K mg base 81 "check_document" ["document"] (spM K mg F_check_document)) (d_changes_of : Df P w K mg base 155 "changes_of" ["document", "other", "path"] (spM K mg (F_changes_of 25))) : Df P w K mg base (155 + 1) "changes" ["document", "other"] (spM K mg (runF 2 2 (B_changes ))) := by
  obtain ⟨f, fd, F, hm⟩ := fc.f_changes
  refine df_of F sc_changes hm (F.binds fun _ _ _ _ _ _ us hl => match us, hl with | [_, _], _ => rfl) fun cdv A o s H E b => ?_
  obtain ⟨c, hp⟩ := b
  generalize hk : 155 = k at c
  exact (mss_cons (ms_expr (me_call c d_check_document (by omega) (ma_cons (me_var 0) ma_nil)))
    (mss_cons (ms_expr (me_call c d_check_document (by omega) (ma_cons (me_var 1) ma_nil)))
    (mss_one (ms_ret (me_callTy cm_tupleOf fc.b_tuple (by decide +kernel) (ma_cons (me_call c d_changes_of (by omega) (ma_cons (me_var 0) (ma_cons (me_var 1) (ma_cons (me_tup ma_nil) ma_nil)))) ma_nil))))))
/-! ok changed -/
theorem sc_changed : FnScope ["document", "rows", "path", "told", "here"] ["document", "rows"] (defScope s_changed) := ⟨rfl, rfl, rfl, by decide +kernel, rfl, by decide +kernel, by decide +kernel⟩
theorem ok_changed {P : Program} {w : World} {K : PySem.W.Frag} {mg : Str → Option Value} {base : Heap} (fc : Facts K mg) (d_check_document : Df P w K mg base 81 "check_document" ["document"] (spM K mg F_check_document)) (d_known_at : Df P w K mg base 1 "known_at" ["document", "path"] (spM K mg F_known_at)) (d_is_label : Df P w K mg base 1 "is_label" ["text"] (spM K mg F_is_label)) (d_known_put : Df P w K mg base 1 "known_put" ["document", "path", "other"] (spM K mg F_known_put)) (d_with_inner : Df P w K mg base 82 "with_inner" ["document", "path", "other"] (spM K mg F_with_inner)) : Df P w K mg base (82 + 1) "changed" ["document", "rows"] (spM K mg (runF 5 2 (B_changed ))) := by
  obtain ⟨f, fd, F, hm⟩ := fc.f_changed
  refine df_of F sc_changed hm (F.binds fun _ _ _ _ _ _ us hl => match us, hl with | [_, _], _ => rfl) fun cdv A o s H E b => ?_
  obtain ⟨c, hp⟩ := b
  generalize hk : 82 = k at c
  exact (mss_cons (ms_expr (me_call c d_check_document (by omega) (ma_cons (me_var 0) ma_nil)))
    (mss_cons (ms_for c hp (mi_seq (me_var 1)) (mg_tup c.calm (mgs_cons (mg_name 2 c.nd) (mgs_cons (mg_name 3 c.nd) mgs_nil))) (mss_cons (ms_set 4 c.nd (me_call c d_known_at (by omega) (ma_cons (me_var 0) (ma_cons (me_var 2) ma_nil))))
    (mss_cons (ms_if (mt_cmp om_is (me_var 4) me_non (nomark _)) (mss_one (ms_raise c PySem.F.excBase_Exception (fc.e_NotAllowed).1.ex fc.g_NotAllowed (fc.e_NotAllowed).1.kp (raises_own (fc.e_NotAllowed).1.sb (fc.e_NotAllowed).1.ty))) mss_nil)
    (mss_one (ms_if (mt_val (me_isi (T := "str") fc.b_isinstance fc.b_str (by decide +kernel) (me_var 3))) (mss_cons (ms_if (mt_not (mt_val (me_call c d_is_label (by omega) (ma_cons (me_var 3) ma_nil)))) (mss_one (ms_raise c PySem.F.excBase_Exception (fc.e_NotAllowed).1.ex fc.g_NotAllowed (fc.e_NotAllowed).1.kp (raises_own (fc.e_NotAllowed).1.sb (fc.e_NotAllowed).1.ty))) mss_nil)
    (mss_one (ms_set 0 c.nd (me_call c d_known_put (by omega) (ma_cons (me_var 0) (ma_cons (me_var 2) (ma_cons (me_tup (ma_cons (me_var 3) (ma_star (me_sl (me_var 4) (mo_some me_int) mo_none) ma_nil))) ma_nil))))))) (mss_one (ms_set 0 c.nd (me_call c d_with_inner (by omega) (ma_cons (me_var 0) (ma_cons (me_var 2) (ma_cons (me_var 3) ma_nil)))))))))))
    (mss_one (ms_ret (me_var 0)))))
/-! ok _law_same -/
theorem sc__law_same : FnScope ["told", "due"] ["told", "due"] (defScope s__law_same) := ⟨rfl, rfl, rfl, by decide +kernel, rfl, by decide +kernel, by decide +kernel⟩
theorem ok__law_same {P : Program} {w : World} {K : PySem.W.Frag} {mg : Str → Option Value} {base : Heap} (fc : Facts K mg) : Df P w K mg base (0 + 1) "_law_same" ["told", "due"] (spM K mg (runF 2 2 (B__law_same ))) := by
  obtain ⟨f, fd, F, hm⟩ := fc.f__law_same
  refine df_of F sc__law_same hm (F.binds fun _ _ _ _ _ _ us hl => match us, hl with | [_, _], _ => rfl) fun cdv A o s H E b => ?_
  obtain ⟨c, hp⟩ := b
  generalize hk : 0 = k at c
  exact (mss_one (ms_ret (me_cmp (om_eq c.hu) (me_callB (cm_repr c.gd c.hu) fc.b_repr (by decide +kernel) (ma_cons (me_new (mn_lst (ma_cons (me_var 0) ma_nil))) ma_nil)) (me_callB (cm_repr c.gd c.hu) fc.b_repr (by decide +kernel) (ma_cons (me_new (mn_lst (ma_cons (me_var 1) ma_nil))) ma_nil)) (nomark _))))
/-! ok _law_stream -/
theorem sc__law_stream : FnScope ["script", "numbers", "cell", "rest", "k", "stirred"] ["script"] (defScope s__law_stream) := ⟨rfl, rfl, rfl, by decide +kernel, rfl, by decide +kernel, by decide +kernel⟩
theorem ok__law_stream {P : Program} {w : World} {K : PySem.W.Frag} {mg : Str → Option Value} {base : Heap} (fc : Facts K mg) : Df P w K mg base (0 + 1) "_law_stream" ["script"] (spM K mg (runF 6 1 (B__law_stream ))) := by
  obtain ⟨f, fd, F, hm⟩ := fc.f__law_stream
  refine df_of F sc__law_stream hm (F.binds fun _ _ _ _ _ _ us hl => match us, hl with | [_], _ => rfl) fun cdv A o s H E b => ?_
  obtain ⟨c, hp⟩ := b
  generalize hk : 0 = k at c
  exact (mss_cons (ms_setN 1 c.nd (mn_lst ma_nil))
    (mss_cons (ms_for c hp (mi_seq (me_sl (me_var 0) mo_none (mo_some me_int))) (mg_name 2 c.nd) (mss_cons (ms_set 3 c.nd (me_callB cm_abs fc.b_abs (by decide +kernel) (ma_cons (me_callTy cm_int1 fc.b_int (by decide +kernel) (ma_cons (me_var 2) ma_nil)) ma_nil)))
    (mss_one (ms_if (mt_cmp om_ge (me_var 3) (me_op om_pow me_int me_int) (nomark _)) (mss_one (ms_for c hp (mi_range1 fc.b_range (ma_cons me_int ma_nil)) (mg_name 4 c.nd) (mss_cons (ms_expr (me_meth 1 ml_append PySem.F.slot_list_append PySem.F.type_list_append (ma_cons (me_op om_mod (me_callTy cm_int1 fc.b_int (by decide +kernel) (ma_cons (me_var 3) ma_nil)) me_int) ma_nil)))
    (mss_cons (ms_set 3 c.nd (me_op om_fdiv (me_var 3) me_int))
    (mss_one (ms_if (mt_cmp (om_eq c.hu) (me_var 3) me_int (nomark _)) (mss_one ms_break) mss_nil)))))) (mss_cons (ms_set 5 c.nd (me_op om_mod (me_callTy cm_int1 fc.b_int (by decide +kernel) (ma_cons (me_var 3) ma_nil)) me_int))
    (mss_one (ms_for c hp (mi_range1 fc.b_range (ma_cons me_int ma_nil)) (mg_name 4 c.nd) (mss_cons (ms_set 5 c.nd (me_op om_mod (me_callTy cm_int1 fc.b_int (by decide +kernel) (ma_cons (me_op om_add (me_op om_add (me_op om_mulA (me_var 5) me_int) (me_op om_mulA me_int (me_var 4))) me_int) ma_nil)) me_int))
    (mss_one (ms_expr (me_meth 1 ml_append PySem.F.slot_list_append PySem.F.type_list_append (ma_cons (me_op om_mod (me_op om_mod (me_callTy cm_int1 fc.b_int (by decide +kernel) (ma_cons (me_op om_add (me_op om_mulA (me_var 5) me_int) (me_var 4)) ma_nil)) me_int) me_int) ma_nil))))))))))))
    (mss_cons (ms_if (mt_cmp (om_eq c.hu) (me_lenV 1 fc.b_len) me_int (nomark _)) (mss_one (ms_expr (me_meth 1 ml_append PySem.F.slot_list_append PySem.F.type_list_append (ma_cons me_int ma_nil)))) mss_nil)
    (mss_one (ms_ret (me_var 1))))))
/-! ok _law_next -/
theorem sc__law_next : FnScope ["state", "many", "turn"] ["state", "many"] (defScope s__law_next) := ⟨rfl, rfl, rfl, by decide +kernel, rfl, by decide +kernel, by decide +kernel⟩
theorem ok__law_next {P : Program} {w : World} {K : PySem.W.Frag} {mg : Str → Option Value} {base : Heap} (fc : Facts K mg) : Df P w K mg base (0 + 1) "_law_next" ["state", "many"] (spS K mg (runS 3 2 (B__law_next ))) := by
  obtain ⟨f, fd, F, hm⟩ := fc.f__law_next
  refine dfS_of F sc__law_next hm (F.binds fun _ _ _ _ _ _ us hl => match us, hl with | [_, _], _ => rfl) fun cdv A o s H E b => ?_
  obtain ⟨c, hp⟩ := b
  generalize hk : 0 = k at c
  exact (mss_cons (ms_asg (me_op om_add (me_ixv 0 me_int) me_int) (mg_sub (W := W0) 0 me_int))
    (mss_cons (ms_set 2 c.nd (me_op om_fdiv (me_ixv 0 me_int) (me_callB cm_len fc.b_len (by decide +kernel) (ma_cons (me_ixv 0 me_int) ma_nil))))
    (mss_one (ms_ret (me_op om_mod (me_callTy cm_int1 fc.b_int (by decide +kernel) (ma_cons (me_op om_add (me_op om_add (me_ix (me_ixv 0 me_int) (me_op om_mod (me_ixv 0 me_int) (me_callB cm_len fc.b_len (by decide +kernel) (ma_cons (me_ixv 0 me_int) ma_nil)))) (me_op om_mulA (me_var 2) me_int)) (me_op om_mulA (me_op om_mulA (me_ixv 0 me_int) (me_var 2)) me_int)) ma_nil)) (me_var 1))))))
/-! ok _law_is_label -/
theorem sc__law_is_label : FnScope ["text", "sign"] ["text"] (defScope s__law_is_label) := ⟨rfl, rfl, rfl, by decide +kernel, rfl, by decide +kernel, by decide +kernel⟩
theorem ok__law_is_label {P : Program} {w : World} {K : PySem.W.Frag} {mg : Str → Option Value} {base : Heap} (fc : Facts K mg) : Df P w K mg base (0 + 1) "_law_is_label" ["text"] (spM K mg (runF 2 1 (B__law_is_label ))) := by
  obtain ⟨f, fd, F, hm⟩ := fc.f__law_is_label
  refine df_of F sc__law_is_label hm (F.binds fun _ _ _ _ _ _ us hl => match us, hl with | [_], _ => rfl) fun cdv A o s H E b => ?_
  obtain ⟨c, hp⟩ := b
  generalize hk : 0 = k at c
  exact (mss_one (ms_ret (me_and (me_chain om_le om_le me_int (me_callB cm_len fc.b_len (by decide +kernel) (ma_cons (me_var 0) ma_nil)) me_int) (me_and (me_cmp om_inS (me_ix (me_var 0) me_int) me_str (by with_unfolding_all rfl)) (me_one (me_callB (cm_all c.calm) fc.b_all (by decide +kernel) (ma_cons (me_new (mn_lc [("sign", 1)] c (mi_seq (me_var 0)) (show blkC ["text", "sign"] (defScope s__law_is_label) _ [("sign", 1)] = true by decide +kernel) (fun _ _ _ _ _ => (mg_name 1 c.blk.nd)) (fun _ _ _ _ _ => mts_nil) (fun _ _ _ _ _ => (me_cmp om_inS (me_var 1) me_str (by with_unfolding_all rfl))))) ma_nil)))))))
/-! ok _law_size -/
theorem sc__law_size : FnScope ["document", "inner"] ["document"] (defScope s__law_size) := ⟨rfl, rfl, rfl, by decide +kernel, rfl, by decide +kernel, by decide +kernel⟩
theorem ok__law_size {P : Program} {w : World} {K : PySem.W.Frag} {mg : Str → Option Value} {base : Heap} {R__law_size : List PyData → Rt} (fc : Facts K mg) {j : Nat} (hjb : 0 ≤ j) (d__law_size : Df P w K mg base j "_law_size" ["document"] (spM K mg R__law_size)) : Df P w K mg base (j + 1) "_law_size" ["document"] (spM K mg (runF 2 1 (B__law_size R__law_size))) := by
  obtain ⟨f, fd, F, hm⟩ := fc.f__law_size
  refine df_of F sc__law_size hm (F.binds fun _ _ _ _ _ _ us hl => match us, hl with | [_], _ => rfl) fun cdv A o s H E b => ?_
  obtain ⟨c, hp⟩ := b
  generalize hk : j = k at c
  exact (mss_one (ms_ret (me_op om_add me_int (me_callB (cm_sum c.calm) fc.b_sum (by decide +kernel) (ma_cons (me_new (mn_lc [("inner", 1)] c (mi_seq (me_sl (me_var 0) (mo_some me_int) mo_none)) (show blkC ["document", "inner"] (defScope s__law_size) _ [("inner", 1)] = true by decide +kernel) (fun _ _ _ _ _ => (mg_name 1 c.blk.nd)) (fun _ _ _ _ _ => mts_nil) (fun _ _ _ _ _ => (me_call c.blk d__law_size (by omega) (ma_cons (me_var 1) ma_nil))))) ma_nil)))))
/-! ok _law_depth -/
theorem sc__law_depth : FnScope ["document", "inner"] ["document"] (defScope s__law_depth) := ⟨rfl, rfl, rfl, by decide +kernel, rfl, by decide +kernel, by decide +kernel⟩
theorem ok__law_depth {P : Program} {w : World} {K : PySem.W.Frag} {mg : Str → Option Value} {base : Heap} {R__law_depth : List PyData → Rt} (fc : Facts K mg) {j : Nat} (hjb : 0 ≤ j) (d__law_depth : Df P w K mg base j "_law_depth" ["document"] (spM K mg R__law_depth)) : Df P w K mg base (j + 1) "_law_depth" ["document"] (spM K mg (runF 2 1 (B__law_depth R__law_depth))) := by
  obtain ⟨f, fd, F, hm⟩ := fc.f__law_depth
  refine df_of F sc__law_depth hm (F.binds fun _ _ _ _ _ _ us hl => match us, hl with | [_], _ => rfl) fun cdv A o s H E b => ?_
  obtain ⟨c, hp⟩ := b
  generalize hk : j = k at c
  exact (mss_one (ms_ret (me_callB (cm_maxL c.calm) fc.b_max (by decide +kernel) (ma_cons (me_op om_add (me_new (mn_lst (ma_cons me_int ma_nil))) (me_new (mn_lc [("inner", 1)] c (mi_seq (me_sl (me_var 0) (mo_some me_int) mo_none)) (show blkC ["document", "inner"] (defScope s__law_depth) _ [("inner", 1)] = true by decide +kernel) (fun _ _ _ _ _ => (mg_name 1 c.blk.nd)) (fun _ _ _ _ _ => mts_nil) (fun _ _ _ _ _ => (me_op om_add me_int (me_call c.blk d__law_depth (by omega) (ma_cons (me_var 1) ma_nil))))))) ma_nil))))
/-! ok _law_nodes -/
theorem sc__law_nodes : FnScope ["document", "path", "found", "k"] ["document", "path"] (defScope s__law_nodes) := ⟨rfl, rfl, rfl, by decide +kernel, rfl, by decide +kernel, by decide +kernel⟩
theorem ok__law_nodes {P : Program} {w : World} {K : PySem.W.Frag} {mg : Str → Option Value} {base : Heap} {R__law_nodes : List PyData → Rt} (fc : Facts K mg) {j : Nat} (hjb : 0 ≤ j) (d__law_nodes : Df P w K mg base j "_law_nodes" ["document", "path"] (spM K mg R__law_nodes)) : Df P w K mg base (j + 1) "_law_nodes" ["document", "path"] (spM K mg (runF 4 2 (B__law_nodes R__law_nodes))) := by
  obtain ⟨f, fd, F, hm⟩ := fc.f__law_nodes
  refine df_of F sc__law_nodes hm (F.binds fun _ _ _ _ _ _ us hl => match us, hl with | [_, _], _ => rfl) fun cdv A o s H E b => ?_
  obtain ⟨c, hp⟩ := b
  generalize hk : j = k at c
  exact (mss_cons (ms_setN 2 c.nd (mn_lst (ma_cons (me_tup (ma_cons (me_var 1) (ma_cons (me_var 0) ma_nil))) ma_nil)))
    (mss_cons (ms_for c hp (mi_range1 fc.b_range (ma_cons (me_op om_sub (me_callB cm_len fc.b_len (by decide +kernel) (ma_cons (me_var 0) ma_nil)) me_int) ma_nil)) (mg_name 3 c.nd) (mss_one (ms_expr (me_meth 2 ml_extend PySem.F.slot_list_extend PySem.F.type_list_extend (ma_cons (me_call c d__law_nodes (by omega) (ma_cons (me_ix (me_var 0) (me_op om_add (me_var 3) me_int)) (ma_cons (me_op om_add (me_var 1) (me_tup (ma_cons (me_var 3) ma_nil))) ma_nil))) ma_nil)))))
    (mss_one (ms_ret (me_var 2)))))
/-! ok _law_put -/
theorem sc__law_put : FnScope ["document", "path", "other", "at"] ["document", "path", "other"] (defScope s__law_put) := ⟨rfl, rfl, rfl, by decide +kernel, rfl, by decide +kernel, by decide +kernel⟩
theorem ok__law_put {P : Program} {w : World} {K : PySem.W.Frag} {mg : Str → Option Value} {base : Heap} {R__law_put : List PyData → Rt} (fc : Facts K mg) {j : Nat} (hjb : 0 ≤ j) (d__law_put : Df P w K mg base j "_law_put" ["document", "path", "other"] (spM K mg R__law_put)) : Df P w K mg base (j + 1) "_law_put" ["document", "path", "other"] (spM K mg (runF 4 3 (B__law_put R__law_put))) := by
  obtain ⟨f, fd, F, hm⟩ := fc.f__law_put
  refine df_of F sc__law_put hm (F.binds fun _ _ _ _ _ _ us hl => match us, hl with | [_, _, _], _ => rfl) fun cdv A o s H E b => ?_
  obtain ⟨c, hp⟩ := b
  generalize hk : j = k at c
  exact (mss_cons (ms_if (mt_cmp (om_eq c.hu) (me_callB cm_len fc.b_len (by decide +kernel) (ma_cons (me_var 1) ma_nil)) me_int (nomark _)) (mss_one (ms_ret (me_var 2))) mss_nil)
    (mss_cons (ms_set 3 c.nd (me_op om_add (me_ix (me_var 1) me_int) me_int))
    (mss_one (ms_ret (me_op om_add (me_op om_add (me_sl (me_var 0) mo_none (mo_some (me_var 3))) (me_tup (ma_cons (me_call c d__law_put (by omega) (ma_cons (me_ix (me_var 0) (me_var 3)) (ma_cons (me_sl (me_var 1) (mo_some me_int) mo_none) (ma_cons (me_var 2) ma_nil)))) ma_nil))) (me_sl (me_var 0) (mo_some (me_op om_add (me_var 3) me_int)) mo_none))))))
/-! ok _law_at -/
theorem sc__law_at : FnScope ["document", "path", "k"] ["document", "path"] (defScope s__law_at) := ⟨rfl, rfl, rfl, by decide +kernel, rfl, by decide +kernel, by decide +kernel⟩
theorem ok__law_at {P : Program} {w : World} {K : PySem.W.Frag} {mg : Str → Option Value} {base : Heap} (fc : Facts K mg) : Df P w K mg base (0 + 1) "_law_at" ["document", "path"] (spM K mg (runF 3 2 (B__law_at ))) := by
  obtain ⟨f, fd, F, hm⟩ := fc.f__law_at
  refine df_of F sc__law_at hm (F.binds fun _ _ _ _ _ _ us hl => match us, hl with | [_, _], _ => rfl) fun cdv A o s H E b => ?_
  obtain ⟨c, hp⟩ := b
  generalize hk : 0 = k at c
  exact (mss_cons (ms_for c hp (mi_seq (me_var 1)) (mg_name 2 c.nd) (mss_one (ms_set 0 c.nd (me_ix (me_var 0) (me_op om_add (me_var 2) me_int)))))
    (mss_one (ms_ret (me_var 0))))
/-! ok _law_label -/
theorem sc__law_label : FnScope ["state", "letters", "word", "k"] ["state"] (defScope s__law_label) := ⟨rfl, rfl, rfl, by decide +kernel, rfl, by decide +kernel, by decide +kernel⟩
theorem ok__law_label {P : Program} {w : World} {K : PySem.W.Frag} {mg : Str → Option Value} {base : Heap} (fc : Facts K mg) (d__law_next : Df P w K mg base 1 "_law_next" ["state", "many"] (spS K mg F__law_next)) : Df P w K mg base (1 + 1) "_law_label" ["state"] (spS K mg (runS 4 1 (B__law_label ))) := by
  obtain ⟨f, fd, F, hm⟩ := fc.f__law_label
  refine dfS_of F sc__law_label hm (F.binds fun _ _ _ _ _ _ us hl => match us, hl with | [_], _ => rfl) fun cdv A o s H E b => ?_
  obtain ⟨c, hp⟩ := b
  generalize hk : 1 = k at c
  exact (mss_cons (ms_set 1 c.nd me_str)
    (mss_cons (ms_set 2 c.nd (me_ix (me_var 1) (me_callS 0 c d__law_next (by omega) (ma_cons me_int ma_nil))))
    (mss_cons (ms_for c hp (mi_range1 fc.b_range (ma_cons (me_ix (me_new (mn_lst (ma_cons me_int (ma_cons me_int (ma_cons me_int (ma_cons me_int (ma_cons me_int ma_nil))))))) (me_callS 0 c d__law_next (by omega) (ma_cons me_int ma_nil))) ma_nil)) (mg_name 3 c.nd) (mss_one (ms_set 2 c.nd (me_op om_add (me_var 2) (me_ix (me_op om_add (me_var 1) me_str) (me_callS 0 c d__law_next (by omega) (ma_cons me_int ma_nil)))))))
    (mss_one (ms_ret (me_var 2))))))
/-! ok _law_signs -/
theorem sc__law_signs : FnScope ["state", "most", "found", "k"] ["state", "most"] (defScope s__law_signs) := ⟨rfl, rfl, rfl, by decide +kernel, rfl, by decide +kernel, by decide +kernel⟩
theorem ok__law_signs {P : Program} {w : World} {K : PySem.W.Frag} {mg : Str → Option Value} {base : Heap} (fc : Facts K mg) (d__law_label : Df P w K mg base 2 "_law_label" ["state"] (spS K mg F__law_label)) (d__law_next : Df P w K mg base 1 "_law_next" ["state", "many"] (spS K mg F__law_next)) : Df P w K mg base (2 + 1) "_law_signs" ["state", "most"] (spS K mg (runS 4 2 (B__law_signs ))) := by
  obtain ⟨f, fd, F, hm⟩ := fc.f__law_signs
  refine dfS_of F sc__law_signs hm (F.binds fun _ _ _ _ _ _ us hl => match us, hl with | [_, _], _ => rfl) fun cdv A o s H E b => ?_
  obtain ⟨c, hp⟩ := b
  generalize hk : 2 = k at c
  exact (mss_cons (ms_setN 2 c.nd (mn_lst (ma_cons (me_tup (ma_cons (me_callS 0 c d__law_label (by omega) ma_nil) (ma_cons me_int ma_nil))) ma_nil)))
    (mss_cons (ms_for c hp (mi_range1 fc.b_range (ma_cons (me_callS 0 c d__law_next (by omega) (ma_cons (me_var 1) ma_nil)) ma_nil)) (mg_name 3 c.nd) (mss_one (ms_expr (me_meth 2 ml_append PySem.F.slot_list_append PySem.F.type_list_append (ma_cons (me_tup (ma_cons (me_callS 0 c d__law_label (by omega) ma_nil) (ma_cons (me_ix (me_new (mn_lst (ma_cons me_int (ma_cons me_int (ma_cons me_int (ma_cons me_int (ma_cons me_int (ma_cons (me_ix (me_new (mn_lst (ma_cons me_int (ma_cons me_int ma_nil)))) (me_callTy cm_int1 fc.b_int (by decide +kernel) (ma_cons (me_cmp (om_eq c.hu) (me_callS 0 c d__law_next (by omega) (ma_cons me_int ma_nil)) me_int (nomark _)) ma_nil))) ma_nil)))))))) (me_callS 0 c d__law_next (by omega) (ma_cons me_int ma_nil))) ma_nil))) ma_nil)))))
    (mss_one (ms_ret (me_callTy cm_tupleOf fc.b_tuple (by decide +kernel) (ma_cons (me_new (mn_sortSet c (me_var 2) fc.b_sorted fc.b_set)) ma_nil))))))
/-! ok _law_document -/
theorem sc__law_document : FnScope ["state", "signs", "whole", "ranks", "label", "rank", "leaves", "rows", "sign", "left", "inner", "k", "own"] ["state", "signs", "whole"] (defScope s__law_document) := ⟨rfl, rfl, rfl, by decide +kernel, rfl, by decide +kernel, by decide +kernel⟩
theorem ok__law_document {P : Program} {w : World} {K : PySem.W.Frag} {mg : Str → Option Value} {base : Heap} {R__law_document : List PyData → List PyData → Rm} (fc : Facts K mg) {j : Nat} (hjb : 1 ≤ j) (d__law_next : Df P w K mg base 1 "_law_next" ["state", "many"] (spS K mg F__law_next)) (d__law_document : Df P w K mg base j "_law_document" ["state", "signs", "whole"] (spS K mg R__law_document)) : Df P w K mg base (j + 1) "_law_document" ["state", "signs", "whole"] (spS K mg (runS 13 3 (B__law_document R__law_document))) := by
  obtain ⟨f, fd, F, hm⟩ := fc.f__law_document
  refine dfS_of F sc__law_document hm (F.binds fun _ _ _ _ _ _ us hl => match us, hl with | [_, _, _], _ => rfl) fun cdv A o s H E b => ?_
  obtain ⟨c, hp⟩ := b
  generalize hk : j = k at c
  exact (mss_cons (ms_lc 3 [("label", 4), ("rank", 5)] c (mi_seq (me_var 1)) (show blkC ["state", "signs", "whole", "ranks", "label", "rank", "leaves", "rows", "sign", "left", "inner", "k", "own"] (defScope s__law_document) _ [("label", 4), ("rank", 5)] = true by decide +kernel) (fun _ _ _ _ _ => (mg_tup c.blk.calm (mgs_cons (mg_name 4 c.blk.nd) (mgs_cons (mg_name 5 c.blk.nd) mgs_nil)))) (fun _ _ _ _ _ => mts_nil) (fun _ _ _ _ _ => (me_var 5)))
    (mss_cons (ms_lc 6 [("label", 4), ("rank", 5)] c (mi_seq (me_var 1)) (show blkC ["state", "signs", "whole", "ranks", "label", "rank", "leaves", "rows", "sign", "left", "inner", "k", "own"] (defScope s__law_document) _ [("label", 4), ("rank", 5)] = true by decide +kernel) (fun _ _ _ _ _ => (mg_tup c.blk.calm (mgs_cons (mg_name 4 c.blk.nd) (mgs_cons (mg_name 5 c.blk.nd) mgs_nil)))) (fun _ _ _ _ _ => (mts_one (mt_cmp (om_eq c.blk.hu) (me_var 5) me_int (nomark _)))) (fun _ _ _ _ _ => (me_var 4)))
    (mss_cons (ms_if (mt_w (mw_or (mt_cmp om_lt (me_var 2) me_int (nomark _)) (mw_or1 (mt_cmp (om_eq c.hu) (me_callB (cm_maxL c.calm) fc.b_max (by decide +kernel) (ma_cons (me_var 3) ma_nil)) me_int (nomark _))))) (mss_one (ms_ret (me_tup (ma_cons (me_ix (me_var 6) (me_callS 0 c d__law_next (by omega) (ma_cons (me_callB cm_len fc.b_len (by decide +kernel) (ma_cons (me_var 6) ma_nil)) ma_nil))) ma_nil)))) mss_nil)
    (mss_cons (ms_lc 7 [("sign", 8)] c (mi_seq (me_var 1)) (show blkC ["state", "signs", "whole", "ranks", "label", "rank", "leaves", "rows", "sign", "left", "inner", "k", "own"] (defScope s__law_document) _ [("sign", 8)] = true by decide +kernel) (fun _ _ _ _ _ => (mg_name 8 c.blk.nd)) (fun _ _ _ _ _ => (mts_one (mt_w (mw_and (mt_cmp om_gt (me_ix (me_var 8) me_int) me_int (nomark _)) (mw_and1 (mt_cmp om_lt (me_ix (me_var 8) me_int) (me_var 2) (nomark _))))))) (fun _ _ _ _ _ => (me_var 8)))
    (mss_cons (ms_if (mt_cmp (om_eq c.hu) (me_callB cm_len fc.b_len (by decide +kernel) (ma_cons (me_var 7) ma_nil)) me_int (nomark _)) (mss_one (ms_ret (me_tup (ma_cons (me_ix (me_var 6) (me_callS 0 c d__law_next (by omega) (ma_cons (me_callB cm_len fc.b_len (by decide +kernel) (ma_cons (me_var 6) ma_nil)) ma_nil))) ma_nil)))) mss_nil)
    (mss_cons (ms_asg (me_ix (me_var 7) (me_callS 0 c d__law_next (by omega) (ma_cons (me_callB cm_len fc.b_len (by decide +kernel) (ma_cons (me_var 7) ma_nil)) ma_nil))) (mg_tup c.calm (mgs_cons (mg_name 4 c.nd) (mgs_cons (mg_name 5 c.nd) mgs_nil))))
    (mss_cons (ms_set 9 c.nd (me_op om_sub (me_var 2) me_int))
    (mss_cons (ms_setN 10 c.nd (mn_lst ma_nil))
    (mss_cons (ms_for c hp (mi_range1 fc.b_range (ma_cons (me_var 5) ma_nil)) (mg_name 11 c.nd) (mss_cons (ms_set 12 c.nd (me_op om_sub (me_var 9) (me_op om_sub (me_op om_sub (me_var 5) (me_var 11)) me_int)))
    (mss_cons (ms_if (mt_cmp om_lt (me_var 11) (me_op om_sub (me_var 5) me_int) (nomark _)) (mss_one (ms_set 12 c.nd (me_op om_add me_int (me_callS 0 c d__law_next (by omega) (ma_cons (me_var 12) ma_nil))))) mss_nil)
    (mss_cons (ms_expr (me_meth 10 ml_append PySem.F.slot_list_append PySem.F.type_list_append (ma_cons (me_callS 0 c d__law_document (by omega) (ma_cons (me_var 1) (ma_cons (me_var 12) ma_nil))) ma_nil)))
    (mss_one (ms_set 9 c.nd (me_op om_sub (me_var 9) (me_var 12))))))))
    (mss_one (ms_ret (me_op om_add (me_tup (ma_cons (me_var 4) ma_nil)) (me_callTy cm_tupleOf fc.b_tuple (by decide +kernel) (ma_cons (me_var 10) ma_nil))))))))))))))
/-! ok _law_document_due -/
theorem sc__law_document_due : FnScope ["document", "path", "here"] ["document"] (defScope s__law_document_due) := ⟨rfl, rfl, rfl, by decide +kernel, rfl, by decide +kernel, by decide +kernel⟩
theorem ok__law_document_due {P : Program} {w : World} {K : PySem.W.Frag} {mg : Str → Option Value} {base : Heap} (fc : Facts K mg) (d__law_size : Df P w K mg base 80 "_law_size" ["document"] (spM K mg (F__law_size 80))) (d__law_depth : Df P w K mg base 80 "_law_depth" ["document"] (spM K mg (F__law_depth 80))) (d__law_nodes : Df P w K mg base 80 "_law_nodes" ["document", "path"] (spM K mg (F__law_nodes 80))) (d__law_is_label : Df P w K mg base 1 "_law_is_label" ["text"] (spM K mg F__law_is_label)) : Df P w K mg base (80 + 1) "_law_document_due" ["document"] (spM K mg (runF 3 1 (B__law_document_due ))) := by
  obtain ⟨f, fd, F, hm⟩ := fc.f__law_document_due
  refine df_of F sc__law_document_due hm (F.binds fun _ _ _ _ _ _ us hl => match us, hl with | [_], _ => rfl) fun cdv A o s H E b => ?_
  obtain ⟨c, hp⟩ := b
  generalize hk : 80 = k at c
  exact (mss_cons (ms_if (mt_w (mw_or (mt_cmp om_gt (me_call c d__law_size (by omega) (ma_cons (me_var 0) ma_nil)) me_int (nomark _)) (mw_or1 (mt_cmp om_gt (me_call c d__law_depth (by omega) (ma_cons (me_var 0) ma_nil)) me_int (nomark _))))) (mss_one (ms_ret me_str)) mss_nil)
    (mss_one (ms_ret (me_ix (me_new (mn_lst (ma_cons me_non (ma_cons me_str ma_nil)))) (me_callTy cm_int1 fc.b_int (by decide +kernel) (ma_cons (me_not (me_callB (cm_all c.calm) fc.b_all (by decide +kernel) (ma_cons (me_new (mn_lc [("path", 1), ("here", 2)] c (mi_seq (me_call c d__law_nodes (by omega) (ma_cons (me_var 0) (ma_cons (me_tup ma_nil) ma_nil)))) (show blkC ["document", "path", "here"] (defScope s__law_document_due) _ [("path", 1), ("here", 2)] = true by decide +kernel) (fun _ _ _ _ _ => (mg_tup c.blk.calm (mgs_cons (mg_name 1 c.blk.nd) (mgs_cons (mg_name 2 c.blk.nd) mgs_nil)))) (fun _ _ _ _ _ => mts_nil) (fun _ _ _ _ _ => (me_and (me_call c.blk d__law_is_label (by omega) (ma_cons (me_ix (me_var 2) me_int) ma_nil)) (me_one (me_cmp om_lt (me_callB cm_len fc.b_len (by decide +kernel) (ma_cons (me_var 2) ma_nil)) me_int (nomark _))))))) ma_nil))) ma_nil))))))
/-! ok _law_exact -/
theorem sc__law_exact : FnScope ["many", "third"] ["many"] (defScope s__law_exact) := ⟨rfl, rfl, rfl, by decide +kernel, rfl, by decide +kernel, by decide +kernel⟩
theorem ok__law_exact {P : Program} {w : World} {K : PySem.W.Frag} {mg : Str → Option Value} {base : Heap} {R__law_exact : List PyData → Rt} (fc : Facts K mg) {j : Nat} (hjb : 0 ≤ j) (d__law_exact : Df P w K mg base j "_law_exact" ["many"] (spM K mg R__law_exact)) : Df P w K mg base (j + 1) "_law_exact" ["many"] (spM K mg (runF 2 1 (B__law_exact R__law_exact))) := by
  obtain ⟨f, fd, F, hm⟩ := fc.f__law_exact
  refine df_of F sc__law_exact hm (F.binds fun _ _ _ _ _ _ us hl => match us, hl with | [_], _ => rfl) fun cdv A o s H E b => ?_
  obtain ⟨c, hp⟩ := b
  generalize hk : j = k at c
  exact (mss_cons (ms_if (mt_cmp (om_eq c.hu) (me_var 0) me_int (nomark _)) (mss_one (ms_ret (me_tup (ma_cons me_str ma_nil)))) mss_nil)
    (mss_cons (ms_if (mt_cmp om_lt (me_var 0) me_int (nomark _)) (mss_one (ms_ret (me_tup (ma_cons me_str (ma_cons (me_call c d__law_exact (by omega) (ma_cons (me_op om_sub (me_var 0) me_int) ma_nil)) ma_nil))))) mss_nil)
    (mss_cons (ms_set 1 c.nd (me_op om_fdiv (me_op om_sub (me_var 0) me_int) me_int))
    (mss_one (ms_ret (me_tup (ma_cons me_str (ma_cons (me_call c d__law_exact (by omega) (ma_cons (me_var 1) ma_nil)) (ma_cons (me_call c d__law_exact (by omega) (ma_cons (me_var 1) ma_nil)) (ma_cons (me_call c d__law_exact (by omega) (ma_cons (me_op om_sub (me_op om_sub (me_var 0) me_int) (me_op om_mulA me_int (me_var 1))) ma_nil)) ma_nil))))))))))
/-! ok _law_cost -/
theorem sc__law_cost : FnScope ["document", "other", "whole", "found", "k"] ["document", "other"] (defScope s__law_cost) := ⟨rfl, rfl, rfl, by decide +kernel, rfl, by decide +kernel, by decide +kernel⟩
theorem ok__law_cost {P : Program} {w : World} {K : PySem.W.Frag} {mg : Str → Option Value} {base : Heap} {R__law_cost : List PyData → Rt} (fc : Facts K mg) {j : Nat} (hjb : 80 ≤ j) (d__law_size : Df P w K mg base 80 "_law_size" ["document"] (spM K mg (F__law_size 80))) (d__law_cost : Df P w K mg base j "_law_cost" ["document", "other"] (spM K mg R__law_cost)) : Df P w K mg base (j + 1) "_law_cost" ["document", "other"] (spM K mg (runF 5 2 (B__law_cost R__law_cost))) := by
  obtain ⟨f, fd, F, hm⟩ := fc.f__law_cost
  refine df_of F sc__law_cost hm (F.binds fun _ _ _ _ _ _ us hl => match us, hl with | [_, _], _ => rfl) fun cdv A o s H E b => ?_
  obtain ⟨c, hp⟩ := b
  generalize hk : j = k at c
  exact (mss_cons (ms_set 2 c.nd (me_op om_add (me_call c d__law_size (by omega) (ma_cons (me_var 0) ma_nil)) (me_call c d__law_size (by omega) (ma_cons (me_var 1) ma_nil))))
    (mss_cons (ms_if (mt_cmp (om_ne c.hu) (me_callB cm_len fc.b_len (by decide +kernel) (ma_cons (me_var 0) ma_nil)) (me_callB cm_len fc.b_len (by decide +kernel) (ma_cons (me_var 1) ma_nil)) (nomark _)) (mss_one (ms_ret (me_var 2))) mss_nil)
    (mss_cons (ms_set 3 c.nd (me_callTy cm_int1 fc.b_int (by decide +kernel) (ma_cons (me_cmp (om_ne c.hu) (me_ix (me_var 0) me_int) (me_ix (me_var 1) me_int) (nomark _)) ma_nil)))
    (mss_cons (ms_for c hp (mi_range2 fc.b_range (ma_cons me_int (ma_cons (me_callB cm_len fc.b_len (by decide +kernel) (ma_cons (me_var 0) ma_nil)) ma_nil))) (mg_name 4 c.nd) (mss_one (ms_set 3 c.nd (me_op om_add (me_var 3) (me_call c d__law_cost (by omega) (ma_cons (me_ix (me_var 0) (me_var 4)) (ma_cons (me_ix (me_var 1) (me_var 4)) ma_nil)))))))
    (mss_one (ms_ret (me_callB (cm_min2 c.calm) fc.b_min (by decide +kernel) (ma_cons (me_var 2) (ma_cons (me_var 3) ma_nil)))))))))
/-! ok _law_told -/
theorem sc__law_told : FnScope ["kind", "document", "rows", "e"] ["kind", "document", "rows"] (defScope s__law_told) := ⟨rfl, rfl, rfl, by decide +kernel, rfl, by decide +kernel, by decide +kernel⟩
theorem ok__law_told {P : Program} {w : World} {K : PySem.W.Frag} {mg : Str → Option Value} {base : Heap} (fc : Facts K mg) (d_changes : Df P w K mg base 156 "changes" ["document", "other"] (spM K mg F_changes)) (d_changed : Df P w K mg base 83 "changed" ["document", "rows"] (spM K mg F_changed)) (d__law_error : DfE P w K mg base 1 "_law_error" "e" res) (resC : ∀ c t, res c = some t → CatchC K mg "FormError" c) : Df P w K mg base (156 + 1) "_law_told" ["kind", "document", "rows"] (spM K mg (runF 4 3 (B__law_told ))) := by
  obtain ⟨f, fd, F, hm⟩ := fc.f__law_told
  refine df_of F sc__law_told hm (F.binds fun _ _ _ _ _ _ us hl => match us, hl with | [_, _, _], _ => rfl) fun cdv A o s H E b => ?_
  obtain ⟨c, hp⟩ := b
  generalize hk : 156 = k at c
  exact (mss_one (ms_try 3 c rfl rfl d__law_error (by omega) resC (fun W pn xe c hp => (mss_one (ms_ret (me_tup (ma_cons me_str (ma_cons (me_pick (ns := [(("changes" : Str), _), (("changed" : Str), _)]) c (j := k) (.cons rfl (by decide) ⟨_, Df.mono d_changes (by omega)⟩ (.cons rfl (by decide) ⟨_, Df.mono d_changed (by omega)⟩ .nil)) (Nat.le_refl _) (me_var 0) (ma_cons (me_var 1) (ma_cons (me_var 2) ma_nil)) (by decide)) ma_nil)))))) (hF := ⟨_, fc.g_FormError⟩)))
/-! ok _law_due -/
theorem sc__law_due : FnScope ["document", "rows", "path", "told", "here", "k", "due"] ["document", "rows"] (defScope s__law_due) := ⟨rfl, rfl, rfl, by decide +kernel, rfl, by decide +kernel, by decide +kernel⟩
theorem ok__law_due {P : Program} {w : World} {K : PySem.W.Frag} {mg : Str → Option Value} {base : Heap} (fc : Facts K mg) (d__law_is_label : Df P w K mg base 1 "_law_is_label" ["text"] (spM K mg F__law_is_label)) (d__law_put : Df P w K mg base 80 "_law_put" ["document", "path", "other"] (spM K mg (F__law_put 80))) (d__law_document_due : Df P w K mg base 81 "_law_document_due" ["document"] (spM K mg F__law_document_due)) (d__law_size : Df P w K mg base 80 "_law_size" ["document"] (spM K mg (F__law_size 80))) (d__law_depth : Df P w K mg base 80 "_law_depth" ["document"] (spM K mg (F__law_depth 80))) : Df P w K mg base (81 + 1) "_law_due" ["document", "rows"] (spM K mg (runF 7 2 (B__law_due ))) := by
  obtain ⟨f, fd, F, hm⟩ := fc.f__law_due
  refine df_of F sc__law_due hm (F.binds fun _ _ _ _ _ _ us hl => match us, hl with | [_, _], _ => rfl) fun cdv A o s H E b => ?_
  obtain ⟨c, hp⟩ := b
  generalize hk : 81 = k at c
  exact (mss_cons (ms_for c hp (mi_seq (me_var 1)) (mg_tup c.calm (mgs_cons (mg_name 2 c.nd) (mgs_cons (mg_name 3 c.nd) mgs_nil))) (mss_cons (ms_set 4 c.nd (me_var 0))
    (mss_cons (ms_for c hp (mi_seq (me_var 2)) (mg_name 5 c.nd) (mss_cons (ms_if (mt_not (mt_chain om_le om_lt me_int (me_var 5) (me_op om_sub (me_callB cm_len fc.b_len (by decide +kernel) (ma_cons (me_var 4) ma_nil)) me_int))) (mss_one (ms_ret me_str)) mss_nil)
    (mss_one (ms_set 4 c.nd (me_ix (me_var 4) (me_op om_add (me_var 5) me_int))))))
    (mss_one (ms_if (mt_val (me_isi (T := "str") fc.b_isinstance fc.b_str (by decide +kernel) (me_var 3))) (mss_cons (ms_if (mt_not (mt_val (me_call c d__law_is_label (by omega) (ma_cons (me_var 3) ma_nil)))) (mss_one (ms_ret me_str)) mss_nil)
    (mss_one (ms_set 0 c.nd (me_call c d__law_put (by omega) (ma_cons (me_var 0) (ma_cons (me_var 2) (ma_cons (me_op om_add (me_tup (ma_cons (me_var 3) ma_nil)) (me_sl (me_var 4) (mo_some me_int) mo_none)) ma_nil))))))) (mss_cons (ms_set 6 c.nd (me_call c d__law_document_due (by omega) (ma_cons (me_var 3) ma_nil)))
    (mss_cons (ms_if (mt_cmp om_isnot (me_var 6) me_non (nomark _)) (mss_one (ms_ret (me_var 6))) mss_nil)
    (mss_cons (ms_set 0 c.nd (me_call c d__law_put (by omega) (ma_cons (me_var 0) (ma_cons (me_var 2) (ma_cons (me_var 3) ma_nil)))))
    (mss_one (ms_if (mt_w (mw_or (mt_cmp om_gt (me_call c d__law_size (by omega) (ma_cons (me_var 0) ma_nil)) me_int (nomark _)) (mw_or1 (mt_cmp om_gt (me_call c d__law_depth (by omega) (ma_cons (me_var 0) ma_nil)) me_int (nomark _))))) (mss_one (ms_ret me_str)) mss_nil))))))))))
    (mss_one (ms_ret (me_tup (ma_cons me_str (ma_cons (me_var 0) ma_nil))))))
/-! ok _law_price -/
theorem sc__law_price : FnScope ["document", "rows", "found", "path", "told"] ["document", "rows"] (defScope s__law_price) := ⟨rfl, rfl, rfl, by decide +kernel, rfl, by decide +kernel, by decide +kernel⟩
theorem ok__law_price {P : Program} {w : World} {K : PySem.W.Frag} {mg : Str → Option Value} {base : Heap} (fc : Facts K mg) (d__law_size : Df P w K mg base 80 "_law_size" ["document"] (spM K mg (F__law_size 80))) (d__law_at : Df P w K mg base 1 "_law_at" ["document", "path"] (spM K mg F__law_at)) : Df P w K mg base (80 + 1) "_law_price" ["document", "rows"] (spM K mg (runF 5 2 (B__law_price ))) := by
  obtain ⟨f, fd, F, hm⟩ := fc.f__law_price
  refine df_of F sc__law_price hm (F.binds fun _ _ _ _ _ _ us hl => match us, hl with | [_, _], _ => rfl) fun cdv A o s H E b => ?_
  obtain ⟨c, hp⟩ := b
  generalize hk : 80 = k at c
  exact (mss_cons (ms_set 2 c.nd me_int)
    (mss_cons (ms_for c hp (mi_seq (me_var 1)) (mg_tup c.calm (mgs_cons (mg_name 3 c.nd) (mgs_cons (mg_name 4 c.nd) mgs_nil))) (mss_one (ms_if (mt_val (me_isi (T := "str") fc.b_isinstance fc.b_str (by decide +kernel) (me_var 4))) (mss_one (ms_set 2 c.nd (me_op om_add (me_var 2) me_int))) (mss_one (ms_set 2 c.nd (me_op om_add (me_op om_add (me_var 2) (me_call c d__law_size (by omega) (ma_cons (me_call c d__law_at (by omega) (ma_cons (me_var 0) (ma_cons (me_var 3) ma_nil))) ma_nil))) (me_call c d__law_size (by omega) (ma_cons (me_var 4) ma_nil))))))))
    (mss_one (ms_ret (me_var 2)))))
/-! ok _law_listed -/
theorem sc__law_listed : FnScope ["document", "other", "path", "inner", "k", "found"] ["document", "other", "path"] (defScope s__law_listed) := ⟨rfl, rfl, rfl, by decide +kernel, rfl, by decide +kernel, by decide +kernel⟩
theorem ok__law_listed {P : Program} {w : World} {K : PySem.W.Frag} {mg : Str → Option Value} {base : Heap} {R__law_listed : List PyData → Rt} (fc : Facts K mg) {j : Nat} (hjb : 105 ≤ j) (d__law_cost : Df P w K mg base 105 "_law_cost" ["document", "other"] (spM K mg (F__law_cost 25))) (d__law_size : Df P w K mg base 80 "_law_size" ["document"] (spM K mg (F__law_size 80))) (d__law_listed : Df P w K mg base j "_law_listed" ["document", "other", "path"] (spM K mg R__law_listed)) : Df P w K mg base (j + 1) "_law_listed" ["document", "other", "path"] (spM K mg (runF 6 3 (B__law_listed R__law_listed))) := by
  obtain ⟨f, fd, F, hm⟩ := fc.f__law_listed
  refine df_of F sc__law_listed hm (F.binds fun _ _ _ _ _ _ us hl => match us, hl with | [_, _, _], _ => rfl) fun cdv A o s H E b => ?_
  obtain ⟨c, hp⟩ := b
  generalize hk : j = k at c
  exact (mss_cons (ms_if (mt_cmp (om_ne c.hu) (me_callB cm_len fc.b_len (by decide +kernel) (ma_cons (me_var 0) ma_nil)) (me_callB cm_len fc.b_len (by decide +kernel) (ma_cons (me_var 1) ma_nil)) (nomark _)) (mss_one (ms_ret (me_new (mn_lst (ma_cons (me_tup (ma_cons (me_var 2) (ma_cons (me_var 1) ma_nil))) ma_nil))))) mss_nil)
    (mss_cons (ms_set 3 c.nd (me_op om_add (me_callTy cm_int1 fc.b_int (by decide +kernel) (ma_cons (me_cmp (om_ne c.hu) (me_ix (me_var 0) me_int) (me_ix (me_var 1) me_int) (nomark _)) ma_nil)) (me_callB (cm_sum c.calm) fc.b_sum (by decide +kernel) (ma_cons (me_new (mn_lc [("k", 4)] c (mi_range2 fc.b_range (ma_cons me_int (ma_cons (me_callB cm_len fc.b_len (by decide +kernel) (ma_cons (me_var 0) ma_nil)) ma_nil))) (show blkC ["document", "other", "path", "inner", "k", "found"] (defScope s__law_listed) _ [("k", 4)] = true by decide +kernel) (fun _ _ _ _ _ => (mg_name 4 c.blk.nd)) (fun _ _ _ _ _ => mts_nil) (fun _ _ _ _ _ => (me_call c.blk d__law_cost (by omega) (ma_cons (me_ix (me_var 0) (me_var 4)) (ma_cons (me_ix (me_var 1) (me_var 4)) ma_nil)))))) ma_nil))))
    (mss_cons (ms_if (mt_cmp om_gt (me_var 3) (me_op om_add (me_call c d__law_size (by omega) (ma_cons (me_var 0) ma_nil)) (me_call c d__law_size (by omega) (ma_cons (me_var 1) ma_nil))) (nomark _)) (mss_one (ms_ret (me_new (mn_lst (ma_cons (me_tup (ma_cons (me_var 2) (ma_cons (me_var 1) ma_nil))) ma_nil))))) mss_nil)
    (mss_cons (ms_setN 5 c.nd (mn_rep (me_new (mn_lst (ma_cons (me_tup (ma_cons (me_var 2) (ma_cons (me_ix (me_var 1) me_int) ma_nil))) ma_nil))) (me_callTy cm_int1 fc.b_int (by decide +kernel) (ma_cons (me_cmp (om_ne c.hu) (me_ix (me_var 0) me_int) (me_ix (me_var 1) me_int) (nomark _)) ma_nil))))
    (mss_cons (ms_for c hp (mi_range2 fc.b_range (ma_cons me_int (ma_cons (me_callB cm_len fc.b_len (by decide +kernel) (ma_cons (me_var 0) ma_nil)) ma_nil))) (mg_name 4 c.nd) (mss_one (ms_expr (me_meth 5 ml_extend PySem.F.slot_list_extend PySem.F.type_list_extend (ma_cons (me_call c d__law_listed (by omega) (ma_cons (me_ix (me_var 0) (me_var 4)) (ma_cons (me_ix (me_var 1) (me_var 4)) (ma_cons (me_op om_add (me_var 2) (me_tup (ma_cons (me_op om_sub (me_var 4) me_int) ma_nil))) ma_nil)))) ma_nil)))))
    (mss_one (ms_ret (me_var 5))))))))
/-! ok _law_near -/
theorem sc__law_near : FnScope ["state", "document", "signs", "k", "rows", "path", "here"] ["state", "document", "signs"] (defScope s__law_near) := ⟨rfl, rfl, rfl, by decide +kernel, rfl, by decide +kernel, by decide +kernel⟩
theorem ok__law_near {P : Program} {w : World} {K : PySem.W.Frag} {mg : Str → Option Value} {base : Heap} (fc : Facts K mg) (d__law_next : Df P w K mg base 1 "_law_next" ["state", "many"] (spS K mg F__law_next)) (d__law_nodes : Df P w K mg base 80 "_law_nodes" ["document", "path"] (spM K mg (F__law_nodes 80))) (d__law_put : Df P w K mg base 80 "_law_put" ["document", "path", "other"] (spM K mg (F__law_put 80))) (d__law_document : Df P w K mg base 15 "_law_document" ["state", "signs", "whole"] (spS K mg (F__law_document 14))) (d__law_label : Df P w K mg base 2 "_law_label" ["state"] (spS K mg F__law_label)) : Df P w K mg base (80 + 1) "_law_near" ["state", "document", "signs"] (spS K mg (runS 7 3 (B__law_near ))) := by
  obtain ⟨f, fd, F, hm⟩ := fc.f__law_near
  refine dfS_of F sc__law_near hm (F.binds fun _ _ _ _ _ _ us hl => match us, hl with | [_, _, _], _ => rfl) fun cdv A o s H E b => ?_
  obtain ⟨c, hp⟩ := b
  generalize hk : 80 = k at c
  exact (mss_cons (ms_for c hp (mi_range1 fc.b_range (ma_cons (me_op om_add me_int (me_callS 0 c d__law_next (by omega) (ma_cons me_int ma_nil))) ma_nil)) (mg_name 3 c.nd) (mss_cons (ms_set 4 c.nd (me_call c d__law_nodes (by omega) (ma_cons (me_var 1) (ma_cons (me_tup ma_nil) ma_nil))))
    (mss_cons (ms_asg (me_ix (me_var 4) (me_callS 0 c d__law_next (by omega) (ma_cons (me_callB cm_len fc.b_len (by decide +kernel) (ma_cons (me_var 4) ma_nil)) ma_nil))) (mg_tup c.calm (mgs_cons (mg_name 5 c.nd) (mgs_cons (mg_name 6 c.nd) mgs_nil))))
    (mss_one (ms_set 1 c.nd (me_call c d__law_put (by omega) (ma_cons (me_var 1) (ma_cons (me_var 5) (ma_cons (me_ix (me_new (mn_lst (ma_cons (me_op om_add (me_tup (ma_cons (me_callS 0 c d__law_label (by omega) ma_nil) ma_nil)) (me_sl (me_var 6) (mo_some me_int) mo_none)) (ma_cons (me_callS 0 c d__law_document (by omega) (ma_cons (me_var 2) (ma_cons (me_op om_add me_int (me_callS 0 c d__law_next (by omega) (ma_cons me_int ma_nil))) ma_nil))) ma_nil)))) (me_callS 0 c d__law_next (by omega) (ma_cons me_int ma_nil))) ma_nil)))))))))
    (mss_one (ms_ret (me_var 1))))
/-! ok law -/
theorem sc_law : FnScope ["script", "state", "turn", "signs", "document", "other", "kept", "told", "rows", "paths", "path", "here", "k", "word", "whole", "many"] ["script"] (defScope s_law) := ⟨rfl, rfl, rfl, by decide +kernel, rfl, by decide +kernel, by decide +kernel⟩
theorem ok_law {P : Program} {w : World} {K : PySem.W.Frag} {mg : Str → Option Value} {base : Heap} (fc : Facts K mg) (d__law_stream : Df P w K mg base 1 "_law_stream" ["script"] (spM K mg F__law_stream)) (d__law_signs : Df P w K mg base 3 "_law_signs" ["state", "most"] (spS K mg F__law_signs)) (d__law_document : Df P w K mg base 15 "_law_document" ["state", "signs", "whole"] (spS K mg (F__law_document 14))) (d__law_next : Df P w K mg base 1 "_law_next" ["state", "many"] (spS K mg F__law_next)) (d__law_near : Df P w K mg base 81 "_law_near" ["state", "document", "signs"] (spS K mg F__law_near)) (d__law_told : Df P w K mg base 157 "_law_told" ["kind", "document", "rows"] (spM K mg F__law_told)) (d__law_same : Df P w K mg base 1 "_law_same" ["told", "due"] (spM K mg F__law_same)) (d__law_listed : Df P w K mg base 130 "_law_listed" ["document", "other", "path"] (spM K mg (F__law_listed 25))) (d__law_price : Df P w K mg base 81 "_law_price" ["document", "rows"] (spM K mg F__law_price)) (d__law_cost : Df P w K mg base 105 "_law_cost" ["document", "other"] (spM K mg (F__law_cost 25))) (d__law_nodes : Df P w K mg base 80 "_law_nodes" ["document", "path"] (spM K mg (F__law_nodes 80))) (d__law_label : Df P w K mg base 2 "_law_label" ["state"] (spS K mg F__law_label)) (d__law_due : Df P w K mg base 82 "_law_due" ["document", "rows"] (spM K mg F__law_due)) (d__law_exact : Df P w K mg base 12 "_law_exact" ["many"] (spM K mg (F__law_exact 12))) : Df P w K mg base (157 + 1) "law" ["script"] (spM K mg (runF 16 1 (B_law ))) := by
  obtain ⟨f, fd, F, hm⟩ := fc.f_law
  refine df_of F sc_law hm (F.binds fun _ _ _ _ _ _ us hl => match us, hl with | [_], _ => rfl) fun cdv A o s H E b => ?_
  obtain ⟨c, hp⟩ := b
  generalize hk : 157 = k at c
  exact (mss_cons (ms_setN 1 c.nd (mn_lst (ma_cons (me_call c d__law_stream (by omega) (ma_cons (me_var 0) ma_nil)) (ma_cons me_int ma_nil))))
    (mss_cons (ms_for c hp (mi_range1 fc.b_range (ma_cons me_int ma_nil)) (mg_name 2 c.nd) (mss_cons (ms_set 3 c.nd (me_callS 1 c d__law_signs (by omega) (ma_cons me_int ma_nil)))
    (mss_cons (ms_set 4 c.nd (me_callS 1 c d__law_document (by omega) (ma_cons (me_var 3) (ma_cons (me_op om_add me_int (me_callS 1 c d__law_next (by omega) (ma_cons me_int ma_nil))) ma_nil))))
    (mss_cons (ms_set 5 c.nd (me_ix (me_new (mn_lst (ma_cons (me_callS 1 c d__law_document (by omega) (ma_cons (me_var 3) (ma_cons (me_op om_add me_int (me_callS 1 c d__law_next (by omega) (ma_cons me_int ma_nil))) ma_nil))) (ma_cons (me_callS 1 c d__law_near (by omega) (ma_cons (me_var 4) (ma_cons (me_var 3) ma_nil))) ma_nil)))) (me_callS 1 c d__law_next (by omega) (ma_cons me_int ma_nil))))
    (mss_cons (ms_set 6 c.nd (me_callB (cm_repr c.gd c.hu) fc.b_repr (by decide +kernel) (ma_cons (me_tup (ma_cons (me_var 4) (ma_cons (me_var 5) ma_nil))) ma_nil)))
    (mss_cons (ms_set 7 c.nd (me_call c d__law_told (by omega) (ma_cons me_int (ma_cons (me_var 4) (ma_cons (me_var 5) ma_nil)))))
    (mss_cons (ms_if (mt_w (mw_or (mt_not (mt_val (me_call c d__law_same (by omega) (ma_cons (me_var 7) (ma_cons (me_tup (ma_cons me_str (ma_cons (me_callTy cm_tupleOf fc.b_tuple (by decide +kernel) (ma_cons (me_call c d__law_listed (by omega) (ma_cons (me_var 4) (ma_cons (me_var 5) (ma_cons (me_tup ma_nil) ma_nil)))) ma_nil)) ma_nil))) ma_nil))))) (mw_or1 (mt_cmp (om_ne c.hu) (me_call c d__law_price (by omega) (ma_cons (me_var 4) (ma_cons (me_ix (me_var 7) me_int) ma_nil))) (me_call c d__law_cost (by omega) (ma_cons (me_var 4) (ma_cons (me_var 5) ma_nil))) (nomark _))))) (mss_one (ms_ret me_bl)) mss_nil)
    (mss_cons (ms_if (mt_not (mt_val (me_call c d__law_same (by omega) (ma_cons (me_new (mn_lst (ma_cons (me_call c d__law_told (by omega) (ma_cons me_int (ma_cons (me_var 4) (ma_cons (me_ix (me_var 7) me_int) ma_nil)))) (ma_cons (me_call c d__law_told (by omega) (ma_cons me_int (ma_cons (me_var 4) (ma_cons (me_var 4) ma_nil)))) ma_nil)))) (ma_cons (me_new (mn_lst (ma_cons (me_tup (ma_cons me_str (ma_cons (me_var 5) ma_nil))) (ma_cons (me_tup (ma_cons me_str (ma_cons (me_tup ma_nil) ma_nil))) ma_nil)))) ma_nil))))) (mss_one (ms_ret me_bl)) mss_nil)
    (mss_cons (ms_setN 8 c.nd (mn_lst ma_nil))
    (mss_cons (ms_set 9 c.nd (me_op om_add (me_new (mn_lc [("path", 10), ("here", 11)] c (mi_seq (me_call c d__law_nodes (by omega) (ma_cons (me_var 4) (ma_cons (me_tup ma_nil) ma_nil)))) (show blkC ["script", "state", "turn", "signs", "document", "other", "kept", "told", "rows", "paths", "path", "here", "k", "word", "whole", "many"] (defScope s_law) _ [("path", 10), ("here", 11)] = true by decide +kernel) (fun _ _ _ _ _ => (mg_tup c.blk.calm (mgs_cons (mg_name 10 c.blk.nd) (mgs_cons (mg_name 11 c.blk.nd) mgs_nil)))) (fun _ _ _ _ _ => mts_nil) (fun _ _ _ _ _ => (me_var 10)))) (me_new (mn_lst (ma_cons (me_tup (ma_cons me_int ma_nil)) (ma_cons (me_tup (ma_cons me_int (ma_cons (me_un um_neg me_int) ma_nil))) ma_nil))))))
    (mss_cons (ms_for c hp (mi_range1 fc.b_range (ma_cons (me_callS 1 c d__law_next (by omega) (ma_cons me_int ma_nil)) ma_nil)) (mg_name 12 c.nd) (mss_cons (ms_set 13 c.nd (me_ix (me_new (mn_lst (ma_cons (me_callS 1 c d__law_label (by omega) ma_nil) (ma_cons me_str (ma_cons me_str (ma_cons me_str ma_nil)))))) (me_callS 1 c d__law_next (by omega) (ma_cons me_int ma_nil))))
    (mss_one (ms_expr (me_meth 8 ml_append PySem.F.slot_list_append PySem.F.type_list_append (ma_cons (me_tup (ma_cons (me_ix (me_var 9) (me_callS 1 c d__law_next (by omega) (ma_cons (me_callB cm_len fc.b_len (by decide +kernel) (ma_cons (me_var 9) ma_nil)) ma_nil))) (ma_cons (me_ix (me_new (mn_lst (ma_cons (me_var 13) (ma_cons (me_var 5) (ma_cons (me_tup (ma_cons me_str ma_nil)) ma_nil))))) (me_ix (me_new (mn_lst (ma_cons me_int (ma_cons me_int (ma_cons me_int (ma_cons me_int (ma_cons me_int ma_nil))))))) (me_callS 1 c d__law_next (by omega) (ma_cons me_int ma_nil)))) ma_nil))) ma_nil))))))
    (mss_cons (ms_if (mt_not (mt_val (me_call c d__law_same (by omega) (ma_cons (me_call c d__law_told (by omega) (ma_cons me_int (ma_cons (me_var 4) (ma_cons (me_callTy cm_tupleOf fc.b_tuple (by decide +kernel) (ma_cons (me_var 8) ma_nil)) ma_nil)))) (ma_cons (me_call c d__law_due (by omega) (ma_cons (me_var 4) (ma_cons (me_callTy cm_tupleOf fc.b_tuple (by decide +kernel) (ma_cons (me_var 8) ma_nil)) ma_nil))) ma_nil))))) (mss_one (ms_ret me_bl)) mss_nil)
    (mss_one (ms_if (mt_w (mw_or (mt_cmp (om_ne c.hu) (me_op om_add (me_new (mn_lc [("k", 12)] c (mi_range1 fc.b_range (ma_cons me_int ma_nil)) (show blkC ["script", "state", "turn", "signs", "document", "other", "kept", "told", "rows", "paths", "path", "here", "k", "word", "whole", "many"] (defScope s_law) _ [("k", 12)] = true by decide +kernel) (fun _ _ _ _ _ => (mg_name 12 c.blk.nd)) (fun _ _ _ _ _ => mts_nil) (fun _ _ _ _ _ => (me_call c.blk d__law_told (by omega) (ma_cons (me_var 12) (ma_cons (me_tup (ma_cons me_str ma_nil)) (ma_cons (me_tup ma_nil) ma_nil))))))) (me_new (mn_lst (ma_cons (me_call c d__law_told (by omega) (ma_cons me_int (ma_cons (me_var 4) (ma_cons (me_tup (ma_cons me_str ma_nil)) ma_nil)))) ma_nil)))) (me_op om_mulA (me_new (mn_lst (ma_cons me_str ma_nil))) me_int) (nomark _)) (mw_or1 (mt_cmp (om_ne c.hu) (me_callB (cm_repr c.gd c.hu) fc.b_repr (by decide +kernel) (ma_cons (me_tup (ma_cons (me_var 4) (ma_cons (me_var 5) ma_nil))) ma_nil)) (me_var 6) (nomark _))))) (mss_one (ms_ret me_bl)) mss_nil))))))))))))))
    (mss_cons (ms_set 14 c.nd (me_call c d__law_exact (by omega) (ma_cons me_int ma_nil)))
    (mss_cons (ms_set 10 c.nd (me_ix (me_ix (me_call c d__law_nodes (by omega) (ma_cons (me_var 14) (ma_cons (me_tup ma_nil) ma_nil))) (me_un um_neg me_int)) me_int))
    (mss_cons (ms_set 15 c.nd (me_op om_add me_int (me_callS 1 c d__law_next (by omega) (ma_cons me_int ma_nil))))
    (mss_cons (ms_set 8 c.nd (me_tup (ma_cons (me_tup (ma_cons (me_var 10) (ma_cons (me_call c d__law_exact (by omega) (ma_cons (me_var 15) ma_nil)) ma_nil))) (ma_cons (me_tup (ma_cons (me_var 10) (ma_cons me_str ma_nil))) ma_nil))))
    (mss_one (ms_ret (me_call c d__law_same (by omega) (ma_cons (me_call c d__law_told (by omega) (ma_cons me_int (ma_cons (me_var 14) (ma_cons (me_var 8) ma_nil)))) (ma_cons (me_call c d__law_due (by omega) (ma_cons (me_var 14) (ma_cons (me_var 8) ma_nil))) ma_nil)))))))))))

end ML
set_option maxRecDepth 100000
set_option maxHeartbeats 4000000
namespace ML
open PySem L2
def isErrs (K : PySem.W.Frag) (c : Str) : List V := errNames.map fun y => V.bl (decide (c = y))
theorem sc__law_error : FnScope ["e", "names", "one"] ["e"] (defScope s__law_error) := ⟨rfl, rfl, rfl, by decide +kernel, rfl, by decide +kernel, by decide +kernel⟩
theorem ok__law_error {P : Program} {w : World} {K : PySem.W.Frag} {mg : Str → Option Value} {base : Heap} (fc : Facts K mg) : DfE P w K mg base 1 "_law_error" "e" res := by
  obtain ⟨f, fd, F, hm⟩ := fc.f__law_error
  refine ⟨f, fd, hm, fnE_of F sc__law_error fun cdv A o s H a D oe c t Q E hot hc ht hq => ?_, F.binds fun _ _ _ _ _ _ us hl => match us, hl with | [_], _ => rfl, F.kp⟩
  have ge : ∀ y ∈ errNames, mg y = some (.ref (He.ga K y)) := by
    intro y hy
    simp only [errNames, List.mem_cons, List.not_mem_nil, or_false] at hy
    rcases hy with rfl | rfl | rfl | rfl | rfl
    · exact fc.g_NotAllowed
    · exact fc.g_TooLarge
    · exact fc.g_Missing
    · exact fc.g_BadPaper
    · exact fc.g_BadForm
  have hC : D = He.ga K c ∧ ErrOk K c ∧ (∀ y ∈ errNames, PySem.W.kitOne K (.ref (He.ga K c)) (.ref (He.ga K y)) = some (decide (c = y))) ∧ (((errNames.map fun y => decide (c = y)).map fun b => if b = true then (1 : Int) else 0).sum = 1) ∧
      ∃ i : Nat, i < 5 ∧ (errNames.map fun y => V.bl (decide (c = y)))[i]? = some (.bl true) ∧ (∀ m z, m < i → (errNames.map fun y => V.bl (decide (c = y)))[m]? = some z → eqV z (.bl true) = false) ∧ (["refused", "large", "missing", "paper", "form"] : List Str)[i]? = some t := by
    unfold res at ht
    split at ht
    · rename_i e
      subst e
      cases ht
      rw [fc.g_NotAllowed] at hc
      cases hc
      exact ⟨rfl, fc.e_NotAllowed.1, fc.e_NotAllowed.2.2, by decide, 0, by decide, by decide, fun m z h => absurd h (by omega), rfl⟩
    · split at ht
      · rename_i e
        subst e
        cases ht
        rw [fc.g_TooLarge] at hc
        cases hc
        refine ⟨rfl, fc.e_TooLarge.1, fc.e_TooLarge.2.2, by decide, 1, by decide, by decide, fun m z h e => ?_, rfl⟩
        have : m = 0 := by omega
        subst this
        have e : some (V.bl false) = some z := e
        cases e
        rfl
      · cases ht
  obtain ⟨hD, hEr, hk, hsum, i0, hi5, hi, hno, hT⟩ := hC
  subst hD
  refine ⟨_, pss_cons (ps_set (i := 1) sc__law_error.nd rfl (.inl rfl) (pe_lst
    (pa_cons (pe_callB (cr_isE hot hEr.cc) rfl fc.b_isinstance PyProof.Rows.boot_isinstance (pa_cons (pe_var (i := 0) rfl (.inl rfl)) (pa_cons (pe_glob (v := .ref (He.ga K "NotAllowed")) rfl fc.g_NotAllowed rfl) pa_nil)))
    (pa_cons (pe_callB (cr_isE hot hEr.cc) rfl fc.b_isinstance PyProof.Rows.boot_isinstance (pa_cons (pe_var (i := 0) rfl (.inl rfl)) (pa_cons (pe_glob (v := .ref (He.ga K "TooLarge")) rfl fc.g_TooLarge rfl) pa_nil)))
    (pa_cons (pe_callB (cr_isE hot hEr.cc) rfl fc.b_isinstance PyProof.Rows.boot_isinstance (pa_cons (pe_var (i := 0) rfl (.inl rfl)) (pa_cons (pe_glob (v := .ref (He.ga K "Missing")) rfl fc.g_Missing rfl) pa_nil)))
    (pa_cons (pe_callB (cr_isE hot hEr.cc) rfl fc.b_isinstance PyProof.Rows.boot_isinstance (pa_cons (pe_var (i := 0) rfl (.inl rfl)) (pa_cons (pe_glob (v := .ref (He.ga K "BadPaper")) rfl fc.g_BadPaper rfl) pa_nil)))
    (pa_cons (pe_callB (cr_isE hot hEr.cc) rfl fc.b_isinstance PyProof.Rows.boot_isinstance (pa_cons (pe_var (i := 0) rfl (.inl rfl)) (pa_cons (pe_glob (v := .ref (He.ga K "BadForm")) rfl fc.g_BadForm rfl) pa_nil))) pa_nil))))))
      rfl (.inr rfl))
    (pss_cons (ps_if (pt_cmpR op_ne (pe_sumB hot 1 fc.b_sum fc.b_int) (pe_int) (nomark _)) (pss_one (ps_ret pe_str)) pss_nil)
    (pss_one (ps_ret (pe_ix ix_list (pe_lst (pa_cons pe_str (pa_cons pe_str (pa_cons pe_str (pa_cons pe_str (pa_cons pe_str pa_nil)))))) (pe_bm PySem.F.plainAttrs_list PySem.F.slot_list_index PySem.F.type_list_index mt_index (pe_var (i := 1) rfl (.inl rfl)) (pa_cons pe_bl pa_nil)) (fun _ _ => rfl))))), ?_⟩
  have m0 : ∀ y ∈ ([ "NotAllowed", "TooLarge", "Missing", "BadPaper", "BadForm"] : List Str), y ∈ errNames := fun y h => h
  refine ⟨.ref a, rfl, _, _, _, rfl, fun _ e => e, hk "NotAllowed" (m0 _ (by simp)), ?_⟩
  refine ⟨.ref a, rfl, _, _, _, rfl, fun _ e => e, hk "TooLarge" (m0 _ (by simp)), ?_⟩
  refine ⟨.ref a, rfl, _, _, _, rfl, fun _ e => e, hk "Missing" (m0 _ (by simp)), ?_⟩
  refine ⟨.ref a, rfl, _, _, _, rfl, fun _ e => e, hk "BadPaper" (m0 _ (by simp)), ?_⟩
  refine ⟨.ref a, rfl, _, _, _, rfl, fun _ e => e, hk "BadForm" (m0 _ (by simp)), ?_⟩
  refine ⟨by show 5 ≤ sizeLine; decide, fun l hl => ?_⟩
  refine ⟨l, errNames.map fun y => decide (c = y), rfl, by rw [List.map_map]; exact upd_same, ?_⟩
  rw [hsum]
  refine ⟨rfl, _, rfl, ?_⟩
  have z0 : (!decide (V.int 1 = V.int 1)) = false := by simp
  rw [z0]
  show tNext _ _ _
  refine ⟨by show 5 ≤ sizeLine; decide, fun l2 hl2 => ?_⟩
  have hne : l ≠ l2 := fun e => by
    subst e
    have hl2 : upd H l _ l = none := hl2
    rw [upd_same] at hl2
    cases hl2
  have hL : upd (upd H l (.lst (errNames.map fun y => V.bl (decide (c = y))))) l2 (.lst ((["refused", "large", "missing", "paper", "form"] : List Str).map V.str)) l = some (.lst (errNames.map fun y => V.bl (decide (c = y)))) := by rw [upd_ne hne]; exact upd_same
  refine ⟨.ref l, rfl, .inl ⟨rfl, _, SqL.of hL⟩, ?_⟩
  refine ⟨l, _, .bl true, i0, _, rfl, rfl, SqL.of hL, rfl, ?_, hi, by decide, hno, ?_⟩
  · exact List.all_eq_true.mpr fun z hz => by
      obtain ⟨y, _, rfl⟩ := List.mem_map.mp hz
      rfl
  · refine ⟨l2, _, i0, .str t, rfl, rfl, SqL.of upd_same, ?_, hq _ ?_⟩
    · have h5 : i0 = 0 ∨ i0 = 1 ∨ i0 = 2 ∨ i0 = 3 ∨ i0 = 4 := by omega
      rcases h5 with e | e | e | e | e
      all_goals
        subst e
        cases hT
        rfl
    · intro b ob e
      have n1 : b ≠ l := fun z => by rw [z, hl] at e; cases e
      have hl2 : upd H l _ l2 = none := hl2
      have n2 : b ≠ l2 := fun z => by
        subst z
        rw [upd_ne n1, e] at hl2
        cases hl2
      rw [upd_ne n2, upd_ne n1]
      exact e
theorem res_catch {K : PySem.W.Frag} {mg : Str → Option Value} (fc : Facts K mg) (c t : Str) (h : res c = some t) : CatchC K mg "FormError" c := by
  unfold res at h
  split at h
  · rename_i e
    subst e
    exact ⟨_, _, fc.g_FormError, fc.g_NotAllowed, fc.e_NotAllowed.2.1⟩
  · split at h
    · rename_i e
      subst e
      exact ⟨_, _, fc.g_FormError, fc.g_TooLarge, fc.e_TooLarge.2.1⟩
    · cases h
end ML
set_option maxRecDepth 100000
set_option maxHeartbeats 4000000
namespace ML
open PySem L2
/-! join -/
theorem df_is_label {P : Program} {w : World} {K : PySem.W.Frag} {mg : Str → Option Value} {base : Heap} (fc : Facts K mg) : Df P w K mg base 1 "is_label" ["text"] (spM K mg F_is_label) := ok_is_label fc
theorem dfs_measured {P : Program} {w : World} {K : PySem.W.Frag} {mg : Str → Option Value} {base : Heap} (fc : Facts K mg) : ∀ n, Df P w K mg base (0 + n) "measured" ["document"] (spM K mg (F_measured n))
  | 0 => (by
      obtain ⟨f, fd, F, hm⟩ := fc.f_measured
      exact df_bad F hm (F.binds fun _ _ _ _ _ _ us hl => match us, hl with | [_], _ => rfl))
  | n + 1 => by
    have ih_measured := dfs_measured (P := P) (w := w) (base := base) fc n
    exact ok_measured fc (Nat.le_add_right 0 n) ih_measured
theorem df_measured {P : Program} {w : World} {K : PySem.W.Frag} {mg : Str → Option Value} {base : Heap} (fc : Facts K mg) (n : Nat) : Df P w K mg base (0 + n) "measured" ["document"] (spM K mg (F_measured n)) := (dfs_measured fc n)
theorem df_nodes {P : Program} {w : World} {K : PySem.W.Frag} {mg : Str → Option Value} {base : Heap} (fc : Facts K mg) : Df P w K mg base 1 "nodes" ["document"] (spM K mg F_nodes) := ok_nodes fc
theorem df_check_document {P : Program} {w : World} {K : PySem.W.Frag} {mg : Str → Option Value} {base : Heap} (fc : Facts K mg) : Df P w K mg base 81 "check_document" ["document"] (spM K mg F_check_document) := ok_check_document fc (df_measured (P := P) (w := w) (base := base) fc 80) (df_nodes fc) (df_is_label fc)
theorem df_known_at {P : Program} {w : World} {K : PySem.W.Frag} {mg : Str → Option Value} {base : Heap} (fc : Facts K mg) : Df P w K mg base 1 "known_at" ["document", "path"] (spM K mg F_known_at) := ok_known_at fc
theorem df_known_put {P : Program} {w : World} {K : PySem.W.Frag} {mg : Str → Option Value} {base : Heap} (fc : Facts K mg) : Df P w K mg base 1 "known_put" ["document", "path", "other"] (spM K mg F_known_put) := ok_known_put fc
theorem df_with_inner {P : Program} {w : World} {K : PySem.W.Frag} {mg : Str → Option Value} {base : Heap} (fc : Facts K mg) : Df P w K mg base 82 "with_inner" ["document", "path", "other"] (spM K mg F_with_inner) := ok_with_inner fc (df_check_document fc) (df_known_at fc) (df_known_put fc) (df_measured (P := P) (w := w) (base := base) fc 80)
theorem dfs_inner_cost_cost_between {P : Program} {w : World} {K : PySem.W.Frag} {mg : Str → Option Value} {base : Heap} (fc : Facts K mg) : ∀ n, Df P w K mg base (80 + n) "inner_cost" ["document", "other"] (spM K mg (F_inner_cost n)) ∧ Df P w K mg base (80 + n) "cost_between" ["document", "other"] (spM K mg (F_cost_between n))
  | 0 => ⟨(by
      obtain ⟨f, fd, F, hm⟩ := fc.f_inner_cost
      exact df_bad F hm (F.binds fun _ _ _ _ _ _ us hl => match us, hl with | [_, _], _ => rfl)), (by
      obtain ⟨f, fd, F, hm⟩ := fc.f_cost_between
      exact df_bad F hm (F.binds fun _ _ _ _ _ _ us hl => match us, hl with | [_, _], _ => rfl))⟩
  | n + 1 => by
    obtain ⟨ih_inner_cost, ih_cost_between⟩ := dfs_inner_cost_cost_between (P := P) (w := w) (base := base) fc n
    exact ⟨ok_inner_cost fc (Nat.le_add_right 80 n) ih_cost_between, ok_cost_between fc (Nat.le_add_right 80 n) (df_measured (P := P) (w := w) (base := base) fc 80) ih_inner_cost⟩
theorem df_inner_cost {P : Program} {w : World} {K : PySem.W.Frag} {mg : Str → Option Value} {base : Heap} (fc : Facts K mg) (n : Nat) : Df P w K mg base (80 + n) "inner_cost" ["document", "other"] (spM K mg (F_inner_cost n)) := (dfs_inner_cost_cost_between fc n).1
theorem df_cost_between {P : Program} {w : World} {K : PySem.W.Frag} {mg : Str → Option Value} {base : Heap} (fc : Facts K mg) (n : Nat) : Df P w K mg base (80 + n) "cost_between" ["document", "other"] (spM K mg (F_cost_between n)) := (dfs_inner_cost_cost_between fc n).2
theorem dfs_changes_of {P : Program} {w : World} {K : PySem.W.Frag} {mg : Str → Option Value} {base : Heap} (fc : Facts K mg) : ∀ n, Df P w K mg base (130 + n) "changes_of" ["document", "other", "path"] (spM K mg (F_changes_of n))
  | 0 => (by
      obtain ⟨f, fd, F, hm⟩ := fc.f_changes_of
      exact df_bad F hm (F.binds fun _ _ _ _ _ _ us hl => match us, hl with | [_, _, _], _ => rfl))
  | n + 1 => by
    have ih_changes_of := dfs_changes_of (P := P) (w := w) (base := base) fc n
    exact ok_changes_of fc (Nat.le_add_right 130 n) (df_inner_cost (P := P) (w := w) (base := base) fc 50) (df_measured (P := P) (w := w) (base := base) fc 80) ih_changes_of
theorem df_changes_of {P : Program} {w : World} {K : PySem.W.Frag} {mg : Str → Option Value} {base : Heap} (fc : Facts K mg) (n : Nat) : Df P w K mg base (130 + n) "changes_of" ["document", "other", "path"] (spM K mg (F_changes_of n)) := (dfs_changes_of fc n)
theorem df_changes {P : Program} {w : World} {K : PySem.W.Frag} {mg : Str → Option Value} {base : Heap} (fc : Facts K mg) : Df P w K mg base 156 "changes" ["document", "other"] (spM K mg F_changes) := ok_changes fc (df_check_document fc) (df_changes_of (P := P) (w := w) (base := base) fc 25)
theorem df_changed {P : Program} {w : World} {K : PySem.W.Frag} {mg : Str → Option Value} {base : Heap} (fc : Facts K mg) : Df P w K mg base 83 "changed" ["document", "rows"] (spM K mg F_changed) := ok_changed fc (df_check_document fc) (df_known_at fc) (df_is_label fc) (df_known_put fc) (df_with_inner fc)
theorem df__law_same {P : Program} {w : World} {K : PySem.W.Frag} {mg : Str → Option Value} {base : Heap} (fc : Facts K mg) : Df P w K mg base 1 "_law_same" ["told", "due"] (spM K mg F__law_same) := ok__law_same fc
theorem df__law_stream {P : Program} {w : World} {K : PySem.W.Frag} {mg : Str → Option Value} {base : Heap} (fc : Facts K mg) : Df P w K mg base 1 "_law_stream" ["script"] (spM K mg F__law_stream) := ok__law_stream fc
theorem df__law_next {P : Program} {w : World} {K : PySem.W.Frag} {mg : Str → Option Value} {base : Heap} (fc : Facts K mg) : Df P w K mg base 1 "_law_next" ["state", "many"] (spS K mg F__law_next) := ok__law_next fc
theorem df__law_is_label {P : Program} {w : World} {K : PySem.W.Frag} {mg : Str → Option Value} {base : Heap} (fc : Facts K mg) : Df P w K mg base 1 "_law_is_label" ["text"] (spM K mg F__law_is_label) := ok__law_is_label fc
theorem dfs__law_size {P : Program} {w : World} {K : PySem.W.Frag} {mg : Str → Option Value} {base : Heap} (fc : Facts K mg) : ∀ n, Df P w K mg base (0 + n) "_law_size" ["document"] (spM K mg (F__law_size n))
  | 0 => (by
      obtain ⟨f, fd, F, hm⟩ := fc.f__law_size
      exact df_bad F hm (F.binds fun _ _ _ _ _ _ us hl => match us, hl with | [_], _ => rfl))
  | n + 1 => by
    have ih__law_size := dfs__law_size (P := P) (w := w) (base := base) fc n
    exact ok__law_size fc (Nat.le_add_right 0 n) ih__law_size
theorem df__law_size {P : Program} {w : World} {K : PySem.W.Frag} {mg : Str → Option Value} {base : Heap} (fc : Facts K mg) (n : Nat) : Df P w K mg base (0 + n) "_law_size" ["document"] (spM K mg (F__law_size n)) := (dfs__law_size fc n)
theorem dfs__law_depth {P : Program} {w : World} {K : PySem.W.Frag} {mg : Str → Option Value} {base : Heap} (fc : Facts K mg) : ∀ n, Df P w K mg base (0 + n) "_law_depth" ["document"] (spM K mg (F__law_depth n))
  | 0 => (by
      obtain ⟨f, fd, F, hm⟩ := fc.f__law_depth
      exact df_bad F hm (F.binds fun _ _ _ _ _ _ us hl => match us, hl with | [_], _ => rfl))
  | n + 1 => by
    have ih__law_depth := dfs__law_depth (P := P) (w := w) (base := base) fc n
    exact ok__law_depth fc (Nat.le_add_right 0 n) ih__law_depth
theorem df__law_depth {P : Program} {w : World} {K : PySem.W.Frag} {mg : Str → Option Value} {base : Heap} (fc : Facts K mg) (n : Nat) : Df P w K mg base (0 + n) "_law_depth" ["document"] (spM K mg (F__law_depth n)) := (dfs__law_depth fc n)
theorem dfs__law_nodes {P : Program} {w : World} {K : PySem.W.Frag} {mg : Str → Option Value} {base : Heap} (fc : Facts K mg) : ∀ n, Df P w K mg base (0 + n) "_law_nodes" ["document", "path"] (spM K mg (F__law_nodes n))
  | 0 => (by
      obtain ⟨f, fd, F, hm⟩ := fc.f__law_nodes
      exact df_bad F hm (F.binds fun _ _ _ _ _ _ us hl => match us, hl with | [_, _], _ => rfl))
  | n + 1 => by
    have ih__law_nodes := dfs__law_nodes (P := P) (w := w) (base := base) fc n
    exact ok__law_nodes fc (Nat.le_add_right 0 n) ih__law_nodes
theorem df__law_nodes {P : Program} {w : World} {K : PySem.W.Frag} {mg : Str → Option Value} {base : Heap} (fc : Facts K mg) (n : Nat) : Df P w K mg base (0 + n) "_law_nodes" ["document", "path"] (spM K mg (F__law_nodes n)) := (dfs__law_nodes fc n)
theorem dfs__law_put {P : Program} {w : World} {K : PySem.W.Frag} {mg : Str → Option Value} {base : Heap} (fc : Facts K mg) : ∀ n, Df P w K mg base (0 + n) "_law_put" ["document", "path", "other"] (spM K mg (F__law_put n))
  | 0 => (by
      obtain ⟨f, fd, F, hm⟩ := fc.f__law_put
      exact df_bad F hm (F.binds fun _ _ _ _ _ _ us hl => match us, hl with | [_, _, _], _ => rfl))
  | n + 1 => by
    have ih__law_put := dfs__law_put (P := P) (w := w) (base := base) fc n
    exact ok__law_put fc (Nat.le_add_right 0 n) ih__law_put
theorem df__law_put {P : Program} {w : World} {K : PySem.W.Frag} {mg : Str → Option Value} {base : Heap} (fc : Facts K mg) (n : Nat) : Df P w K mg base (0 + n) "_law_put" ["document", "path", "other"] (spM K mg (F__law_put n)) := (dfs__law_put fc n)
theorem df__law_at {P : Program} {w : World} {K : PySem.W.Frag} {mg : Str → Option Value} {base : Heap} (fc : Facts K mg) : Df P w K mg base 1 "_law_at" ["document", "path"] (spM K mg F__law_at) := ok__law_at fc
theorem df__law_label {P : Program} {w : World} {K : PySem.W.Frag} {mg : Str → Option Value} {base : Heap} (fc : Facts K mg) : Df P w K mg base 2 "_law_label" ["state"] (spS K mg F__law_label) := ok__law_label fc (df__law_next fc)
theorem df__law_signs {P : Program} {w : World} {K : PySem.W.Frag} {mg : Str → Option Value} {base : Heap} (fc : Facts K mg) : Df P w K mg base 3 "_law_signs" ["state", "most"] (spS K mg F__law_signs) := ok__law_signs fc (df__law_label fc) (df__law_next fc)
theorem dfs__law_document {P : Program} {w : World} {K : PySem.W.Frag} {mg : Str → Option Value} {base : Heap} (fc : Facts K mg) : ∀ n, Df P w K mg base (1 + n) "_law_document" ["state", "signs", "whole"] (spS K mg (F__law_document n))
  | 0 => (by
      obtain ⟨f, fd, F, hm⟩ := fc.f__law_document
      exact dfS_bad F hm (F.binds fun _ _ _ _ _ _ us hl => match us, hl with | [_, _, _], _ => rfl))
  | n + 1 => by
    have ih__law_document := dfs__law_document (P := P) (w := w) (base := base) fc n
    exact ok__law_document fc (Nat.le_add_right 1 n) (df__law_next fc) ih__law_document
theorem df__law_document {P : Program} {w : World} {K : PySem.W.Frag} {mg : Str → Option Value} {base : Heap} (fc : Facts K mg) (n : Nat) : Df P w K mg base (1 + n) "_law_document" ["state", "signs", "whole"] (spS K mg (F__law_document n)) := (dfs__law_document fc n)
theorem df__law_document_due {P : Program} {w : World} {K : PySem.W.Frag} {mg : Str → Option Value} {base : Heap} (fc : Facts K mg) : Df P w K mg base 81 "_law_document_due" ["document"] (spM K mg F__law_document_due) := ok__law_document_due fc (df__law_size (P := P) (w := w) (base := base) fc 80) (df__law_depth (P := P) (w := w) (base := base) fc 80) (df__law_nodes (P := P) (w := w) (base := base) fc 80) (df__law_is_label fc)
theorem dfs__law_exact {P : Program} {w : World} {K : PySem.W.Frag} {mg : Str → Option Value} {base : Heap} (fc : Facts K mg) : ∀ n, Df P w K mg base (0 + n) "_law_exact" ["many"] (spM K mg (F__law_exact n))
  | 0 => (by
      obtain ⟨f, fd, F, hm⟩ := fc.f__law_exact
      exact df_bad F hm (F.binds fun _ _ _ _ _ _ us hl => match us, hl with | [_], _ => rfl))
  | n + 1 => by
    have ih__law_exact := dfs__law_exact (P := P) (w := w) (base := base) fc n
    exact ok__law_exact fc (Nat.le_add_right 0 n) ih__law_exact
theorem df__law_exact {P : Program} {w : World} {K : PySem.W.Frag} {mg : Str → Option Value} {base : Heap} (fc : Facts K mg) (n : Nat) : Df P w K mg base (0 + n) "_law_exact" ["many"] (spM K mg (F__law_exact n)) := (dfs__law_exact fc n)
theorem dfs__law_cost {P : Program} {w : World} {K : PySem.W.Frag} {mg : Str → Option Value} {base : Heap} (fc : Facts K mg) : ∀ n, Df P w K mg base (80 + n) "_law_cost" ["document", "other"] (spM K mg (F__law_cost n))
  | 0 => (by
      obtain ⟨f, fd, F, hm⟩ := fc.f__law_cost
      exact df_bad F hm (F.binds fun _ _ _ _ _ _ us hl => match us, hl with | [_, _], _ => rfl))
  | n + 1 => by
    have ih__law_cost := dfs__law_cost (P := P) (w := w) (base := base) fc n
    exact ok__law_cost fc (Nat.le_add_right 80 n) (df__law_size (P := P) (w := w) (base := base) fc 80) ih__law_cost
theorem df__law_cost {P : Program} {w : World} {K : PySem.W.Frag} {mg : Str → Option Value} {base : Heap} (fc : Facts K mg) (n : Nat) : Df P w K mg base (80 + n) "_law_cost" ["document", "other"] (spM K mg (F__law_cost n)) := (dfs__law_cost fc n)
theorem df__law_told {P : Program} {w : World} {K : PySem.W.Frag} {mg : Str → Option Value} {base : Heap} (fc : Facts K mg) : Df P w K mg base 157 "_law_told" ["kind", "document", "rows"] (spM K mg F__law_told) := ok__law_told fc (df_changes fc) (df_changed fc) (ok__law_error fc) (res_catch fc)
theorem df__law_due {P : Program} {w : World} {K : PySem.W.Frag} {mg : Str → Option Value} {base : Heap} (fc : Facts K mg) : Df P w K mg base 82 "_law_due" ["document", "rows"] (spM K mg F__law_due) := ok__law_due fc (df__law_is_label fc) (df__law_put (P := P) (w := w) (base := base) fc 80) (df__law_document_due fc) (df__law_size (P := P) (w := w) (base := base) fc 80) (df__law_depth (P := P) (w := w) (base := base) fc 80)
theorem df__law_price {P : Program} {w : World} {K : PySem.W.Frag} {mg : Str → Option Value} {base : Heap} (fc : Facts K mg) : Df P w K mg base 81 "_law_price" ["document", "rows"] (spM K mg F__law_price) := ok__law_price fc (df__law_size (P := P) (w := w) (base := base) fc 80) (df__law_at fc)
theorem dfs__law_listed {P : Program} {w : World} {K : PySem.W.Frag} {mg : Str → Option Value} {base : Heap} (fc : Facts K mg) : ∀ n, Df P w K mg base (105 + n) "_law_listed" ["document", "other", "path"] (spM K mg (F__law_listed n))
  | 0 => (by
      obtain ⟨f, fd, F, hm⟩ := fc.f__law_listed
      exact df_bad F hm (F.binds fun _ _ _ _ _ _ us hl => match us, hl with | [_, _, _], _ => rfl))
  | n + 1 => by
    have ih__law_listed := dfs__law_listed (P := P) (w := w) (base := base) fc n
    exact ok__law_listed fc (Nat.le_add_right 105 n) (df__law_cost (P := P) (w := w) (base := base) fc 25) (df__law_size (P := P) (w := w) (base := base) fc 80) ih__law_listed
theorem df__law_listed {P : Program} {w : World} {K : PySem.W.Frag} {mg : Str → Option Value} {base : Heap} (fc : Facts K mg) (n : Nat) : Df P w K mg base (105 + n) "_law_listed" ["document", "other", "path"] (spM K mg (F__law_listed n)) := (dfs__law_listed fc n)
theorem df__law_near {P : Program} {w : World} {K : PySem.W.Frag} {mg : Str → Option Value} {base : Heap} (fc : Facts K mg) : Df P w K mg base 81 "_law_near" ["state", "document", "signs"] (spS K mg F__law_near) := ok__law_near fc (df__law_next fc) (df__law_nodes (P := P) (w := w) (base := base) fc 80) (df__law_put (P := P) (w := w) (base := base) fc 80) (df__law_document (P := P) (w := w) (base := base) fc 14) (df__law_label fc)
theorem df_law {P : Program} {w : World} {K : PySem.W.Frag} {mg : Str → Option Value} {base : Heap} (fc : Facts K mg) : Df P w K mg base 158 "law" ["script"] (spM K mg F_law) := ok_law fc (df__law_stream fc) (df__law_signs fc) (df__law_document (P := P) (w := w) (base := base) fc 14) (df__law_next fc) (df__law_near fc) (df__law_told fc) (df__law_same fc) (df__law_listed (P := P) (w := w) (base := base) fc 25) (df__law_price fc) (df__law_cost (P := P) (w := w) (base := base) fc 25) (df__law_nodes (P := P) (w := w) (base := base) fc 80) (df__law_label fc) (df__law_due fc) (df__law_exact (P := P) (w := w) (base := base) fc 12)
/- levels: {"is_label": 1, "measured": 80, "nodes": 1, "check_document": 81, "known_at": 1, "known_put": 1, "with_inner": 82, "inner_cost": 130, "cost_between": 130, "changes_of": 155, "changes": 156, "changed": 83, "_law_same": 1, "_law_stream": 1, "_law_next": 1, "_law_error": 1, "_law_is_label": 1, "_law_size": 80, "_law_depth": 80, "_law_nodes": 80, "_law_put": 80, "_law_at": 1, "_law_label": 2, "_law_signs": 3, "_law_document": 15, "_law_document_due": 81, "_law_exact": 12, "_law_cost": 105, "_law_told": 157, "_law_due": 82, "_law_price": 81, "_law_listed": 130, "_law_near": 81, "law": 158} -/
end ML
set_option maxRecDepth 100000
set_option maxHeartbeats 0
namespace ML
open PySem L2
def dd_is_label : He.DefD := ⟨("is_label", none), "is_label", "is_label", defArgs s_is_label, defBody s_is_label, defScope s_is_label, [], []⟩
def dd_measured : He.DefD := ⟨("measured", none), "measured", "measured", defArgs s_measured, defBody s_measured, defScope s_measured, [], []⟩
def dd_nodes : He.DefD := ⟨("nodes", none), "nodes", "nodes", defArgs s_nodes, defBody s_nodes, defScope s_nodes, [], []⟩
def dd_check_document : He.DefD := ⟨("check_document", none), "check_document", "check_document", defArgs s_check_document, defBody s_check_document, defScope s_check_document, [], []⟩
def dd_known_at : He.DefD := ⟨("known_at", none), "known_at", "known_at", defArgs s_known_at, defBody s_known_at, defScope s_known_at, [], []⟩
def dd_known_put : He.DefD := ⟨("known_put", none), "known_put", "known_put", defArgs s_known_put, defBody s_known_put, defScope s_known_put, [], []⟩
def dd_with_inner : He.DefD := ⟨("with_inner", none), "with_inner", "with_inner", defArgs s_with_inner, defBody s_with_inner, defScope s_with_inner, [], []⟩
def dd_inner_cost : He.DefD := ⟨("inner_cost", none), "inner_cost", "inner_cost", defArgs s_inner_cost, defBody s_inner_cost, defScope s_inner_cost, [], []⟩
def dd_cost_between : He.DefD := ⟨("cost_between", none), "cost_between", "cost_between", defArgs s_cost_between, defBody s_cost_between, defScope s_cost_between, [], []⟩
def dd_changes_of : He.DefD := ⟨("changes_of", none), "changes_of", "changes_of", defArgs s_changes_of, defBody s_changes_of, defScope s_changes_of, [], []⟩
def dd_changes : He.DefD := ⟨("changes", none), "changes", "changes", defArgs s_changes, defBody s_changes, defScope s_changes, [], []⟩
def dd_changed : He.DefD := ⟨("changed", none), "changed", "changed", defArgs s_changed, defBody s_changed, defScope s_changed, [], []⟩
def dd__law_same : He.DefD := ⟨("_law_same", none), "_law_same", "_law_same", defArgs s__law_same, defBody s__law_same, defScope s__law_same, [], []⟩
def dd__law_stream : He.DefD := ⟨("_law_stream", none), "_law_stream", "_law_stream", defArgs s__law_stream, defBody s__law_stream, defScope s__law_stream, [], []⟩
def dd__law_next : He.DefD := ⟨("_law_next", none), "_law_next", "_law_next", defArgs s__law_next, defBody s__law_next, defScope s__law_next, [], []⟩
def dd__law_error : He.DefD := ⟨("_law_error", none), "_law_error", "_law_error", defArgs s__law_error, defBody s__law_error, defScope s__law_error, [], []⟩
def dd__law_is_label : He.DefD := ⟨("_law_is_label", none), "_law_is_label", "_law_is_label", defArgs s__law_is_label, defBody s__law_is_label, defScope s__law_is_label, [], []⟩
def dd__law_size : He.DefD := ⟨("_law_size", none), "_law_size", "_law_size", defArgs s__law_size, defBody s__law_size, defScope s__law_size, [], []⟩
def dd__law_depth : He.DefD := ⟨("_law_depth", none), "_law_depth", "_law_depth", defArgs s__law_depth, defBody s__law_depth, defScope s__law_depth, [], []⟩
def dd__law_nodes : He.DefD := ⟨("_law_nodes", none), "_law_nodes", "_law_nodes", defArgs s__law_nodes, defBody s__law_nodes, defScope s__law_nodes, [], []⟩
def dd__law_put : He.DefD := ⟨("_law_put", none), "_law_put", "_law_put", defArgs s__law_put, defBody s__law_put, defScope s__law_put, [], []⟩
def dd__law_at : He.DefD := ⟨("_law_at", none), "_law_at", "_law_at", defArgs s__law_at, defBody s__law_at, defScope s__law_at, [], []⟩
def dd__law_label : He.DefD := ⟨("_law_label", none), "_law_label", "_law_label", defArgs s__law_label, defBody s__law_label, defScope s__law_label, [], []⟩
def dd__law_signs : He.DefD := ⟨("_law_signs", none), "_law_signs", "_law_signs", defArgs s__law_signs, defBody s__law_signs, defScope s__law_signs, [], []⟩
def dd__law_document : He.DefD := ⟨("_law_document", none), "_law_document", "_law_document", defArgs s__law_document, defBody s__law_document, defScope s__law_document, [], []⟩
def dd__law_document_due : He.DefD := ⟨("_law_document_due", none), "_law_document_due", "_law_document_due", defArgs s__law_document_due, defBody s__law_document_due, defScope s__law_document_due, [], []⟩
def dd__law_exact : He.DefD := ⟨("_law_exact", none), "_law_exact", "_law_exact", defArgs s__law_exact, defBody s__law_exact, defScope s__law_exact, [], []⟩
def dd__law_cost : He.DefD := ⟨("_law_cost", none), "_law_cost", "_law_cost", defArgs s__law_cost, defBody s__law_cost, defScope s__law_cost, [], []⟩
def dd__law_told : He.DefD := ⟨("_law_told", none), "_law_told", "_law_told", defArgs s__law_told, defBody s__law_told, defScope s__law_told, [], []⟩
def dd__law_due : He.DefD := ⟨("_law_due", none), "_law_due", "_law_due", defArgs s__law_due, defBody s__law_due, defScope s__law_due, [], []⟩
def dd__law_price : He.DefD := ⟨("_law_price", none), "_law_price", "_law_price", defArgs s__law_price, defBody s__law_price, defScope s__law_price, [], []⟩
def dd__law_listed : He.DefD := ⟨("_law_listed", none), "_law_listed", "_law_listed", defArgs s__law_listed, defBody s__law_listed, defScope s__law_listed, [], []⟩
def dd__law_near : He.DefD := ⟨("_law_near", none), "_law_near", "_law_near", defArgs s__law_near, defBody s__law_near, defScope s__law_near, [], []⟩
def dd_law : He.DefD := ⟨("law", none), "law", "law", defArgs s_law, defBody s_law, defScope s_law, [], []⟩
def lawDefs0 : List He.DefD := [dd_is_label, dd_measured, dd_nodes, dd_check_document, dd_known_at, dd_known_put, dd_with_inner, dd_inner_cost, dd_cost_between, dd_changes_of, dd_changes, dd_changed, dd__law_same, dd__law_stream, dd__law_next, dd__law_error, dd__law_is_label, dd__law_size, dd__law_depth, dd__law_nodes, dd__law_put, dd__law_at, dd__law_label, dd__law_signs, dd__law_document, dd__law_document_due, dd__law_exact, dd__law_cost, dd__law_told, dd__law_due]
def lawDefs1 : List He.DefD := [dd__law_price, dd__law_listed, dd__law_near, dd_law]
def lawDefs : List He.DefD := lawDefs0 ++ lawDefs1
def lawFa0 : List He.Fa := [.glo "is_label", .glo "measured", .glo "nodes", .glo "check_document", .glo "known_at", .glo "known_put", .glo "with_inner", .glo "inner_cost", .glo "cost_between", .glo "changes_of", .glo "changes", .glo "changed", .glo "_law_same", .glo "_law_stream", .glo "_law_next", .glo "_law_error", .glo "_law_is_label", .glo "_law_size", .glo "_law_depth", .glo "_law_nodes", .glo "_law_put", .glo "_law_at", .glo "_law_label", .glo "_law_signs", .glo "_law_document", .glo "_law_document_due", .glo "_law_exact", .glo "_law_cost", .glo "_law_told", .glo "_law_due"]
def lawFa1 : List He.Fa := [.glo "_law_price", .glo "_law_listed", .glo "_law_near", .glo "law", .free "abs", .free "all", .free "enumerate", .free "int", .free "isinstance", .free "len", .free "max", .free "min", .free "range", .free "repr", .free "set", .free "sorted", .free "str", .free "sum", .free "tuple", .free "zip", .int "MAX_LABEL" 12, .int "MAX_RANK" 3, .int "MAX_SIZE" 300, .int "MAX_DEPTH" 40, .str "FIRST" "abcdefghijklmnopqrstuvwxyz", .str "LATER" "abcdefghijklmnopqrstuvwxyz0123456789", .glo "NotAllowed", .glo "TooLarge", .glo "Missing", .glo "BadPaper"]
def lawFa2 : List He.Fa := [.glo "BadForm", .glo "FormError"]
def lawFa : List He.Fa := lawFa0 ++ lawFa1 ++ lawFa2
def lawLoose0 : List Str := ["FormError", "NotAllowed", "TooLarge", "Missing", "BadPaper", "BadForm", "MAX_LABEL", "MAX_RANK", "MAX_SIZE", "MAX_DEPTH", "FIRST", "LATER", "is_label", "measured", "nodes", "check_document", "known_at", "known_put", "with_inner", "inner_cost", "cost_between", "changes_of", "changes", "changed", "_law_same", "_law_stream", "_law_next", "_law_error", "_law_is_label", "_law_size"]
def lawLoose1 : List Str := ["_law_depth", "_law_nodes", "_law_put", "_law_at", "_law_label", "_law_signs", "_law_document", "_law_document_due", "_law_exact", "_law_cost", "_law_told", "_law_due", "_law_price", "_law_listed", "_law_near"]
def lawLoose : List Str := lawLoose0 ++ lawLoose1
def lawCk (K : PySem.W.Frag) : Bool := errsOk ["NotAllowed", "TooLarge"] errNames "FormError" K
theorem facts_of {K : PySem.W.Frag} {h : Heap} {mg : Str → Option Value} (X : K.In h) (G : h.Ns mainGlobals mg) (ck : lawCk K = true) (c : He.SaysD lawFa lawDefs K) : Facts K mg where
  f_is_label := by
    obtain ⟨fd, F⟩ := c.def_ 0 (d := dd_is_label) rfl
    exact ⟨_, fd, fun_ofD F, He.glo_ok X G (c.fact 0 rfl)⟩
  f_measured := by
    obtain ⟨fd, F⟩ := c.def_ 1 (d := dd_measured) rfl
    exact ⟨_, fd, fun_ofD F, He.glo_ok X G (c.fact 1 rfl)⟩
  f_nodes := by
    obtain ⟨fd, F⟩ := c.def_ 2 (d := dd_nodes) rfl
    exact ⟨_, fd, fun_ofD F, He.glo_ok X G (c.fact 2 rfl)⟩
  f_check_document := by
    obtain ⟨fd, F⟩ := c.def_ 3 (d := dd_check_document) rfl
    exact ⟨_, fd, fun_ofD F, He.glo_ok X G (c.fact 3 rfl)⟩
  f_known_at := by
    obtain ⟨fd, F⟩ := c.def_ 4 (d := dd_known_at) rfl
    exact ⟨_, fd, fun_ofD F, He.glo_ok X G (c.fact 4 rfl)⟩
  f_known_put := by
    obtain ⟨fd, F⟩ := c.def_ 5 (d := dd_known_put) rfl
    exact ⟨_, fd, fun_ofD F, He.glo_ok X G (c.fact 5 rfl)⟩
  f_with_inner := by
    obtain ⟨fd, F⟩ := c.def_ 6 (d := dd_with_inner) rfl
    exact ⟨_, fd, fun_ofD F, He.glo_ok X G (c.fact 6 rfl)⟩
  f_inner_cost := by
    obtain ⟨fd, F⟩ := c.def_ 7 (d := dd_inner_cost) rfl
    exact ⟨_, fd, fun_ofD F, He.glo_ok X G (c.fact 7 rfl)⟩
  f_cost_between := by
    obtain ⟨fd, F⟩ := c.def_ 8 (d := dd_cost_between) rfl
    exact ⟨_, fd, fun_ofD F, He.glo_ok X G (c.fact 8 rfl)⟩
  f_changes_of := by
    obtain ⟨fd, F⟩ := c.def_ 9 (d := dd_changes_of) rfl
    exact ⟨_, fd, fun_ofD F, He.glo_ok X G (c.fact 9 rfl)⟩
  f_changes := by
    obtain ⟨fd, F⟩ := c.def_ 10 (d := dd_changes) rfl
    exact ⟨_, fd, fun_ofD F, He.glo_ok X G (c.fact 10 rfl)⟩
  f_changed := by
    obtain ⟨fd, F⟩ := c.def_ 11 (d := dd_changed) rfl
    exact ⟨_, fd, fun_ofD F, He.glo_ok X G (c.fact 11 rfl)⟩
  f__law_same := by
    obtain ⟨fd, F⟩ := c.def_ 12 (d := dd__law_same) rfl
    exact ⟨_, fd, fun_ofD F, He.glo_ok X G (c.fact 12 rfl)⟩
  f__law_stream := by
    obtain ⟨fd, F⟩ := c.def_ 13 (d := dd__law_stream) rfl
    exact ⟨_, fd, fun_ofD F, He.glo_ok X G (c.fact 13 rfl)⟩
  f__law_next := by
    obtain ⟨fd, F⟩ := c.def_ 14 (d := dd__law_next) rfl
    exact ⟨_, fd, fun_ofD F, He.glo_ok X G (c.fact 14 rfl)⟩
  f__law_error := by
    obtain ⟨fd, F⟩ := c.def_ 15 (d := dd__law_error) rfl
    exact ⟨_, fd, fun_ofD F, He.glo_ok X G (c.fact 15 rfl)⟩
  f__law_is_label := by
    obtain ⟨fd, F⟩ := c.def_ 16 (d := dd__law_is_label) rfl
    exact ⟨_, fd, fun_ofD F, He.glo_ok X G (c.fact 16 rfl)⟩
  f__law_size := by
    obtain ⟨fd, F⟩ := c.def_ 17 (d := dd__law_size) rfl
    exact ⟨_, fd, fun_ofD F, He.glo_ok X G (c.fact 17 rfl)⟩
  f__law_depth := by
    obtain ⟨fd, F⟩ := c.def_ 18 (d := dd__law_depth) rfl
    exact ⟨_, fd, fun_ofD F, He.glo_ok X G (c.fact 18 rfl)⟩
  f__law_nodes := by
    obtain ⟨fd, F⟩ := c.def_ 19 (d := dd__law_nodes) rfl
    exact ⟨_, fd, fun_ofD F, He.glo_ok X G (c.fact 19 rfl)⟩
  f__law_put := by
    obtain ⟨fd, F⟩ := c.def_ 20 (d := dd__law_put) rfl
    exact ⟨_, fd, fun_ofD F, He.glo_ok X G (c.fact 20 rfl)⟩
  f__law_at := by
    obtain ⟨fd, F⟩ := c.def_ 21 (d := dd__law_at) rfl
    exact ⟨_, fd, fun_ofD F, He.glo_ok X G (c.fact 21 rfl)⟩
  f__law_label := by
    obtain ⟨fd, F⟩ := c.def_ 22 (d := dd__law_label) rfl
    exact ⟨_, fd, fun_ofD F, He.glo_ok X G (c.fact 22 rfl)⟩
  f__law_signs := by
    obtain ⟨fd, F⟩ := c.def_ 23 (d := dd__law_signs) rfl
    exact ⟨_, fd, fun_ofD F, He.glo_ok X G (c.fact 23 rfl)⟩
  f__law_document := by
    obtain ⟨fd, F⟩ := c.def_ 24 (d := dd__law_document) rfl
    exact ⟨_, fd, fun_ofD F, He.glo_ok X G (c.fact 24 rfl)⟩
  f__law_document_due := by
    obtain ⟨fd, F⟩ := c.def_ 25 (d := dd__law_document_due) rfl
    exact ⟨_, fd, fun_ofD F, He.glo_ok X G (c.fact 25 rfl)⟩
  f__law_exact := by
    obtain ⟨fd, F⟩ := c.def_ 26 (d := dd__law_exact) rfl
    exact ⟨_, fd, fun_ofD F, He.glo_ok X G (c.fact 26 rfl)⟩
  f__law_cost := by
    obtain ⟨fd, F⟩ := c.def_ 27 (d := dd__law_cost) rfl
    exact ⟨_, fd, fun_ofD F, He.glo_ok X G (c.fact 27 rfl)⟩
  f__law_told := by
    obtain ⟨fd, F⟩ := c.def_ 28 (d := dd__law_told) rfl
    exact ⟨_, fd, fun_ofD F, He.glo_ok X G (c.fact 28 rfl)⟩
  f__law_due := by
    obtain ⟨fd, F⟩ := c.def_ 29 (d := dd__law_due) rfl
    exact ⟨_, fd, fun_ofD F, He.glo_ok X G (c.fact 29 rfl)⟩
  f__law_price := by
    obtain ⟨fd, F⟩ := c.def_ 30 (d := dd__law_price) rfl
    exact ⟨_, fd, fun_ofD F, He.glo_ok X G (c.fact 30 rfl)⟩
  f__law_listed := by
    obtain ⟨fd, F⟩ := c.def_ 31 (d := dd__law_listed) rfl
    exact ⟨_, fd, fun_ofD F, He.glo_ok X G (c.fact 31 rfl)⟩
  f__law_near := by
    obtain ⟨fd, F⟩ := c.def_ 32 (d := dd__law_near) rfl
    exact ⟨_, fd, fun_ofD F, He.glo_ok X G (c.fact 32 rfl)⟩
  f_law := by
    obtain ⟨fd, F⟩ := c.def_ 33 (d := dd_law) rfl
    exact ⟨_, fd, fun_ofD F, He.glo_ok X G (c.fact 33 rfl)⟩
  b_abs := He.free_ok X G (c.fact 34 rfl)
  b_all := He.free_ok X G (c.fact 35 rfl)
  b_enumerate := He.free_ok X G (c.fact 36 rfl)
  b_int := He.free_ok X G (c.fact 37 rfl)
  b_isinstance := He.free_ok X G (c.fact 38 rfl)
  b_len := He.free_ok X G (c.fact 39 rfl)
  b_max := He.free_ok X G (c.fact 40 rfl)
  b_min := He.free_ok X G (c.fact 41 rfl)
  b_range := He.free_ok X G (c.fact 42 rfl)
  b_repr := He.free_ok X G (c.fact 43 rfl)
  b_set := He.free_ok X G (c.fact 44 rfl)
  b_sorted := He.free_ok X G (c.fact 45 rfl)
  b_str := He.free_ok X G (c.fact 46 rfl)
  b_sum := He.free_ok X G (c.fact 47 rfl)
  b_tuple := He.free_ok X G (c.fact 48 rfl)
  b_zip := He.free_ok X G (c.fact 49 rfl)
  k_MAX_LABEL := He.int_ok X G (c.fact 50 rfl)
  k_MAX_RANK := He.int_ok X G (c.fact 51 rfl)
  k_MAX_SIZE := He.int_ok X G (c.fact 52 rfl)
  k_MAX_DEPTH := He.int_ok X G (c.fact 53 rfl)
  k_FIRST := He.str_ok X G (c.fact 54 rfl)
  k_LATER := He.str_ok X G (c.fact 55 rfl)
  g_NotAllowed := He.glo_ok X G (c.fact 56 rfl)
  g_TooLarge := He.glo_ok X G (c.fact 57 rfl)
  g_Missing := He.glo_ok X G (c.fact 58 rfl)
  g_BadPaper := He.glo_ok X G (c.fact 59 rfl)
  g_BadForm := He.glo_ok X G (c.fact 60 rfl)
  g_FormError := He.glo_ok X G (c.fact 61 rfl)
  e_NotAllowed := errsOk_at ck (by decide)
  e_TooLarge := errsOk_at ck (by decide)
abbrev lawRow : PySem.W.OpenRow := PySem.W.OpenLaw.row PySem.Challenge.rw_recastform_k51_changes_of_documents
abbrev lawHook : PySem.W.Hook := hookX 5 lawCk lawFa lawDefs
def lawOb (s : PySem.W.SharedT) : AlX := obsX lawCk lawFa lawDefs 5 (HandSHeadRun.getT s)
theorem lawOb_eq (s : PySem.W.SharedT) : lawOb s = lawHook.obs s.abs := obsX_eq (HandSHeadRun.getT_eq s)
theorem lawRun (w : World) : HandSHeadRun.RunEq lawRow (PySem.W.view lawRow.prog [49]) lawHook lawOb 4000 lawLoose w := by
  intro os
  kernel_rfl
end ML
set_option maxRecDepth 100000
set_option maxHeartbeats 4000000
/-! the head's end, from a def's promise by its name -/
namespace ML
open PySem L2
open PyProof.Rows (IntsAre AllBare)
section
variable {P : Program} {w : World} {K : PySem.W.Frag} {mg mb : Str → Option Value} {k : Nat} {fa a : Addr} {x x0 : Str} {sp : Sp} {s : Shared} {vs : List Value} {ns : List Int}
/-- from an abstract heap that tracks the script alone, or nothing -/
theorem end_atD (KX : K.In s.heap) (gl : s.heap.Ns mainGlobals mg) (bl : s.heap.Ns builtinsNs mb) (bb : ∀ x : Str, x ≠ "__name__" → mb x = bootBuiltins x) (nl : s.heap.NoLimit) (ng : s.gens = #[])
    (ha : s.heap.get? a = some { cls := .type "list", data := .seq vs.toArray }) (hr : Room k callerA) (hm : mg x0 = some (.ref fa)) (F : ∀ base : Heap, K.In base → base.Ns mainGlobals mg → Df P w K mg base k x0 [x] sp) {H : Hp} (only : ∀ b u, H b = some u → b = a ∧ ∃ o xs, u = .frz o (.lst xs)) (hok : HOk P w H s.heap) (nK : H a ≠ none → K.lookup a = none)
    (hsp : sp [.ref a] H (fun v _ => v = .bl true) fun _ _ _ => False) :
    codeAny (model P w) callerA (.call (.ref fa) ⟨[.ref a], []⟩) (fun r s' => r = .ok (.ret (.bool true)) ∧ OldK s.heap s'.heap ∧ s'.os = s.os ∧ AllBare s'.gens) s := by
  have keepB : ∀ {b : Addr} {o : Obj}, s.heap.get? b = some o → H b = none → (hidT s.heap H).get? b = some o := fun e n => hidT_get e n
  have noDict : ∀ {b : Addr} {o : Obj} {es : Array DictEntry} {ep : Nat}, s.heap.get? b = some o → o.data = .dict es ep → H b = none := fun {b o es ep} e d => by
    cases z : H b with
    | none => rfl
    | some u =>
      obtain ⟨rfl, _⟩ := only b u z
      rw [ha] at e
      cases e
      cases d
  have ns' : ∀ {b : Addr} {m : Str → Option Value}, s.heap.Ns b m → (hidT s.heap H).Ns b m := fun ⟨o, es, ep, e, d, r⟩ => ⟨o, es, ep, keepB e (noDict e d), d, r⟩
  have KB : K.In (hidT s.heap H) := fun b o e => keepB (KX b o e) (by
    cases z : H b with
    | none => rfl
    | some u =>
      obtain ⟨rfl, _⟩ := only b u z
      rw [nK (by rw [z]; nofun)] at e
      cases e)
  have M : Mod K mg (hidT s.heap H) := ⟨KB, ns' gl, ⟨mb, ns' bl, bb⟩, nl.imp fun _ h => ⟨ns' h.1, h.2⟩⟩
  have e0 : Env0 P w K mg (hidT s.heap H) callerA [] s H := ⟨rfl, M, fun b o e => of_hidT e, Nat.le_of_eq (hidT_size _ _), trivial, fun b hb => absurd (show b ∈ ([] : List Addr) from hb) (by simp), hok, .of_eq ng⟩
  obtain ⟨f', fd, hm', FG, hb, kp⟩ := F _ KB (ns' gl)
  have ef := hm.symm.trans hm'
  cases ef
  have go := FG.go callerA [] s H ⟨[.ref a], []⟩ [.ref a] [.ref a] _ _ hr rfl e0 (hb s [.ref a] KX rfl) (.cons rfl .nil) hsp
  refine codeAny_mono go fun r s' h => ?_
  match r, h with
  | .error _, ⟨_, _, _, _, _, _, _, _, _, _, _, _, z⟩ => exact z.elim
  | .ok (.ret u), ⟨v, H', os, bare, un, hok', r', q⟩ =>
    have q : v = .bl true := q
    subst q
    obtain rfl : u = Value.bool true := r'
    refine ⟨rfl, .of_keep fun b o e => ?_, os, bare⟩
    cases z : H b with
    | none => exact un.keep b o e z (fun m => absurd (show b ∈ ([] : List Addr) from m) (by simp)) (by simp)
    | some u =>
      obtain ⟨rfl, ob, xs, rfl⟩ := only b u z
      obtain ⟨e1, _⟩ := hok b _ z
      obtain ⟨e2, _⟩ := hok' b _ (un.frzs b ob _ z)
      rw [e] at e1
      cases e1
      exact e2
theorem end_callD (KX : K.In s.heap) (gl : s.heap.Ns mainGlobals mg) (bl : s.heap.Ns builtinsNs mb) (bb : ∀ x : Str, x ≠ "__name__" → mb x = bootBuiltins x) (nl : s.heap.NoLimit) (ng : s.gens = #[])
    (ha : s.heap.get? a = some { cls := .type "list", data := .seq vs.toArray }) (hi : IntsAre vs ns) (small : ns.length ≤ sizeLine) (hr : Room k callerA) (hm : mg x0 = some (.ref fa)) (F : ∀ base : Heap, K.In base → base.Ns mainGlobals mg → Df P w K mg base k x0 [x] sp) (hsp : ∀ H : Hp, SqL K H a (ns.map V.int) → sp [.ref a] H (fun v _ => v = .bl true) fun _ _ _ => False) :
    codeAny (model P w) callerA (.call (.ref fa) ⟨[.ref a], []⟩) (fun r s' => r = .ok (.ret (.bool true)) ∧ OldK s.heap s'.heap ∧ s'.os = s.os ∧ AllBare s'.gens) s := by
  have rv := vals_ints hi
  cases hk : K.lookup a with
  | some o =>
    have e := KX a o hk
    rw [ha] at e
    cases e
    exact end_atD (H := fun _ => none) KX gl bl bb nl ng ha hr hm F (fun b u z => by cases z) (fun b u z => by cases (show (none : Option HO) = some u from z)) (fun z => absurd rfl z)
      (hsp _ (.inr ⟨_, vs.toArray, _, hk, rfl, rfl, rfl, by rw [List.size_toArray, hi.length]; exact small, by simpa using rv⟩))
  | none =>
    let ob : Obj := { cls := .type "list", data := .seq vs.toArray }
    have at_a : (fun b => if b = a then some (HO.frz ob (.lst (ns.map V.int))) else none) a = some (HO.frz ob (.lst (ns.map V.int))) := if_pos rfl
    have sole : ∀ b u, (fun b => if b = a then some (HO.frz ob (.lst (ns.map V.int))) else none) b = some u → b = a ∧ u = HO.frz ob (.lst (ns.map V.int)) := fun b u z => by
      dsimp only at z
      by_cases h : b = a
      · rw [if_pos h] at z
        cases z
        exact ⟨h, rfl⟩
      · rw [if_neg h] at z
        cases z
    refine end_atD KX gl bl bb nl ng ha hr hm F (fun b u z => ⟨(sole b u z).1, _, _, (sole b u z).2⟩) (fun b u z => ?_) (fun _ => hk) (hsp _ (.inl (.inr ⟨ob, at_a⟩)))
    obtain ⟨rfl, rfl⟩ := sole b u z
    exact ⟨ha, by rw [List.length_map]; exact small, vs, _, rv, ha⟩
end
/-- a law whose def keeps the promise F on every script of at most n whole numbers -/
theorem walk_endD {l : PySem.W.OpenLaw} {n k : Nat} {q : Program} {loose : List Str} {XP : (Str → Option Value) → Heap → Prop} {YP : World → Heap → Prop} {d : DefRec} {x : Str} (hn : l.most = some n) (hn2 : n ≤ sizeLine) (hdf : d.params.defaults = []) (hr : Room k callerA)
    (F : ∀ (w : World) (mg : Str → Option Value) (fa : Addr) (h : Heap), YP w h → h.Ns mainGlobals mg → mg d.name = some (.ref fa) →
      ∃ (K : PySem.W.Frag) (f : List PyData → Rt), K.In h ∧ (∀ ns : List Int, ns.length ≤ n → f [.list (dInts ns)] = .ok (.bool true)) ∧
        ∀ base : Heap, K.In base → base.Ns mainGlobals mg → Df l.prog w K mg base k d.name [x] (spM K mg f)) : PySem.W.WalkO q loose XP YP l.row.toRowW d [] (fun f vs => PySem.call f vs) := by
  refine Att.attach_call hn hdf fun w s₀ s₁ mg mb fa o pm cd doc a vs ns G Y ho hd hcd hmg hobj hints hlen hg => ?_
  obtain ⟨K, f, KX, hf, hF⟩ := F w mg fa _ Y G.T.g hmg
  refine end_callD KX G.T.g G.T.b G.T.builtins G.T.nolimit hg hobj hints (Nat.le_trans hlen hn2) hr hmg hF fun H hS => ?_
  refine ⟨H, [.list (dInts ns)], Sub.refl H, .cons (.lst hS (DpAll.of_ints ns)) .nil, ?_⟩
  rw [hf ns hlen]
  intro v G' H' x r
  cases r
  rfl
end ML
set_option maxRecDepth 100000
set_option maxHeartbeats 4000000
/-! the plain side: how the functions are reckoned -/
namespace ML
open PySem L2
section
variable {α β : Type}
@[simp] theorem rs_bind_ok {a : α} {ρ : En} {k : α → En → Rs β} : (Rs.ok a ρ).bind k = k a ρ := rfl
@[simp] theorem rs_bind_err {c : Str} {ρ : En} {k : α → En → Rs β} : (Rs.err c ρ : Rs α).bind k = .err c ρ := rfl
@[simp] theorem rs_bind_bad {k : α → En → Rs β} : (Rs.bad : Rs α).bind k = .bad := rfl
@[simp] theorem rs_map_ok {a : α} {ρ : En} {g : α → β} : (Rs.ok a ρ).map g = .ok (g a) ρ := rfl
@[simp] theorem rs_map_err {c : Str} {ρ : En} {g : α → β} : (Rs.err c ρ : Rs α).map g = .err c ρ := rfl
@[simp] theorem rs_st_ok {a : α} {ρ : En} {k : α → En → Ot} : (Rs.ok a ρ).st k = k a ρ := rfl
@[simp] theorem rs_st_err {c : Str} {ρ : En} {k : α → En → Ot} : (Rs.err c ρ : Rs α).st k = .err c ρ := rfl
@[simp] theorem rs_ofO_some {a : α} {ρ : En} : ofO (some a) ρ = .ok a ρ := rfl
@[simp] theorem ot_seq_next {ρ : En} {k : En → Ot} : (Ot.next ρ).seq k = k ρ := rfl
@[simp] theorem ot_seq_ret {d : PyData} {ρ : En} {k : En → Ot} : (Ot.ret d ρ).seq k = .ret d ρ := rfl
@[simp] theorem ot_seq_err {c : Str} {ρ : En} {k : En → Ot} : (Ot.err c ρ).seq k = .err c ρ := rfl
@[simp] theorem ot_seq_brk {ρ : En} {k : En → Ot} : (Ot.brk ρ).seq k = .brk ρ := rfl
@[simp] theorem ot_seq_cont {ρ : En} {k : En → Ot} : (Ot.cont ρ).seq k = .cont ρ := rfl
@[simp] theorem p_seqS {f g : En → Ot} {ρ : En} : seqS f g ρ = (f ρ).seq g := rfl
@[simp] theorem p_ifS {c : En → Rs Bool} {f g : En → Ot} {ρ : En} : ifS c f g ρ = (c ρ).st fun b ρ1 => if b = true then f ρ1 else g ρ1 := rfl
@[simp] theorem p_orT {f g : En → Rs Bool} {ρ : En} : orT f g ρ = (f ρ).bind fun b ρ1 => if b = true then .ok true ρ1 else g ρ1 := rfl
@[simp] theorem p_andT {f g : En → Rs Bool} {ρ : En} : andT f g ρ = (f ρ).bind fun b ρ1 => if b = true then g ρ1 else .ok false ρ1 := rfl
@[simp] theorem p_andV {f g : En → Rs PyData} {ρ : En} : andV f g ρ = (f ρ).bind fun d ρ1 => (ofO (boolOf d) ρ1).bind fun b ρ1 => if b = true then g ρ1 else .ok (.bool false) ρ1 := rfl
@[simp] theorem p_orV {f g : En → Rs PyData} {ρ : En} : orV f g ρ = (f ρ).bind fun d ρ1 => (ofO (boolOf d) ρ1).bind fun b ρ1 => if b = true then .ok (.bool true) ρ1 else g ρ1 := rfl
@[simp] theorem p_ifT {c : En → Rs Bool} {f g : En → Rs α} {ρ : En} : ifT c f g ρ = (c ρ).bind fun b ρ1 => if b = true then f ρ1 else g ρ1 := rfl
@[simp] theorem p_bin2 {g : PyData → PyData → Option PyData} {f1 f2 : En → Rs PyData} {ρ : En} : bin2 g f1 f2 ρ = (f1 ρ).bind fun d ρ1 => (f2 ρ1).bind fun e ρ2 => ofO (g d e) ρ2 := rfl
@[simp] theorem p_bin2B {g : PyData → PyData → Option PyData} {f1 f2 : En → Rs PyData} {ρ : En} : bin2B g f1 f2 ρ = ((f1 ρ).bind fun d ρ1 => (f2 ρ1).bind fun e ρ2 => ofO (g d e) ρ2).bind fun d ρ1 => ofO (boolOf d) ρ1 := rfl
@[simp] theorem p_chain3 {g g' : PyData → PyData → Option PyData} {f1 f2 f3 : En → Rs PyData} {ρ : En} : chain3 g g' f1 f2 f3 ρ = (f1 ρ).bind fun d ρ1 => (f2 ρ1).bind fun e ρ2 => (ofO ((g d e).bind boolOf) ρ2).bind fun b ρ2 => if b = true then (f3 ρ2).bind fun h ρ3 => ofO (g' e h) ρ3 else .ok (.bool false) ρ2 := rfl
@[simp] theorem p_bool {b : Bool} : boolOf (.bool b) = some b := rfl
@[simp] theorem p_dIntOp {f : Int → Int → PyData} {i j : Int} : dIntOp f (.int i) (.int j) = some (f i j) := rfl
@[simp] theorem p_add {i j : Int} : dAdd (.int i) (.int j) = some (.int (i + j)) := rfl
@[simp] theorem p_intOf {i : Int} : intOf (.int i) = some i := rfl
@[simp] theorem p_callR_ok {d : PyData} {ρ : En} : callR (.ok d) ρ = .ok d ρ := rfl
@[simp] theorem p_callR_err {c : Str} {ρ : En} : callR (.err c) ρ = .err c ρ := rfl
@[simp] theorem p_gN {i : Nat} {d : PyData} {ρ : En} : gN i d ρ = some (ρ.set i (.dat d)) := rfl
@[simp] theorem p_gT2 {t : Tgts} {a b : PyData} {ρ : En} : gT 2 t (.tuple [a, b]) ρ = t [a, b] ρ := rfl
@[simp] theorem p_gsNil {ρ : En} : gsNil [] ρ = some ρ := rfl
@[simp] theorem p_gsCons {t : Tgt} {u : Tgts} {d : PyData} {r : List PyData} {ρ : En} : gsCons t u (d :: r) ρ = (t d ρ).bind fun ρ1 => u r ρ1 := rfl
@[simp] theorem p_mkTup {xs : List PyData} {ρ : En} : mkTup xs ρ = if xs.length ≤ sizeLine then .ok (.tuple xs) ρ else .bad := rfl
@[simp] theorem p_okSize {xs : List PyData} {ρ : En} : okSize xs ρ = if xs.length ≤ sizeLine then .ok xs ρ else .bad := rfl
@[simp] theorem p_seqI_t {xs : List PyData} : seqItems (.tuple xs) = some xs := rfl
@[simp] theorem p_seqI_l {xs : List PyData} : seqItems (.list xs) = some xs := rfl
@[simp] theorem p_seqI_s {x : Str} : seqItems (.str x) = some (chars x) := rfl
@[simp] theorem p_itm_t {xs : List PyData} : itemsOf (.tuple xs) = some xs := rfl
@[simp] theorem p_itm_l {xs : List PyData} : itemsOf (.list xs) = some xs := rfl
end
section
variable {α : Type}
@[simp] theorem p_cst {d : PyData} {ρ : En} : cst d ρ = .ok d ρ := rfl
@[simp] theorem p_un1 {g : PyData → Option α} {f : En → Rs PyData} {ρ : En} : un1 g f ρ = (f ρ).bind fun d ρ1 => ofO (g d) ρ1 := rfl
@[simp] theorem p_binN {g : PyData → PyData → Option (List PyData)} {f1 f2 : En → Rs PyData} {ρ : En} : binN g f1 f2 ρ = (f1 ρ).bind fun d ρ1 => (f2 ρ1).bind fun e ρ2 => ofO (g d e) ρ2 := rfl
@[simp] theorem p_notV {f : En → Rs PyData} {ρ : En} : notV f ρ = (f ρ).bind fun d ρ1 => (ofO (boolOf d) ρ1).bind fun b ρ1 => .ok (.bool (!b)) ρ1 := rfl
@[simp] theorem p_newL {f : En → Rs (List PyData)} {ρ : En} : newL f ρ = (f ρ).map .list := rfl
@[simp] theorem p_tup {g : En → Rs (List PyData)} {ρ : En} : tup g ρ = (g ρ).bind mkTup := rfl
@[simp] theorem p_lst {g : En → Rs (List PyData)} {ρ : En} : lst g ρ = (g ρ).bind okSize := rfl
@[simp] theorem p_slc {f : En → Rs PyData} {fl fh : En → Rs (Option Int)} {ρ : En} : slc f fl fh ρ = (f ρ).bind fun d ρ1 => (fl ρ1).bind fun l ρ2 => (fh ρ2).bind fun h ρ3 => ofO (dSl d l h) ρ3 := rfl
@[simp] theorem p_oNo {ρ : En} : oNo ρ = .ok none ρ := rfl
@[simp] theorem p_oYes {f : En → Rs PyData} {ρ : En} : oYes f ρ = (f ρ).bind fun d ρ1 => (ofO (intOf d) ρ1).bind fun i ρ1 => .ok (some i) ρ1 := rfl
@[simp] theorem p_aNil {ρ : En} : aNil ρ = .ok [] ρ := rfl
@[simp] theorem p_aCons {f : En → Rs PyData} {g : En → Rs (List PyData)} {ρ : En} : aCons f g ρ = (f ρ).bind fun d ρ1 => (g ρ1).bind fun ds ρ2 => .ok (d :: ds) ρ2 := rfl
@[simp] theorem p_aStar {f : En → Rs PyData} {g : En → Rs (List PyData)} {ρ : En} : aStar f g ρ = (f ρ).bind fun d ρ1 => (ofO (itemsOf d) ρ1).bind fun xs ρ1 => (g ρ1).bind fun ds ρ2 => .ok (xs ++ ds) ρ2 := rfl
@[simp] theorem p_callF {F : List PyData → Rt} {g : En → Rs (List PyData)} {ρ : En} : callF F g ρ = (g ρ).bind fun ds ρ1 => callR (F ds) ρ1 := rfl
@[simp] theorem p_callB {g : List PyData → Option PyData} {f : En → Rs (List PyData)} {ρ : En} : callB g f ρ = (f ρ).bind fun ds ρ1 => ofO (g ds) ρ1 := rfl
@[simp] theorem p_tval {f : En → Rs PyData} {ρ : En} : tval f ρ = (f ρ).bind fun d ρ1 => ofO (boolOf d) ρ1 := rfl
@[simp] theorem p_notT {f : En → Rs Bool} {ρ : En} : notT f ρ = (f ρ).bind fun b ρ1 => .ok (!b) ρ1 := rfl
@[simp] theorem p_argI {g : List PyData → Option (List PyData)} {f : En → Rs (List PyData)} {ρ : En} : argI g f ρ = (f ρ).bind fun ds ρ1 => ofO (g ds) ρ1 := rfl
@[simp] theorem p_setS {i : Nat} {f : En → Rs PyData} {ρ : En} : setS i f ρ = (f ρ).st fun d ρ1 => .next (ρ1.set i (.dat d)) := rfl
@[simp] theorem p_setNS {i : Nat} {f : En → Rs (List PyData)} {ρ : En} : setNS i f ρ = (f ρ).st fun d ρ1 => .next (ρ1.set i (.own d)) := rfl
@[simp] theorem p_asgS {f : En → Rs PyData} {t : Tgt} {ρ : En} : asgS f t ρ = (f ρ).st fun d ρ1 => match t d ρ1 with | some ρ2 => .next ρ2 | none => .bad := rfl
@[simp] theorem p_retS {f : En → Rs PyData} {ρ : En} : retS f ρ = (f ρ).st fun d ρ1 => .ret d ρ1 := rfl
@[simp] theorem p_exprS {f : En → Rs PyData} {ρ : En} : exprS f ρ = (f ρ).st fun _ ρ1 => .next ρ1 := rfl
@[simp] theorem p_forS {f : En → Rs (List PyData)} {t : Tgt} {g : En → Ot} {ρ : En} : forS f t g ρ = (f ρ).st fun ds ρ1 => forF t g ds ρ1 := rfl
@[simp] theorem p_rtn {ρ : En} : (Ot.next ρ).rt = .ok .none := rfl
@[simp] theorem p_rtr {d : PyData} {ρ : En} : (Ot.ret d ρ).rt = .ok d := rfl
@[simp] theorem p_rte {c : Str} {ρ : En} : (Ot.err c ρ).rt = .err c := rfl
theorem one_leS : (1 : Nat) ≤ sizeLine := by decide
theorem zero_leS : (0 : Nat) ≤ sizeLine := by decide
theorem two_leS : (2 : Nat) ≤ sizeLine := by decide
theorem three_leS : (3 : Nat) ≤ sizeLine := by decide
@[simp high] theorem mk0 {ρ : En} : mkTup [] ρ = .ok (.tuple []) ρ := if_pos zero_leS
@[simp high] theorem mk1 {a : PyData} {ρ : En} : mkTup [a] ρ = .ok (.tuple [a]) ρ := if_pos one_leS
@[simp high] theorem mk2 {a b : PyData} {ρ : En} : mkTup [a, b] ρ = .ok (.tuple [a, b]) ρ := if_pos two_leS
@[simp high] theorem mk3 {a b c : PyData} {ρ : En} : mkTup [a, b, c] ρ = .ok (.tuple [a, b, c]) ρ := if_pos three_leS
@[simp high] theorem okS0 {ρ : En} : okSize [] ρ = .ok [] ρ := if_pos zero_leS
@[simp high] theorem okS1 {a : PyData} {ρ : En} : okSize [a] ρ = .ok [a] ρ := if_pos one_leS
@[simp high] theorem okS2 {a b : PyData} {ρ : En} : okSize [a, b] ρ = .ok [a, b] ρ := if_pos two_leS
@[simp high] theorem okS3 {a b c : PyData} {ρ : En} : okSize [a, b, c] ρ = .ok [a, b, c] ρ := if_pos three_leS
theorem p_len_t {xs : List PyData} : dLen [.tuple xs] = some (.int xs.length) := rfl
theorem p_len_l {xs : List PyData} : dLen [.list xs] = some (.int xs.length) := rfl
theorem runF_at {n m : Nat} {body : En → Ot} {ds : List PyData} (h : ds.length = m) : runF n m body ds = (body (initE n ds)).rt := if_pos h
end
theorem rd_dat {ρ : En} {i : Nat} {d : PyData} (h : ρ[i]? = some (.dat d)) : rdVar i ρ = .ok d ρ := by
  unfold rdVar
  rw [h]
theorem rd_own {ρ : En} {i : Nat} {xs : List PyData} (h : ρ[i]? = some (.own xs)) : rdVar i ρ = .ok (.list xs) (ρ.set i (.dat (.list xs))) := by
  unfold rdVar
  rw [h]
/-- a loop that goes on to its end -/
theorem forF_inv {t : Tgt} {body : En → Ot} (I : Nat → En → Prop) : ∀ (ds : List PyData) (k : Nat) (ρ : En), I k ρ →
    (∀ i d ρ, ds[i]? = some d → I (k + i) ρ → ∃ ρ1 ρ2, t d ρ = some ρ1 ∧ (body ρ1 = .next ρ2 ∨ body ρ1 = .cont ρ2) ∧ I (k + i + 1) ρ2) → ∃ ρ', forF t body ds ρ = .next ρ' ∧ I (k + ds.length) ρ'
  | [], k, ρ, h0, _ => ⟨ρ, rfl, h0⟩
  | d :: ds, k, ρ, h0, hs => by
    obtain ⟨ρ1, ρ2, e1, e2, h1⟩ := hs 0 d ρ rfl h0
    obtain ⟨ρ', e, h⟩ := forF_inv I ds (k + 1) ρ2 h1 fun i d' ρ hd hi => by
      have := hs (i + 1) d' ρ (by simpa using hd) (by rw [show k + (i + 1) = k + 1 + i by omega]; exact hi)
      rw [show k + (i + 1) + 1 = k + 1 + i + 1 by omega] at this
      exact this
    refine ⟨ρ', ?_, by rw [List.length_cons, show k + (ds.length + 1) = k + 1 + ds.length by omega]; exact h⟩
    unfold forF
    rw [e1]
    dsimp only
    rcases e2 with e2 | e2
    all_goals
      rw [e2]
      exact e
/-- a comprehension without a test that leaves the names as they were -/
theorem lcF_map {t : Tgt} {e : En → Rs PyData} {vs : List Nat} {ρ : En} (g : PyData → PyData) : ∀ (ds : List PyData), (∀ d ∈ ds, ∃ ρ1 ρ2, t d ρ = some ρ1 ∧ e ρ1 = .ok (g d) ρ2 ∧ wipeE ρ2 vs = ρ) → lcF t tYes' e vs ds ρ = .ok (ds.map g) ρ
  | [], _ => rfl
  | d :: ds, h => by
    obtain ⟨ρ1, ρ2, e1, e2, e3⟩ := h d (by simp)
    unfold lcF
    rw [e1]
    dsimp only
    rw [e2]
    dsimp only
    rw [e3, lcF_map g ds fun d hd => h d (by simp [hd])]
    rfl
theorem lcAll_map {t : Tgt} {e : En → Rs PyData} {vs : List Nat} {ρ ρ0 : En} {f : En → Rs (List PyData)} {ds : List PyData} (g : PyData → PyData) (hf : f ρ0 = .ok ds ρ) (hw : wipeE ρ vs = ρ) (hz : ds.length ≤ sizeLine)
    (h : ∀ d ∈ ds, ∃ ρ1 ρ2, t d ρ = some ρ1 ∧ e ρ1 = .ok (g d) ρ2 ∧ wipeE ρ2 vs = ρ) : lcAll f t tYes' e vs ρ0 = .ok (ds.map g) ρ := by
  unfold lcAll
  rw [hf, rs_bind_ok, hw, lcF_map g ds h, rs_bind_ok]
  simp [hz]
end ML
set_option maxRecDepth 100000
set_option maxHeartbeats 4000000
/-! documents, as the law's plain side sees them -/
namespace ML
open PySem L2
inductive Doc where
  | node (l : Str) (cs : List Doc)
namespace Doc
theorem ind {P : Doc → Prop} (h : ∀ l cs, (∀ c ∈ cs, P c) → P (node l cs)) (d : Doc) : P d :=
  Doc.rec (motive_1 := P) (motive_2 := fun cs => ∀ c ∈ cs, P c) (fun l cs ih => h l cs ih) (by simp) (fun c cs h1 h2 => by
    intro x hx
    rcases List.mem_cons.mp hx with rfl | hx
    · exact h1
    · exact h2 x hx) d
mutual
def d : Doc → PyData
  | node l cs => .tuple (.str l :: ds cs)
def ds : List Doc → List PyData
  | [] => []
  | c :: cs => c.d :: ds cs
end
mutual
def size : Doc → Nat
  | node _ cs => 1 + sizes cs
def sizes : List Doc → Nat
  | [] => 0
  | c :: cs => c.size + sizes cs
end
mutual
def depth : Doc → Nat
  | node _ cs => depths cs
def depths : List Doc → Nat
  | [] => 0
  | c :: cs => max (c.depth + 1) (depths cs)
end
def kids : Doc → List Doc
  | node _ cs => cs
def lab : Doc → Str
  | node l _ => l
theorem ds_map : ∀ cs : List Doc, ds cs = cs.map d
  | [] => rfl
  | c :: cs => by rw [ds, ds_map cs]; rfl
theorem d_eq (l : Str) (cs : List Doc) : (node l cs).d = .tuple (.str l :: cs.map d) := by rw [d, ds_map]
theorem depth_mem {cs : List Doc} {c : Doc} (h : c ∈ cs) : c.depth + 1 ≤ depths cs := by
  induction cs with
  | nil => cases h
  | cons a cs ih =>
    rw [depths]
    rcases List.mem_cons.mp h with rfl | h
    · omega
    · have := ih h
      omega
theorem size_pos (x : Doc) : 1 ≤ x.size := by
  cases x
  rw [size]
  omega
end Doc
/-! short forms of slices and items -/
theorem cut1 {a : PyData} {xs : List PyData} : cutD (a :: xs) (some 1) none = xs := by
  unfold cutD
  simp [HT.sIx]
end ML
set_option maxRecDepth 100000
set_option maxHeartbeats 4000000
namespace ML
open PySem L2
theorem two_le : (2 : Nat) ≤ sizeLine := by decide
theorem Doc.sizes_take {cs : List Doc} {c : Doc} : ∀ {i : Nat}, cs[i]? = some c → Doc.sizes (cs.take (i + 1)) = Doc.sizes (cs.take i) + c.size := by
  induction cs with
  | nil => intro i h; simp at h
  | cons a cs ih =>
    intro i h
    cases i with
    | zero => simp at h; subst h; simp [Doc.sizes]
    | succ i =>
      have := ih (i := i) (by simpa using h)
      simp only [List.take_succ_cons, Doc.sizes, this]
      omega
theorem Doc.depths_take {cs : List Doc} {c : Doc} : ∀ {i : Nat}, cs[i]? = some c → Doc.depths (cs.take (i + 1)) = max (Doc.depths (cs.take i)) (c.depth + 1) := by
  induction cs with
  | nil => intro i h; simp at h
  | cons a cs ih =>
    intro i h
    cases i with
    | zero => simp at h; subst h; simp [Doc.depths]
    | succ i =>
      have := ih (i := i) (by simpa using h)
      simp only [List.take_succ_cons, Doc.depths, this]
      omega
theorem measured_ok : ∀ (n : Nat) (x : Doc), x.depth < n → F_measured n [x.d] = .ok (.tuple [.int x.size, .int x.depth])
  | 0, _, h => absurd h (by omega)
  | n + 1, .node l cs, h => by
    show runF 6 1 (B_measured (F_measured n)) _ = _
    rw [runF_at (m := 1) rfl, Doc.d_eq, B_measured]
    have loop := forF_inv (t := gN 3) (body := seqS (asgS (callF (F_measured n) (aCons (rdVar 3) aNil)) (gT 2 (gsCons (gN 4) (gsCons (gN 5) gsNil))))
      (seqS (augS 1 (dIntOp fun i j => .int (i + j)) (rdVar 4)) (setS 2 (callB dMax2 (aCons (rdVar 2) (aCons (bin2 dAdd (rdVar 5) (cst (.int 1))) aNil))))))
      (fun i ρ => ∃ s0 s3 s4 s5, ρ = [s0, .dat (.int ((1 + Doc.sizes (cs.take i) : Nat) : Int)), .dat (.int (Doc.depths (cs.take i) : Nat)), s3, s4, s5]) (cs.map Doc.d) 0
      [.dat (.tuple (.str l :: cs.map Doc.d)), .dat (.int 1), .dat (.int 0), .un, .un, .un] ⟨.dat (.tuple (.str l :: cs.map Doc.d)), .un, .un, .un, by simp [Doc.sizes, Doc.depths]⟩ ?_
    · obtain ⟨ρ', e, s0, s3, s4, s5, rfl⟩ := loop
      simp [initE, two_le, cut1, dSl, rdVar, e, Doc.size, Doc.depth, List.take_length]
    · rintro i d ρ hd ⟨s0, s3, s4, s5, rfl⟩
      rw [List.getElem?_map] at hd
      obtain ⟨c, hc, rfl⟩ := Option.map_eq_some_iff.mp hd
      have hm : c ∈ cs := List.mem_of_getElem? hc
      have := Doc.depth_mem hm
      rw [Doc.depth] at h
      have ih := measured_ok n c (by omega)
      rw [Nat.zero_add] at *
      refine ⟨_, _, rfl, .inl ?_, s0, .dat c.d, .dat (.int c.size), .dat (.int c.depth), rfl⟩
      simp [rdVar, ih, augS, dMax2, Doc.sizes_take hc, Doc.depths_take hc]
      split <;> omega
end ML
set_option maxRecDepth 100000
set_option maxHeartbeats 4000000
namespace ML
open PySem L2
abbrev lowS : Str := "abcdefghijklmnopqrstuvwxyz"
abbrev allS : Str := "abcdefghijklmnopqrstuvwxyz0123456789"
def isLab (s : Str) : Bool := match s.cps.toList with
  | [] => false
  | c :: r => decide (r.length < 12) && (decide (c ∈ lowS.cps.toList) && (c :: r).all fun x => decide (x ∈ allS.cps.toList))
theorem atI_0 {α : Type} {x : α} {xs : List α} : atI (x :: xs) 0 = some x := by
  unfold atI ixN
  simp
theorem sign_one {c : Nat} : oneSign ⟨#[c]⟩ = some c := rfl
theorem allIn {s z : Str} {ρ : En} {i j : Nat} (hz : s.cps.toList.length ≤ sizeLine) (hi : ρ[i]? = some (.dat (.str s))) (hj : wipeE ρ [j] = ρ) (hj2 : j < ρ.length) :
    lcAll (un1 seqItems (rdVar i)) (gN j) tYes' (bin2 dInS (rdVar j) (cst (.str z))) [j] ρ = .ok (s.cps.toList.map fun c => PyData.bool (decide (c ∈ z.cps.toList))) ρ := by
  rw [lcAll_map (ds := chars s) (ρ := ρ) (fun d => (dInS d (.str z)).getD .none) (by simp [rd_dat hi]) hj (by simpa [chars] using hz)]
  · simp [chars, dInS, sign_one, Function.comp_def]
  · intro d hd
    simp only [chars, List.mem_map] at hd
    obtain ⟨c, _, rfl⟩ := hd
    refine ⟨_, ρ.set j (.dat (.str ⟨#[c]⟩)), rfl, ?_, ?_⟩
    · simp [rdVar, hj2, dInS, sign_one]
    · have hj : ρ.set j .un = ρ := hj
      show (ρ.set j _).set j .un = ρ
      rw [List.set_set]
      exact hj
theorem len_s {s : Str} (hz : s.length ≤ sizeLine) : dLen [.str s] = some (.int s.cps.toList.length) := by
  show (if s.length ≤ sizeLine then some (PyData.int s.length) else none) = _
  rw [if_pos hz]
  rfl
theorem ix_s0 {s : Str} {c : Nat} {r : List Nat} (hz : s.length ≤ sizeLine) (hc : s.cps.toList = c :: r) : dIx (.str s) (.int 0) = some (.str ⟨#[c]⟩) := by
  show (if s.length ≤ sizeLine then (atI s.cps.toList 0).map fun c => PyData.str ⟨#[c]⟩ else none) = _
  rw [if_pos hz, hc, atI_0]
  rfl
theorem nin_s {c : Nat} {z : Str} : dNotInS (.str ⟨#[c]⟩) (.str z) = some (.bool (!decide (c ∈ z.cps.toList))) := rfl
theorem in_s {c : Nat} {z : Str} : dInS (.str ⟨#[c]⟩) (.str z) = some (.bool (decide (c ∈ z.cps.toList))) := rfl
theorem all_s {cs : List Nat} {z : Str} : dAll [.list (cs.map fun c => PyData.bool (decide (c ∈ z.cps.toList)))] = some (.bool (cs.all fun c => decide (c ∈ z.cps.toList))) := by
  show (bools _).map _ = _
  have : (cs.map fun c => PyData.bool (decide (c ∈ z.cps.toList))) = (cs.map fun c => decide (c ∈ z.cps.toList)).map .bool := by simp
  rw [this, bools_map]
  simp [List.all_map, Function.comp_def]
theorem allB {s z : Str} {ρ : En} {i j : Nat} (hz : s.cps.toList.length ≤ sizeLine) (hi : ρ[i]? = some (.dat (.str s))) (hj : wipeE ρ [j] = ρ) (hj2 : j < ρ.length) :
    callB dAll (aCons (newL (lcAll (un1 seqItems (rdVar i)) (gN j) tYes' (bin2 dInS (rdVar j) (cst (.str z))) [j])) aNil) ρ = .ok (.bool (s.cps.toList.all fun c => decide (c ∈ z.cps.toList))) ρ := by
  simp only [p_callB, p_aCons, p_newL, p_aNil]
  rw [allIn hz hi hj hj2]
  simp only [rs_map_ok, rs_bind_ok]
  rw [all_s]
  rfl
theorem is_label_ok {s : Str} (hz : s.length ≤ sizeLine) : F_is_label [.str s] = .ok (.bool (isLab s)) := by
  have hz' : s.cps.toList.length ≤ sizeLine := by simpa [Str.length] using hz
  show runF 2 1 B_is_label _ = _
  rw [runF_at (m := 1) rfl, B_is_label]
  have hall := allB (s := s) (z := allS) (ρ := [.dat (.str s), .un]) (i := 0) (j := 1) hz' rfl rfl (by simp)
  have hl := len_s hz
  have e0 : initE 2 [.str s] = [.dat (.str s), .un] := rfl
  have r0 : rdVar 0 [.dat (.str s), .un] = .ok (.str s) [.dat (.str s), .un] := rfl
  rw [e0]
  unfold isLab
  cases hc : s.cps.toList with
  | nil =>
    rw [hc] at hl
    simp [r0, hl]
  | cons c r =>
    rw [hc] at hl hall
    have hx := ix_s0 hz hc
    by_cases h1 : r.length < 12
    · have h1' : (r.length : Int) + 1 ≤ 12 := by omega
      have h1'' : (1 : Int) ≤ (r.length : Int) + 1 := by omega
      by_cases h2 : c ∈ lowS.cps.toList
      · simp [r0, hl, hx, nin_s, h1, h1', h1'', h2, ↓hall]
      · simp [r0, hl, hx, nin_s, h1, h1', h1'', h2, ↓hall]
    · have h1' : ¬ (r.length : Int) + 1 ≤ 12 := by omega
      have h1'' : (1 : Int) ≤ (r.length : Int) + 1 := by omega
      simp [r0, hl, h1, h1', h1'']
theorem law_is_label_ok {s : Str} (hz : s.length ≤ sizeLine) : F__law_is_label [.str s] = .ok (.bool (isLab s)) := by
  have hz' : s.cps.toList.length ≤ sizeLine := by simpa [Str.length] using hz
  show runF 2 1 B__law_is_label _ = _
  rw [runF_at (m := 1) rfl, B__law_is_label]
  have hall := allB (s := s) (z := allS) (ρ := [.dat (.str s), .un]) (i := 0) (j := 1) hz' rfl rfl (by simp)
  have hl := len_s hz
  have e0 : initE 2 [.str s] = [.dat (.str s), .un] := rfl
  have r0 : rdVar 0 [.dat (.str s), .un] = .ok (.str s) [.dat (.str s), .un] := rfl
  rw [e0]
  unfold isLab
  cases hc : s.cps.toList with
  | nil =>
    rw [hc] at hl
    simp [r0, hl]
  | cons c r =>
    rw [hc] at hl hall
    have hx := ix_s0 hz hc
    by_cases h1 : r.length < 12
    · have h1' : (r.length : Int) + 1 ≤ 12 := by omega
      have h1'' : (1 : Int) ≤ (r.length : Int) + 1 := by omega
      by_cases h2 : c ∈ lowS.cps.toList
      · simp [r0, hl, hx, in_s, h1, h1', h1'', h2]
        rw [allIn (s := s) hz' rfl rfl (by simp), hc]
        simp only [rs_map_ok, rs_bind_ok, rs_st_ok]
        rw [all_s]
        simp
      · simp [r0, hl, hx, in_s, h1, h1', h1'', h2, ↓hall]
    · have h1' : ¬ (r.length : Int) + 1 ≤ 12 := by omega
      have h1'' : (1 : Int) ≤ (r.length : Int) + 1 := by omega
      simp [r0, hl, h1, h1', h1'']
end ML
set_option maxRecDepth 100000
set_option maxHeartbeats 4000000
namespace ML
open PySem L2
theorem lcF_mapC {γ : Type} {t : Tgt} {e : En → Rs PyData} {vs : List Nat} {ρ : En} (f g : γ → PyData) : ∀ (cs : List γ), (∀ c ∈ cs, ∃ ρ1 ρ2, t (f c) ρ = some ρ1 ∧ e ρ1 = .ok (g c) ρ2 ∧ wipeE ρ2 vs = ρ) → lcF t tYes' e vs (cs.map f) ρ = .ok (cs.map g) ρ
  | [], _ => rfl
  | c :: cs, h => by
    obtain ⟨ρ1, ρ2, e1, e2, e3⟩ := h c (by simp)
    rw [List.map_cons]
    unfold lcF
    rw [e1]
    dsimp only
    rw [e2]
    dsimp only
    rw [e3, lcF_mapC f g cs fun d hd => h d (by simp [hd])]
    rfl
theorem lcAll_mapC {γ : Type} {t : Tgt} {e : En → Rs PyData} {vs : List Nat} {ρ ρ0 : En} {f0 : En → Rs (List PyData)} (cs : List γ) (f g : γ → PyData) (hf : f0 ρ0 = .ok (cs.map f) ρ) (hw : wipeE ρ vs = ρ) (hz : cs.length ≤ sizeLine)
    (h : ∀ c ∈ cs, ∃ ρ1 ρ2, t (f c) ρ = some ρ1 ∧ e ρ1 = .ok (g c) ρ2 ∧ wipeE ρ2 vs = ρ) : lcAll f0 t tYes' e vs ρ0 = .ok (cs.map g) ρ := by
  unfold lcAll
  rw [hf, rs_bind_ok, hw, lcF_mapC f g cs h, rs_bind_ok]
  simp [hz]
namespace Doc
theorem sizes_len : ∀ cs : List Doc, cs.length ≤ sizes cs
  | [] => Nat.le_refl _
  | c :: cs => by
    have := sizes_len cs
    have := c.size_pos
    rw [sizes, List.length_cons]
    omega
theorem sizes_mem {cs : List Doc} {c : Doc} (h : c ∈ cs) : c.size ≤ sizes cs := by
  induction cs with
  | nil => cases h
  | cons a cs ih =>
    rw [sizes]
    rcases List.mem_cons.mp h with rfl | h
    · omega
    · have := ih h
      omega
theorem sizes_sum : ∀ cs : List Doc, ((cs.map fun c => ((c.size : Nat) : Int)).sum) = (sizes cs : Nat)
  | [] => rfl
  | c :: cs => by
    rw [List.map_cons, List.sum_cons, sizes_sum cs, sizes]
    omega
theorem depths_max : ∀ (cs : List Doc) (k : Nat), (cs.map fun c => (1 + ((c.depth : Nat) : Int))).foldl max (k : Int) = ((max k (depths cs) : Nat) : Int)
  | [], k => by simp [depths]
  | c :: cs, k => by
    rw [List.map_cons, List.foldl_cons, show max (k : Int) (1 + ((c.depth : Nat) : Int)) = ((max k (c.depth + 1) : Nat) : Int) by omega, depths_max cs, depths]
    congr 1
    omega
end Doc
/-- a document that is not too large for the machine's lists -/
def Doc.fit (x : Doc) : Prop := x.size ≤ 100000
theorem Doc.fit_kids {l : Str} {cs : List Doc} (h : (Doc.node l cs).fit) : cs.length + 1 ≤ 100000 ∧ ∀ c ∈ cs, c.fit := by
  unfold Doc.fit at h ⊢
  rw [Doc.size] at h
  have := Doc.sizes_len cs
  exact ⟨by omega, fun c hc => by have := Doc.sizes_mem hc; omega⟩
theorem big : (100000 : Nat) ≤ sizeLine := by decide
theorem law_size_ok : ∀ (n : Nat) (x : Doc), x.depth < n → x.fit → F__law_size n [x.d] = .ok (.int x.size)
  | 0, _, h, _ => absurd h (by omega)
  | n + 1, .node l cs, h, hf => by
    obtain ⟨hz, hk⟩ := Doc.fit_kids hf
    have hb := big
    show runF 2 1 (B__law_size (F__law_size n)) _ = _
    rw [runF_at (m := 1) rfl, Doc.d_eq, B__law_size]
    have e0 : initE 2 [.tuple (.str l :: cs.map Doc.d)] = [.dat (.tuple (.str l :: cs.map Doc.d)), .un] := rfl
    rw [e0]
    have hc := lcAll_mapC (t := gN 1) (e := callF (F__law_size n) (aCons (rdVar 1) aNil)) (vs := [1]) (ρ := [.dat (.tuple (.str l :: cs.map Doc.d)), .un]) (ρ0 := [.dat (.tuple (.str l :: cs.map Doc.d)), .un])
      (f0 := un1 seqItems (slc (rdVar 0) (oYes (cst (.int 1))) oNo)) cs Doc.d (fun c => .int c.size) (by simp [rdVar, dSl, cut1]) rfl (by omega) (fun c hm => by
        have := Doc.depth_mem hm
        rw [Doc.depth] at h
        refine ⟨_, [.dat (.tuple (.str l :: cs.map Doc.d)), .dat c.d], rfl, ?_, rfl⟩
        simp [rdVar, law_size_ok n c (by omega) (hk c hm)])
    have hs : intsOf (cs.map fun c => PyData.int ((c.size : Nat) : Int)) = some (cs.map fun c => ((c.size : Nat) : Int)) := by
      have := intsOf_map (cs.map fun c => ((c.size : Nat) : Int))
      rw [List.map_map] at this
      exact this
    simp only [p_retS, p_bin2, p_callB, p_aCons, p_newL, p_aNil, p_cst, hc, rs_bind_ok, rs_map_ok, dSum, hs, Option.map_some, rs_ofO_some, p_add, rs_st_ok, p_rtr, Doc.sizes_sum, Doc.size]
    simp
theorem law_depth_ok : ∀ (n : Nat) (x : Doc), x.depth < n → x.fit → F__law_depth n [x.d] = .ok (.int x.depth)
  | 0, _, h, _ => absurd h (by omega)
  | n + 1, .node l cs, h, hf => by
    obtain ⟨hz, hk⟩ := Doc.fit_kids hf
    have hb := big
    show runF 2 1 (B__law_depth (F__law_depth n)) _ = _
    rw [runF_at (m := 1) rfl, Doc.d_eq, B__law_depth]
    have e0 : initE 2 [.tuple (.str l :: cs.map Doc.d)] = [.dat (.tuple (.str l :: cs.map Doc.d)), .un] := rfl
    rw [e0]
    have hc := lcAll_mapC (t := gN 1) (e := bin2 dAdd (cst (.int 1)) (callF (F__law_depth n) (aCons (rdVar 1) aNil))) (vs := [1]) (ρ := [.dat (.tuple (.str l :: cs.map Doc.d)), .un]) (ρ0 := [.dat (.tuple (.str l :: cs.map Doc.d)), .un])
      (f0 := un1 seqItems (slc (rdVar 0) (oYes (cst (.int 1))) oNo)) cs Doc.d (fun c => .int (1 + (c.depth : Nat))) (by simp [rdVar, dSl, cut1]) rfl (by omega) (fun c hm => by
        have := Doc.depth_mem hm
        rw [Doc.depth] at h
        refine ⟨_, [.dat (.tuple (.str l :: cs.map Doc.d)), .dat c.d], rfl, ?_, rfl⟩
        simp [rdVar, law_depth_ok n c (by omega) (hk c hm)])
    have hs : intsOf (cs.map fun c => PyData.int (1 + ((c.depth : Nat) : Int))) = some (cs.map fun c => (1 + ((c.depth : Nat) : Int))) := by
      have := intsOf_map (cs.map fun c => (1 + ((c.depth : Nat) : Int)))
      rw [List.map_map] at this
      exact this
    have hm : maxI (0 :: cs.map fun c => (1 + ((c.depth : Nat) : Int))) = some ((Doc.depths cs : Nat) : Int) := by
      show some (List.foldl max ((0 : Nat) : Int) _) = _
      rw [Doc.depths_max, Nat.zero_max]
    have hadd : dAdd (.list [.int 0]) (.list (cs.map fun c => PyData.int (1 + ((c.depth : Nat) : Int)))) = some (.list (.int 0 :: cs.map fun c => PyData.int (1 + ((c.depth : Nat) : Int)))) := by
      show (if _ then _ else _) = _
      rw [if_pos (by simp; omega)]
      rfl
    have hs2 : intsOf (.int 0 :: cs.map fun c => PyData.int (1 + ((c.depth : Nat) : Int))) = some (0 :: cs.map fun c => (1 + ((c.depth : Nat) : Int))) := by
      show (intsOf _).map _ = _
      rw [hs]
      rfl
    have h1 : (1 : Nat) ≤ sizeLine := by decide
    simp only [p_retS, p_bin2, p_callB, p_aCons, p_newL, p_aNil, p_cst, p_lst, p_okSize, List.length_singleton, h1, if_true, hc, rs_bind_ok, rs_map_ok, hadd, dMaxL, hs2, hm, Option.bind_some, Option.map_some, rs_ofO_some, rs_st_ok, p_rtr, Doc.depth]
end ML
set_option maxRecDepth 100000
set_option maxHeartbeats 4000000
/-! paths and the inner documents at them -/
namespace ML
open PySem L2
abbrev Path := List Int
def pd (p : Path) : PyData := .tuple (p.map .int)
abbrev nd (z : Path × Doc) : PyData := .tuple [pd z.1, z.2.d]
namespace Doc
mutual
def nodes (p : Path) : Doc → List (Path × Doc)
  | node l cs => (p, node l cs) :: nodesL p 0 cs
def nodesL (p : Path) (k : Nat) : List Doc → List (Path × Doc)
  | [] => []
  | c :: cs => nodes (p ++ [(k : Int)]) c ++ nodesL p (k + 1) cs
end
theorem nodes_len (x : Doc) : ∀ p, (nodes p x).length = x.size := by
  refine ind (P := fun x => ∀ p, (nodes p x).length = x.size) (fun l cs ih p => ?_) x
  rw [nodes, size, List.length_cons]
  have : ∀ k, (nodesL p k cs).length = sizes cs := by
    intro k
    induction cs generalizing k with
    | nil => rfl
    | cons c cs h2 =>
      rw [nodesL, sizes, List.length_append, ih c (by simp), h2 (fun c hc => ih c (by simp [hc]))]
  rw [this]
  omega
theorem nodesL_len {p : Path} {k : Nat} : ∀ cs : List Doc, (nodesL p k cs).length = sizes cs
  | [] => rfl
  | c :: cs => by rw [nodesL, sizes, List.length_append, nodes_len, nodesL_len cs]
theorem nodesL_snoc {p : Path} {c : Doc} : ∀ {cs : List Doc} {i k : Nat}, cs[i]? = some c → nodesL p k (cs.take (i + 1)) = nodesL p k (cs.take i) ++ nodes (p ++ [((k + i : Nat) : Int)]) c
  | [], i, k, h => by simp at h
  | a :: cs, 0, k, h => by
    simp at h
    subst h
    simp [nodesL]
  | a :: cs, i + 1, k, h => by
    simp only [List.take_succ_cons, nodesL]
    rw [nodesL_snoc (i := i) (k := k + 1) (by simpa using h), List.append_assoc, show k + 1 + i = k + (i + 1) by omega]
theorem sizes_take_le {cs : List Doc} (i : Nat) : sizes (cs.take i) ≤ sizes cs := by
  induction cs generalizing i with
  | nil => simp
  | cons c cs ih =>
    cases i with
    | zero => simp [sizes]
    | succ i =>
      have := ih i
      simp only [List.take_succ_cons, sizes]
      omega
end Doc
theorem atI_nat {α : Type} {xs : List α} {k : Nat} {x : α} (h : xs[k]? = some x) : atI xs (k : Int) = some x := by
  have hk : k < xs.length := (List.getElem?_eq_some_iff.mp h).1
  unfold atI ixN
  simp only [Int.natCast_nonneg, if_true, Int.ofNat_lt, hk, Option.bind_some, Int.toNat_natCast, h]
theorem ix_kid {l : Str} {cs : List Doc} {k : Nat} {c : Doc} (h : cs[k]? = some c) : dIx (.tuple (.str l :: cs.map Doc.d)) (.int ((k : Int) + 1)) = some c.d := by
  show atI _ _ = _
  rw [show (k : Int) + 1 = ((k + 1 : Nat) : Int) by omega]
  exact atI_nat (by simp [h])
theorem add_tup {xs ys : List PyData} (h : xs.length + ys.length ≤ sizeLine) : dAdd (.tuple xs) (.tuple ys) = some (.tuple (xs ++ ys)) := if_pos h
theorem inR_nat {k : Nat} (h : k ≤ 100000000) : inR (k : Int) = true := by
  unfold inR
  rw [Bool.and_eq_true, decide_eq_true_eq, decide_eq_true_eq]
  constructor <;> omega
theorem rng1_nat {k : Nat} (h : k ≤ 100000000) : rng1 [.int (k : Int)] = some ((List.range k).map fun i => PyData.int (i : Nat)) := by
  unfold rng1
  simp only [inR_nat h, if_true, dInts, List.map_map, Int.toNat_natCast, Option.some.injEq]
  exact List.map_congr_left fun i _ => by simp
theorem law_nodes_ok (n : Nat) : ∀ (x : Doc) (p : Path), x.depth < n → x.fit → p.length + x.depth ≤ 100000 → F__law_nodes n [x.d, pd p] = .ok (.list ((Doc.nodes p x).map nd)) := by
  induction n with
  | zero => exact fun x p h => absurd h (by omega)
  | succ n law_nodes_ih =>
    rintro ⟨l, cs⟩ p h hf hp
    obtain ⟨hz, hk⟩ := Doc.fit_kids hf
    have hb := big
    have hfs : 1 + Doc.sizes cs ≤ 100000 := by
      have := hf
      unfold Doc.fit at this
      rw [Doc.size] at this
      exact this
    show runF 4 2 (B__law_nodes (F__law_nodes n)) _ = _
    rw [runF_at (m := 2) rfl, Doc.d_eq, B__law_nodes]
    have e0 : initE 4 [.tuple (.str l :: cs.map Doc.d), pd p] = [.dat (.tuple (.str l :: cs.map Doc.d)), .dat (pd p), .un, .un] := rfl
    rw [e0]
    obtain ⟨ρ', e, s3, rfl⟩ := forF_inv (t := gN 3) (body := exprS (methF 2 gExtend (aCons (callF (F__law_nodes n) (aCons (bin2 dIx (rdVar 0) (bin2 dAdd (rdVar 3) (cst (.int 1)))) (aCons (bin2 dAdd (rdVar 1) (tup (aCons (rdVar 3) aNil))) aNil))) aNil)))
      (fun i ρ => ∃ s3, ρ = [.dat (.tuple (.str l :: cs.map Doc.d)), .dat (pd p), .own (((p, Doc.node l cs) :: Doc.nodesL p 0 (cs.take i)).map nd), s3]) ((List.range cs.length).map fun i => PyData.int (i : Nat)) 0
      [.dat (.tuple (.str l :: cs.map Doc.d)), .dat (pd p), .own [nd (p, Doc.node l cs)], .un] ⟨.un, by simp [Doc.nodesL]⟩ (by
        rintro i d ρ hd ⟨s3, rfl⟩
        have hi : i < cs.length := by
          have := (List.getElem?_eq_some_iff.mp hd).1
          simpa using this
        rw [List.getElem?_map, List.getElem?_range hi] at hd
        cases hd
        have hc := List.getElem?_eq_getElem hi
        have hm : cs[i] ∈ cs := List.getElem_mem hi
        have hdp := Doc.depth_mem hm
        rw [Doc.depth] at h hp
        have ih := law_nodes_ih cs[i] (p ++ [(i : Int)]) (by omega) (hk _ hm) (by simp; omega)
        have ex := ix_kid (l := l) hc
        have ea : dAdd (pd p) (.tuple [.int (i : Int)]) = some (pd (p ++ [(i : Int)])) := by
          unfold pd
          rw [add_tup (by simp; omega)]
          simp
        have h1 : (1 : Nat) ≤ sizeLine := by decide
        rw [Nat.zero_add]
        refine ⟨_, _, rfl, .inl ?_, .dat (.int i), rfl⟩
        have hs := Doc.sizes_mem hm
        have ht := Doc.sizes_take_le (cs := cs) (i + 1)
        rw [Doc.sizes_take hc] at ht
        have hg : gExtend (((p, Doc.node l cs) :: Doc.nodesL p 0 (cs.take i)).map nd) [.list ((Doc.nodes (p ++ [(i : Int)]) cs[i]).map nd)] = some (.none, ((p, Doc.node l cs) :: Doc.nodesL p 0 (cs.take (i + 1))).map nd) := by
          show (if _ then _ else _) = _
          rw [if_pos (by simp [Doc.nodes_len, Doc.nodesL_len]; omega), Doc.nodesL_snoc hc]
          simp
        simp only [p_exprS, methF, p_aCons, p_aNil, p_callF, p_bin2, p_tup, p_mkTup]
        simp only [List.set_cons_succ, List.set_cons_zero, List.getElem?_cons_succ, List.getElem?_cons_zero, Option.bind_some, owOf, rs_ofO_some, rs_bind_ok, rdVar, p_cst, p_add, p_mkTup, ex, List.length_singleton, h1, if_true, ea, ih, p_callR_ok, hg, setOw, rs_st_ok])
    have h1 : (1 : Nat) ≤ sizeLine := by decide
    have hl : (((cs.map Doc.d).length + 1 : Nat) : Int) - 1 = (cs.length : Nat) := by rw [List.length_map]; omega
    have ef : ∀ s2 s3 : Sl, argI rng1 (aCons (bin2 (dIntOp fun i j => .int (i - j)) (callB dLen (aCons (rdVar 0) aNil)) (cst (.int 1))) aNil) [.dat (.tuple (.str l :: cs.map Doc.d)), .dat (pd p), s2, s3] = .ok ((List.range cs.length).map fun i => PyData.int (i : Nat)) [.dat (.tuple (.str l :: cs.map Doc.d)), .dat (pd p), s2, s3] := by
      intro s2 s3
      have a1 : (aCons (bin2 (dIntOp fun i j => .int (i - j)) (callB dLen (aCons (rdVar 0) aNil)) (cst (.int 1))) aNil) [.dat (.tuple (.str l :: cs.map Doc.d)), .dat (pd p), s2, s3] = .ok [.int (cs.length : Nat)] [.dat (.tuple (.str l :: cs.map Doc.d)), .dat (pd p), s2, s3] := by
        simp only [p_aCons, p_bin2, p_callB, p_aNil, rdVar, List.getElem?_cons_zero, rs_bind_ok, p_len_t, rs_ofO_some, p_cst, p_dIntOp, List.length_cons, hl]
      rw [p_argI, a1, rs_bind_ok, rng1_nat (by omega)]
      rfl
    have en : nd (p, .node l cs) = .tuple [pd p, .tuple (.str l :: cs.map Doc.d)] := by
      show PyData.tuple [pd p, Doc.d _] = _
      rw [Doc.d_eq]
    simp only [en, List.length_map, List.length_range, Nat.zero_add, List.take_length] at e
    simp only [p_seqS, p_setNS, p_lst, p_aCons, p_tup, p_aNil, rdVar, List.getElem?_cons_succ, List.getElem?_cons_zero, rs_bind_ok, mk2, okS1, rs_st_ok, ot_seq_next, List.set_cons_succ, List.set_cons_zero, p_forS, ef, e, p_retS, p_rtr, Doc.nodes]
end ML
set_option maxRecDepth 100000
set_option maxHeartbeats 4000000
/-! what stands at a path -/
namespace ML
open PySem L2
namespace Doc
def kid (x : Doc) (i : Int) : Option Doc := if 0 ≤ i then x.kids[i.toNat]? else none
def at? : Doc → Path → Option Doc
  | x, [] => some x
  | x, i :: p => (x.kid i).bind fun y => y.at? p
theorem kid_some {x y : Doc} {i : Int} (h : x.kid i = some y) : 0 ≤ i ∧ i.toNat < x.kids.length ∧ x.kids[i.toNat]? = some y := by
  unfold kid at h
  split at h
  · rename_i h0
    exact ⟨h0, (List.getElem?_eq_some_iff.mp h).1, h⟩
  · cases h
theorem kid_none {x : Doc} {i : Int} (h : x.kid i = none) : ¬ (0 ≤ i ∧ i < x.kids.length) := by
  unfold kid at h
  split at h
  · have := List.getElem?_eq_none_iff.mp h
    omega
  · omega
theorem d_kids (x : Doc) : x.d = .tuple (.str x.lab :: x.kids.map Doc.d) := by
  cases x
  rw [d_eq]
  rfl
end Doc
theorem ix_kidI {x y : Doc} {i : Int} (h : x.kid i = some y) : dIx x.d (.int (i + 1)) = some y.d := by
  obtain ⟨h0, _, h2⟩ := Doc.kid_some h
  rw [Doc.d_kids]
  have := ix_kid (l := x.lab) h2
  rwa [Int.toNat_of_nonneg h0] at this
theorem len_d (x : Doc) : dLen [x.d] = some (.int ((x.kids.length : Int) + 1)) := by
  rw [Doc.d_kids]
  show some (PyData.int _) = _
  simp
def KA : En → Ot := seqS (ifS (notT (tval (chain3 (dIntOp fun i j => .bool (decide (i ≤ j))) (dIntOp fun i j => .bool (decide (i < j))) (cst (.int 0)) (rdVar 3) (bin2 (dIntOp fun i j => .int (i - j)) (callB dLen (aCons (rdVar 2) aNil)) (cst (.int 1)))))) (retS (cst .none)) .next)
    (setS 2 (bin2 dIx (rdVar 2) (bin2 dAdd (rdVar 3) (cst (.int 1)))))
theorem KA_some {x y : Doc} {i : Int} {s0 s1 : Sl} (h : x.kid i = some y) : KA [s0, s1, .dat x.d, .dat (.int i)] = .next [s0, s1, .dat y.d, .dat (.int i)] := by
  obtain ⟨h0, h1, _⟩ := Doc.kid_some h
  have e1 : decide (0 ≤ i) = true := by simpa using h0
  have e2 : decide (i < (x.kids.length : Int) + 1 - 1) = true := by simp; omega
  have ex := ix_kidI h
  unfold KA
  simp only [p_seqS, p_ifS, p_notT, p_tval, p_chain3, p_cst, rdVar, List.getElem?_cons_succ, List.getElem?_cons_zero, rs_bind_ok, p_dIntOp, Option.bind_some, p_bool, rs_ofO_some, e1, if_true, p_bin2, p_callB, p_aCons, p_aNil, len_d, e2, Bool.not_true, rs_st_ok, Bool.false_eq_true, if_false, ot_seq_next, p_setS, p_add, ex, List.set_cons_succ, List.set_cons_zero]
theorem KA_none {x : Doc} {i : Int} {s0 s1 : Sl} (h : x.kid i = none) : KA [s0, s1, .dat x.d, .dat (.int i)] = .ret .none [s0, s1, .dat x.d, .dat (.int i)] := by
  have h0 := Doc.kid_none h
  unfold KA
  by_cases e0 : 0 ≤ i
  · have e1 : decide (0 ≤ i) = true := by simpa using e0
    have e2 : decide (i < (x.kids.length : Int) + 1 - 1) = false := by simp; omega
    simp only [p_seqS, p_ifS, p_notT, p_tval, p_chain3, p_cst, rdVar, List.getElem?_cons_succ, List.getElem?_cons_zero, rs_bind_ok, p_dIntOp, Option.bind_some, p_bool, rs_ofO_some, e1, if_true, p_bin2, p_callB, p_aCons, p_aNil, len_d, e2, Bool.not_false, rs_st_ok, p_retS, ot_seq_ret]
  · have e1 : decide (0 ≤ i) = false := by simpa using e0
    simp only [p_seqS, p_ifS, p_notT, p_tval, p_chain3, p_cst, rdVar, List.getElem?_cons_succ, List.getElem?_cons_zero, rs_bind_ok, p_dIntOp, Option.bind_some, p_bool, rs_ofO_some, e1, Bool.false_eq_true, if_false, Bool.not_false, if_true, rs_st_ok, p_retS, ot_seq_ret]
theorem KA_loop : ∀ (p : Path) (x : Doc) (s0 s1 s3 : Sl), match x.at? p with
    | some y => ∃ s3', forF (gN 3) KA (p.map .int) [s0, s1, .dat x.d, s3] = .next [s0, s1, .dat y.d, s3']
    | none => ∃ ρ', forF (gN 3) KA (p.map .int) [s0, s1, .dat x.d, s3] = .ret .none ρ'
  | [], x, s0, s1, s3 => ⟨s3, rfl⟩
  | i :: p, x, s0, s1, s3 => by
    have step : forF (gN 3) KA ((i :: p).map .int) [s0, s1, .dat x.d, s3] = match KA [s0, s1, .dat x.d, .dat (.int i)] with
      | .next ρ2 => forF (gN 3) KA (p.map .int) ρ2
      | .cont ρ2 => forF (gN 3) KA (p.map .int) ρ2
      | .brk ρ2 => .next ρ2
      | .ret d ρ2 => .ret d ρ2
      | .err c ρ2 => .err c ρ2
      | .bad => .bad := rfl
    rw [step]
    unfold Doc.at?
    cases hk : x.kid i with
    | none =>
      rw [KA_none hk]
      exact ⟨_, rfl⟩
    | some y =>
      rw [KA_some hk, Option.bind_some]
      exact KA_loop p y s0 s1 (.dat (.int i))
theorem known_at_ok (x : Doc) (p : Path) : F_known_at [x.d, pd p] = .ok (match x.at? p with | some y => y.d | none => .none) := by
  show runF 4 2 B_known_at _ = _
  rw [runF_at (m := 2) rfl]
  have e0 : initE 4 [x.d, pd p] = [.dat x.d, .dat (pd p), .un, .un] := rfl
  have eb : B_known_at = seqS (setS 2 (rdVar 0)) (seqS (forS (un1 seqItems (rdVar 1)) (gN 3) KA) (retS (rdVar 2))) := rfl
  rw [e0, eb]
  have es : seqItems (pd p) = some (p.map .int) := rfl
  simp only [p_seqS, p_setS, rdVar, List.getElem?_cons_succ, List.getElem?_cons_zero, rs_st_ok, List.set_cons_succ, List.set_cons_zero, ot_seq_next, p_forS, p_un1, rs_bind_ok, es, rs_ofO_some]
  have h := KA_loop p x (.dat x.d) (.dat (pd p)) .un
  revert h
  cases x.at? p with
  | some y =>
    rintro ⟨s3', e⟩
    rw [e]
    rfl
  | none =>
    rintro ⟨ρ', e⟩
    rw [e]
    rfl
end ML
set_option maxRecDepth 100000
set_option maxHeartbeats 4000000
/-! another one put at a path -/
namespace ML
open PySem L2
namespace Doc
def put : Doc → Path → Doc → Doc
  | _, [], o => o
  | x, i :: p, o => match x.kid i with
    | some y => node x.lab (x.kids.set i.toNat (y.put p o))
    | none => x
end Doc
theorem sIx_natI {n d : Nat} {k : Nat} : HT.sIx n d (some (k : Int)) = min k n := HT.sIx_nat n d k
theorem cut_lo {xs : List PyData} {k : Nat} : cutD xs none (some (k : Int)) = xs.take k := by
  unfold cutD
  rw [sIx_natI, HT.sIx_none]
  simp [List.take_eq_take_iff]
theorem cut_hi {xs : List PyData} {k : Nat} : cutD xs (some (k : Int)) none = xs.drop k := by
  unfold cutD
  rw [sIx_natI, HT.sIx_none]
  rw [List.take_of_length_le (by simp)]
  by_cases h : k ≤ xs.length
  · rw [Nat.min_eq_left h]
  · rw [Nat.min_eq_right (by omega), List.drop_length, List.drop_eq_nil_of_le (by omega)]
theorem set_split {α : Type} {xs : List α} {k : Nat} {a : α} (h : k < xs.length) : xs.set k a = xs.take k ++ a :: xs.drop (k + 1) := by
  rw [List.set_eq_take_append_cons_drop, if_pos h]
theorem law_put_ok (n : Nat) : ∀ (x : Doc) (p : Path) (o : Doc), p.length < n → x.at? p ≠ none → x.fit → F__law_put n [x.d, pd p, o.d] = .ok (x.put p o).d := by
  induction n with
  | zero => exact fun x p o h => absurd h (by omega)
  | succ n ih =>
    intro x p o hn hp hf
    show runF 4 3 (B__law_put (F__law_put n)) _ = _
    rw [runF_at (m := 3) rfl]
    have e0 : initE 4 [x.d, pd p, o.d] = [.dat x.d, .dat (pd p), .dat o.d, .un] := rfl
    rw [e0, B__law_put]
    cases p with
    | nil =>
      have el : dLen [pd []] = some (.int 0) := rfl
      have eq : dEq (.int 0) (.int 0) = some (.bool true) := by simp [dEq, dEqB, scalD]
      simp only [p_seqS, p_ifS, p_bin2B, p_callB, p_aCons, p_aNil, rdVar, List.getElem?_cons_succ, List.getElem?_cons_zero, rs_bind_ok, el, rs_ofO_some, p_cst, eq, p_bool, rs_st_ok, if_true, p_retS, ot_seq_ret, p_rtr, Doc.put]
    | cons i p =>
      unfold Doc.at? at hp
      unfold Doc.put
      cases hk : x.kid i with
      | none => rw [hk] at hp; exact absurd rfl hp
      | some y =>
        rw [hk, Option.bind_some] at hp
        obtain ⟨h0, h1, h2⟩ := Doc.kid_some hk
        obtain ⟨hz, hkids⟩ := Doc.fit_kids (l := x.lab) (cs := x.kids) (by cases x; exact hf)
        have hb := big
        have hy := hkids y (List.mem_of_getElem? h2)
        have ihy := ih y p o (by simp at hn; omega) hp hy
        have el : dLen [pd (i :: p)] = some (.int ((p.length : Int) + 1)) := by
          show some (PyData.int _) = _
          simp
        have eq : dEq (.int ((p.length : Int) + 1)) (.int 0) = some (.bool false) := by
          simp [dEq, dEqB, scalD]
          omega
        have ei : dIx (pd (i :: p)) (.int 0) = some (.int i) := by
          show atI _ _ = _
          rw [List.map_cons, atI_0]
        have ex := ix_kidI hk
        have ep : dSl (pd (i :: p)) (some 1) none = some (pd p) := by
          show some (PyData.tuple (cutD _ _ _)) = _
          rw [List.map_cons, cut1]
          rfl
        have k1 : i + 1 = ((i.toNat + 1 : Nat) : Int) := by omega
        have k2 : i + 1 + 1 = ((i.toNat + 2 : Nat) : Int) := by omega
        have ea : dSl x.d none (some (i + 1)) = some (.tuple (.str x.lab :: (x.kids.map Doc.d).take i.toNat)) := by
          rw [Doc.d_kids, k1]
          show some (PyData.tuple (cutD _ _ _)) = _
          rw [cut_lo]
          rfl
        have eb : dSl x.d (some (i + 1 + 1)) none = some (.tuple ((x.kids.map Doc.d).drop (i.toNat + 1))) := by
          rw [Doc.d_kids, k2]
          show some (PyData.tuple (cutD _ _ _)) = _
          rw [cut_hi]
          rfl
        have a1 : dAdd (.tuple (.str x.lab :: (x.kids.map Doc.d).take i.toNat)) (.tuple [(y.put p o).d]) = some (.tuple ((.str x.lab :: (x.kids.map Doc.d).take i.toNat) ++ [(y.put p o).d])) := add_tup (by simp; omega)
        have a2 : dAdd (.tuple ((.str x.lab :: (x.kids.map Doc.d).take i.toNat) ++ [(y.put p o).d])) (.tuple ((x.kids.map Doc.d).drop (i.toNat + 1))) = some (.tuple (((.str x.lab :: (x.kids.map Doc.d).take i.toNat) ++ [(y.put p o).d]) ++ (x.kids.map Doc.d).drop (i.toNat + 1))) := add_tup (by simp; omega)
        simp only [p_seqS, p_ifS, p_bin2B, p_callB, p_aCons, p_aNil, rdVar, List.getElem?_cons_succ, List.getElem?_cons_zero, rs_bind_ok, el, rs_ofO_some, p_cst, eq, p_bool, rs_st_ok, Bool.false_eq_true, if_false, ot_seq_next, p_setS, p_bin2, ei, p_add, List.set_cons_succ, List.set_cons_zero, p_retS, p_slc, p_oNo, p_oYes, p_intOf, ea, p_tup, p_callF, ex, ep, ihy, p_callR_ok, mk1, a1, eb, a2, p_rtr, Doc.d_eq]
        rw [List.map_set, set_split (by simpa using h1)]
        simp
end ML
set_option maxRecDepth 100000
set_option maxHeartbeats 4000000
/-! known_put -/
namespace ML
open PySem L2
namespace Doc
def plug (o : Doc) (z : Doc × Int) : Doc := node z.1.lab (z.1.kids.set z.2.toNat o)
def spine : Doc → Path → List (Doc × Int)
  | _, [] => []
  | x, i :: p => (x, i) :: match x.kid i with
    | some y => spine y p
    | none => []
theorem put_spine : ∀ (p : Path) (x o : Doc), x.at? p ≠ none → x.put p o = (x.spine p).reverse.foldl plug o
  | [], x, o, _ => rfl
  | i :: p, x, o, h => by
    unfold at? at h
    unfold put spine
    cases hk : x.kid i with
    | none => rw [hk] at h; exact absurd rfl h
    | some y =>
      rw [hk, Option.bind_some] at h
      dsimp only
      rw [put_spine p y o h]
      simp [plug]
/-- each place of the spine stands -/
theorem spine_ok : ∀ (p : Path) (x : Doc), x.at? p ≠ none → x.fit → ∀ z ∈ x.spine p, z.1.fit ∧ 0 ≤ z.2 ∧ z.2.toNat < z.1.kids.length
  | [], x, _, _, z, hz => by cases hz
  | i :: p, x, h, hf, z, hz => by
    unfold at? at h
    unfold spine at hz
    cases hk : x.kid i with
    | none => rw [hk] at h; exact absurd rfl h
    | some y =>
      rw [hk, Option.bind_some] at h
      rw [hk] at hz
      obtain ⟨h0, h1, h2⟩ := kid_some hk
      rcases List.mem_cons.mp hz with rfl | hz
      · exact ⟨hf, h0, h1⟩
      · exact spine_ok p y h ((fit_kids (l := x.lab) (cs := x.kids) (by cases x; exact hf)).2 y (List.mem_of_getElem? h2)) z hz
end Doc
abbrev sp (z : Doc × Int) : PyData := .tuple [z.1.d, .int z.2]
def KP1 : En → Ot := seqS (exprS (methF 3 gAppend (aCons (tup (aCons (rdVar 4) (aCons (rdVar 5) aNil))) aNil))) (setS 4 (bin2 dIx (rdVar 4) (bin2 dAdd (rdVar 5) (cst (.int 1)))))
def KP2 : En → Ot := setS 2 (tup (aStar (slc (rdVar 6) oNo (oYes (bin2 dAdd (rdVar 5) (cst (.int 1))))) (aCons (rdVar 2) (aStar (slc (rdVar 6) (oYes (bin2 dAdd (rdVar 5) (cst (.int 2)))) oNo) aNil))))
theorem KP1_loop : ∀ (p : Path) (x : Doc) (L : List (Doc × Int)) (s0 s1 s2 s5 s6 : Sl), x.at? p ≠ none → L.length + p.length ≤ 100000 →
    ∃ s4' s5', forF (gN 5) KP1 (p.map .int) [s0, s1, s2, .own (L.map sp), .dat x.d, s5, s6] = .next [s0, s1, s2, .own ((L ++ x.spine p).map sp), s4', s5', s6]
  | [], x, L, s0, s1, s2, s5, s6, _, _ => ⟨_, _, by simp [Doc.spine]; rfl⟩
  | i :: p, x, L, s0, s1, s2, s5, s6, h, hl => by
    unfold Doc.at? at h
    unfold Doc.spine
    cases hk : x.kid i with
    | none => rw [hk] at h; exact absurd rfl h
    | some y =>
      rw [hk, Option.bind_some] at h
      have hb := big
      have ex := ix_kidI hk
      rw [List.length_cons] at hl
      have ha : gAppend (L.map sp) [.tuple [x.d, .int i]] = some (.none, (L ++ [(x, i)]).map sp) := by
        show (if _ then _ else _) = _
        rw [if_pos (by simp; omega)]
        simp
      have one : KP1 [s0, s1, s2, .own (L.map sp), .dat x.d, .dat (.int i), s6] = .next [s0, s1, s2, .own ((L ++ [(x, i)]).map sp), .dat y.d, .dat (.int i), s6] := by
        unfold KP1
        simp only [p_seqS, p_exprS, methF, List.getElem?_cons_succ, List.getElem?_cons_zero, Option.bind_some, owOf, rs_ofO_some, rs_bind_ok, p_aCons, p_aNil, p_tup, rdVar, mk2, ha, setOw, rs_st_ok, ot_seq_next, List.set_cons_succ, List.set_cons_zero, p_setS, p_bin2, p_cst, p_add, ex]
      obtain ⟨s4', s5', e⟩ := KP1_loop p y (L ++ [(x, i)]) s0 s1 s2 (.dat (.int i)) s6 h (by simp; omega)
      refine ⟨s4', s5', ?_⟩
      have step : forF (gN 5) KP1 ((i :: p).map .int) [s0, s1, s2, .own (L.map sp), .dat x.d, s5, s6] = match KP1 [s0, s1, s2, .own (L.map sp), .dat x.d, .dat (.int i), s6] with
        | .next ρ2 => forF (gN 5) KP1 (p.map .int) ρ2
        | .cont ρ2 => forF (gN 5) KP1 (p.map .int) ρ2
        | .brk ρ2 => .next ρ2
        | .ret d ρ2 => .ret d ρ2
        | .err c ρ2 => .err c ρ2
        | .bad => .bad := rfl
      rw [step, one]
      dsimp only
      rw [e, List.append_assoc]
      rfl
theorem KP2_loop : ∀ (L : List (Doc × Int)) (o : Doc) (s0 s1 s3 s4 s5 s6 : Sl), (∀ z ∈ L, z.1.fit ∧ 0 ≤ z.2 ∧ z.2.toNat < z.1.kids.length) →
    ∃ s5' s6', forF (gT 2 (gsCons (gN 6) (gsCons (gN 5) gsNil))) KP2 (L.map sp) [s0, s1, .dat o.d, s3, s4, s5, s6] = .next [s0, s1, .dat (L.foldl Doc.plug o).d, s3, s4, s5', s6']
  | [], o, s0, s1, s3, s4, s5, s6, _ => ⟨_, _, rfl⟩
  | (x, i) :: L, o, s0, s1, s3, s4, s5, s6, h => by
    obtain ⟨hf, h0, h1⟩ := h (x, i) (by simp)
    have h0 : 0 ≤ i := h0
    have h1 : i.toNat < x.kids.length := h1
    obtain ⟨hz, _⟩ := Doc.fit_kids (l := x.lab) (cs := x.kids) (by cases x; exact hf)
    have hb := big
    have k1 : i + 1 = ((i.toNat + 1 : Nat) : Int) := by omega
    have k2 : i + 2 = ((i.toNat + 2 : Nat) : Int) := by omega
    have ea : dSl x.d none (some (i + 1)) = some (.tuple (.str x.lab :: (x.kids.map Doc.d).take i.toNat)) := by
      rw [Doc.d_kids, k1]
      show some (PyData.tuple (cutD _ _ _)) = _
      rw [cut_lo]
      rfl
    have eb : dSl x.d (some (i + 2)) none = some (.tuple ((x.kids.map Doc.d).drop (i.toNat + 1))) := by
      rw [Doc.d_kids, k2]
      show some (PyData.tuple (cutD _ _ _)) = _
      rw [cut_hi]
      rfl
    have em : ∀ ρ, mkTup ((.str x.lab :: (x.kids.map Doc.d).take i.toNat) ++ (o.d :: ((x.kids.map Doc.d).drop (i.toNat + 1) ++ []))) ρ = .ok (Doc.plug o (x, i)).d ρ := by
      intro ρ
      rw [p_mkTup, if_pos (by simp; omega), Doc.plug, Doc.d_eq, List.map_set, set_split (by simpa using h1)]
      simp
    have one : KP2 [s0, s1, .dat o.d, s3, s4, .dat (.int i), .dat x.d] = .next [s0, s1, .dat (Doc.plug o (x, i)).d, s3, s4, .dat (.int i), .dat x.d] := by
      unfold KP2
      simp only [p_setS, p_tup, p_aStar, p_slc, rdVar, List.getElem?_cons_succ, List.getElem?_cons_zero, rs_bind_ok, p_oNo, p_oYes, p_bin2, p_cst, p_add, rs_ofO_some, p_intOf, ea, p_itm_t, p_aCons, p_aNil, eb, em, rs_st_ok, List.set_cons_succ, List.set_cons_zero]
    obtain ⟨s5', s6', e⟩ := KP2_loop L (Doc.plug o (x, i)) s0 s1 s3 s4 (.dat (.int i)) (.dat x.d) fun z hz => h z (by simp [hz])
    refine ⟨s5', s6', ?_⟩
    have step : forF (gT 2 (gsCons (gN 6) (gsCons (gN 5) gsNil))) KP2 (((x, i) :: L).map sp) [s0, s1, .dat o.d, s3, s4, s5, s6] = match KP2 [s0, s1, .dat o.d, s3, s4, .dat (.int i), .dat x.d] with
      | .next ρ2 => forF (gT 2 (gsCons (gN 6) (gsCons (gN 5) gsNil))) KP2 (L.map sp) ρ2
      | .cont ρ2 => forF (gT 2 (gsCons (gN 6) (gsCons (gN 5) gsNil))) KP2 (L.map sp) ρ2
      | .brk ρ2 => .next ρ2
      | .ret d ρ2 => .ret d ρ2
      | .err c ρ2 => .err c ρ2
      | .bad => .bad := rfl
    rw [step, one]
    exact e
theorem known_put_ok (x o : Doc) (p : Path) (h : x.at? p ≠ none) (hf : x.fit) (hp : p.length ≤ 100000) : F_known_put [x.d, pd p, o.d] = .ok (x.put p o).d := by
  show runF 7 3 B_known_put _ = _
  rw [runF_at (m := 3) rfl]
  have e0 : initE 7 [x.d, pd p, o.d] = [.dat x.d, .dat (pd p), .dat o.d, .un, .un, .un, .un] := rfl
  have eb : B_known_put = seqS (setNS 3 (lst aNil)) (seqS (setS 4 (rdVar 0)) (seqS (forS (un1 seqItems (rdVar 1)) (gN 5) KP1) (seqS (forS (un1 seqItems (newL (un1 dRev (rdVar 3)))) (gT 2 (gsCons (gN 6) (gsCons (gN 5) gsNil))) KP2) (retS (rdVar 2))))) := rfl
  rw [e0, eb]
  have es : seqItems (pd p) = some (p.map .int) := rfl
  obtain ⟨s4, s5, e1⟩ := KP1_loop p x [] (.dat x.d) (.dat (pd p)) (.dat o.d) .un .un h (by simpa using hp)
  rw [List.map_nil, List.nil_append] at e1
  obtain ⟨s5', s6', e2⟩ := KP2_loop (x.spine p).reverse o (.dat x.d) (.dat (pd p)) (.dat (.list ((x.spine p).map sp))) s4 s5 .un fun z hz => Doc.spine_ok p x h hf z (List.mem_reverse.mp hz)
  rw [List.map_reverse] at e2
  have er : dRev (.list ((x.spine p).map sp)) = some ((x.spine p).map sp).reverse := rfl
  simp only [p_seqS, p_setNS, p_lst, p_aNil, rs_bind_ok, okS0, rs_st_ok, List.set_cons_succ, List.set_cons_zero, ot_seq_next, p_setS, rdVar, List.getElem?_cons_zero, List.getElem?_cons_succ, p_forS, p_un1, es, rs_ofO_some, e1, p_newL, er, rs_map_ok, p_seqI_l, e2, p_retS, p_rtr, Doc.put_spine p x o h]
end ML
set_option maxRecDepth 100000
set_option maxHeartbeats 4000000
/-! nodes: the walk with a row of those that wait -/
namespace ML
open PySem L2
def NB : En → Ot := seqS (asgS (methF 2 gPop aNil) (gT 2 (gsCons (gN 3) (gsCons (gN 4) gsNil))))
    (seqS (exprS (methF 1 gAppend (aCons (tup (aCons (rdVar 3) (aCons (rdVar 4) aNil))) aNil)))
    (forS (argI rngD (aCons (bin2 (dIntOp fun i j => .int (i - j)) (callB dLen (aCons (rdVar 4) aNil)) (cst (.int 1))) (aCons (cst (.int 0)) (aCons (un1 dNeg (cst (.int 1))) aNil)))) (gN 5) (exprS (methF 2 gAppend (aCons (tup (aCons (tup (aStar (rdVar 3) (aCons (bin2 (dIntOp fun i j => .int (i - j)) (rdVar 5) (cst (.int 1))) aNil))) (aCons (bin2 dIx (rdVar 4) (rdVar 5)) aNil))) aNil)))))
def NC : En → Rs Bool := bin2B (dIntOp fun i j => .bool (decide (j < i))) (lenV 2) (cst (.int 0))
theorem B_nodes_eq : B_nodes = seqS (setNS 1 (lst aNil)) (seqS (setNS 2 (lst (aCons (tup (aCons (tup aNil) (aCons (rdVar 0) aNil))) aNil))) (seqS (whileF NC NB 400) (retS (rdVar 1)))) := rfl
/-- the inner ones with their paths, the last one first -/
def kidsRev (p : Path) (x : Doc) : List (Path × Doc) := (x.kids.zipIdx.map fun z => (p ++ [(z.2 : Int)], z.1)).reverse
theorem rngD_nat {k : Nat} (h : k ≤ 100000000) : rngD [.int (k : Int), .int 0, .int (-1)] = some ((List.range k).map fun (i : Nat) => PyData.int ((k : Int) + (i : Int) * (-1))) := by
  have h0 : inR 0 = true := inR_nat (k := 0) (by omega)
  unfold rngD
  simp only [inR_nat h, h0, true_and, if_true, dInts, List.map_map]
  rw [Int.sub_zero, Int.toNat_natCast]
  rfl
theorem nodesL_flat (p : Path) : ∀ (cs : List Doc) (k : Nat), Doc.nodesL p k cs = (cs.zipIdx k).flatMap fun z => Doc.nodes (p ++ [(z.2 : Int)]) z.1
  | [], _ => rfl
  | c :: cs, k => by
    rw [Doc.nodesL, nodesL_flat p cs (k + 1), List.zipIdx_cons, List.flatMap_cons]
/-- those that wait, told from the top -/
def walkW (W : List (Path × Doc)) : List (Path × Doc) := W.reverse.flatMap fun z => Doc.nodes z.1 z.2
theorem walk_snoc (W : List (Path × Doc)) (p : Path) (x : Doc) : walkW (W ++ [(p, x)]) = (p, x) :: walkW (W ++ kidsRev p x) := by
  unfold walkW kidsRev
  rw [List.reverse_append, List.reverse_append, List.reverse_reverse, List.flatMap_append, List.flatMap_append]
  simp only [List.reverse_singleton, List.flatMap_singleton]
  obtain ⟨l, cs⟩ := x
  rw [Doc.nodes, nodesL_flat]
  simp [List.flatMap_map, Doc.kids]
end ML
set_option maxRecDepth 100000
set_option maxHeartbeats 4000000
namespace ML
open PySem L2
def NI : En → Ot := exprS (methF 2 gAppend (aCons (tup (aCons (tup (aStar (rdVar 3) (aCons (bin2 (dIntOp fun i j => .int (i - j)) (rdVar 5) (cst (.int 1))) aNil))) (aCons (bin2 dIx (rdVar 4) (rdVar 5)) aNil))) aNil))
theorem kidsRev_at {p : Path} {x : Doc} {i : Nat} (h : i < x.kids.length) : (kidsRev p x)[i]? = some (p ++ [((x.kids.length - 1 - i : Nat) : Int)], x.kids[x.kids.length - 1 - i]'(by omega)) := by
  unfold kidsRev
  rw [List.getElem?_reverse (by simpa using h)]
  simp only [List.length_map, List.length_zipIdx, List.getElem?_map, List.getElem?_zipIdx]
  rw [List.getElem?_eq_getElem (by omega)]
  simp
theorem kidsRev_len {p : Path} {x : Doc} : (kidsRev p x).length = x.kids.length := by simp [kidsRev]
theorem NI_loop (p : Path) (x : Doc) (W : List (Path × Doc)) (s0 s1 : Sl) (s5 : Sl) (hp : p.length + 1 ≤ 100000) (hw : W.length + x.kids.length ≤ 100000) :
    ∃ s5', forF (gN 5) NI ((List.range x.kids.length).map fun (i : Nat) => PyData.int ((x.kids.length : Int) + (i : Int) * (-1))) [s0, s1, .own (W.map nd), .dat (pd p), .dat x.d, s5] =
      .next [s0, s1, .own ((W ++ kidsRev p x).map nd), .dat (pd p), .dat x.d, s5'] := by
  have hb := big
  obtain ⟨ρ', e, s5', rfl⟩ := forF_inv (t := gN 5) (body := NI) (fun i ρ => ∃ s5', ρ = [s0, s1, .own ((W ++ (kidsRev p x).take i).map nd), .dat (pd p), .dat x.d, s5']) ((List.range x.kids.length).map fun (i : Nat) => PyData.int ((x.kids.length : Int) + (i : Int) * (-1))) 0
    [s0, s1, .own (W.map nd), .dat (pd p), .dat x.d, s5] ⟨s5, by simp⟩ (by
      rintro i d ρ hd ⟨s5', rfl⟩
      have hi : i < x.kids.length := by
        have := (List.getElem?_eq_some_iff.mp hd).1
        simpa using this
      rw [List.getElem?_map, List.getElem?_range hi] at hd
      cases hd
      rw [Nat.zero_add]
      refine ⟨_, _, rfl, .inl ?_, .dat (.int ((x.kids.length : Int) + (i : Int) * (-1))), rfl⟩
      have ek : (x.kids.length : Int) + (i : Int) * (-1) - 1 = ((x.kids.length - 1 - i : Nat) : Int) := by omega
      have ek1 : (x.kids.length : Int) + (i : Int) * (-1) = ((x.kids.length - 1 - i : Nat) : Int) + 1 := by omega
      have hc : x.kids[x.kids.length - 1 - i]? = some (x.kids[x.kids.length - 1 - i]'(by omega)) := List.getElem?_eq_getElem (by omega)
      have ex : dIx x.d (.int ((x.kids.length : Int) + (i : Int) * (-1))) = some (x.kids[x.kids.length - 1 - i]'(by omega)).d := by
        rw [Doc.d_kids, ek1]
        exact ix_kid hc
      have em : ∀ ρ, mkTup (p.map .int ++ [.int ((x.kids.length - 1 - i : Nat) : Int)]) ρ = .ok (pd (p ++ [((x.kids.length - 1 - i : Nat) : Int)])) ρ := by
        intro ρ
        rw [p_mkTup, if_pos (by simp; omega)]
        simp [pd]
      have ha : gAppend ((W ++ (kidsRev p x).take i).map nd) [.tuple [pd (p ++ [((x.kids.length - 1 - i : Nat) : Int)]), (x.kids[x.kids.length - 1 - i]'(by omega)).d]] = some (.none, (W ++ (kidsRev p x).take (i + 1)).map nd) := by
        have e1 : (kidsRev p x).take (i + 1) = (kidsRev p x).take i ++ [(p ++ [((x.kids.length - 1 - i : Nat) : Int)], x.kids[x.kids.length - 1 - i]'(by omega))] := by
          rw [List.take_add_one, kidsRev_at hi]
          rfl
        show (if _ then _ else _) = _
        rw [if_pos (by simp [kidsRev_len]; omega), e1]
        simp
      have es : itemsOf (pd p) = some (p.map .int) := rfl
      unfold NI
      simp only [p_exprS, methF, List.set_cons_succ, List.set_cons_zero, List.getElem?_cons_succ, List.getElem?_cons_zero, Option.bind_some, owOf, rs_ofO_some, rs_bind_ok, p_aCons, p_aNil, p_tup, p_aStar, rdVar, es, p_bin2, p_cst, p_dIntOp, ek, em, ex, mk2, ha, setOw, rs_st_ok])
  refine ⟨s5', ?_⟩
  rw [e]
  have : (kidsRev p x).take (0 + ((List.range x.kids.length).map fun (i : Nat) => PyData.int ((x.kids.length : Int) + (i : Int) * (-1))).length) = kidsRev p x := List.take_of_length_le (by simp [kidsRev_len])
  rw [this]
end ML
set_option maxRecDepth 100000
set_option maxHeartbeats 4000000
namespace ML
open PySem L2
theorem NB_eq : NB = seqS (asgS (methF 2 gPop aNil) (gT 2 (gsCons (gN 3) (gsCons (gN 4) gsNil)))) (seqS (exprS (methF 1 gAppend (aCons (tup (aCons (rdVar 3) (aCons (rdVar 4) aNil))) aNil)))
    (forS (argI rngD (aCons (bin2 (dIntOp fun i j => .int (i - j)) (callB dLen (aCons (rdVar 4) aNil)) (cst (.int 1))) (aCons (cst (.int 0)) (aCons (un1 dNeg (cst (.int 1))) aNil)))) (gN 5) NI)) := rfl
theorem NB_step (p : Path) (x : Doc) (W F : List (Path × Doc)) (s0 s3 s4 s5 : Sl) (hp : p.length + 1 ≤ 100000) (hw : W.length + x.kids.length ≤ 100000) (hF : F.length < 100000) :
    ∃ s3' s4' s5', NB [s0, .own (F.map nd), .own ((W ++ [(p, x)]).map nd), s3, s4, s5] = .next [s0, .own ((F ++ [(p, x)]).map nd), .own ((W ++ kidsRev p x).map nd), s3', s4', s5'] := by
  have hb := big
  have hg : gPop ((W ++ [(p, x)]).map nd) [] = some (nd (p, x), W.map nd) := by
    unfold gPop
    simp
  have ha : gAppend (F.map nd) [.tuple [pd p, x.d]] = some (.none, (F ++ [(p, x)]).map nd) := by
    show (if _ then _ else _) = _
    rw [if_pos (by simp; omega)]
    simp
  obtain ⟨s5', e⟩ := NI_loop p x W s0 (.own ((F ++ [(p, x)]).map nd)) s5 hp hw
  have ef : ∀ s1 s2, argI rngD (aCons (bin2 (dIntOp fun i j => .int (i - j)) (callB dLen (aCons (rdVar 4) aNil)) (cst (.int 1))) (aCons (cst (.int 0)) (aCons (un1 dNeg (cst (.int 1))) aNil))) [s0, s1, s2, .dat (pd p), .dat x.d, s5] = .ok ((List.range x.kids.length).map fun (i : Nat) => PyData.int ((x.kids.length : Int) + (i : Int) * (-1))) [s0, s1, s2, .dat (pd p), .dat x.d, s5] := by
    intro s1 s2
    have hl : (x.kids.length : Int) + 1 - 1 = (x.kids.length : Nat) := by omega
    have a1 : (aCons (bin2 (dIntOp fun i j => .int (i - j)) (callB dLen (aCons (rdVar 4) aNil)) (cst (.int 1))) (aCons (cst (.int 0)) (aCons (un1 dNeg (cst (.int 1))) aNil))) [s0, s1, s2, .dat (pd p), .dat x.d, s5] = .ok [.int (x.kids.length : Nat), .int 0, .int (-1)] [s0, s1, s2, .dat (pd p), .dat x.d, s5] := by
      simp only [p_aCons, p_bin2, p_callB, p_aNil, rdVar, List.getElem?_cons_zero, List.getElem?_cons_succ, rs_bind_ok, len_d, rs_ofO_some, p_cst, p_dIntOp, hl, p_un1, dNeg]
    rw [p_argI, a1, rs_bind_ok, rngD_nat (by omega)]
    rfl
  refine ⟨.dat (pd p), .dat x.d, s5', ?_⟩
  rw [NB_eq]
  simp only [p_seqS, p_asgS, methF, List.getElem?_cons_succ, List.getElem?_cons_zero, Option.bind_some, owOf, rs_ofO_some, rs_bind_ok, p_aNil, hg, setOw, rs_st_ok, List.set_cons_succ, List.set_cons_zero, p_gT2, p_gsCons, p_gN, p_gsNil, ot_seq_next, p_exprS, p_aCons, p_tup, rdVar, mk2, ha, p_forS, ef, e]
theorem walk_len (W : List (Path × Doc)) : W.length ≤ (walkW W).length := by
  unfold walkW
  rw [List.length_flatMap]
  have : ∀ L : List (Path × Doc), L.length ≤ (L.map fun z => (Doc.nodes z.1 z.2).length).sum := by
    intro L
    induction L with
    | nil => simp
    | cons z L ih =>
      have := z.2.size_pos
      rw [List.map_cons, List.sum_cons, Doc.nodes_len, List.length_cons]
      omega
  have h := this W.reverse
  simpa using h
theorem while_ok : ∀ (n : Nat) (F W : List (Path × Doc)) (s0 s3 s4 s5 : Sl), (walkW W).length < n → F.length + (walkW W).length ≤ 50000 → (∀ z ∈ W, z.1.length + z.2.depth ≤ 50000) →
    ∃ s3' s4' s5', whileF NC NB n [s0, .own (F.map nd), .own (W.map nd), s3, s4, s5] = .next [s0, .own ((F ++ walkW W).map nd), .own [], s3', s4', s5']
  | 0, _, _, _, _, _, _, h, _, _ => absurd h (by omega)
  | n + 1, F, W, s0, s3, s4, s5, h, hF, hP => by
    have hc : NC [s0, .own (F.map nd), .own (W.map nd), s3, s4, s5] = .ok (decide ((0 : Int) < (W.length : Nat))) [s0, .own (F.map nd), .own (W.map nd), s3, s4, s5] := by
      unfold NC
      simp only [p_bin2B, lenV, lstAt, List.getElem?_cons_succ, List.getElem?_cons_zero, rs_ofO_some, rs_bind_ok, p_cst, p_dIntOp, p_bool, List.length_map]
    rcases List.eq_nil_or_concat W with rfl | ⟨W0, ⟨p, x⟩, rfl⟩
    · refine ⟨s3, s4, s5, ?_⟩
      unfold whileF
      rw [hc]
      simp [walkW]
    · rw [List.concat_eq_append] at *
      rw [walk_snoc] at h hF ⊢
      have hl := walk_len (W0 ++ kidsRev p x)
      rw [List.length_append, kidsRev_len] at hl
      rw [List.length_cons] at h hF
      have hpx := hP (p, x) (by simp)
      obtain ⟨s3', s4', s5', e⟩ := NB_step p x W0 F s0 s3 s4 s5 (by have : p.length + x.depth ≤ 50000 := hpx; omega) (by omega) (by omega)
      obtain ⟨t3, t4, t5, e2⟩ := while_ok n (F ++ [(p, x)]) (W0 ++ kidsRev p x) s0 s3' s4' s5' (by omega) (by rw [List.length_append, List.length_singleton]; omega) (by
        intro z hz
        rcases List.mem_append.mp hz with hz | hz
        · exact hP z (by simp [hz])
        · unfold kidsRev at hz
          rw [List.mem_reverse, List.mem_map] at hz
          obtain ⟨⟨c, k⟩, hk, rfl⟩ := hz
          have hm : c ∈ x.kids := by
            have := List.mem_zipIdx hk
            simp at this
            rw [this.2]
            exact List.getElem_mem _
          have hd := Doc.depth_mem hm
          have hx : x.depth = Doc.depths x.kids := by cases x; rfl
          have : p.length + x.depth ≤ 50000 := hpx
          simp
          omega)
      refine ⟨t3, t4, t5, ?_⟩
      have hpos : decide ((0 : Int) < ((W0 ++ [(p, x)]).length : Nat)) = true := by simp
      unfold whileF
      rw [hc, hpos]
      dsimp only
      rw [e]
      dsimp only
      rw [e2]
      simp
end ML
namespace ML
open PySem L2
theorem nodes_ok (x : Doc) (h : x.size < 400) (hd : x.depth ≤ 50000) : F_nodes [x.d] = .ok (.list ((Doc.nodes [] x).map nd)) := by
  show runF 6 1 B_nodes _ = _
  rw [runF_at (m := 1) rfl, B_nodes_eq]
  have e0 : initE 6 [x.d] = [.dat x.d, .un, .un, .un, .un, .un] := rfl
  have ew : walkW [([], x)] = Doc.nodes [] x := by simp [walkW]
  obtain ⟨s3, s4, s5, e⟩ := while_ok 400 [] [([], x)] (.dat x.d) .un .un .un (by rw [ew, Doc.nodes_len]; exact h) (by rw [ew, Doc.nodes_len]; simp; omega) (by
    intro z hz
    rw [List.mem_singleton.mp hz]
    simpa using hd)
  rw [ew, List.nil_append] at e
  have e : whileF NC NB 400 [.dat x.d, .own [], .own [.tuple [.tuple [], x.d]], .un, .un, .un] = _ := e
  rw [e0]
  simp only [p_seqS, p_setNS, p_lst, p_aNil, rs_bind_ok, okS0, rs_st_ok, List.set_cons_succ, List.set_cons_zero, ot_seq_next, p_aCons, p_tup, mk0, rdVar, List.getElem?_cons_zero, List.getElem?_cons_succ, mk2, okS1, e, p_retS, p_rtr]
end ML
set_option maxRecDepth 100000
set_option maxHeartbeats 4000000
/-! check_document -/
namespace ML
open PySem L2
/-- a node that may stand in a document -/
def okN (x : Doc) : Bool := isLab x.lab && decide (x.kids.length ≤ 3)
def Doc.small (x : Doc) : Prop := ∀ z ∈ Doc.nodes [] x, z.2.lab.length ≤ sizeLine
def KC : En → Ot := ifS (orT (notT (tval (callF F_is_label (aCons (bin2 dIx (rdVar 4) (cst (.int 0))) aNil)))) (bin2B (dIntOp fun i j => .bool (decide (j < i))) (bin2 (dIntOp fun i j => .int (i - j)) (callB dLen (aCons (rdVar 4) aNil)) (cst (.int 1))) (cst (.int 3)))) (.err "NotAllowed") .next
theorem ix_lab (x : Doc) : dIx x.d (.int 0) = some (.str x.lab) := by
  rw [Doc.d_kids]
  exact atI_0
theorem KC_step {x : Doc} {s0 s1 s2 s3 : Sl} (h : x.lab.length ≤ sizeLine) : KC [s0, s1, s2, s3, .dat x.d] = if okN x = true then .next [s0, s1, s2, s3, .dat x.d] else .err "NotAllowed" [s0, s1, s2, s3, .dat x.d] := by
  unfold KC okN
  have el := is_label_ok h
  cases hb : isLab x.lab with
  | false =>
    rw [hb] at el
    simp only [p_ifS, p_orT, p_notT, p_tval, p_callF, p_aCons, p_aNil, p_bin2, rdVar, List.getElem?_cons_succ, List.getElem?_cons_zero, rs_bind_ok, p_cst, ix_lab, rs_ofO_some, el, p_callR_ok, p_bool, Bool.not_false, if_true, rs_st_ok, Bool.false_and, Bool.false_eq_true, if_false]
  | true =>
    rw [hb] at el
    simp only [p_ifS, p_orT, p_notT, p_tval, p_callF, p_aCons, p_aNil, p_bin2, rdVar, List.getElem?_cons_succ, List.getElem?_cons_zero, rs_bind_ok, p_cst, ix_lab, rs_ofO_some, el, p_callR_ok, p_bool, Bool.not_true, Bool.false_eq_true, if_false, p_bin2B, p_callB, len_d, p_dIntOp, rs_st_ok, Bool.true_and, decide_eq_true_eq]
    by_cases h3 : x.kids.length ≤ 3
    · rw [if_neg (by omega), if_pos h3]
    · rw [if_pos (by omega), if_neg h3]
theorem KC_loop : ∀ (L : List (Path × Doc)) (s0 s1 s2 s3 s4 : Sl), (∀ z ∈ L, z.2.lab.length ≤ sizeLine) →
    (if L.all (fun z => okN z.2) = true then ∃ s3' s4', forF (gT 2 (gsCons (gN 3) (gsCons (gN 4) gsNil))) KC (L.map nd) [s0, s1, s2, s3, s4] = .next [s0, s1, s2, s3', s4']
      else ∃ ρ', forF (gT 2 (gsCons (gN 3) (gsCons (gN 4) gsNil))) KC (L.map nd) [s0, s1, s2, s3, s4] = .err "NotAllowed" ρ')
  | [], s0, s1, s2, s3, s4, _ => ⟨_, _, rfl⟩
  | (p, x) :: L, s0, s1, s2, s3, s4, h => by
    have hx : x.lab.length ≤ sizeLine := h (p, x) (by simp)
    have step : forF (gT 2 (gsCons (gN 3) (gsCons (gN 4) gsNil))) KC (((p, x) :: L).map nd) [s0, s1, s2, s3, s4] = match KC [s0, s1, s2, .dat (pd p), .dat x.d] with
      | .next ρ2 => forF (gT 2 (gsCons (gN 3) (gsCons (gN 4) gsNil))) KC (L.map nd) ρ2
      | .cont ρ2 => forF (gT 2 (gsCons (gN 3) (gsCons (gN 4) gsNil))) KC (L.map nd) ρ2
      | .brk ρ2 => .next ρ2
      | .ret d ρ2 => .ret d ρ2
      | .err c ρ2 => .err c ρ2
      | .bad => .bad := rfl
    rw [step, KC_step hx, List.all_cons]
    cases ho : okN x with
    | false =>
      simp only [Bool.false_eq_true, if_false, Bool.false_and]
      exact ⟨_, rfl⟩
    | true =>
      simp only [if_true, Bool.true_and]
      exact KC_loop L s0 s1 s2 _ _ fun z hz => h z (by simp [hz])
end ML
namespace ML
open PySem L2
/-- what check_document answers -/
def chk (x : Doc) : Rt := if x.size > 300 ∨ x.depth > 40 then .err "TooLarge" else if (Doc.nodes [] x).all (fun z => okN z.2) = true then .ok .none else .err "NotAllowed"
theorem check_ok (x : Doc) (hd : x.depth < 80) (hs : x.small) : F_check_document [x.d] = chk x := by
  show runF 5 1 B_check_document _ = _
  rw [runF_at (m := 1) rfl]
  have e0 : initE 5 [x.d] = [.dat x.d, .un, .un, .un, .un] := rfl
  have eb : B_check_document = seqS (asgS (callF (F_measured 80) (aCons (rdVar 0) aNil)) (gT 2 (gsCons (gN 1) (gsCons (gN 2) gsNil))))
    (seqS (ifS (orT (bin2B (dIntOp fun i j => .bool (decide (j < i))) (rdVar 1) (cst (.int 300))) (bin2B (dIntOp fun i j => .bool (decide (j < i))) (rdVar 2) (cst (.int 40)))) (.err "TooLarge") .next)
    (seqS (forS (un1 seqItems (callF F_nodes (aCons (rdVar 0) aNil))) (gT 2 (gsCons (gN 3) (gsCons (gN 4) gsNil))) KC) (retS (cst .none)))) := rfl
  have em := measured_ok 80 x hd
  rw [e0, eb]
  unfold chk
  by_cases h1 : x.size > 300
  · have d1 : decide ((300 : Int) < (x.size : Nat)) = true := by simp; omega
    rw [if_pos (.inl h1)]
    simp only [p_seqS, p_asgS, p_callF, p_aCons, p_aNil, rdVar, List.getElem?_cons_zero, List.getElem?_cons_succ, rs_bind_ok, em, p_callR_ok, rs_st_ok, p_gT2, p_gsCons, p_gN, Option.bind_some, p_gsNil, List.set_cons_succ, List.set_cons_zero, ot_seq_next, p_ifS, p_orT, p_bin2B, p_cst, p_dIntOp, rs_ofO_some, p_bool, d1, if_true, ot_seq_err, p_rte]
  · have d1 : decide ((300 : Int) < (x.size : Nat)) = false := by simp; omega
    by_cases h2 : x.depth > 40
    · have d2 : decide ((40 : Int) < (x.depth : Nat)) = true := by simp; omega
      rw [if_pos (.inr h2)]
      simp only [p_seqS, p_asgS, p_callF, p_aCons, p_aNil, rdVar, List.getElem?_cons_zero, List.getElem?_cons_succ, rs_bind_ok, em, p_callR_ok, rs_st_ok, p_gT2, p_gsCons, p_gN, Option.bind_some, p_gsNil, List.set_cons_succ, List.set_cons_zero, ot_seq_next, p_ifS, p_orT, p_bin2B, p_cst, p_dIntOp, rs_ofO_some, p_bool, d1, d2, Bool.false_eq_true, if_false, if_true, ot_seq_err, p_rte]
    · have d2 : decide ((40 : Int) < (x.depth : Nat)) = false := by simp; omega
      have en := nodes_ok x (by omega) (by omega)
      rw [if_neg (by omega)]
      simp only [p_seqS, p_asgS, p_callF, p_aCons, p_aNil, rdVar, List.getElem?_cons_zero, List.getElem?_cons_succ, rs_bind_ok, em, p_callR_ok, rs_st_ok, p_gT2, p_gsCons, p_gN, Option.bind_some, p_gsNil, List.set_cons_succ, List.set_cons_zero, ot_seq_next, p_ifS, p_orT, p_bin2B, p_cst, p_dIntOp, rs_ofO_some, p_bool, d1, d2, Bool.false_eq_true, if_false, p_forS, p_un1, en, p_seqI_l]
      have hl := KC_loop (Doc.nodes [] x) (.dat x.d) (.dat (.int (x.size : Nat))) (.dat (.int (x.depth : Nat))) .un .un hs
      split at hl
      · rename_i ha
        obtain ⟨s3, s4, e⟩ := hl
        rw [e, if_pos ha]
        rfl
      · rename_i ha
        obtain ⟨ρ', e⟩ := hl
        rw [e, if_neg ha]
        rfl
end ML
set_option maxRecDepth 100000
set_option maxHeartbeats 4000000
namespace ML
open PySem L2
theorem isNone_doc (x : Doc) : isNoneD x.d = false := by
  rw [Doc.d_kids]
  rfl
/-- what with_inner answers, the document being a good one -/
def within (x : Doc) (p : Path) (o : Doc) : Rt := match x.at? p with
  | none => .err "NotAllowed"
  | some _ => match chk o with
    | .ok _ => if (x.put p o).size > 300 ∨ (x.put p o).depth > 40 then .err "TooLarge" else .ok (x.put p o).d
    | r => r
theorem with_inner_ok (x o : Doc) (p : Path) (hc : chk x = .ok .none) (hd : x.depth < 80) (hs : x.small) (hf : x.fit) (hp : p.length ≤ 100000) (od : o.depth < 80) (os : o.small) (pd' : (x.put p o).depth < 80) : F_with_inner [x.d, pd p, o.d] = within x p o := by
  show runF 6 3 B_with_inner _ = _
  rw [runF_at (m := 3) rfl]
  have e0 : initE 6 [x.d, pd p, o.d] = [.dat x.d, .dat (pd p), .dat o.d, .un, .un, .un] := rfl
  have e1 := check_ok x hd hs
  rw [hc] at e1
  have e2 := check_ok o od os
  have e3 := known_at_ok x p
  have em := measured_ok 80 _ pd'
  rw [e0, B_with_inner]
  unfold within
  cases ha : x.at? p with
  | none =>
    rw [ha] at e3
    have en : dIs .none .none = some (.bool true) := rfl
    simp only [p_seqS, p_exprS, p_callF, p_aCons, p_aNil, rdVar, List.getElem?_cons_zero, List.getElem?_cons_succ, rs_bind_ok, e1, p_callR_ok, rs_st_ok, ot_seq_next, p_ifS, p_bin2B, e3, p_cst, en, rs_ofO_some, p_bool, if_true, ot_seq_err, p_rte]
  | some y =>
    rw [ha] at e3
    have en : dIs y.d .none = some (.bool false) := by
      show some (PyData.bool (isNoneD y.d)) = _
      rw [isNone_doc]
    have ep := known_put_ok x o p (by rw [ha]; exact nofun) hf hp
    have key : ∀ r : Rt, F_check_document [o.d] = r → (∀ d, r = .ok d → d = .none) → r ≠ .bad → F_check_document [o.d] = r := fun r h _ _ => h
    unfold chk at e2 ⊢
    by_cases h1 : o.size > 300 ∨ o.depth > 40
    · rw [if_pos h1] at e2
      rw [if_pos h1]
      simp only [p_seqS, p_exprS, p_callF, p_aCons, p_aNil, rdVar, List.getElem?_cons_zero, List.getElem?_cons_succ, rs_bind_ok, e1, p_callR_ok, rs_st_ok, ot_seq_next, p_ifS, p_bin2B, e3, p_cst, en, rs_ofO_some, p_bool, Bool.false_eq_true, if_false, e2, p_callR_err, rs_st_err, ot_seq_err, p_rte]
    · rw [if_neg h1] at e2
      rw [if_neg h1]
      by_cases h2 : (Doc.nodes [] o).all (fun z => okN z.2) = true
      · rw [if_pos h2] at e2
        rw [if_pos h2]
        dsimp only
        by_cases h3 : (x.put p o).size > 300
        · have d1 : decide ((300 : Int) < ((x.put p o).size : Nat)) = true := by simp; omega
          rw [if_pos (.inl h3)]
          simp only [p_seqS, p_exprS, p_callF, p_aCons, p_aNil, rdVar, List.getElem?_cons_zero, List.getElem?_cons_succ, rs_bind_ok, e1, p_callR_ok, rs_st_ok, ot_seq_next, p_ifS, p_bin2B, e3, p_cst, en, rs_ofO_some, p_bool, Bool.false_eq_true, if_false, e2, p_setS, ep, List.set_cons_succ, List.set_cons_zero, p_asgS, em, p_gT2, p_gsCons, p_gN, Option.bind_some, p_gsNil, p_orT, p_dIntOp, d1, if_true, ot_seq_err, p_rte]
        · have d1 : decide ((300 : Int) < ((x.put p o).size : Nat)) = false := by simp; omega
          by_cases h4 : (x.put p o).depth > 40
          · have d2 : decide ((40 : Int) < ((x.put p o).depth : Nat)) = true := by simp; omega
            rw [if_pos (.inr h4)]
            simp only [p_seqS, p_exprS, p_callF, p_aCons, p_aNil, rdVar, List.getElem?_cons_zero, List.getElem?_cons_succ, rs_bind_ok, e1, p_callR_ok, rs_st_ok, ot_seq_next, p_ifS, p_bin2B, e3, p_cst, en, rs_ofO_some, p_bool, Bool.false_eq_true, if_false, e2, p_setS, ep, List.set_cons_succ, List.set_cons_zero, p_asgS, em, p_gT2, p_gsCons, p_gN, Option.bind_some, p_gsNil, p_orT, p_dIntOp, d1, d2, if_true, ot_seq_err, p_rte]
          · have d2 : decide ((40 : Int) < ((x.put p o).depth : Nat)) = false := by simp; omega
            rw [if_neg (by omega)]
            simp only [p_seqS, p_exprS, p_callF, p_aCons, p_aNil, rdVar, List.getElem?_cons_zero, List.getElem?_cons_succ, rs_bind_ok, e1, p_callR_ok, rs_st_ok, ot_seq_next, p_ifS, p_bin2B, e3, p_cst, en, rs_ofO_some, p_bool, Bool.false_eq_true, if_false, e2, p_setS, ep, List.set_cons_succ, List.set_cons_zero, p_asgS, em, p_gT2, p_gsCons, p_gN, Option.bind_some, p_gsNil, p_orT, p_dIntOp, d1, d2, p_retS, p_rtr]
      · rw [if_neg h2] at e2
        rw [if_neg h2]
        simp only [p_seqS, p_exprS, p_callF, p_aCons, p_aNil, rdVar, List.getElem?_cons_zero, List.getElem?_cons_succ, rs_bind_ok, e1, p_callR_ok, rs_st_ok, ot_seq_next, p_ifS, p_bin2B, e3, p_cst, en, rs_ofO_some, p_bool, Bool.false_eq_true, if_false, e2, p_callR_err, rs_st_err, ot_seq_err, p_rte]
end ML
set_option maxRecDepth 100000
set_option maxHeartbeats 4000000
/-! what it costs to lead from one document to another -/
namespace ML
open PySem L2
namespace Doc
mutual
def cost : Doc → Doc → Nat
  | node l cs, y => if cs.length ≠ y.kids.length then (1 + sizes cs) + y.size else min ((1 + sizes cs) + y.size) ((if l ≠ y.lab then 1 else 0) + costs cs y.kids)
def costs : List Doc → List Doc → Nat
  | [], _ => 0
  | _ :: _, [] => 0
  | c :: cs, e :: es => cost c e + costs cs es
end
def inner (x y : Doc) : Nat := (if x.lab ≠ y.lab then 1 else 0) + costs x.kids y.kids
theorem cost_eq (x y : Doc) : x.cost y = if x.kids.length ≠ y.kids.length then x.size + y.size else min (x.size + y.size) (x.inner y) := by
  cases x
  rw [cost, size]
  rfl
theorem costs_sum : ∀ (cs es : List Doc), ((cs.zip es).map fun z => ((z.1.cost z.2 : Nat) : Int)).sum = (costs cs es : Nat)
  | [], _ => by simp [costs]
  | _ :: _, [] => by simp [costs]
  | c :: cs, e :: es => by
    rw [List.zip_cons_cons, List.map_cons, List.sum_cons, costs_sum cs es, costs]
    dsimp only
    omega
theorem depth_kids (x : Doc) : x.depth = depths x.kids := by
  cases x
  rfl
end Doc
theorem tail_d (x : Doc) : dSl x.d (some 1) none = some (.tuple (x.kids.map Doc.d)) := by
  rw [Doc.d_kids]
  show some (PyData.tuple (cutD _ _ _)) = _
  rw [cut1]
theorem zip_kids (xs ys : List Doc) : List.zipWith (fun a b => PyData.tuple [a, b]) (xs.map Doc.d) (ys.map Doc.d) = (xs.zip ys).map fun z => PyData.tuple [z.1.d, z.2.d] := by
  induction xs generalizing ys with
  | nil => rfl
  | cons a xs ih =>
    cases ys with
    | nil => rfl
    | cons b ys => simp [ih]
theorem cost_ok (n : Nat) : ∀ x y : Doc, x.depth < n → x.depth < 80 → y.depth < 80 → x.fit → y.fit →
    F_inner_cost (2 * n) [x.d, y.d] = .ok (.int (x.inner y : Nat)) ∧ F_cost_between (2 * n + 1) [x.d, y.d] = .ok (.int (x.cost y : Nat)) := by
  induction n with
  | zero => exact fun x y h => absurd h (by omega)
  | succ n ih =>
    intro x y hn hx hy fx fy
    have fkx := Doc.fit_kids (l := x.lab) (cs := x.kids) (by cases x; exact fx)
    have fky := Doc.fit_kids (l := y.lab) (cs := y.kids) (by cases y; exact fy)
    have hb := big
    have hxk := x.depth_kids
    have hyk := y.depth_kids
    have hin : F_inner_cost (2 * (n + 1)) [x.d, y.d] = .ok (.int (x.inner y : Nat)) := by
      rw [show 2 * (n + 1) = (2 * n + 1) + 1 by omega]
      show (F_inner_cost_cost_between (2 * n + 1 + 1)).1 [x.d, y.d] = _
      rw [F_inner_cost_cost_between]
      dsimp only
      rw [runF_at (m := 2) rfl]
      have e0 : initE 5 [x.d, y.d] = [.dat x.d, .dat y.d, .un, .un, .un] := rfl
      have hc := lcAll_mapC (t := gT 2 (gsCons (gN 3) (gsCons (gN 4) gsNil))) (e := callF (F_inner_cost_cost_between (2 * n + 1)).2 (aCons (rdVar 3) (aCons (rdVar 4) aNil))) (vs := [3, 4]) (ρ := [.dat x.d, .dat y.d, .un, .un, .un]) (ρ0 := [.dat x.d, .dat y.d, .un, .un, .un])
        (f0 := argI zipD (aCons (slc (rdVar 0) (oYes (cst (.int 1))) oNo) (aCons (slc (rdVar 1) (oYes (cst (.int 1))) oNo) aNil))) (x.kids.zip y.kids) (fun z => PyData.tuple [z.1.d, z.2.d]) (fun z => .int (z.1.cost z.2 : Nat))
        (by simp only [p_argI, p_aCons, p_aNil, p_slc, rdVar, List.getElem?_cons_zero, List.getElem?_cons_succ, rs_bind_ok, p_oYes, p_oNo, p_cst, p_intOf, rs_ofO_some, tail_d, zipD, zip_kids]) rfl (by simp; omega) (fun z hz => by
          obtain ⟨hz1, hz2⟩ := List.of_mem_zip hz
          have d1 := Doc.depth_mem hz1
          have d2 := Doc.depth_mem hz2
          have := (ih z.1 z.2 (by omega) (by omega) (by omega) (fkx.2 _ hz1) (fky.2 _ hz2)).2
          have this : (F_inner_cost_cost_between (2 * n + 1)).2 [z.1.d, z.2.d] = _ := this
          refine ⟨_, [.dat x.d, .dat y.d, .un, .dat z.1.d, .dat z.2.d], rfl, ?_, rfl⟩
          simp only [p_callF, p_aCons, p_aNil, rdVar, List.getElem?_cons_zero, List.getElem?_cons_succ, rs_bind_ok, this, p_callR_ok, List.set_cons_succ, List.set_cons_zero])
      have hs : intsOf ((x.kids.zip y.kids).map fun z => PyData.int ((z.1.cost z.2 : Nat) : Int)) = some ((x.kids.zip y.kids).map fun z => ((z.1.cost z.2 : Nat) : Int)) := by
        have := intsOf_map ((x.kids.zip y.kids).map fun z => ((z.1.cost z.2 : Nat) : Int))
        rw [List.map_map] at this
        exact this
      have hne : dNe (.str x.lab) (.str y.lab) = some (.bool (!decide (x.lab = y.lab))) := rfl
      have hi1 : dInt1 [.bool (!decide (x.lab = y.lab))] = some (.int ((if x.lab ≠ y.lab then 1 else 0 : Nat) : Int)) := by
        by_cases h : x.lab = y.lab
        · simp [dInt1, h]
        · simp [dInt1, h]
      rw [e0, B_inner_cost]
      simp only [p_seqS, p_setNS, hc, rs_st_ok, List.set_cons_succ, List.set_cons_zero, ot_seq_next, p_retS, p_bin2, p_callB, p_aCons, p_aNil, rdVar, List.getElem?_cons_zero, List.getElem?_cons_succ, rs_bind_ok, p_cst, ix_lab, rs_ofO_some, hne, hi1, dSum, hs, Option.map_some, Doc.costs_sum, p_add, p_rtr, Doc.inner]
      congr 2
    refine ⟨hin, ?_⟩
    have hin : (F_inner_cost_cost_between (2 * (n + 1))).1 [x.d, y.d] = _ := hin
    show (F_inner_cost_cost_between (2 * (n + 1) + 1)).2 [x.d, y.d] = _
    rw [F_inner_cost_cost_between]
    dsimp only
    rw [runF_at (m := 2) rfl]
    have e0 : initE 3 [x.d, y.d] = [.dat x.d, .dat y.d, .un] := rfl
    have m1 := measured_ok 80 x hx
    have m2 := measured_ok 80 y hy
    have i0 : ∀ a b : PyData, dIx (.tuple [a, b]) (.int 0) = some a := fun a b => atI_0
    have hne : dNe (.int ((x.kids.length : Int) + 1)) (.int ((y.kids.length : Int) + 1)) = some (.bool (!decide ((x.kids.length : Int) + 1 = (y.kids.length : Int) + 1))) := rfl
    rw [e0, B_cost_between, Doc.cost_eq]
    by_cases hl : x.kids.length = y.kids.length
    · have hd : (!decide ((x.kids.length : Int) + 1 = (y.kids.length : Int) + 1)) = false := by simp; omega
      have hm : dMin2 [.int ((x.size : Int) + (y.size : Int)), .int (x.inner y : Nat)] = some (.int ((min (x.size + y.size) (x.inner y) : Nat) : Int)) := by
        unfold dMin2
        simp only [Option.some.injEq, PyData.int.injEq]
        split <;> omega
      rw [if_neg (by omega)]
      simp only [p_seqS, p_setS, p_bin2, p_callF, p_aCons, p_aNil, rdVar, List.getElem?_cons_zero, List.getElem?_cons_succ, rs_bind_ok, m1, m2, p_callR_ok, p_cst, i0, rs_ofO_some, p_add, rs_st_ok, List.set_cons_succ, List.set_cons_zero, ot_seq_next, p_retS, p_ifT, p_bin2B, p_callB, len_d, hne, p_bool, hd, Bool.false_eq_true, if_false, hin, hm, p_rtr]
    · have hd : (!decide ((x.kids.length : Int) + 1 = (y.kids.length : Int) + 1)) = true := by simp; omega
      rw [if_pos hl]
      simp only [p_seqS, p_setS, p_bin2, p_callF, p_aCons, p_aNil, rdVar, List.getElem?_cons_zero, List.getElem?_cons_succ, rs_bind_ok, m1, m2, p_callR_ok, p_cst, i0, rs_ofO_some, p_add, rs_st_ok, List.set_cons_succ, List.set_cons_zero, ot_seq_next, p_retS, p_ifT, p_bin2B, p_callB, len_d, hne, p_bool, hd, if_true, p_rtr]
      congr 2
end ML
set_option maxRecDepth 100000
set_option maxHeartbeats 4000000
namespace ML
open PySem L2
def LA : En → Ot := setS 0 (bin2 dIx (rdVar 0) (bin2 dAdd (rdVar 2) (cst (.int 1))))
theorem LA_loop : ∀ (p : Path) (x y : Doc) (s1 s2 : Sl), x.at? p = some y → ∃ s2', forF (gN 2) LA (p.map .int) [.dat x.d, s1, s2] = .next [.dat y.d, s1, s2']
  | [], x, y, s1, s2, h => by
    cases h
    exact ⟨s2, rfl⟩
  | i :: p, x, y, s1, s2, h => by
    unfold Doc.at? at h
    cases hk : x.kid i with
    | none => rw [hk] at h; cases h
    | some z =>
      rw [hk, Option.bind_some] at h
      have ex := ix_kidI hk
      have one : LA [.dat x.d, s1, .dat (.int i)] = .next [.dat z.d, s1, .dat (.int i)] := by
        unfold LA
        simp only [p_setS, p_bin2, rdVar, List.getElem?_cons_zero, List.getElem?_cons_succ, rs_bind_ok, p_cst, p_add, rs_ofO_some, ex, rs_st_ok, List.set_cons_zero]
      obtain ⟨s2', e⟩ := LA_loop p z y s1 (.dat (.int i)) h
      refine ⟨s2', ?_⟩
      have step : forF (gN 2) LA ((i :: p).map .int) [.dat x.d, s1, s2] = match LA [.dat x.d, s1, .dat (.int i)] with
        | .next ρ2 => forF (gN 2) LA (p.map .int) ρ2
        | .cont ρ2 => forF (gN 2) LA (p.map .int) ρ2
        | .brk ρ2 => .next ρ2
        | .ret d ρ2 => .ret d ρ2
        | .err c ρ2 => .err c ρ2
        | .bad => .bad := rfl
      rw [step, one]
      exact e
theorem law_at_ok {x y : Doc} {p : Path} (h : x.at? p = some y) : F__law_at [x.d, pd p] = .ok y.d := by
  show runF 3 2 B__law_at _ = _
  rw [runF_at (m := 2) rfl]
  have e0 : initE 3 [x.d, pd p] = [.dat x.d, .dat (pd p), .un] := rfl
  have eb : B__law_at = seqS (forS (un1 seqItems (rdVar 1)) (gN 2) LA) (retS (rdVar 0)) := rfl
  have es : seqItems (pd p) = some (p.map .int) := rfl
  obtain ⟨s2', e⟩ := LA_loop p x y (.dat (pd p)) .un h
  rw [e0, eb]
  simp only [p_seqS, p_forS, p_un1, rdVar, List.getElem?_cons_zero, List.getElem?_cons_succ, rs_bind_ok, es, rs_ofO_some, rs_st_ok, e, ot_seq_next, p_retS, p_rtr]
end ML
set_option maxRecDepth 100000
set_option maxHeartbeats 4000000
/-! the law's own cost -/
namespace ML
open PySem L2
theorem rng2_nat {m : Nat} (h : m + 1 ≤ 100000000) : rng2 [.int 1, .int ((m : Int) + 1)] = some ((List.range m).map fun (k : Nat) => PyData.int (1 + (k : Int))) := by
  have h0 : inR 1 = true := inR_nat (k := 1) (by omega)
  have h1 : inR ((m : Int) + 1) = true := inR_nat (k := m + 1) h
  unfold rng2
  simp only [h0, h1, true_and, if_true, dInts, List.map_map]
  rw [show ((m : Int) + 1 - 1).toNat = m by omega]
  rfl
theorem Doc.costs_take {xs ys : List Doc} : ∀ {i : Nat} {c e : Doc}, xs[i]? = some c → ys[i]? = some e → Doc.costs (xs.take (i + 1)) (ys.take (i + 1)) = Doc.costs (xs.take i) (ys.take i) + c.cost e := by
  induction xs generalizing ys with
  | nil => intro i c e h; simp at h
  | cons a xs ih =>
    intro i c e h1 h2
    cases ys with
    | nil => simp at h2
    | cons b ys =>
      cases i with
      | zero =>
        simp at h1 h2
        subst h1 h2
        simp [Doc.costs]
      | succ i =>
        have := ih (ys := ys) (i := i) (by simpa using h1) (by simpa using h2)
        simp only [List.take_succ_cons, Doc.costs, this]
        omega
def LC (n : Nat) : En → Ot := setS 3 (bin2 dAdd (rdVar 3) (callF (F__law_cost n) (aCons (bin2 dIx (rdVar 0) (rdVar 4)) (aCons (bin2 dIx (rdVar 1) (rdVar 4)) aNil))))
theorem law_cost_ok (n : Nat) : ∀ x y : Doc, x.depth < n → x.depth < 80 → y.depth < 80 → x.fit → y.fit → F__law_cost n [x.d, y.d] = .ok (.int (x.cost y : Nat)) := by
  induction n with
  | zero => exact fun x y h => absurd h (by omega)
  | succ n ih =>
    intro x y hn hx hy fx fy
    have fkx := Doc.fit_kids (l := x.lab) (cs := x.kids) (by cases x; exact fx)
    have fky := Doc.fit_kids (l := y.lab) (cs := y.kids) (by cases y; exact fy)
    have hxk := x.depth_kids
    have hyk := y.depth_kids
    rw [F__law_cost, runF_at (m := 2) rfl]
    have e0 : initE 5 [x.d, y.d] = [.dat x.d, .dat y.d, .un, .un, .un] := rfl
    have m1 := law_size_ok 80 x hx fx
    have m2 := law_size_ok 80 y hy fy
    have hne : dNe (.int ((x.kids.length : Int) + 1)) (.int ((y.kids.length : Int) + 1)) = some (.bool (!decide ((x.kids.length : Int) + 1 = (y.kids.length : Int) + 1))) := rfl
    have hnl : dNe (.str x.lab) (.str y.lab) = some (.bool (!decide (x.lab = y.lab))) := rfl
    have hi1 : dInt1 [.bool (!decide (x.lab = y.lab))] = some (.int ((if x.lab ≠ y.lab then 1 else 0 : Nat) : Int)) := by
      by_cases h : x.lab = y.lab
      · simp [dInt1, h]
      · simp [dInt1, h]
    have eb : B__law_cost (F__law_cost n) = seqS (setS 2 (bin2 dAdd (callF (F__law_size 80) (aCons (rdVar 0) aNil)) (callF (F__law_size 80) (aCons (rdVar 1) aNil))))
      (seqS (ifS (bin2B dNe (callB dLen (aCons (rdVar 0) aNil)) (callB dLen (aCons (rdVar 1) aNil))) (retS (rdVar 2)) .next)
      (seqS (setS 3 (callB dInt1 (aCons (bin2 dNe (bin2 dIx (rdVar 0) (cst (.int 0))) (bin2 dIx (rdVar 1) (cst (.int 0)))) aNil)))
      (seqS (forS (argI rng2 (aCons (cst (.int 1)) (aCons (callB dLen (aCons (rdVar 0) aNil)) aNil))) (gN 4) (LC n))
      (retS (callB dMin2 (aCons (rdVar 2) (aCons (rdVar 3) aNil))))))) := rfl
    rw [e0, eb, Doc.cost_eq]
    by_cases hl : x.kids.length = y.kids.length
    · have hd : (!decide ((x.kids.length : Int) + 1 = (y.kids.length : Int) + 1)) = false := by simp; omega
      have hm : dMin2 [.int ((x.size : Int) + (y.size : Int)), .int (x.inner y : Nat)] = some (.int ((min (x.size + y.size) (x.inner y) : Nat) : Int)) := by
        unfold dMin2
        simp only [Option.some.injEq, PyData.int.injEq]
        split <;> omega
      have ef : ∀ s2 s3 s4, argI rng2 (aCons (cst (.int 1)) (aCons (callB dLen (aCons (rdVar 0) aNil)) aNil)) [.dat x.d, .dat y.d, s2, s3, s4] = .ok ((List.range x.kids.length).map fun (k : Nat) => PyData.int (1 + (k : Int))) [.dat x.d, .dat y.d, s2, s3, s4] := by
        intro s2 s3 s4
        have a1 : (aCons (cst (.int 1)) (aCons (callB dLen (aCons (rdVar 0) aNil)) aNil)) [.dat x.d, .dat y.d, s2, s3, s4] = .ok [.int 1, .int ((x.kids.length : Int) + 1)] [.dat x.d, .dat y.d, s2, s3, s4] := by
          simp only [p_aCons, p_callB, p_aNil, rdVar, List.getElem?_cons_zero, rs_bind_ok, len_d, rs_ofO_some, p_cst]
        rw [p_argI, a1, rs_bind_ok, rng2_nat (by omega)]
        rfl
      obtain ⟨ρ', e, s4, rfl⟩ := forF_inv (t := gN 4) (body := LC n) (fun i ρ => ∃ s4, ρ = [.dat x.d, .dat y.d, .dat (.int ((x.size : Int) + (y.size : Int))), .dat (.int (((if x.lab ≠ y.lab then 1 else 0) + Doc.costs (x.kids.take i) (y.kids.take i) : Nat) : Int)), s4])
        ((List.range x.kids.length).map fun (k : Nat) => PyData.int (1 + (k : Int))) 0 [.dat x.d, .dat y.d, .dat (.int ((x.size : Int) + (y.size : Int))), .dat (.int ((if x.lab ≠ y.lab then 1 else 0 : Nat) : Int)), .un] ⟨.un, by simp [Doc.costs]⟩ (by
          rintro i d ρ hd ⟨s4, rfl⟩
          have hi : i < x.kids.length := by
            have := (List.getElem?_eq_some_iff.mp hd).1
            simpa using this
          rw [List.getElem?_map, List.getElem?_range hi] at hd
          cases hd
          rw [Nat.zero_add]
          have hi' : i < y.kids.length := by omega
          have c1 := List.getElem?_eq_getElem hi
          have c2 := List.getElem?_eq_getElem hi'
          have k1 : x.kids[i] ∈ x.kids := List.getElem_mem hi
          have k2 : y.kids[i] ∈ y.kids := List.getElem_mem hi'
          have d1 := Doc.depth_mem k1
          have d2 := Doc.depth_mem k2
          have hc := ih x.kids[i] y.kids[i] (by omega) (by omega) (by omega) (fkx.2 _ k1) (fky.2 _ k2)
          have ex1 : dIx x.d (.int (1 + (i : Int))) = some x.kids[i].d := by
            rw [Doc.d_kids, Int.add_comm]
            exact ix_kid c1
          have ex2 : dIx y.d (.int (1 + (i : Int))) = some y.kids[i].d := by
            rw [Doc.d_kids, Int.add_comm]
            exact ix_kid c2
          refine ⟨_, _, rfl, .inl ?_, .dat (.int (1 + (i : Int))), rfl⟩
          unfold LC
          simp only [p_setS, p_bin2, p_callF, p_aCons, p_aNil, rdVar, List.set_cons_succ, List.set_cons_zero, List.getElem?_cons_zero, List.getElem?_cons_succ, rs_bind_ok, ex1, ex2, rs_ofO_some, hc, p_callR_ok, p_add, rs_st_ok, Doc.costs_take c1 c2]
          have es : ∀ a b c : Nat, ((a + b : Nat) : Int) + (c : Nat) = ((a + (b + c) : Nat) : Int) := by omega
          rw [es])
      have ek : Doc.costs (x.kids.take (0 + ((List.range x.kids.length).map fun (k : Nat) => PyData.int (1 + (k : Int))).length)) (y.kids.take (0 + ((List.range x.kids.length).map fun (k : Nat) => PyData.int (1 + (k : Int))).length)) = Doc.costs x.kids y.kids := by
        rw [List.take_of_length_le (by simp), List.take_of_length_le (by simp; omega)]
      rw [ek] at e
      have e : _ = Ot.next [.dat x.d, .dat y.d, .dat (.int ((x.size : Int) + (y.size : Int))), .dat (.int (x.inner y : Nat)), s4] := e
      rw [if_neg (by omega)]
      simp only [p_seqS, p_setS, p_bin2, p_callF, p_aCons, p_aNil, rdVar, List.getElem?_cons_zero, List.getElem?_cons_succ, rs_bind_ok, m1, m2, p_callR_ok, p_cst, rs_ofO_some, p_add, rs_st_ok, List.set_cons_succ, List.set_cons_zero, ot_seq_next, p_ifS, p_bin2B, p_callB, len_d, hne, p_bool, hd, Bool.false_eq_true, if_false, ix_lab, hnl, hi1, p_forS, ef, e, p_retS, hm, p_rtr]
    · have hd : (!decide ((x.kids.length : Int) + 1 = (y.kids.length : Int) + 1)) = true := by simp; omega
      rw [if_pos hl]
      simp only [p_seqS, p_setS, p_bin2, p_callF, p_aCons, p_aNil, rdVar, List.getElem?_cons_zero, List.getElem?_cons_succ, rs_bind_ok, m1, m2, p_callR_ok, p_cst, rs_ofO_some, p_add, rs_st_ok, List.set_cons_succ, List.set_cons_zero, ot_seq_next, p_ifS, p_bin2B, p_callB, len_d, hne, p_bool, hd, if_true, p_retS, ot_seq_ret, p_rtr]
      congr 2
end ML
set_option maxRecDepth 100000
set_option maxHeartbeats 4000000
/-! the changes -/
namespace ML
open PySem L2
inductive Told where
  | lab (s : Str)
  | doc (x : Doc)
def Told.d : Told → PyData
  | lab s => .str s
  | doc x => x.d
abbrev Row := Path × Told
abbrev rd (r : Row) : PyData := .tuple [pd r.1, r.2.d]
namespace Doc
mutual
def chg (p : Path) : Doc → Doc → List Row
  | node l cs, y => if cs.length ≠ y.kids.length then [(p, .doc y)] else if (node l cs).inner y > (1 + sizes cs) + y.size then [(p, .doc y)] else (if l = y.lab then [] else [(p, .lab y.lab)]) ++ chgs p 0 cs y.kids
def chgs (p : Path) (k : Nat) : List Doc → List Doc → List Row
  | [], _ => []
  | _ :: _, [] => []
  | c :: cs, e :: es => chg (p ++ [(k : Int)]) c e ++ chgs p (k + 1) cs es
end
theorem chg_eq (p : Path) (x y : Doc) : chg p x y = if x.kids.length ≠ y.kids.length then [(p, .doc y)] else if x.inner y > x.size + y.size then [(p, .doc y)] else (if x.lab = y.lab then [] else [(p, .lab y.lab)]) ++ chgs p 0 x.kids y.kids := by
  cases x
  rw [chg]
  rfl
theorem chgs_snoc {p : Path} : ∀ {xs ys : List Doc} {i k : Nat} {c e : Doc}, xs[i]? = some c → ys[i]? = some e → chgs p k (xs.take (i + 1)) (ys.take (i + 1)) = chgs p k (xs.take i) (ys.take i) ++ chg (p ++ [((k + i : Nat) : Int)]) c e
  | [], _, i, k, c, e, h, _ => by simp at h
  | _ :: _, [], i, k, c, e, _, h => by simp at h
  | a :: xs, b :: ys, 0, k, c, e, h1, h2 => by
    simp at h1 h2
    subst h1 h2
    simp [chgs]
  | a :: xs, b :: ys, i + 1, k, c, e, h1, h2 => by
    simp only [List.take_succ_cons, chgs]
    rw [chgs_snoc (i := i) (k := k + 1) (by simpa using h1) (by simpa using h2), List.append_assoc, show k + 1 + i = k + (i + 1) by omega]
end Doc
end ML
set_option maxRecDepth 100000
set_option maxHeartbeats 4000000
namespace ML
open PySem L2
namespace Doc
theorem chg_len (x : Doc) : ∀ p y, (chg p x y).length ≤ x.size := by
  refine ind (P := fun x => ∀ p y, (chg p x y).length ≤ x.size) (fun l cs ih p y => ?_) x
  have key : ∀ (es : List Doc) (k : Nat), (chgs p k cs es).length ≤ sizes cs := by
    clear y
    induction cs with
    | nil => intro es k; simp [chgs]
    | cons c cs h2 =>
      intro es k
      cases es with
      | nil => simp [chgs]
      | cons e es =>
        rw [chgs, sizes, List.length_append]
        have := ih c (by simp) (p ++ [(k : Int)]) e
        have := h2 (fun c hc => ih c (by simp [hc])) es (k + 1)
        omega
  rw [chg, size]
  have := key y.kids 0
  split
  · simp
  · split
    · simp
    · rw [List.length_append]
      split <;> simp <;> omega
theorem chgs_len {p : Path} {k : Nat} : ∀ {cs es : List Doc}, (chgs p k cs es).length ≤ sizes cs
  | [], _ => by simp [chgs]
  | _ :: _, [] => by simp [chgs]
  | c :: cs, e :: es => by
    rw [chgs, sizes, List.length_append]
    have := chg_len c (p ++ [(k : Int)]) e
    have := chgs_len (p := p) (k := k + 1) (cs := cs) (es := es)
    omega
end Doc
def CL (n : Nat) : En → Ot := exprS (methF 3 gExtend (aCons (callF (F_changes_of n) (aCons (rdVar 5) (aCons (rdVar 6) (aCons (tup (aStar (rdVar 2) (aCons (rdVar 4) aNil))) aNil)))) aNil))
theorem CL_loop (n : Nat) (x y : Doc) (p : Path) (L : List Row) (s0 s1 s4 s5 s6 : Sl) (hl : x.kids.length = y.kids.length) (hp : p.length + 1 ≤ 50000) (hL : L.length ≤ 1) (hz : Doc.sizes x.kids ≤ 99990)
    (ih : ∀ c ∈ x.kids, ∀ e ∈ y.kids, ∀ i : Nat, F_changes_of n [c.d, e.d, pd (p ++ [(i : Int)])] = .ok (.list ((Doc.chg (p ++ [(i : Int)]) c e).map rd))) :
    ∃ s4' s5' s6', forF (gT 2 (gsCons (gN 4) (gsCons (gT 2 (gsCons (gN 5) (gsCons (gN 6) gsNil))) gsNil))) (CL n) ((List.zipWith (fun x y => PyData.tuple [x, y]) (x.kids.map Doc.d) (y.kids.map Doc.d)).zipIdx.map fun z => PyData.tuple [.int z.2, z.1])
      [s0, s1, .dat (pd p), .own (L.map rd), s4, s5, s6] = .next [s0, s1, .dat (pd p), .own ((L ++ Doc.chgs p 0 x.kids y.kids).map rd), s4', s5', s6'] := by
  have hb := big
  obtain ⟨ρ', e, s4', s5', s6', rfl⟩ := forF_inv (t := gT 2 (gsCons (gN 4) (gsCons (gT 2 (gsCons (gN 5) (gsCons (gN 6) gsNil))) gsNil))) (body := CL n)
    (fun i ρ => ∃ s4 s5 s6, ρ = [s0, s1, .dat (pd p), .own ((L ++ Doc.chgs p 0 (x.kids.take i) (y.kids.take i)).map rd), s4, s5, s6])
    ((List.zipWith (fun x y => PyData.tuple [x, y]) (x.kids.map Doc.d) (y.kids.map Doc.d)).zipIdx.map fun z => PyData.tuple [.int z.2, z.1]) 0 [s0, s1, .dat (pd p), .own (L.map rd), s4, s5, s6] ⟨s4, s5, s6, by simp [Doc.chgs]⟩ (by
      rintro i d ρ hd ⟨t4, t5, t6, rfl⟩
      obtain ⟨a, b, e1, e2, rfl⟩ := enumZ_get hd
      rw [List.getElem?_map] at e1 e2
      obtain ⟨c, c1, rfl⟩ := Option.map_eq_some_iff.mp e1
      obtain ⟨f, c2, rfl⟩ := Option.map_eq_some_iff.mp e2
      have k1 : c ∈ x.kids := List.mem_of_getElem? c1
      have k2 : f ∈ y.kids := List.mem_of_getElem? c2
      have hc := ih c k1 f k2 i
      rw [Nat.zero_add]
      have es : itemsOf (pd p) = some (p.map .int) := rfl
      have em : ∀ ρ, mkTup (p.map .int ++ [.int (i : Nat)]) ρ = .ok (pd (p ++ [(i : Int)])) ρ := by
        intro ρ
        rw [p_mkTup, if_pos (by simp; omega)]
        simp [pd]
      have h1 := Doc.chgs_len (p := p) (k := 0) (cs := x.kids.take (i + 1)) (es := y.kids.take (i + 1))
      have h2 := Doc.sizes_take_le (cs := x.kids) (i + 1)
      have es2 := Doc.chgs_snoc (p := p) (k := 0) c1 c2
      rw [Nat.zero_add] at es2
      rw [es2, List.length_append] at h1
      have hg : gExtend ((L ++ Doc.chgs p 0 (x.kids.take i) (y.kids.take i)).map rd) [.list ((Doc.chg (p ++ [(i : Int)]) c f).map rd)] = some (.none, (L ++ Doc.chgs p 0 (x.kids.take (i + 1)) (y.kids.take (i + 1))).map rd) := by
        show (if _ then _ else _) = _
        rw [if_pos (by simp only [List.length_map, List.length_append]; omega), es2]
        simp
      refine ⟨[s0, s1, .dat (pd p), .own ((L ++ Doc.chgs p 0 (x.kids.take i) (y.kids.take i)).map rd), .dat (.int (i : Nat)), .dat c.d, .dat f.d], _, rfl, .inl ?_, .dat (.int (i : Nat)), .dat c.d, .dat f.d, rfl⟩
      unfold CL
      simp only [p_exprS, methF, List.getElem?_cons_zero, List.getElem?_cons_succ, Option.bind_some, owOf, rs_ofO_some, rs_bind_ok, p_aCons, p_aNil, p_callF, p_tup, p_aStar, rdVar, es, em, hc, p_callR_ok, hg, setOw, rs_st_ok, List.set_cons_succ, List.set_cons_zero])
  refine ⟨s4', s5', s6', ?_⟩
  rw [e]
  rw [List.take_of_length_le (by simp; omega), List.take_of_length_le (by simp; omega)]
end ML
set_option maxRecDepth 100000
set_option maxHeartbeats 4000000
namespace ML
open PySem L2
theorem changes_of_ok (n : Nat) : ∀ (x y : Doc) (p : Path), x.depth < n → x.depth < 25 → y.depth < 80 → x.size ≤ 90000 → y.size ≤ 90000 → p.length + x.depth + 1 ≤ 50000 → F_changes_of n [x.d, y.d, pd p] = .ok (.list ((Doc.chg p x y).map rd)) := by
  induction n with
  | zero => exact fun x y p h => absurd h (by omega)
  | succ n ih =>
    intro x y p hn hx hy fx fy hp
    have zx : x.size = 1 + Doc.sizes x.kids := by cases x; rw [Doc.size]; rfl
    have zy : y.size = 1 + Doc.sizes y.kids := by cases y; rw [Doc.size]; rfl
    have hxk := x.depth_kids
    have hyk := y.depth_kids
    have hf1 : x.fit := by unfold Doc.fit; omega
    have hf2 : y.fit := by unfold Doc.fit; omega
    have m1 := measured_ok 80 x (by omega)
    have m2 := measured_ok 80 y hy
    have mc : F_inner_cost 50 [x.d, y.d] = _ := (cost_ok 25 x y hx (by omega) hy hf1 hf2).1
    have i0 : ∀ a b : PyData, dIx (.tuple [a, b]) (.int 0) = some a := fun a b => atI_0
    have hne : dNe (.int ((x.kids.length : Int) + 1)) (.int ((y.kids.length : Int) + 1)) = some (.bool (!decide ((x.kids.length : Int) + 1 = (y.kids.length : Int) + 1))) := rfl
    have heq : dEq (.str x.lab) (.str y.lab) = some (.bool (decide (x.lab = y.lab))) := rfl
    rw [F_changes_of, runF_at (m := 3) rfl]
    have e0 : initE 7 [x.d, y.d, pd p] = [.dat x.d, .dat y.d, .dat (pd p), .un, .un, .un, .un] := rfl
    rw [e0, B_changes_of, Doc.chg_eq]
    by_cases hl : x.kids.length = y.kids.length
    · have hd : (!decide ((x.kids.length : Int) + 1 = (y.kids.length : Int) + 1)) = false := by simp; omega
      rw [if_neg (by omega)]
      by_cases hi : x.inner y > x.size + y.size
      · have hd2 : decide ((x.size : Int) + (y.size : Int) < (x.inner y : Nat)) = true := by simp; omega
        rw [if_pos hi]
        simp only [p_seqS, p_ifS, p_bin2B, p_callB, p_callF, p_aCons, p_aNil, rdVar, List.getElem?_cons_zero, List.getElem?_cons_succ, rs_bind_ok, len_d, rs_ofO_some, hne, p_bool, hd, rs_st_ok, Bool.false_eq_true, if_false, ot_seq_next, mc, p_callR_ok, p_bin2, m1, m2, i0, p_cst, p_add, p_dIntOp, hd2, if_true, p_retS, p_newL, p_lst, p_tup, mk2, okS1, rs_map_ok, ot_seq_ret, p_rtr]
        rfl
      · have hd2 : decide ((x.size : Int) + (y.size : Int) < (x.inner y : Nat)) = false := by simp; omega
        rw [if_neg hi]
        have kx : ∀ c ∈ x.kids, c.depth + 1 ≤ x.depth ∧ c.size ≤ Doc.sizes x.kids := fun c hc => ⟨by have := Doc.depth_mem hc; omega, Doc.sizes_mem hc⟩
        have ky : ∀ c ∈ y.kids, c.depth + 1 ≤ y.depth ∧ c.size ≤ Doc.sizes y.kids := fun c hc => ⟨by have := Doc.depth_mem hc; omega, Doc.sizes_mem hc⟩
        have lp := CL_loop n x y p (if x.lab = y.lab then [] else [(p, .lab y.lab)]) (.dat x.d) (.dat y.d) .un .un .un hl (by omega) (by split <;> simp) (by omega) (fun c hc e he i => by
          have h1 := kx c hc
          have h2 := ky e he
          exact ih c e (p ++ [(i : Int)]) (by omega) (by omega) (by omega) (by omega) (by omega) (by rw [List.length_append, List.length_singleton]; omega))
        obtain ⟨s4', s5', s6', e⟩ := lp
        have tx := tail_d x
        have ty := tail_d y
        by_cases hlab : x.lab = y.lab
        · rw [if_pos hlab] at e ⊢
          have hdl : decide (x.lab = y.lab) = true := by simpa using hlab
          have e : forF (gT 2 (gsCons (gN 4) (gsCons (gT 2 (gsCons (gN 5) (gsCons (gN 6) gsNil))) gsNil))) (exprS (methF 3 gExtend (aCons (callF (F_changes_of n) (aCons (rdVar 5) (aCons (rdVar 6) (aCons (tup (aStar (rdVar 2) (aCons (rdVar 4) aNil))) aNil)))) aNil))) _ [.dat x.d, .dat y.d, .dat (pd p), .own [], .un, .un, .un] = _ := e
          simp only [p_seqS, p_ifS, p_bin2B, p_callB, p_callF, p_aCons, p_aNil, rdVar, List.getElem?_cons_zero, List.getElem?_cons_succ, rs_bind_ok, len_d, rs_ofO_some, hne, p_bool, hd, rs_st_ok, Bool.false_eq_true, if_false, ot_seq_next, mc, p_callR_ok, p_bin2, m1, m2, i0, p_cst, p_add, p_dIntOp, hd2, p_setNS, p_ifT, ix_lab, heq, hdl, if_true, p_lst, okS0, List.set_cons_succ, List.set_cons_zero, p_forS, p_argI, p_slc, p_oYes, p_oNo, p_intOf, tx, ty, enumZipD, e, p_retS, p_rtr]
        · rw [if_neg hlab] at e ⊢
          have e : forF (gT 2 (gsCons (gN 4) (gsCons (gT 2 (gsCons (gN 5) (gsCons (gN 6) gsNil))) gsNil))) (exprS (methF 3 gExtend (aCons (callF (F_changes_of n) (aCons (rdVar 5) (aCons (rdVar 6) (aCons (tup (aStar (rdVar 2) (aCons (rdVar 4) aNil))) aNil)))) aNil))) _ [.dat x.d, .dat y.d, .dat (pd p), .own [.tuple [pd p, .str y.lab]], .un, .un, .un] = _ := e
          have hdl : decide (x.lab = y.lab) = false := by simpa using hlab
          simp only [p_seqS, p_ifS, p_bin2B, p_callB, p_callF, p_aCons, p_aNil, rdVar, List.getElem?_cons_zero, List.getElem?_cons_succ, rs_bind_ok, len_d, rs_ofO_some, hne, p_bool, hd, rs_st_ok, Bool.false_eq_true, if_false, ot_seq_next, mc, p_callR_ok, p_bin2, m1, m2, i0, p_cst, p_add, p_dIntOp, hd2, p_setNS, p_ifT, ix_lab, heq, hdl, p_lst, p_tup, mk2, okS1, List.set_cons_succ, List.set_cons_zero, p_forS, p_argI, p_slc, p_oYes, p_oNo, p_intOf, tx, ty, enumZipD, e, p_retS, p_rtr]
    · have hd : (!decide ((x.kids.length : Int) + 1 = (y.kids.length : Int) + 1)) = true := by simp; omega
      rw [if_pos hl]
      simp only [p_seqS, p_ifS, p_bin2B, p_callB, p_aCons, p_aNil, rdVar, List.getElem?_cons_zero, List.getElem?_cons_succ, rs_bind_ok, len_d, rs_ofO_some, hne, p_bool, hd, rs_st_ok, if_true, p_retS, p_newL, p_lst, p_tup, mk2, okS1, rs_map_ok, ot_seq_ret, p_rtr]
      rfl
end ML
set_option maxRecDepth 100000
set_option maxHeartbeats 4000000
/-! the law's own list of changes -/
namespace ML
open PySem L2
def costAt (xs ys : List Doc) (k : Nat) : Nat := match xs[k]?, ys[k]? with
  | some c, some e => c.cost e
  | _, _ => 0
theorem costAt_sum : ∀ (xs ys : List Doc), xs.length = ys.length → ((List.range xs.length).map fun k => ((costAt xs ys k : Nat) : Int)).sum = (Doc.costs xs ys : Nat)
  | [], ys, _ => by simp [Doc.costs]
  | x :: xs, [], h => by simp at h
  | x :: xs, y :: ys, h => by
    have ih := costAt_sum xs ys (by simpa using h)
    rw [List.length_cons, List.range_succ_eq_map, List.map_cons, List.sum_cons, List.map_map, Doc.costs]
    have e : ((List.range xs.length).map ((fun k => ((costAt (x :: xs) (y :: ys) k : Nat) : Int)) ∘ Nat.succ)) = (List.range xs.length).map fun k => ((costAt xs ys k : Nat) : Int) := by
      refine List.map_congr_left fun k _ => ?_
      simp [costAt]
    rw [e, ih]
    have e0 : costAt (x :: xs) (y :: ys) 0 = x.cost y := rfl
    rw [e0]
    omega
end ML
set_option maxRecDepth 100000
set_option maxHeartbeats 4000000
namespace ML
open PySem L2
def LL (n : Nat) : En → Ot := exprS (methF 5 gExtend (aCons (callF (F__law_listed n) (aCons (bin2 dIx (rdVar 0) (rdVar 4)) (aCons (bin2 dIx (rdVar 1) (rdVar 4)) (aCons (bin2 dAdd (rdVar 2) (tup (aCons (bin2 (dIntOp fun i j => .int (i - j)) (rdVar 4) (cst (.int 1))) aNil))) aNil)))) aNil))
theorem LL_loop (n : Nat) (x y : Doc) (p : Path) (L : List Row) (s3 s4 : Sl) (hl : x.kids.length = y.kids.length) (hp : p.length + 1 ≤ 50000) (hL : L.length ≤ 1) (hz : Doc.sizes x.kids ≤ 99990)
    (ih : ∀ c ∈ x.kids, ∀ e ∈ y.kids, ∀ i : Nat, F__law_listed n [c.d, e.d, pd (p ++ [(i : Int)])] = .ok (.list ((Doc.chg (p ++ [(i : Int)]) c e).map rd))) :
    ∃ s4', forF (gN 4) (LL n) ((List.range x.kids.length).map fun (k : Nat) => PyData.int (1 + (k : Int))) [.dat x.d, .dat y.d, .dat (pd p), s3, s4, .own (L.map rd)] = .next [.dat x.d, .dat y.d, .dat (pd p), s3, s4', .own ((L ++ Doc.chgs p 0 x.kids y.kids).map rd)] := by
  have hb := big
  obtain ⟨ρ', e, s4', rfl⟩ := forF_inv (t := gN 4) (body := LL n)
    (fun i ρ => ∃ s4, ρ = [.dat x.d, .dat y.d, .dat (pd p), s3, s4, .own ((L ++ Doc.chgs p 0 (x.kids.take i) (y.kids.take i)).map rd)])
    ((List.range x.kids.length).map fun (k : Nat) => PyData.int (1 + (k : Int))) 0 [.dat x.d, .dat y.d, .dat (pd p), s3, s4, .own (L.map rd)] ⟨s4, by simp [Doc.chgs]⟩ (by
      rintro i d ρ hd ⟨t4, rfl⟩
      have hi : i < x.kids.length := by
        have := (List.getElem?_eq_some_iff.mp hd).1
        simpa using this
      rw [List.getElem?_map, List.getElem?_range hi] at hd
      cases hd
      rw [Nat.zero_add]
      have hi' : i < y.kids.length := by omega
      have c1 := List.getElem?_eq_getElem hi
      have c2 := List.getElem?_eq_getElem hi'
      have hc := ih _ (List.getElem_mem hi) _ (List.getElem_mem hi') i
      have ex1 : dIx x.d (.int (1 + (i : Int))) = some x.kids[i].d := by
        rw [Doc.d_kids, Int.add_comm]
        exact ix_kid c1
      have ex2 : dIx y.d (.int (1 + (i : Int))) = some y.kids[i].d := by
        rw [Doc.d_kids, Int.add_comm]
        exact ix_kid c2
      have k1 : (1 + (i : Int)) - 1 = (i : Int) := by omega
      have ea : dAdd (pd p) (.tuple [.int (i : Int)]) = some (pd (p ++ [(i : Int)])) := by
        unfold pd
        rw [add_tup (by simp; omega)]
        simp
      have h1 := Doc.chgs_len (p := p) (k := 0) (cs := x.kids.take (i + 1)) (es := y.kids.take (i + 1))
      have h2 := Doc.sizes_take_le (cs := x.kids) (i + 1)
      have es2 := Doc.chgs_snoc (p := p) (k := 0) c1 c2
      rw [Nat.zero_add] at es2
      rw [es2, List.length_append] at h1
      have hg : gExtend ((L ++ Doc.chgs p 0 (x.kids.take i) (y.kids.take i)).map rd) [.list ((Doc.chg (p ++ [(i : Int)]) x.kids[i] y.kids[i]).map rd)] = some (.none, (L ++ Doc.chgs p 0 (x.kids.take (i + 1)) (y.kids.take (i + 1))).map rd) := by
        show (if _ then _ else _) = _
        rw [if_pos (by simp only [List.length_map, List.length_append]; omega), es2]
        simp
      refine ⟨_, _, rfl, .inl ?_, .dat (.int (1 + (i : Int))), rfl⟩
      unfold LL
      simp only [p_exprS, methF, List.set_cons_succ, List.set_cons_zero, List.getElem?_cons_zero, List.getElem?_cons_succ, Option.bind_some, owOf, rs_ofO_some, rs_bind_ok, p_aCons, p_aNil, p_callF, p_bin2, p_tup, rdVar, ex1, ex2, p_cst, p_dIntOp, k1, mk1, ea, hc, p_callR_ok, hg, setOw, rs_st_ok])
  refine ⟨s4', ?_⟩
  rw [e]
  rw [List.take_of_length_le (by simp), List.take_of_length_le (by simp; omega)]
end ML
set_option maxRecDepth 100000
set_option maxHeartbeats 4000000
namespace ML
open PySem L2
theorem rep_lab {f1 f2 : En → Rs PyData} {ρ ρ1 ρ2 : En} {t : PyData} {k : Nat} (hk : k = 0 ∨ k = 1) (h1 : f1 ρ = .ok (.list [t]) ρ1) (h2 : f2 ρ1 = .ok (.int (k : Nat)) ρ2) : binN dRepN f1 f2 ρ = .ok (if k = 0 then [] else [t]) ρ2 := by
  rw [p_binN, h1, rs_bind_ok, h2, rs_bind_ok]
  have h : dRepN (.list [t]) (.int (k : Nat)) = some (if k = 0 then [] else [t]) := by
    rcases hk with rfl | rfl
    · simp [dRepN]
    · simp [dRepN, one_leS]
  rw [h]
  rfl
theorem law_listed_ok (n : Nat) : ∀ (x y : Doc) (p : Path), x.depth < n → x.depth < 25 → y.depth < 80 → x.size ≤ 90000 → y.size ≤ 90000 → p.length + x.depth + 1 ≤ 50000 → F__law_listed n [x.d, y.d, pd p] = .ok (.list ((Doc.chg p x y).map rd)) := by
  induction n with
  | zero => exact fun x y p h => absurd h (by omega)
  | succ n ih =>
    intro x y p hn hx hy fx fy hp
    have zx : x.size = 1 + Doc.sizes x.kids := by cases x; rw [Doc.size]; rfl
    have zy : y.size = 1 + Doc.sizes y.kids := by cases y; rw [Doc.size]; rfl
    have hxk := x.depth_kids
    have hyk := y.depth_kids
    have hb := big
    have hf1 : x.fit := by unfold Doc.fit; omega
    have hf2 : y.fit := by unfold Doc.fit; omega
    have fkx := Doc.fit_kids (l := x.lab) (cs := x.kids) (by cases x; exact hf1)
    have fky := Doc.fit_kids (l := y.lab) (cs := y.kids) (by cases y; exact hf2)
    have m1 := law_size_ok 80 x (by omega) hf1
    have m2 := law_size_ok 80 y hy hf2
    have hne : dNe (.int ((x.kids.length : Int) + 1)) (.int ((y.kids.length : Int) + 1)) = some (.bool (!decide ((x.kids.length : Int) + 1 = (y.kids.length : Int) + 1))) := rfl
    rw [F__law_listed, runF_at (m := 3) rfl]
    have e0 : initE 6 [x.d, y.d, pd p] = [.dat x.d, .dat y.d, .dat (pd p), .un, .un, .un] := rfl
    rw [e0, B__law_listed, Doc.chg_eq]
    by_cases hl : x.kids.length = y.kids.length
    · have hd : (!decide ((x.kids.length : Int) + 1 = (y.kids.length : Int) + 1)) = false := by simp; omega
      have hnl : dNe (.str x.lab) (.str y.lab) = some (.bool (!decide (x.lab = y.lab))) := rfl
      have hi1 : dInt1 [.bool (!decide (x.lab = y.lab))] = some (.int ((if x.lab ≠ y.lab then 1 else 0 : Nat) : Int)) := by
        by_cases h : x.lab = y.lab
        · simp [dInt1, h]
        · simp [dInt1, h]
      have kx : ∀ c ∈ x.kids, c.depth + 1 ≤ x.depth ∧ c.size ≤ Doc.sizes x.kids := fun c hc => ⟨by have := Doc.depth_mem hc; omega, Doc.sizes_mem hc⟩
      have ky : ∀ c ∈ y.kids, c.depth + 1 ≤ y.depth ∧ c.size ≤ Doc.sizes y.kids := fun c hc => ⟨by have := Doc.depth_mem hc; omega, Doc.sizes_mem hc⟩
      have ef : ∀ s2 s3 s4 s5, argI rng2 (aCons (cst (.int 1)) (aCons (callB dLen (aCons (rdVar 0) aNil)) aNil)) [.dat x.d, .dat y.d, s2, s3, s4, s5] = .ok ((List.range x.kids.length).map fun (k : Nat) => PyData.int (1 + (k : Int))) [.dat x.d, .dat y.d, s2, s3, s4, s5] := by
        intro s2 s3 s4 s5
        have a1 : (aCons (cst (.int 1)) (aCons (callB dLen (aCons (rdVar 0) aNil)) aNil)) [.dat x.d, .dat y.d, s2, s3, s4, s5] = .ok [.int 1, .int ((x.kids.length : Int) + 1)] [.dat x.d, .dat y.d, s2, s3, s4, s5] := by
          simp only [p_aCons, p_callB, p_aNil, rdVar, List.getElem?_cons_zero, rs_bind_ok, len_d, rs_ofO_some, p_cst]
        rw [p_argI, a1, rs_bind_ok, rng2_nat (by omega)]
        rfl
      have hc := lcAll_mapC (t := gN 4) (e := callF (F__law_cost 25) (aCons (bin2 dIx (rdVar 0) (rdVar 4)) (aCons (bin2 dIx (rdVar 1) (rdVar 4)) aNil))) (vs := [4]) (ρ := [.dat x.d, .dat y.d, .dat (pd p), .un, .un, .un]) (ρ0 := [.dat x.d, .dat y.d, .dat (pd p), .un, .un, .un])
        (f0 := argI rng2 (aCons (cst (.int 1)) (aCons (callB dLen (aCons (rdVar 0) aNil)) aNil))) (List.range x.kids.length) (fun (k : Nat) => PyData.int (1 + (k : Int))) (fun k => .int (costAt x.kids y.kids k : Nat)) (ef _ _ _ _) rfl (by simp; omega) (fun i hi => by
          have hi : i < x.kids.length := by simpa using hi
          have hi' : i < y.kids.length := by omega
          have c1 := List.getElem?_eq_getElem hi
          have c2 := List.getElem?_eq_getElem hi'
          have k1 := kx _ (List.getElem_mem hi)
          have k2 := ky _ (List.getElem_mem hi')
          have ex1 : dIx x.d (.int (1 + (i : Int))) = some x.kids[i].d := by
            rw [Doc.d_kids, Int.add_comm]
            exact ix_kid c1
          have ex2 : dIx y.d (.int (1 + (i : Int))) = some y.kids[i].d := by
            rw [Doc.d_kids, Int.add_comm]
            exact ix_kid c2
          have hcost := law_cost_ok 25 x.kids[i] y.kids[i] (by omega) (by omega) (by omega) (fkx.2 _ (List.getElem_mem hi)) (fky.2 _ (List.getElem_mem hi'))
          have ea : costAt x.kids y.kids i = x.kids[i].cost y.kids[i] := by
            unfold costAt
            rw [c1, c2]
          refine ⟨_, [.dat x.d, .dat y.d, .dat (pd p), .un, .dat (.int (1 + (i : Int))), .un], rfl, ?_, rfl⟩
          simp only [p_callF, p_aCons, p_aNil, p_bin2, rdVar, List.set_cons_succ, List.set_cons_zero, List.getElem?_cons_zero, List.getElem?_cons_succ, rs_bind_ok, ex1, ex2, rs_ofO_some, hcost, p_callR_ok, ea])
      have hs : intsOf ((List.range x.kids.length).map fun k => PyData.int ((costAt x.kids y.kids k : Nat) : Int)) = some ((List.range x.kids.length).map fun k => ((costAt x.kids y.kids k : Nat) : Int)) := by
        have := intsOf_map ((List.range x.kids.length).map fun k => ((costAt x.kids y.kids k : Nat) : Int))
        rw [List.map_map] at this
        exact this
      have hin : ((if x.lab ≠ y.lab then 1 else 0 : Nat) : Int) + (Doc.costs x.kids y.kids : Nat) = (x.inner y : Nat) := by
        unfold Doc.inner
        omega
      rw [if_neg (by omega)]
      by_cases hi : x.inner y > x.size + y.size
      · have hd2 : decide ((x.size : Int) + (y.size : Int) < (x.inner y : Nat)) = true := by simp; omega
        rw [if_pos hi]
        simp only [p_seqS, p_ifS, p_bin2B, p_callB, p_callF, p_aCons, p_aNil, rdVar, List.getElem?_cons_zero, List.getElem?_cons_succ, rs_bind_ok, len_d, rs_ofO_some, hne, p_bool, hd, rs_st_ok, Bool.false_eq_true, if_false, ot_seq_next, p_setS, p_bin2, p_cst, ix_lab, hnl, hi1, p_newL, hc, rs_map_ok, dSum, hs, Option.map_some, costAt_sum _ _ hl, p_add, hin, List.set_cons_succ, List.set_cons_zero, m1, m2, p_callR_ok, p_dIntOp, hd2, if_true, p_retS, p_lst, p_tup, mk2, okS1, ot_seq_ret, p_rtr]
        rfl
      · have hd2 : decide ((x.size : Int) + (y.size : Int) < (x.inner y : Nat)) = false := by simp; omega
        rw [if_neg hi]
        have lp := LL_loop n x y p (if x.lab = y.lab then [] else [(p, .lab y.lab)]) (.dat (.int (x.inner y : Nat))) .un hl (by omega) (by split <;> simp) (by omega) (fun c hc e he i => by
          have h1 := kx c hc
          have h2 := ky e he
          exact ih c e (p ++ [(i : Int)]) (by omega) (by omega) (by omega) (by omega) (by omega) (by rw [List.length_append, List.length_singleton]; omega))
        obtain ⟨s4', e⟩ := lp
        have hrep : ∀ s3 s4 s5, binN dRepN (newL (lst (aCons (tup (aCons (rdVar 2) (aCons (bin2 dIx (rdVar 1) (cst (.int 0))) aNil))) aNil))) (callB dInt1 (aCons (bin2 dNe (bin2 dIx (rdVar 0) (cst (.int 0))) (bin2 dIx (rdVar 1) (cst (.int 0)))) aNil)) [.dat x.d, .dat y.d, .dat (pd p), s3, s4, s5] = .ok ((if x.lab = y.lab then [] else [((p, .lab y.lab) : Row)]).map rd) [.dat x.d, .dat y.d, .dat (pd p), s3, s4, s5] := by
          intro s3 s4 s5
          rw [rep_lab (t := .tuple [pd p, .str y.lab]) (k := if x.lab ≠ y.lab then 1 else 0) (ρ1 := [.dat x.d, .dat y.d, .dat (pd p), s3, s4, s5]) (ρ2 := [.dat x.d, .dat y.d, .dat (pd p), s3, s4, s5]) (by split <;> simp) (by simp only [p_newL, p_lst, p_aCons, p_aNil, p_tup, p_bin2, p_cst, rdVar, List.getElem?_cons_zero, List.getElem?_cons_succ, rs_bind_ok, ix_lab, rs_ofO_some, mk2, okS1, rs_map_ok]) (by simp only [p_callB, p_aCons, p_aNil, p_bin2, p_cst, rdVar, List.getElem?_cons_zero, List.getElem?_cons_succ, rs_bind_ok, ix_lab, rs_ofO_some, hnl, hi1])]
          by_cases h : x.lab = y.lab
          · simp [h]
          · simp [h]
            rfl
        have e : forF (gN 4) (exprS (methF 5 gExtend (aCons (callF (F__law_listed n) (aCons (bin2 dIx (rdVar 0) (rdVar 4)) (aCons (bin2 dIx (rdVar 1) (rdVar 4)) (aCons (bin2 dAdd (rdVar 2) (tup (aCons (bin2 (dIntOp fun i j => .int (i - j)) (rdVar 4) (cst (.int 1))) aNil))) aNil)))) aNil))) _ _ = _ := e
        simp only [p_seqS, p_ifS, p_bin2B, p_callB, p_callF, p_aCons, p_aNil, rdVar, List.getElem?_cons_zero, List.getElem?_cons_succ, rs_bind_ok, len_d, rs_ofO_some, hne, p_bool, hd, rs_st_ok, Bool.false_eq_true, if_false, ot_seq_next, p_setS, p_bin2, p_cst, ix_lab, hnl, hi1, p_newL, hc, rs_map_ok, dSum, hs, Option.map_some, costAt_sum _ _ hl, p_add, hin, List.set_cons_succ, List.set_cons_zero, m1, m2, p_callR_ok, p_dIntOp, hd2, p_setNS, hrep, p_forS, ef, e, p_retS, p_rtr]
    · have hd : (!decide ((x.kids.length : Int) + 1 = (y.kids.length : Int) + 1)) = true := by simp; omega
      rw [if_pos hl]
      simp only [p_seqS, p_ifS, p_bin2B, p_callB, p_aCons, p_aNil, rdVar, List.getElem?_cons_zero, List.getElem?_cons_succ, rs_bind_ok, len_d, rs_ofO_some, hne, p_bool, hd, rs_st_ok, if_true, p_retS, p_newL, p_lst, p_tup, mk2, okS1, rs_map_ok, ot_seq_ret, p_rtr]
      rfl
end ML
set_option maxRecDepth 100000
set_option maxHeartbeats 4000000
/-! documents: parts, what stands at a path, what another one there makes of it -/
namespace ML
open PySem L2
namespace Doc
mutual
def parts : Doc → List Doc
  | node l cs => node l cs :: partsL cs
def partsL : List Doc → List Doc
  | [] => []
  | c :: cs => parts c ++ partsL cs
end
theorem mem_partsL {z : Doc} : ∀ {cs : List Doc}, z ∈ partsL cs ↔ ∃ c ∈ cs, z ∈ c.parts
  | [] => by simp [partsL]
  | c :: cs => by
    rw [partsL, List.mem_append, mem_partsL (cs := cs)]
    simp
theorem nodes_parts (x : Doc) : ∀ p, (nodes p x).map Prod.snd = x.parts := by
  refine ind (P := fun x => ∀ p, (nodes p x).map Prod.snd = x.parts) (fun l cs ih p => ?_) x
  rw [nodes, parts, List.map_cons]
  congr 1
  have : ∀ k, (nodesL p k cs).map Prod.snd = partsL cs := by
    intro k
    induction cs generalizing k with
    | nil => rfl
    | cons c cs h2 =>
      rw [nodesL, partsL, List.map_append, ih c (by simp), h2 (fun c hc => ih c (by simp [hc]))]
  exact this 0
theorem parts_len (x : Doc) : x.parts.length = x.size := by
  rw [← nodes_parts x [], List.length_map, nodes_len]
def Good (x : Doc) : Prop := ∀ z ∈ x.parts, okN z = true
theorem good_iff {l : Str} {cs : List Doc} : (node l cs).Good ↔ okN (node l cs) = true ∧ ∀ c ∈ cs, c.Good := by
  unfold Good
  rw [parts]
  simp only [List.mem_cons, mem_partsL]
  constructor
  · intro h
    exact ⟨h _ (.inl rfl), fun c hc z hz => h z (.inr ⟨c, hc, hz⟩)⟩
  · rintro ⟨h1, h2⟩ z (rfl | ⟨c, hc, hz⟩)
    · exact h1
    · exact h2 c hc z hz
theorem good_kids {x : Doc} (h : x.Good) : okN x = true ∧ ∀ c ∈ x.kids, c.Good := by
  obtain ⟨l, cs⟩ := x
  exact good_iff.mp h
theorem good_mk {l : Str} {cs : List Doc} (h1 : okN (node l cs) = true) (h2 : ∀ c ∈ cs, c.Good) : (node l cs).Good := good_iff.mpr ⟨h1, h2⟩
theorem all_good {x : Doc} : (nodes [] x).all (fun z => okN z.2) = true ↔ x.Good := by
  unfold Good
  rw [← nodes_parts x [], List.all_eq_true]
  constructor
  · intro h z hz
    obtain ⟨w, hw, rfl⟩ := List.mem_map.mp hz
    exact h w hw
  · intro h w hw
    exact h _ (List.mem_map_of_mem hw)
theorem lab_len {s : Str} (h : isLab s = true) : s.length ≤ 12 := by
  unfold isLab at h
  have hs : s.length = s.cps.toList.length := by simp [Str.length]
  rw [hs]
  cases hc : s.cps.toList with
  | nil => simp
  | cons c r =>
    rw [hc] at h
    simp at h
    simp
    omega
theorem good_lab {x : Doc} (h : x.Good) : isLab x.lab = true := by
  have := (good_kids h).1
  unfold okN at this
  rw [Bool.and_eq_true] at this
  exact this.1
theorem good_small {x : Doc} (h : x.Good) : x.small := by
  intro z hz
  have hm : z.2 ∈ x.parts := by
    rw [← nodes_parts x []]
    exact List.mem_map_of_mem hz
  have := h _ hm
  unfold okN at this
  rw [Bool.and_eq_true] at this
  have := lab_len this.1
  have hb := big
  omega
/-! what stands at a path -/
theorem at_append : ∀ (p q : Path) (x : Doc), x.at? (p ++ q) = (x.at? p).bind fun y => y.at? q
  | [], q, x => rfl
  | i :: p, q, x => by
    rw [List.cons_append, at?, at?]
    cases x.kid i with
    | none => rfl
    | some y => exact at_append p q y
theorem kid_mem {x y : Doc} {i : Int} (h : x.kid i = some y) : y ∈ x.kids := List.mem_of_getElem? (kid_some h).2.2
theorem kid_nat (x : Doc) (k : Nat) : x.kid (k : Int) = x.kids[k]? := by
  unfold kid
  rw [if_pos (by omega), Int.toNat_natCast]
theorem size_kids (x : Doc) : x.size = 1 + sizes x.kids := by cases x; rw [size]; rfl
theorem at_depth : ∀ {p : Path} {x y : Doc}, x.at? p = some y → p.length + y.depth ≤ x.depth
  | [], x, y, h => by cases h; simp
  | i :: p, x, y, h => by
    rw [at?] at h
    cases hk : x.kid i with
    | none => rw [hk] at h; cases h
    | some z =>
      rw [hk] at h
      have h : z.at? p = some y := h
      have := at_depth h
      have hd := depth_mem (kid_mem hk)
      rw [x.depth_kids, List.length_cons]
      omega
theorem at_size : ∀ {p : Path} {x y : Doc}, x.at? p = some y → y.size ≤ x.size
  | [], x, y, h => by cases h; simp
  | i :: p, x, y, h => by
    rw [at?] at h
    cases hk : x.kid i with
    | none => rw [hk] at h; cases h
    | some z =>
      rw [hk] at h
      have h : z.at? p = some y := h
      have := at_size h
      have hd := sizes_mem (kid_mem hk)
      rw [x.size_kids]
      omega
theorem at_good : ∀ {p : Path} {x y : Doc}, x.Good → x.at? p = some y → y.Good
  | [], x, y, g, h => by cases h; exact g
  | i :: p, x, y, g, h => by
    rw [at?] at h
    cases hk : x.kid i with
    | none => rw [hk] at h; cases h
    | some z =>
      rw [hk] at h
      exact at_good ((good_kids g).2 z (kid_mem hk)) h
/-! puts -/
theorem put_cons {i : Int} {p : Path} {x z o : Doc} (h : x.kid i = some z) : x.put (i :: p) o = node x.lab (x.kids.set i.toNat (z.put p o)) := by
  rw [put, h]
theorem sizes_set : ∀ {cs : List Doc} {k : Nat} {c o : Doc}, cs[k]? = some c → sizes (cs.set k o) + c.size = sizes cs + o.size
  | [], k, c, o, h => by simp at h
  | a :: cs, 0, c, o, h => by
    simp at h
    subst h
    simp [sizes]
    omega
  | a :: cs, k + 1, c, o, h => by
    have := sizes_set (cs := cs) (k := k) (o := o) (by simpa using h)
    simp [sizes]
    omega
theorem depths_le {cs : List Doc} {n : Nat} (h : ∀ c ∈ cs, c.depth + 1 ≤ n) : depths cs ≤ n := by
  induction cs with
  | nil => simp [depths]
  | cons c cs ih =>
    rw [depths]
    have := h c (by simp)
    have := ih fun c hc => h c (by simp [hc])
    omega
theorem put_size : ∀ {p : Path} {x y o : Doc}, x.at? p = some y → (x.put p o).size + y.size = x.size + o.size
  | [], x, y, o, h => by cases h; rw [put]; omega
  | i :: p, x, y, o, h => by
    rw [at?] at h
    cases hk : x.kid i with
    | none => rw [hk] at h; cases h
    | some z =>
      rw [hk] at h
      have h : z.at? p = some y := h
      have e := put_size (o := o) h
      have e2 := sizes_set (o := z.put p o) (kid_some hk).2.2
      rw [put_cons hk, size, x.size_kids]
      omega
theorem put_depth : ∀ {p : Path} {x y o : Doc}, x.at? p = some y → (x.put p o).depth ≤ max x.depth (p.length + o.depth)
  | [], x, y, o, h => by rw [put, List.length_nil]; omega
  | i :: p, x, y, o, h => by
    rw [at?] at h
    cases hk : x.kid i with
    | none => rw [hk] at h; cases h
    | some z =>
      rw [hk] at h
      have h : z.at? p = some y := h
      have e := put_depth (o := o) h
      have hz := depth_mem (kid_mem hk)
      rw [put_cons hk, depth, x.depth_kids, List.length_cons]
      refine depths_le fun c hc => ?_
      rcases List.mem_or_eq_of_mem_set hc with hc | rfl
      · have := depth_mem hc
        omega
      · omega
theorem put_good : ∀ {p : Path} {x y o : Doc}, x.Good → o.Good → x.at? p = some y → (x.put p o).Good
  | [], x, y, o, g, go, h => by rw [put]; exact go
  | i :: p, x, y, o, g, go, h => by
    rw [at?] at h
    cases hk : x.kid i with
    | none => rw [hk] at h; cases h
    | some z =>
      rw [hk] at h
      have h : z.at? p = some y := h
      obtain ⟨g1, g2⟩ := good_kids g
      have e := put_good (g2 z (kid_mem hk)) go h
      rw [put_cons hk]
      refine good_mk ?_ fun c hc => ?_
      · unfold okN at g1 ⊢
        show (isLab x.lab && decide ((x.kids.set i.toNat _).length ≤ 3)) = true
        rw [List.length_set]
        exact g1
      · rcases List.mem_or_eq_of_mem_set hc with hc | rfl
        · exact g2 c hc
        · exact e
theorem kid_put {x : Doc} {l : Str} {i : Int} {z w : Doc} (h : x.kid i = some z) : (node l (x.kids.set i.toNat w)).kid i = some w := by
  obtain ⟨h0, h1, h2⟩ := kid_some h
  unfold kid
  rw [if_pos h0]
  show (x.kids.set i.toNat w)[i.toNat]? = _
  rw [List.getElem?_set_self h1]
theorem put_at : ∀ {p : Path} {x y o : Doc}, x.at? p = some y → (x.put p o).at? p = some o
  | [], x, y, o, h => rfl
  | i :: p, x, y, o, h => by
    rw [at?] at h
    cases hk : x.kid i with
    | none => rw [hk] at h; cases h
    | some z =>
      rw [hk] at h
      have h : z.at? p = some y := h
      rw [put_cons hk, at?, kid_put hk]
      exact put_at h
theorem put_put : ∀ {p : Path} {x y o o' : Doc}, x.at? p = some y → (x.put p o).put p o' = x.put p o'
  | [], x, y, o, o', h => rfl
  | i :: p, x, y, o, o', h => by
    rw [at?] at h
    cases hk : x.kid i with
    | none => rw [hk] at h; cases h
    | some z =>
      rw [hk] at h
      have h : z.at? p = some y := h
      rw [put_cons hk, put_cons (kid_put hk), put_cons hk, put_put h]
      show node x.lab ((x.kids.set i.toNat _).set i.toNat _) = _
      rw [List.set_set]
theorem eta (x : Doc) : node x.lab x.kids = x := by cases x; rfl
theorem put_self : ∀ {p : Path} {x y : Doc}, x.at? p = some y → x.put p y = x
  | [], x, y, h => by cases h; rfl
  | i :: p, x, y, h => by
    rw [at?] at h
    cases hk : x.kid i with
    | none => rw [hk] at h; cases h
    | some z =>
      rw [hk] at h
      have h : z.at? p = some y := h
      obtain ⟨h0, h1, h2⟩ := kid_some hk
      rw [put_cons hk, put_self h]
      have : x.kids.set i.toNat z = x.kids := by
        apply List.ext_getElem?
        intro j
        by_cases hj : i.toNat = j
        · subst hj
          rw [List.getElem?_set_self h1, h2]
        · rw [List.getElem?_set_ne hj]
      rw [this, eta]
theorem put_append : ∀ {p q : Path} {x y o : Doc}, x.at? p = some y → x.put (p ++ q) o = x.put p (y.put q o)
  | [], q, x, y, o, h => by cases h; rfl
  | i :: p, q, x, y, o, h => by
    rw [at?] at h
    cases hk : x.kid i with
    | none => rw [hk] at h; cases h
    | some z =>
      rw [hk] at h
      have h : z.at? p = some y := h
      rw [List.cons_append, put_cons hk, put_cons hk, put_append h]
end Doc
/-! changes, one behind the other -/
def bigD (x : Doc) : Prop := x.size > 300 ∨ x.depth > 40
instance (x : Doc) : Decidable (bigD x) := by unfold bigD; exact inferInstance
instance (x : Doc) : Decidable x.Good := by unfold Doc.Good; exact inferInstance
def chkE (x : Doc) : Option Str := if bigD x then some "TooLarge" else if x.Good then none else some "NotAllowed"
def stepR (x : Doc) (r : Row) : Except Str Doc := match x.at? r.1 with
  | none => .error "NotAllowed"
  | some y => match r.2 with
    | .lab s => if isLab s = true then .ok (x.put r.1 (.node s y.kids)) else .error "NotAllowed"
    | .doc o => match chkE o with
      | some c => .error c
      | none => if bigD (x.put r.1 o) then .error "TooLarge" else .ok (x.put r.1 o)
def app : Doc → List Row → Except Str Doc
  | x, [] => .ok x
  | x, r :: rs => match stepR x r with
    | .error c => .error c
    | .ok y => app y rs
theorem app_cons {x y : Doc} {r : Row} {rs : List Row} (h : stepR x r = .ok y) : app x (r :: rs) = app y rs := by
  rw [app, h]
theorem app_doc {X x y : Doc} {p : Path} {rest : List Row} (h : X.at? p = some x) (g : y.Good) (hs : X.size + y.size ≤ 300) (hd : X.depth ≤ 40) (hp : p.length + y.depth ≤ 40) : app X ((p, .doc y) :: rest) = app (X.put p y) rest := by
  refine app_cons ?_
  have e1 := Doc.put_size (o := y) h
  have e2 := Doc.put_depth (o := y) h
  unfold stepR
  rw [h]
  dsimp only
  have c1 : chkE y = none := by
    unfold chkE
    rw [if_neg (by unfold bigD; omega), if_pos g]
  rw [c1]
  dsimp only
  rw [if_neg (by unfold bigD; omega)]
theorem app_chg (x : Doc) : ∀ (X : Doc) (p : Path) (y : Doc) (rest : List Row), X.at? p = some x → y.Good → X.size + y.size ≤ 300 → X.depth ≤ 40 → p.length + y.depth ≤ 40 → app X (Doc.chg p x y ++ rest) = app (X.put p y) rest := by
  refine Doc.ind (P := fun x => ∀ (X : Doc) (p : Path) (y : Doc) (rest : List Row), X.at? p = some x → y.Good → X.size + y.size ≤ 300 → X.depth ≤ 40 → p.length + y.depth ≤ 40 → app X (Doc.chg p x y ++ rest) = app (X.put p y) rest) (fun l cs ih => ?_) x
  clear x
  -- the inner ones
  have key : ∀ (cs : List Doc), (∀ c ∈ cs, ∀ (X : Doc) (p : Path) (y : Doc) (rest : List Row), X.at? p = some c → y.Good → X.size + y.size ≤ 300 → X.depth ≤ 40 → p.length + y.depth ≤ 40 → app X (Doc.chg p c y ++ rest) = app (X.put p y) rest) →
      ∀ (es pre : List Doc) (l : Str) (Z : Doc) (p : Path) (rest : List Row), cs.length = es.length → Z.at? p = some (.node l (pre ++ cs)) → (∀ e ∈ es, e.Good ∧ p.length + 1 + e.depth ≤ 40) → Z.size + Doc.sizes es ≤ 300 → Z.depth ≤ 40 →
      app Z (Doc.chgs p pre.length cs es ++ rest) = app (Z.put p (.node l (pre ++ es))) rest := by
    intro cs
    induction cs with
    | nil =>
      intro _ es pre l Z p rest hl ha _ _ _
      cases es with
      | cons e es => simp at hl
      | nil =>
        rw [Doc.put_self ha]
        rfl
    | cons c cs h2 =>
      intro ih es pre l Z p rest hl ha hg hs hd
      cases es with
      | nil => simp at hl
      | cons e es =>
        rw [Doc.chgs, List.append_assoc]
        have hk : Z.at? (p ++ [(pre.length : Int)]) = some c := by
          rw [Doc.at_append, ha, Option.bind_some, Doc.at?, Doc.kid_nat]
          show (Option.bind (pre ++ c :: cs)[pre.length]? _) = _
          simp [Doc.at?]
        obtain ⟨ge, de⟩ := hg e (by simp)
        rw [Doc.sizes] at hs
        rw [ih c (by simp) Z _ e _ hk ge (by omega) hd (by rw [List.length_append, List.length_singleton]; omega)]
        have hz : Z.put (p ++ [(pre.length : Int)]) e = Z.put p (.node l ((pre ++ [e]) ++ cs)) := by
          rw [Doc.put_append ha]
          congr 1
          rw [Doc.put_cons (z := c) (by rw [Doc.kid_nat]; show (pre ++ c :: cs)[pre.length]? = _; simp)]
          show Doc.node l ((pre ++ c :: cs).set _ _) = _
          simp [Doc.put]
        have s1 := Doc.put_size (o := e) hk
        have s2 := Doc.put_depth (o := e) hk
        rw [List.length_append, List.length_singleton] at s2
        have ha' : (Z.put (p ++ [(pre.length : Int)]) e).at? p = some (.node l ((pre ++ [e]) ++ cs)) := by
          rw [hz]
          exact Doc.put_at ha
        have r := h2 (fun c hc => ih c (by simp [hc])) es (pre ++ [e]) l _ p rest (by simpa using hl) ha' (fun e he => hg e (by simp [he])) (by omega) (by omega)
        rw [List.length_append, List.length_singleton] at r
        rw [r, hz, Doc.put_put ha]
        simp
  intro X p y rest h g hs hd hp
  rw [Doc.chg_eq]
  by_cases hl : cs.length = y.kids.length
  · rw [if_neg (by show ¬ cs.length ≠ _; omega)]
    by_cases hi : (Doc.node l cs).inner y > (Doc.node l cs).size + y.size
    · rw [if_pos hi]
      exact app_doc h g hs hd hp
    · rw [if_neg hi]
      have gy := Doc.good_kids g
      have sy := y.size_kids
      have dy := y.depth_kids
      have ky : ∀ e ∈ y.kids, e.Good ∧ p.length + 1 + e.depth ≤ 40 := fun e he => ⟨gy.2 e he, by have := Doc.depth_mem he; omega⟩
      have yy : Doc.node y.lab y.kids = y := Doc.eta y
      show app X (((if l = y.lab then [] else [(p, Told.lab y.lab)]) ++ Doc.chgs p 0 cs y.kids) ++ rest) = _
      by_cases hb : l = y.lab
      · rw [if_pos hb, List.nil_append]
        have := key cs ih y.kids [] l X p rest hl h ky (by omega) hd
        rw [List.nil_append, hb, yy] at this
        exact this
      · rw [if_neg hb, List.append_assoc, List.singleton_append]
        have e1 : stepR X (p, .lab y.lab) = .ok (X.put p (.node y.lab cs)) := by
          unfold stepR
          rw [h]
          dsimp only
          rw [if_pos (Doc.good_lab g)]
          rfl
        rw [app_cons e1]
        have s1 := Doc.put_size (o := .node y.lab cs) h
        have s2 := Doc.put_depth (o := .node y.lab cs) h
        have s3 := Doc.at_depth h
        rw [Doc.size, Doc.size] at s1
        have s4 : (Doc.node y.lab cs).depth = (Doc.node l cs).depth := by rw [Doc.depth, Doc.depth]
        have := key cs ih y.kids [] y.lab (X.put p (.node y.lab cs)) p rest hl (Doc.put_at h) ky (by omega) (by omega)
        rw [List.nil_append, yy, Doc.put_put h] at this
        exact this
  · rw [if_pos (by exact hl)]
    exact app_doc h g hs hd hp
/-! prices -/
def priceR (X : Doc) (r : Row) : Nat := match r.2 with
  | .lab _ => 1
  | .doc o => (match X.at? r.1 with | some z => z.size | none => 0) + o.size
def price (X : Doc) (rs : List Row) : Nat := (rs.map (priceR X)).sum
theorem price_append (X : Doc) (a b : List Row) : price X (a ++ b) = price X a + price X b := by
  unfold price
  rw [List.map_append, List.sum_append]
theorem price_chg (x : Doc) : ∀ (X : Doc) (p : Path) (y : Doc), X.at? p = some x → price X (Doc.chg p x y) = x.cost y ∧ ∀ r ∈ Doc.chg p x y, X.at? r.1 ≠ none := by
  refine Doc.ind (P := fun x => ∀ (X : Doc) (p : Path) (y : Doc), X.at? p = some x → price X (Doc.chg p x y) = x.cost y ∧ ∀ r ∈ Doc.chg p x y, X.at? r.1 ≠ none) (fun l cs ih => ?_) x
  clear x
  have key : ∀ (cs : List Doc), (∀ c ∈ cs, ∀ (X : Doc) (p : Path) (y : Doc), X.at? p = some c → price X (Doc.chg p c y) = c.cost y ∧ ∀ r ∈ Doc.chg p c y, X.at? r.1 ≠ none) →
      ∀ (es pre : List Doc) (l : Str) (Z : Doc) (p : Path), Z.at? p = some (.node l (pre ++ cs)) → price Z (Doc.chgs p pre.length cs es) = Doc.costs cs es ∧ ∀ r ∈ Doc.chgs p pre.length cs es, Z.at? r.1 ≠ none := by
    intro cs
    induction cs with
    | nil =>
      intro _ es pre l Z p ha
      exact ⟨by simp [Doc.chgs, Doc.costs, price], by simp [Doc.chgs]⟩
    | cons c cs h2 =>
      intro ih es pre l Z p ha
      cases es with
      | nil => exact ⟨by simp [Doc.chgs, Doc.costs, price], by simp [Doc.chgs]⟩
      | cons e es =>
        have hk : Z.at? (p ++ [(pre.length : Int)]) = some c := by
          rw [Doc.at_append, ha, Option.bind_some, Doc.at?, Doc.kid_nat]
          show (Option.bind (pre ++ c :: cs)[pre.length]? _) = _
          simp [Doc.at?]
        obtain ⟨a1, a2⟩ := ih c (by simp) Z _ e hk
        have r := h2 (fun c hc => ih c (by simp [hc])) es (pre ++ [c]) l Z p (by rw [ha]; simp)
        rw [List.length_append, List.length_singleton] at r
        rw [Doc.chgs, price_append, a1, r.1, Doc.costs]
        refine ⟨rfl, fun q hq => ?_⟩
        rcases List.mem_append.mp hq with hq | hq
        · exact a2 q hq
        · exact r.2 q hq
  intro X p y h
  have one : ∀ o : Doc, price X [(p, Told.doc o)] = (Doc.node l cs).size + o.size := by
    intro o
    unfold price
    simp [priceR, h]
  rw [Doc.chg_eq, Doc.cost_eq]
  by_cases hl : (Doc.node l cs).kids.length = y.kids.length
  · rw [if_neg (not_not_intro hl), if_neg (not_not_intro hl)]
    by_cases hi : (Doc.node l cs).inner y > (Doc.node l cs).size + y.size
    · rw [if_pos hi, one]
      exact ⟨by omega, fun r hr => by rw [List.mem_singleton.mp hr]; simp [h]⟩
    · rw [if_neg hi, price_append]
      have k := key cs ih y.kids [] l X p h
      have k1 : price X (Doc.chgs p 0 (Doc.node l cs).kids y.kids) = Doc.costs cs y.kids := k.1
      have k2 : ∀ r ∈ Doc.chgs p 0 (Doc.node l cs).kids y.kids, X.at? r.1 ≠ none := k.2
      rw [k1]
      refine ⟨?_, fun r hr => ?_⟩
      · have e : (Doc.node l cs).inner y = (if l ≠ y.lab then 1 else 0) + Doc.costs cs y.kids := rfl
        have e2 : (Doc.node l cs).lab = l := rfl
        rw [e2]
        by_cases hb : l = y.lab
        · rw [if_pos hb]
          rw [if_neg (by simp [hb])] at e
          have : price X [] = 0 := rfl
          omega
        · rw [if_neg hb]
          rw [if_pos hb] at e
          have : price X [(p, Told.lab y.lab)] = 1 := rfl
          omega
      · rcases List.mem_append.mp hr with hr | hr
        · split at hr
          · cases hr
          · rw [List.mem_singleton.mp hr]
            simp [h]
        · exact k2 r hr
  · rw [if_pos hl, if_pos hl, one]
    exact ⟨rfl, fun r hr => by rw [List.mem_singleton.mp hr]; simp [h]⟩
theorem cost_self (x : Doc) : x.cost x = 0 := by
  refine Doc.ind (P := fun x => x.cost x = 0) (fun l cs ih => ?_) x
  have : ∀ cs : List Doc, (∀ c ∈ cs, c.cost c = 0) → Doc.costs cs cs = 0 := by
    intro cs
    induction cs with
    | nil => intro _; rfl
    | cons c cs h2 =>
      intro ih
      rw [Doc.costs, ih c (by simp), h2 fun c hc => ih c (by simp [hc])]
  rw [Doc.cost]
  show (if cs.length ≠ cs.length then _ else min _ ((if l ≠ l then 1 else 0) + Doc.costs cs cs)) = 0
  rw [this cs ih]
  simp
theorem chg_self (x : Doc) : ∀ p, Doc.chg p x x = [] := by
  refine Doc.ind (P := fun x => ∀ p, Doc.chg p x x = []) (fun l cs ih p => ?_) x
  have : ∀ (cs : List Doc) (k : Nat), (∀ c ∈ cs, ∀ p, Doc.chg p c c = []) → Doc.chgs p k cs cs = [] := by
    intro cs
    induction cs with
    | nil => intro _ _; rfl
    | cons c cs h2 =>
      intro k ih
      rw [Doc.chgs, ih c (by simp), h2 _ fun c hc => ih c (by simp [hc])]
      rfl
  have h0 : (Doc.node l cs).inner (.node l cs) = 0 := by
    have h1 := cost_self (.node l cs)
    rw [Doc.cost_eq, if_neg (by simp)] at h1
    have := (Doc.node l cs).size_pos
    omega
  rw [Doc.chg_eq, if_neg (by simp), h0, if_neg (by omega), if_pos rfl]
  exact this cs 0 ih
end ML
set_option maxRecDepth 100000
set_option maxHeartbeats 4000000
/-! what is due of a document; the price of changes -/
namespace ML
open PySem L2
theorem dAll_map {γ : Type} (cs : List γ) (f : γ → Bool) : dAll [.list (cs.map fun c => PyData.bool (f c))] = some (.bool (cs.all f)) := by
  show (bools _).map _ = _
  have : (cs.map fun c => PyData.bool (f c)) = (cs.map f).map .bool := by simp
  rw [this, bools_map]
  simp [List.all_map, Function.comp_def]
theorem p_isiF {T : String} {f : En → Rs PyData} {ρ : En} : isiF T f ρ = (f ρ).bind fun d ρ1 => (ofO (kitB (tyName d) T) ρ1).bind fun b ρ1 => .ok (.bool b) ρ1 := rfl
theorem kit_ss : kitB "str" "str" = some true := by decide +kernel
theorem kit_ts : kitB "tuple" "str" = some false := by decide +kernel
theorem ty_doc (x : Doc) : tyName x.d = "tuple" := by rw [Doc.d_kids]; rfl
theorem ty_str (s : Str) : tyName (.str s) = "str" := rfl
def dueD (x : Doc) : PyData := if bigD x then .str "large" else if x.Good then .none else .str "refused"
theorem big_iff {x : Doc} : (decide ((300 : Int) < (x.size : Nat)) = true ∨ decide ((40 : Int) < (x.depth : Nat)) = true) ↔ bigD x := by
  simp only [decide_eq_true_eq, bigD]
  omega
theorem all_okN (x : Doc) : (Doc.nodes [] x).all (fun z => okN z.2) = decide x.Good := by
  by_cases h : x.Good
  · rw [Doc.all_good.mpr h, decide_eq_true h]
  · have : ¬ ((Doc.nodes [] x).all (fun z => okN z.2) = true) := fun e => h (Doc.all_good.mp e)
    rw [decide_eq_false h]
    simpa using this
theorem int1_b (b : Bool) : dInt1 [.bool b] = some (.int (if b = true then 1 else 0)) := rfl
theorem law_document_due_ok (x : Doc) (hd : x.depth < 80) (hf : x.fit) (hs : x.small) : F__law_document_due [x.d] = .ok (dueD x) := by
  show runF 3 1 B__law_document_due _ = _
  rw [runF_at (m := 1) rfl]
  have hb := big
  have m1 := law_size_ok 80 x hd hf
  have m2 := law_depth_ok 80 x hd hf
  have mn : F__law_nodes 80 [x.d, .tuple []] = _ := law_nodes_ok 80 x [] hd hf (by simp; omega)
  have e0 : initE 3 [x.d] = [.dat x.d, .un, .un] := rfl
  have hn : (Doc.nodes [] x).length ≤ sizeLine := by
    rw [Doc.nodes_len]
    unfold Doc.fit at hf
    omega
  have ef : un1 seqItems (callF (F__law_nodes 80) (aCons (rdVar 0) (aCons (tup aNil) aNil))) [.dat x.d, .un, .un] = .ok ((Doc.nodes [] x).map nd) [.dat x.d, .un, .un] := by
    simp -implicitDefEqProofs only [p_seqS, p_ifS, p_orT, p_andT, p_andV, p_orV, p_ifT, p_bin2, p_bin2B, p_chain3, p_bool, p_dIntOp, p_add, p_intOf, p_callR_ok, p_callR_err, p_gN, p_gT2, p_gsNil, p_gsCons, p_seqI_t, p_seqI_l, p_itm_t, p_itm_l, p_cst, p_un1, p_binN, p_notV, p_newL, p_tup, p_lst, p_slc, p_oNo, p_oYes, p_aNil, p_aCons, p_aStar, p_callF, p_callB, p_tval, p_notT, p_argI, p_setS, p_setNS, p_asgS, p_retS, p_exprS, p_forS, p_rtn, p_rtr, p_rte, mk0, mk1, mk2, mk3, okS0, okS1, okS2, okS3, rdVar, List.getElem?_cons_zero, List.getElem?_cons_succ, List.set_cons_zero, List.set_cons_succ, rs_bind_ok, rs_bind_err, rs_bind_bad, rs_map_ok, rs_map_err, rs_st_ok, rs_st_err, rs_ofO_some, ot_seq_next, ot_seq_ret, ot_seq_err, ot_seq_brk, ot_seq_cont, Option.bind_some, Option.map_some, if_true, Bool.false_eq_true, if_false, Bool.not_true, Bool.not_false, methF, owOf, setOw, mn]
  have hc := lcAll_mapC (t := gT 2 (gsCons (gN 1) (gsCons (gN 2) gsNil))) (e := andV (callF F__law_is_label (aCons (bin2 dIx (rdVar 2) (cst (.int 0))) aNil)) (bin2 (dIntOp fun i j => .bool (decide (i < j))) (callB dLen (aCons (rdVar 2) aNil)) (cst (.int 5)))) (vs := [1, 2]) (ρ := [.dat x.d, .un, .un]) (ρ0 := [.dat x.d, .un, .un])
    (Doc.nodes [] x) nd (fun z => .bool (okN z.2)) ef rfl hn (by
      rintro ⟨p, z⟩ hz
      refine ⟨_, [.dat x.d, .dat (pd p), .dat z.d], rfl, ?_, rfl⟩
      have el := law_is_label_ok (hs _ hz)
      have el : F__law_is_label [.str z.lab] = _ := el
      unfold okN
      dsimp only
      simp -implicitDefEqProofs only [p_seqS, p_ifS, p_orT, p_andT, p_andV, p_orV, p_ifT, p_bin2, p_bin2B, p_chain3, p_bool, p_dIntOp, p_add, p_intOf, p_callR_ok, p_callR_err, p_gN, p_gT2, p_gsNil, p_gsCons, p_seqI_t, p_seqI_l, p_itm_t, p_itm_l, p_cst, p_un1, p_binN, p_notV, p_newL, p_tup, p_lst, p_slc, p_oNo, p_oYes, p_aNil, p_aCons, p_aStar, p_callF, p_callB, p_tval, p_notT, p_argI, p_setS, p_setNS, p_asgS, p_retS, p_exprS, p_forS, p_rtn, p_rtr, p_rte, mk0, mk1, mk2, mk3, okS0, okS1, okS2, okS3, rdVar, List.getElem?_cons_zero, List.getElem?_cons_succ, List.set_cons_zero, List.set_cons_succ, rs_bind_ok, rs_bind_err, rs_bind_bad, rs_map_ok, rs_map_err, rs_st_ok, rs_st_err, rs_ofO_some, ot_seq_next, ot_seq_ret, ot_seq_err, ot_seq_brk, ot_seq_cont, Option.bind_some, Option.map_some, if_true, Bool.false_eq_true, if_false, Bool.not_true, Bool.not_false, methF, owOf, setOw, ix_lab, el]
      cases isLab z.lab with
      | false => simp -implicitDefEqProofs only [p_seqS, p_ifS, p_orT, p_andT, p_andV, p_orV, p_ifT, p_bin2, p_bin2B, p_chain3, p_bool, p_dIntOp, p_add, p_intOf, p_callR_ok, p_callR_err, p_gN, p_gT2, p_gsNil, p_gsCons, p_seqI_t, p_seqI_l, p_itm_t, p_itm_l, p_cst, p_un1, p_binN, p_notV, p_newL, p_tup, p_lst, p_slc, p_oNo, p_oYes, p_aNil, p_aCons, p_aStar, p_callF, p_callB, p_tval, p_notT, p_argI, p_setS, p_setNS, p_asgS, p_retS, p_exprS, p_forS, p_rtn, p_rtr, p_rte, mk0, mk1, mk2, mk3, okS0, okS1, okS2, okS3, rdVar, List.getElem?_cons_zero, List.getElem?_cons_succ, List.set_cons_zero, List.set_cons_succ, rs_bind_ok, rs_bind_err, rs_bind_bad, rs_map_ok, rs_map_err, rs_st_ok, rs_st_err, rs_ofO_some, ot_seq_next, ot_seq_ret, ot_seq_err, ot_seq_brk, ot_seq_cont, Option.bind_some, Option.map_some, if_true, Bool.false_eq_true, if_false, Bool.not_true, Bool.not_false, methF, owOf, setOw, Bool.false_and]
      | true =>
        simp -implicitDefEqProofs only [p_seqS, p_ifS, p_orT, p_andT, p_andV, p_orV, p_ifT, p_bin2, p_bin2B, p_chain3, p_bool, p_dIntOp, p_add, p_intOf, p_callR_ok, p_callR_err, p_gN, p_gT2, p_gsNil, p_gsCons, p_seqI_t, p_seqI_l, p_itm_t, p_itm_l, p_cst, p_un1, p_binN, p_notV, p_newL, p_tup, p_lst, p_slc, p_oNo, p_oYes, p_aNil, p_aCons, p_aStar, p_callF, p_callB, p_tval, p_notT, p_argI, p_setS, p_setNS, p_asgS, p_retS, p_exprS, p_forS, p_rtn, p_rtr, p_rte, mk0, mk1, mk2, mk3, okS0, okS1, okS2, okS3, rdVar, List.getElem?_cons_zero, List.getElem?_cons_succ, List.set_cons_zero, List.set_cons_succ, rs_bind_ok, rs_bind_err, rs_bind_bad, rs_map_ok, rs_map_err, rs_st_ok, rs_st_err, rs_ofO_some, ot_seq_next, ot_seq_ret, ot_seq_err, ot_seq_brk, ot_seq_cont, Option.bind_some, Option.map_some, if_true, Bool.false_eq_true, if_false, Bool.not_true, Bool.not_false, methF, owOf, setOw, Bool.true_and, len_d]
        congr 2
        apply decide_eq_decide.mpr
        omega)
  rw [e0, B__law_document_due]
  unfold dueD
  by_cases h : bigD x
  · rw [if_pos h]
    by_cases h1 : decide ((300 : Int) < (x.size : Nat)) = true
    · simp -implicitDefEqProofs only [p_seqS, p_ifS, p_orT, p_andT, p_andV, p_orV, p_ifT, p_bin2, p_bin2B, p_chain3, p_bool, p_dIntOp, p_add, p_intOf, p_callR_ok, p_callR_err, p_gN, p_gT2, p_gsNil, p_gsCons, p_seqI_t, p_seqI_l, p_itm_t, p_itm_l, p_cst, p_un1, p_binN, p_notV, p_newL, p_tup, p_lst, p_slc, p_oNo, p_oYes, p_aNil, p_aCons, p_aStar, p_callF, p_callB, p_tval, p_notT, p_argI, p_setS, p_setNS, p_asgS, p_retS, p_exprS, p_forS, p_rtn, p_rtr, p_rte, mk0, mk1, mk2, mk3, okS0, okS1, okS2, okS3, rdVar, List.getElem?_cons_zero, List.getElem?_cons_succ, List.set_cons_zero, List.set_cons_succ, rs_bind_ok, rs_bind_err, rs_bind_bad, rs_map_ok, rs_map_err, rs_st_ok, rs_st_err, rs_ofO_some, ot_seq_next, ot_seq_ret, ot_seq_err, ot_seq_brk, ot_seq_cont, Option.bind_some, Option.map_some, if_true, Bool.false_eq_true, if_false, Bool.not_true, Bool.not_false, methF, owOf, setOw, m1, h1]
    · have h2 := (big_iff.mpr h).resolve_left h1
      have h1 : decide ((300 : Int) < (x.size : Nat)) = false := by simpa using h1
      simp -implicitDefEqProofs only [p_seqS, p_ifS, p_orT, p_andT, p_andV, p_orV, p_ifT, p_bin2, p_bin2B, p_chain3, p_bool, p_dIntOp, p_add, p_intOf, p_callR_ok, p_callR_err, p_gN, p_gT2, p_gsNil, p_gsCons, p_seqI_t, p_seqI_l, p_itm_t, p_itm_l, p_cst, p_un1, p_binN, p_notV, p_newL, p_tup, p_lst, p_slc, p_oNo, p_oYes, p_aNil, p_aCons, p_aStar, p_callF, p_callB, p_tval, p_notT, p_argI, p_setS, p_setNS, p_asgS, p_retS, p_exprS, p_forS, p_rtn, p_rtr, p_rte, mk0, mk1, mk2, mk3, okS0, okS1, okS2, okS3, rdVar, List.getElem?_cons_zero, List.getElem?_cons_succ, List.set_cons_zero, List.set_cons_succ, rs_bind_ok, rs_bind_err, rs_bind_bad, rs_map_ok, rs_map_err, rs_st_ok, rs_st_err, rs_ofO_some, ot_seq_next, ot_seq_ret, ot_seq_err, ot_seq_brk, ot_seq_cont, Option.bind_some, Option.map_some, if_true, Bool.false_eq_true, if_false, Bool.not_true, Bool.not_false, methF, owOf, setOw, m1, h1, m2, h2]
  · rw [if_neg h]
    have h1 : decide ((300 : Int) < (x.size : Nat)) = false := by
      have := mt (fun q => big_iff.mp (.inl q)) h
      simpa using this
    have h2 : decide ((40 : Int) < (x.depth : Nat)) = false := by
      have := mt (fun q => big_iff.mp (.inr q)) h
      simpa using this
    simp -implicitDefEqProofs only [p_seqS, p_ifS, p_orT, p_andT, p_andV, p_orV, p_ifT, p_bin2, p_bin2B, p_chain3, p_bool, p_dIntOp, p_add, p_intOf, p_callR_ok, p_callR_err, p_gN, p_gT2, p_gsNil, p_gsCons, p_seqI_t, p_seqI_l, p_itm_t, p_itm_l, p_cst, p_un1, p_binN, p_notV, p_newL, p_tup, p_lst, p_slc, p_oNo, p_oYes, p_aNil, p_aCons, p_aStar, p_callF, p_callB, p_tval, p_notT, p_argI, p_setS, p_setNS, p_asgS, p_retS, p_exprS, p_forS, p_rtn, p_rtr, p_rte, mk0, mk1, mk2, mk3, okS0, okS1, okS2, okS3, rdVar, List.getElem?_cons_zero, List.getElem?_cons_succ, List.set_cons_zero, List.set_cons_succ, rs_bind_ok, rs_bind_err, rs_bind_bad, rs_map_ok, rs_map_err, rs_st_ok, rs_st_err, rs_ofO_some, ot_seq_next, ot_seq_ret, ot_seq_err, ot_seq_brk, ot_seq_cont, Option.bind_some, Option.map_some, if_true, Bool.false_eq_true, if_false, Bool.not_true, Bool.not_false, methF, owOf, setOw, m1, h1, m2, h2, hc, dAll_map, all_okN]
    by_cases hg : x.Good
    · rw [if_pos hg, decide_eq_true hg]
      rfl
    · rw [if_neg hg, decide_eq_false hg]
      rfl
/-! the price -/
theorem price_take (X : Doc) {rs : List Row} {i : Nat} {r : Row} (h : rs[i]? = some r) : price X (rs.take (i + 1)) = price X (rs.take i) + priceR X r := by
  rw [List.take_add_one, h, price_append]
  rfl
theorem law_price_ok (X : Doc) (rs : List Row) (hd : X.depth < 80) (hf : X.fit) (h : ∀ r ∈ rs, X.at? r.1 ≠ none ∧ ∀ o, r.2 = .doc o → o.depth < 80 ∧ o.fit) : F__law_price [X.d, .tuple (rs.map rd)] = .ok (.int (price X rs : Nat)) := by
  show runF 5 2 B__law_price _ = _
  rw [runF_at (m := 2) rfl]
  have e0 : initE 5 [X.d, .tuple (rs.map rd)] = [.dat X.d, .dat (.tuple (rs.map rd)), .un, .un, .un] := rfl
  obtain ⟨ρ', e, s3, s4, rfl⟩ := forF_inv (t := gT 2 (gsCons (gN 3) (gsCons (gN 4) gsNil))) (body := ifS (tval (isiF "str" (rdVar 4))) (setS 2 (bin2 dAdd (rdVar 2) (cst (.int 1)))) (setS 2 (bin2 dAdd (bin2 dAdd (rdVar 2) (callF (F__law_size 80) (aCons (callF F__law_at (aCons (rdVar 0) (aCons (rdVar 3) aNil))) aNil))) (callF (F__law_size 80) (aCons (rdVar 4) aNil)))))
    (fun i ρ => ∃ s3 s4, ρ = [.dat X.d, .dat (.tuple (rs.map rd)), .dat (.int (price X (rs.take i) : Nat)), s3, s4]) (rs.map rd) 0 [.dat X.d, .dat (.tuple (rs.map rd)), .dat (.int 0), .un, .un] ⟨.un, .un, rfl⟩ (by
      rintro i d ρ hd' ⟨s3, s4, rfl⟩
      rw [List.getElem?_map] at hd'
      obtain ⟨⟨p, t⟩, hr, rfl⟩ := Option.map_eq_some_iff.mp hd'
      rw [Nat.zero_add, price_take X hr]
      obtain ⟨h1, h2⟩ := h _ (List.mem_of_getElem? hr)
      cases t with
      | lab s =>
        refine ⟨_, _, rfl, .inl ?_, .dat (pd p), .dat (.str s), rfl⟩
        simp -implicitDefEqProofs only [p_seqS, p_ifS, p_orT, p_andT, p_andV, p_orV, p_ifT, p_bin2, p_bin2B, p_chain3, p_bool, p_dIntOp, p_add, p_intOf, p_callR_ok, p_callR_err, p_gN, p_gT2, p_gsNil, p_gsCons, p_seqI_t, p_seqI_l, p_itm_t, p_itm_l, p_cst, p_un1, p_binN, p_notV, p_newL, p_tup, p_lst, p_slc, p_oNo, p_oYes, p_aNil, p_aCons, p_aStar, p_callF, p_callB, p_tval, p_notT, p_argI, p_setS, p_setNS, p_asgS, p_retS, p_exprS, p_forS, p_rtn, p_rtr, p_rte, mk0, mk1, mk2, mk3, okS0, okS1, okS2, okS3, rdVar, List.getElem?_cons_zero, List.getElem?_cons_succ, List.set_cons_zero, List.set_cons_succ, rs_bind_ok, rs_bind_err, rs_bind_bad, rs_map_ok, rs_map_err, rs_st_ok, rs_st_err, rs_ofO_some, ot_seq_next, ot_seq_ret, ot_seq_err, ot_seq_brk, ot_seq_cont, Option.bind_some, Option.map_some, if_true, Bool.false_eq_true, if_false, Bool.not_true, Bool.not_false, methF, owOf, setOw, p_isiF, Told.d, ty_str, kit_ss, priceR, Int.natCast_add]
        rfl
      | doc o =>
        obtain ⟨o1, o2⟩ := h2 o rfl
        have h1 : X.at? p ≠ none := h1
        cases hx : X.at? p with
        | none => exact absurd hx h1
        | some y =>
          have y1 := Doc.at_depth hx
          have y2 := Doc.at_size hx
          have m0 := law_at_ok hx
          have m1 := law_size_ok 80 y (by omega) (by unfold Doc.fit at hf ⊢; omega)
          have m2 := law_size_ok 80 o o1 o2
          refine ⟨_, _, rfl, .inl ?_, .dat (pd p), .dat o.d, rfl⟩
          simp -implicitDefEqProofs only [p_seqS, p_ifS, p_orT, p_andT, p_andV, p_orV, p_ifT, p_bin2, p_bin2B, p_chain3, p_bool, p_dIntOp, p_add, p_intOf, p_callR_ok, p_callR_err, p_gN, p_gT2, p_gsNil, p_gsCons, p_seqI_t, p_seqI_l, p_itm_t, p_itm_l, p_cst, p_un1, p_binN, p_notV, p_newL, p_tup, p_lst, p_slc, p_oNo, p_oYes, p_aNil, p_aCons, p_aStar, p_callF, p_callB, p_tval, p_notT, p_argI, p_setS, p_setNS, p_asgS, p_retS, p_exprS, p_forS, p_rtn, p_rtr, p_rte, mk0, mk1, mk2, mk3, okS0, okS1, okS2, okS3, rdVar, List.getElem?_cons_zero, List.getElem?_cons_succ, List.set_cons_zero, List.set_cons_succ, rs_bind_ok, rs_bind_err, rs_bind_bad, rs_map_ok, rs_map_err, rs_st_ok, rs_st_err, rs_ofO_some, ot_seq_next, ot_seq_ret, ot_seq_err, ot_seq_brk, ot_seq_cont, Option.bind_some, Option.map_some, if_true, Bool.false_eq_true, if_false, Bool.not_true, Bool.not_false, methF, owOf, setOw, p_isiF, Told.d, ty_doc, kit_ts, m0, m1, m2, priceR, hx, Int.natCast_add, Int.add_assoc])
  rw [Nat.zero_add, List.length_map, List.take_length] at e
  rw [e0, B__law_price]
  simp -implicitDefEqProofs only [p_seqS, p_ifS, p_orT, p_andT, p_andV, p_orV, p_ifT, p_bin2, p_bin2B, p_chain3, p_bool, p_dIntOp, p_add, p_intOf, p_callR_ok, p_callR_err, p_gN, p_gT2, p_gsNil, p_gsCons, p_seqI_t, p_seqI_l, p_itm_t, p_itm_l, p_cst, p_un1, p_binN, p_notV, p_newL, p_tup, p_lst, p_slc, p_oNo, p_oYes, p_aNil, p_aCons, p_aStar, p_callF, p_callB, p_tval, p_notT, p_argI, p_setS, p_setNS, p_asgS, p_retS, p_exprS, p_forS, p_rtn, p_rtr, p_rte, mk0, mk1, mk2, mk3, okS0, okS1, okS2, okS3, rdVar, List.getElem?_cons_zero, List.getElem?_cons_succ, List.set_cons_zero, List.set_cons_succ, rs_bind_ok, rs_bind_err, rs_bind_bad, rs_map_ok, rs_map_err, rs_st_ok, rs_st_err, rs_ofO_some, ot_seq_next, ot_seq_ret, ot_seq_err, ot_seq_brk, ot_seq_cont, Option.bind_some, Option.map_some, if_true, Bool.false_eq_true, if_false, Bool.not_true, Bool.not_false, methF, owOf, setOw, e]
end ML
set_option maxRecDepth 100000
set_option maxHeartbeats 4000000
/-! changed -/
namespace ML
open PySem L2
def rtE : Option Str → Rt
  | none => .ok .none
  | some c => .err c
theorem checkE {x : Doc} (hd : x.depth < 80) (hs : x.small) : F_check_document [x.d] = rtE (chkE x) := by
  rw [check_ok x hd hs]
  unfold chk chkE
  by_cases h : bigD x
  · rw [if_pos (show x.size > 300 ∨ x.depth > 40 from h), if_pos h]
    rfl
  · rw [if_neg (show ¬ (x.size > 300 ∨ x.depth > 40) from h), if_neg h]
    by_cases g : x.Good
    · rw [if_pos (Doc.all_good.mpr g), if_pos g]
      rfl
    · rw [if_neg (fun e => g (Doc.all_good.mp e)), if_neg g]
      rfl
theorem chkE_none {x : Doc} : chkE x = none ↔ ¬ bigD x ∧ x.Good := by
  unfold chkE
  by_cases h : bigD x
  · rw [if_pos h]; simp [h]
  · rw [if_neg h]
    by_cases g : x.Good
    · rw [if_pos g]; simp [h, g]
    · rw [if_neg g]; simp [h, g]
theorem chk_chkE (x : Doc) : chk x = rtE (chkE x) := by
  unfold chk chkE
  by_cases h : bigD x
  · rw [if_pos (show x.size > 300 ∨ x.depth > 40 from h), if_pos h]
    rfl
  · rw [if_neg (show ¬ (x.size > 300 ∨ x.depth > 40) from h), if_neg h]
    by_cases g : x.Good
    · rw [if_pos (Doc.all_good.mpr g), if_pos g]
      rfl
    · rw [if_neg (fun e => g (Doc.all_good.mp e)), if_neg g]
      rfl
/-- rows that the law hands in -/
def rowOk (r : Row) : Prop := r.1.length ≤ 50000 ∧ match r.2 with
  | .lab s => s.length ≤ sizeLine
  | .doc o => o.depth ≤ 30 ∧ o.small ∧ o.fit
/-- a document that stands -/
def Std (x : Doc) : Prop := ¬ bigD x ∧ x.Good
theorem Std.bd {x : Doc} (h : Std x) : x.size ≤ 300 ∧ x.depth ≤ 40 := by
  have := h.1
  unfold bigD at this
  omega
theorem step_std {x y : Doc} {r : Row} (h : Std x) (e : stepR x r = .ok y) : Std y := by
  obtain ⟨p, t⟩ := r
  unfold stepR at e
  dsimp only at e
  cases ha : x.at? p with
  | none => rw [ha] at e; cases e
  | some z =>
    rw [ha] at e
    dsimp only at e
    cases t with
    | lab s =>
      dsimp only at e
      by_cases hl : isLab s = true
      · rw [if_pos hl] at e
        cases e
        obtain ⟨b1, b2⟩ := h.bd
        have s1 := Doc.put_size (o := .node s z.kids) ha
        have s2 := Doc.put_depth (o := .node s z.kids) ha
        have s3 := Doc.at_depth ha
        rw [Doc.size, z.size_kids] at s1
        rw [z.depth_kids] at s3
        rw [Doc.depth] at s2
        refine ⟨by unfold bigD; omega, Doc.put_good h.2 ?_ ha⟩
        have g := Doc.good_kids (Doc.at_good h.2 ha)
        refine Doc.good_mk ?_ g.2
        have := g.1
        unfold okN at this ⊢
        rw [Bool.and_eq_true] at this ⊢
        exact ⟨hl, this.2⟩
      · rw [if_neg hl] at e
        cases e
    | doc o =>
      dsimp only at e
      cases hc : chkE o with
      | some c => rw [hc] at e; cases e
      | none =>
        rw [hc] at e
        dsimp only at e
        by_cases hb : bigD (x.put p o)
        · rw [if_pos hb] at e; cases e
        · rw [if_neg hb] at e
          cases e
          exact ⟨hb, Doc.put_good h.2 (chkE_none.mp hc).2 ha⟩
def GB : En → Ot := seqS (setS 4 (callF F_known_at (aCons (rdVar 0) (aCons (rdVar 2) aNil))))
    (seqS (ifS (bin2B dIs (rdVar 4) (cst .none)) (.err "NotAllowed") .next)
    (ifS (tval (isiF "str" (rdVar 3))) (seqS (ifS (notT (tval (callF F_is_label (aCons (rdVar 3) aNil)))) (.err "NotAllowed") .next)
    (setS 0 (callF F_known_put (aCons (rdVar 0) (aCons (rdVar 2) (aCons (tup (aCons (rdVar 3) (aStar (slc (rdVar 4) (oYes (cst (.int 1))) oNo) aNil))) aNil)))))) (setS 0 (callF F_with_inner (aCons (rdVar 0) (aCons (rdVar 2) (aCons (rdVar 3) aNil)))))))
theorem is_nn : dIs .none .none = some (.bool true) := rfl
theorem is_dn (y : Doc) : dIs y.d .none = some (.bool false) := by
  show some (PyData.bool (isNoneD y.d)) = _
  rw [isNone_doc]
theorem relab_tup (s : Str) (z : Doc) (hf : z.fit) (ρ : En) : mkTup (.str s :: (z.kids.map Doc.d ++ [])) ρ = .ok (Doc.node s z.kids).d ρ := by
  have hb := big
  have h2 := Doc.sizes_len z.kids
  have h3 := z.size_kids
  unfold Doc.fit at hf
  rw [p_mkTup, if_pos (by simp; omega), List.append_nil, Doc.d_eq]
theorem GB_step {x : Doc} {r : Row} {s1 s4 : Sl} (h : Std x) (hr : rowOk r) : match stepR x r with
    | .ok y => ∃ s4', GB [.dat x.d, s1, .dat (pd r.1), .dat r.2.d, s4] = .next [.dat y.d, s1, .dat (pd r.1), .dat r.2.d, s4']
    | .error c => ∃ ρ', GB [.dat x.d, s1, .dat (pd r.1), .dat r.2.d, s4] = .err c ρ' := by
  obtain ⟨p, t⟩ := r
  obtain ⟨b1, b2⟩ := h.bd
  have hf : x.fit := by unfold Doc.fit; omega
  have e1 := known_at_ok x p
  have hp : p.length ≤ 50000 := hr.1
  unfold stepR GB
  dsimp only
  cases ha : x.at? p with
  | none =>
    rw [ha] at e1
    exact ⟨_, by simp -implicitDefEqProofs only [p_seqS, p_ifS, p_orT, p_andT, p_andV, p_orV, p_ifT, p_bin2, p_bin2B, p_chain3, p_bool, p_dIntOp, p_add, p_intOf, p_callR_ok, p_callR_err, p_gN, p_gT2, p_gsNil, p_gsCons, p_seqI_t, p_seqI_l, p_itm_t, p_itm_l, p_cst, p_un1, p_binN, p_notV, p_newL, p_tup, p_lst, p_slc, p_oNo, p_oYes, p_aNil, p_aCons, p_aStar, p_callF, p_callB, p_tval, p_notT, p_argI, p_setS, p_setNS, p_asgS, p_retS, p_exprS, p_forS, p_rtn, p_rtr, p_rte, mk0, mk1, mk2, mk3, okS0, okS1, okS2, okS3, rdVar, List.getElem?_cons_zero, List.getElem?_cons_succ, List.set_cons_zero, List.set_cons_succ, rs_bind_ok, rs_bind_err, rs_bind_bad, rs_map_ok, rs_map_err, rs_st_ok, rs_st_err, rs_ofO_some, ot_seq_next, ot_seq_ret, ot_seq_err, ot_seq_brk, ot_seq_cont, Option.bind_some, Option.map_some, if_true, Bool.false_eq_true, if_false, Bool.not_true, Bool.not_false, methF, owOf, setOw, e1, is_nn]; rfl⟩
  | some z =>
    rw [ha] at e1
    have zs := Doc.at_size ha
    have zd := Doc.at_depth ha
    have hz : z.fit := by unfold Doc.fit; omega
    dsimp only
    cases t with
    | lab s =>
      have hs : s.length ≤ sizeLine := hr.2
      have el := is_label_ok hs
      dsimp only
      cases hl : isLab s with
      | false =>
        rw [hl] at el
        rw [if_neg (by simp)]
        exact ⟨_, by simp -implicitDefEqProofs only [p_seqS, p_ifS, p_orT, p_andT, p_andV, p_orV, p_ifT, p_bin2, p_bin2B, p_chain3, p_bool, p_dIntOp, p_add, p_intOf, p_callR_ok, p_callR_err, p_gN, p_gT2, p_gsNil, p_gsCons, p_seqI_t, p_seqI_l, p_itm_t, p_itm_l, p_cst, p_un1, p_binN, p_notV, p_newL, p_tup, p_lst, p_slc, p_oNo, p_oYes, p_aNil, p_aCons, p_aStar, p_callF, p_callB, p_tval, p_notT, p_argI, p_setS, p_setNS, p_asgS, p_retS, p_exprS, p_forS, p_rtn, p_rtr, p_rte, mk0, mk1, mk2, mk3, okS0, okS1, okS2, okS3, rdVar, List.getElem?_cons_zero, List.getElem?_cons_succ, List.set_cons_zero, List.set_cons_succ, rs_bind_ok, rs_bind_err, rs_bind_bad, rs_map_ok, rs_map_err, rs_st_ok, rs_st_err, rs_ofO_some, ot_seq_next, ot_seq_ret, ot_seq_err, ot_seq_brk, ot_seq_cont, Option.bind_some, Option.map_some, if_true, Bool.false_eq_true, if_false, Bool.not_true, Bool.not_false, methF, owOf, setOw, Told.d, e1, is_dn, p_isiF, ty_str, kit_ss, el]; rfl⟩
      | true =>
        rw [hl] at el
        have ep := known_put_ok x (.node s z.kids) p (by rw [ha]; simp) hf (by omega)
        exact ⟨_, by simp -implicitDefEqProofs only [p_seqS, p_ifS, p_orT, p_andT, p_andV, p_orV, p_ifT, p_bin2, p_bin2B, p_chain3, p_bool, p_dIntOp, p_add, p_intOf, p_callR_ok, p_callR_err, p_gN, p_gT2, p_gsNil, p_gsCons, p_seqI_t, p_seqI_l, p_itm_t, p_itm_l, p_cst, p_un1, p_binN, p_notV, p_newL, p_tup, p_lst, p_slc, p_oNo, p_oYes, p_aNil, p_aCons, p_aStar, p_callF, p_callB, p_tval, p_notT, p_argI, p_setS, p_setNS, p_asgS, p_retS, p_exprS, p_forS, p_rtn, p_rtr, p_rte, mk0, mk1, mk2, mk3, okS0, okS1, okS2, okS3, rdVar, List.getElem?_cons_zero, List.getElem?_cons_succ, List.set_cons_zero, List.set_cons_succ, rs_bind_ok, rs_bind_err, rs_bind_bad, rs_map_ok, rs_map_err, rs_st_ok, rs_st_err, rs_ofO_some, ot_seq_next, ot_seq_ret, ot_seq_err, ot_seq_brk, ot_seq_cont, Option.bind_some, Option.map_some, if_true, Bool.false_eq_true, if_false, Bool.not_true, Bool.not_false, methF, owOf, setOw, Told.d, e1, is_dn, p_isiF, ty_str, kit_ss, el, tail_d, relab_tup s z hz, ep]; rfl⟩
    | doc o =>
      obtain ⟨o1, o2, o3⟩ : o.depth ≤ 30 ∧ o.small ∧ o.fit := hr.2
      have hd := Doc.put_depth (o := o) ha
      have ew := with_inner_ok x o p (by rw [chk_chkE, chkE_none.mpr h]; rfl) (by omega) (Doc.good_small h.2) hf (by omega) (by omega) o2 (by omega)
      unfold within at ew
      rw [ha, chk_chkE] at ew
      dsimp only at ew ⊢
      cases hc : chkE o with
      | some c =>
        rw [hc] at ew
        have ew : F_with_inner [x.d, pd p, o.d] = .err c := ew
        exact ⟨_, by simp -implicitDefEqProofs only [p_seqS, p_ifS, p_orT, p_andT, p_andV, p_orV, p_ifT, p_bin2, p_bin2B, p_chain3, p_bool, p_dIntOp, p_add, p_intOf, p_callR_ok, p_callR_err, p_gN, p_gT2, p_gsNil, p_gsCons, p_seqI_t, p_seqI_l, p_itm_t, p_itm_l, p_cst, p_un1, p_binN, p_notV, p_newL, p_tup, p_lst, p_slc, p_oNo, p_oYes, p_aNil, p_aCons, p_aStar, p_callF, p_callB, p_tval, p_notT, p_argI, p_setS, p_setNS, p_asgS, p_retS, p_exprS, p_forS, p_rtn, p_rtr, p_rte, mk0, mk1, mk2, mk3, okS0, okS1, okS2, okS3, rdVar, List.getElem?_cons_zero, List.getElem?_cons_succ, List.set_cons_zero, List.set_cons_succ, rs_bind_ok, rs_bind_err, rs_bind_bad, rs_map_ok, rs_map_err, rs_st_ok, rs_st_err, rs_ofO_some, ot_seq_next, ot_seq_ret, ot_seq_err, ot_seq_brk, ot_seq_cont, Option.bind_some, Option.map_some, if_true, Bool.false_eq_true, if_false, Bool.not_true, Bool.not_false, methF, owOf, setOw, Told.d, e1, is_dn, p_isiF, ty_doc, kit_ts, ew]; rfl⟩
      | none =>
        rw [hc] at ew
        dsimp only [rtE] at ew ⊢
        by_cases hb : bigD (x.put p o)
        · rw [if_pos (show (x.put p o).size > 300 ∨ (x.put p o).depth > 40 from hb)] at ew
          rw [if_pos hb]
          exact ⟨_, by simp -implicitDefEqProofs only [p_seqS, p_ifS, p_orT, p_andT, p_andV, p_orV, p_ifT, p_bin2, p_bin2B, p_chain3, p_bool, p_dIntOp, p_add, p_intOf, p_callR_ok, p_callR_err, p_gN, p_gT2, p_gsNil, p_gsCons, p_seqI_t, p_seqI_l, p_itm_t, p_itm_l, p_cst, p_un1, p_binN, p_notV, p_newL, p_tup, p_lst, p_slc, p_oNo, p_oYes, p_aNil, p_aCons, p_aStar, p_callF, p_callB, p_tval, p_notT, p_argI, p_setS, p_setNS, p_asgS, p_retS, p_exprS, p_forS, p_rtn, p_rtr, p_rte, mk0, mk1, mk2, mk3, okS0, okS1, okS2, okS3, rdVar, List.getElem?_cons_zero, List.getElem?_cons_succ, List.set_cons_zero, List.set_cons_succ, rs_bind_ok, rs_bind_err, rs_bind_bad, rs_map_ok, rs_map_err, rs_st_ok, rs_st_err, rs_ofO_some, ot_seq_next, ot_seq_ret, ot_seq_err, ot_seq_brk, ot_seq_cont, Option.bind_some, Option.map_some, if_true, Bool.false_eq_true, if_false, Bool.not_true, Bool.not_false, methF, owOf, setOw, Told.d, e1, is_dn, p_isiF, ty_doc, kit_ts, ew]; rfl⟩
        · rw [if_neg (show ¬ ((x.put p o).size > 300 ∨ (x.put p o).depth > 40) from hb)] at ew
          rw [if_neg hb]
          exact ⟨_, by simp -implicitDefEqProofs only [p_seqS, p_ifS, p_orT, p_andT, p_andV, p_orV, p_ifT, p_bin2, p_bin2B, p_chain3, p_bool, p_dIntOp, p_add, p_intOf, p_callR_ok, p_callR_err, p_gN, p_gT2, p_gsNil, p_gsCons, p_seqI_t, p_seqI_l, p_itm_t, p_itm_l, p_cst, p_un1, p_binN, p_notV, p_newL, p_tup, p_lst, p_slc, p_oNo, p_oYes, p_aNil, p_aCons, p_aStar, p_callF, p_callB, p_tval, p_notT, p_argI, p_setS, p_setNS, p_asgS, p_retS, p_exprS, p_forS, p_rtn, p_rtr, p_rte, mk0, mk1, mk2, mk3, okS0, okS1, okS2, okS3, rdVar, List.getElem?_cons_zero, List.getElem?_cons_succ, List.set_cons_zero, List.set_cons_succ, rs_bind_ok, rs_bind_err, rs_bind_bad, rs_map_ok, rs_map_err, rs_st_ok, rs_st_err, rs_ofO_some, ot_seq_next, ot_seq_ret, ot_seq_err, ot_seq_brk, ot_seq_cont, Option.bind_some, Option.map_some, if_true, Bool.false_eq_true, if_false, Bool.not_true, Bool.not_false, methF, owOf, setOw, Told.d, e1, is_dn, p_isiF, ty_doc, kit_ts, ew]; rfl⟩
theorem GB_loop : ∀ (rs : List Row) (x : Doc) (s1 s2 s3 s4 : Sl), Std x → (∀ r ∈ rs, rowOk r) → match app x rs with
    | .ok y => ∃ s2' s3' s4', forF (gT 2 (gsCons (gN 2) (gsCons (gN 3) gsNil))) GB (rs.map rd) [.dat x.d, s1, s2, s3, s4] = .next [.dat y.d, s1, s2', s3', s4']
    | .error c => ∃ ρ', forF (gT 2 (gsCons (gN 2) (gsCons (gN 3) gsNil))) GB (rs.map rd) [.dat x.d, s1, s2, s3, s4] = .err c ρ'
  | [], x, s1, s2, s3, s4, _, _ => ⟨_, _, _, rfl⟩
  | r :: rs, x, s1, s2, s3, s4, h, hr => by
    have step : forF (gT 2 (gsCons (gN 2) (gsCons (gN 3) gsNil))) GB ((r :: rs).map rd) [.dat x.d, s1, s2, s3, s4] = match GB [.dat x.d, s1, .dat (pd r.1), .dat r.2.d, s4] with
      | .next ρ2 => forF (gT 2 (gsCons (gN 2) (gsCons (gN 3) gsNil))) GB (rs.map rd) ρ2
      | .cont ρ2 => forF (gT 2 (gsCons (gN 2) (gsCons (gN 3) gsNil))) GB (rs.map rd) ρ2
      | .brk ρ2 => .next ρ2
      | .ret d ρ2 => .ret d ρ2
      | .err c ρ2 => .err c ρ2
      | .bad => .bad := rfl
    have one := GB_step (s1 := s1) (s4 := s4) h (hr r (by simp))
    rw [step]
    unfold app
    cases hs : stepR x r with
    | error c =>
      rw [hs] at one
      obtain ⟨ρ', e⟩ := one
      rw [e]
      exact ⟨_, rfl⟩
    | ok y =>
      rw [hs] at one
      obtain ⟨s4', e⟩ := one
      rw [e]
      exact GB_loop rs y s1 _ _ s4' (step_std h hs) fun r hr' => hr r (by simp [hr'])
theorem changed_ok (x : Doc) (rs : List Row) (h : Std x) (hr : ∀ r ∈ rs, rowOk r) : F_changed [x.d, .tuple (rs.map rd)] = match app x rs with
    | .ok y => .ok y.d
    | .error c => .err c := by
  show runF 5 2 B_changed _ = _
  rw [runF_at (m := 2) rfl]
  have e0 : initE 5 [x.d, .tuple (rs.map rd)] = [.dat x.d, .dat (.tuple (rs.map rd)), .un, .un, .un] := rfl
  have ec : F_check_document [x.d] = .ok .none := by
    rw [checkE (by have := h.bd; omega) (Doc.good_small h.2), chkE_none.mpr h]
    rfl
  have eb : B_changed = seqS (exprS (callF F_check_document (aCons (rdVar 0) aNil))) (seqS (forS (un1 seqItems (rdVar 1)) (gT 2 (gsCons (gN 2) (gsCons (gN 3) gsNil))) GB) (retS (rdVar 0))) := rfl
  have lp := GB_loop rs x (.dat (.tuple (rs.map rd))) .un .un .un h hr
  rw [e0, eb]
  cases ha : app x rs with
  | error c =>
    rw [ha] at lp
    obtain ⟨ρ', e⟩ := lp
    simp -implicitDefEqProofs only [p_seqS, p_ifS, p_orT, p_andT, p_andV, p_orV, p_ifT, p_bin2, p_bin2B, p_chain3, p_bool, p_dIntOp, p_add, p_intOf, p_callR_ok, p_callR_err, p_gN, p_gT2, p_gsNil, p_gsCons, p_seqI_t, p_seqI_l, p_itm_t, p_itm_l, p_cst, p_un1, p_binN, p_notV, p_newL, p_tup, p_lst, p_slc, p_oNo, p_oYes, p_aNil, p_aCons, p_aStar, p_callF, p_callB, p_tval, p_notT, p_argI, p_setS, p_setNS, p_asgS, p_retS, p_exprS, p_forS, p_rtn, p_rtr, p_rte, mk0, mk1, mk2, mk3, okS0, okS1, okS2, okS3, rdVar, List.getElem?_cons_zero, List.getElem?_cons_succ, List.set_cons_zero, List.set_cons_succ, rs_bind_ok, rs_bind_err, rs_bind_bad, rs_map_ok, rs_map_err, rs_st_ok, rs_st_err, rs_ofO_some, ot_seq_next, ot_seq_ret, ot_seq_err, ot_seq_brk, ot_seq_cont, Option.bind_some, Option.map_some, if_true, Bool.false_eq_true, if_false, Bool.not_true, Bool.not_false, methF, owOf, setOw, ec, e]
  | ok y =>
    rw [ha] at lp
    obtain ⟨a, b, c, e⟩ := lp
    simp -implicitDefEqProofs only [p_seqS, p_ifS, p_orT, p_andT, p_andV, p_orV, p_ifT, p_bin2, p_bin2B, p_chain3, p_bool, p_dIntOp, p_add, p_intOf, p_callR_ok, p_callR_err, p_gN, p_gT2, p_gsNil, p_gsCons, p_seqI_t, p_seqI_l, p_itm_t, p_itm_l, p_cst, p_un1, p_binN, p_notV, p_newL, p_tup, p_lst, p_slc, p_oNo, p_oYes, p_aNil, p_aCons, p_aStar, p_callF, p_callB, p_tval, p_notT, p_argI, p_setS, p_setNS, p_asgS, p_retS, p_exprS, p_forS, p_rtn, p_rtr, p_rte, mk0, mk1, mk2, mk3, okS0, okS1, okS2, okS3, rdVar, List.getElem?_cons_zero, List.getElem?_cons_succ, List.set_cons_zero, List.set_cons_succ, rs_bind_ok, rs_bind_err, rs_bind_bad, rs_map_ok, rs_map_err, rs_st_ok, rs_st_err, rs_ofO_some, ot_seq_next, ot_seq_ret, ot_seq_err, ot_seq_brk, ot_seq_cont, Option.bind_some, Option.map_some, if_true, Bool.false_eq_true, if_false, Bool.not_true, Bool.not_false, methF, owOf, setOw, ec, e]
theorem changed_bad (x : Doc) (d : PyData) (hd : x.depth < 80) (hs : x.small) {c : Str} (h : chkE x = some c) : F_changed [x.d, d] = .err c := by
  show runF 5 2 B_changed _ = _
  rw [runF_at (m := 2) rfl]
  have e0 : initE 5 [x.d, d] = [.dat x.d, .dat d, .un, .un, .un] := rfl
  have ec := checkE hd hs
  rw [h] at ec
  have ec : F_check_document [x.d] = .err c := ec
  rw [e0, B_changed]
  simp -implicitDefEqProofs only [p_seqS, p_ifS, p_orT, p_andT, p_andV, p_orV, p_ifT, p_bin2, p_bin2B, p_chain3, p_bool, p_dIntOp, p_add, p_intOf, p_callR_ok, p_callR_err, p_gN, p_gT2, p_gsNil, p_gsCons, p_seqI_t, p_seqI_l, p_itm_t, p_itm_l, p_cst, p_un1, p_binN, p_notV, p_newL, p_tup, p_lst, p_slc, p_oNo, p_oYes, p_aNil, p_aCons, p_aStar, p_callF, p_callB, p_tval, p_notT, p_argI, p_setS, p_setNS, p_asgS, p_retS, p_exprS, p_forS, p_rtn, p_rtr, p_rte, mk0, mk1, mk2, mk3, okS0, okS1, okS2, okS3, rdVar, List.getElem?_cons_zero, List.getElem?_cons_succ, List.set_cons_zero, List.set_cons_succ, rs_bind_ok, rs_bind_err, rs_bind_bad, rs_map_ok, rs_map_err, rs_st_ok, rs_st_err, rs_ofO_some, ot_seq_next, ot_seq_ret, ot_seq_err, ot_seq_brk, ot_seq_cont, Option.bind_some, Option.map_some, if_true, Bool.false_eq_true, if_false, Bool.not_true, Bool.not_false, methF, owOf, setOw, ec]
theorem changes_ok (x y : Doc) (hx : Std x) (hy : Std y) (hd : x.depth < 25) : F_changes [x.d, y.d] = .ok (.tuple ((Doc.chg [] x y).map rd)) := by
  show runF 2 2 B_changes _ = _
  rw [runF_at (m := 2) rfl]
  have e0 : initE 2 [x.d, y.d] = [.dat x.d, .dat y.d] := rfl
  have bx := hx.bd
  have by' := hy.bd
  have e1 : F_check_document [x.d] = .ok .none := by
    rw [checkE (by omega) (Doc.good_small hx.2), chkE_none.mpr hx]
    rfl
  have e2 : F_check_document [y.d] = .ok .none := by
    rw [checkE (by omega) (Doc.good_small hy.2), chkE_none.mpr hy]
    rfl
  have e3 : F_changes_of 25 [x.d, y.d, .tuple []] = _ := changes_of_ok 25 x y [] hd hd (by omega) (by omega) (by omega) (by simp; omega)
  have e4 : dTupleOf [.list ((Doc.chg [] x y).map rd)] = some (.tuple ((Doc.chg [] x y).map rd)) := rfl
  rw [e0, B_changes]
  simp -implicitDefEqProofs only [p_seqS, p_ifS, p_orT, p_andT, p_andV, p_orV, p_ifT, p_bin2, p_bin2B, p_chain3, p_bool, p_dIntOp, p_add, p_intOf, p_callR_ok, p_callR_err, p_gN, p_gT2, p_gsNil, p_gsCons, p_seqI_t, p_seqI_l, p_itm_t, p_itm_l, p_cst, p_un1, p_binN, p_notV, p_newL, p_tup, p_lst, p_slc, p_oNo, p_oYes, p_aNil, p_aCons, p_aStar, p_callF, p_callB, p_tval, p_notT, p_argI, p_setS, p_setNS, p_asgS, p_retS, p_exprS, p_forS, p_rtn, p_rtr, p_rte, mk0, mk1, mk2, mk3, okS0, okS1, okS2, okS3, rdVar, List.getElem?_cons_zero, List.getElem?_cons_succ, List.set_cons_zero, List.set_cons_succ, rs_bind_ok, rs_bind_err, rs_bind_bad, rs_map_ok, rs_map_err, rs_st_ok, rs_st_err, rs_ofO_some, ot_seq_next, ot_seq_ret, ot_seq_err, ot_seq_brk, ot_seq_cont, Option.bind_some, Option.map_some, if_true, Bool.false_eq_true, if_false, Bool.not_true, Bool.not_false, methF, owOf, setOw, e1, e2, e3, e4]
theorem changes_bad (x : Doc) (d : PyData) (hd : x.depth < 80) (hs : x.small) {c : Str} (h : chkE x = some c) : F_changes [x.d, d] = .err c := by
  show runF 2 2 B_changes _ = _
  rw [runF_at (m := 2) rfl]
  have e0 : initE 2 [x.d, d] = [.dat x.d, .dat d] := rfl
  have ec := checkE hd hs
  rw [h] at ec
  have ec : F_check_document [x.d] = .err c := ec
  rw [e0, B_changes]
  simp -implicitDefEqProofs only [p_seqS, p_ifS, p_orT, p_andT, p_andV, p_orV, p_ifT, p_bin2, p_bin2B, p_chain3, p_bool, p_dIntOp, p_add, p_intOf, p_callR_ok, p_callR_err, p_gN, p_gT2, p_gsNil, p_gsCons, p_seqI_t, p_seqI_l, p_itm_t, p_itm_l, p_cst, p_un1, p_binN, p_notV, p_newL, p_tup, p_lst, p_slc, p_oNo, p_oYes, p_aNil, p_aCons, p_aStar, p_callF, p_callB, p_tval, p_notT, p_argI, p_setS, p_setNS, p_asgS, p_retS, p_exprS, p_forS, p_rtn, p_rtr, p_rte, mk0, mk1, mk2, mk3, okS0, okS1, okS2, okS3, rdVar, List.getElem?_cons_zero, List.getElem?_cons_succ, List.set_cons_zero, List.set_cons_succ, rs_bind_ok, rs_bind_err, rs_bind_bad, rs_map_ok, rs_map_err, rs_st_ok, rs_st_err, rs_ofO_some, ot_seq_next, ot_seq_ret, ot_seq_err, ot_seq_brk, ot_seq_cont, Option.bind_some, Option.map_some, if_true, Bool.false_eq_true, if_false, Bool.not_true, Bool.not_false, methF, owOf, setOw, ec]
theorem changes_bad2 (x y : Doc) (hx : Std x) (hd : y.depth < 80) (hs : y.small) {c : Str} (h : chkE y = some c) : F_changes [x.d, y.d] = .err c := by
  show runF 2 2 B_changes _ = _
  rw [runF_at (m := 2) rfl]
  have e0 : initE 2 [x.d, y.d] = [.dat x.d, .dat y.d] := rfl
  have bx := hx.bd
  have e1 : F_check_document [x.d] = .ok .none := by
    rw [checkE (by omega) (Doc.good_small hx.2), chkE_none.mpr hx]
    rfl
  have ec := checkE hd hs
  rw [h] at ec
  have ec : F_check_document [y.d] = .err c := ec
  rw [e0, B_changes]
  simp -implicitDefEqProofs only [p_seqS, p_ifS, p_orT, p_andT, p_andV, p_orV, p_ifT, p_bin2, p_bin2B, p_chain3, p_bool, p_dIntOp, p_add, p_intOf, p_callR_ok, p_callR_err, p_gN, p_gT2, p_gsNil, p_gsCons, p_seqI_t, p_seqI_l, p_itm_t, p_itm_l, p_cst, p_un1, p_binN, p_notV, p_newL, p_tup, p_lst, p_slc, p_oNo, p_oYes, p_aNil, p_aCons, p_aStar, p_callF, p_callB, p_tval, p_notT, p_argI, p_setS, p_setNS, p_asgS, p_retS, p_exprS, p_forS, p_rtn, p_rtr, p_rte, mk0, mk1, mk2, mk3, okS0, okS1, okS2, okS3, rdVar, List.getElem?_cons_zero, List.getElem?_cons_succ, List.set_cons_zero, List.set_cons_succ, rs_bind_ok, rs_bind_err, rs_bind_bad, rs_map_ok, rs_map_err, rs_st_ok, rs_st_err, rs_ofO_some, ot_seq_next, ot_seq_ret, ot_seq_err, ot_seq_brk, ot_seq_cont, Option.bind_some, Option.map_some, if_true, Bool.false_eq_true, if_false, Bool.not_true, Bool.not_false, methF, owOf, setOw, e1, ec]
end ML
set_option maxRecDepth 100000
set_option maxHeartbeats 4000000
/-! the law's own changed -/
namespace ML
open PySem L2
def outD : Except Str Doc → PyData
  | .ok y => .tuple [.str "told", y.d]
  | .error c => .str (if c = "NotAllowed" then "refused" else "large")
def DK : En → Ot := seqS (ifS (notT (tval (chain3 (dIntOp fun i j => .bool (decide (i ≤ j))) (dIntOp fun i j => .bool (decide (i < j))) (cst (.int 0)) (rdVar 5) (bin2 (dIntOp fun i j => .int (i - j)) (callB dLen (aCons (rdVar 4) aNil)) (cst (.int 1)))))) (retS (cst (.str "refused"))) .next)
    (setS 4 (bin2 dIx (rdVar 4) (bin2 dAdd (rdVar 5) (cst (.int 1)))))
theorem DK_some {x y : Doc} {i : Int} {s0 s1 s2 s3 s6 : Sl} (h : x.kid i = some y) : DK [s0, s1, s2, s3, .dat x.d, .dat (.int i), s6] = .next [s0, s1, s2, s3, .dat y.d, .dat (.int i), s6] := by
  obtain ⟨h0, h1, _⟩ := Doc.kid_some h
  have e1 : decide (0 ≤ i) = true := by simpa using h0
  have e2 : decide (i < (x.kids.length : Int) + 1 - 1) = true := by simp; omega
  have ex := ix_kidI h
  unfold DK
  simp -implicitDefEqProofs only [p_seqS, p_ifS, p_orT, p_andT, p_andV, p_orV, p_ifT, p_bin2, p_bin2B, p_chain3, p_bool, p_dIntOp, p_add, p_intOf, p_callR_ok, p_callR_err, p_gN, p_gT2, p_gsNil, p_gsCons, p_seqI_t, p_seqI_l, p_itm_t, p_itm_l, p_cst, p_un1, p_binN, p_notV, p_newL, p_tup, p_lst, p_slc, p_oNo, p_oYes, p_aNil, p_aCons, p_aStar, p_callF, p_callB, p_tval, p_notT, p_argI, p_setS, p_setNS, p_asgS, p_retS, p_exprS, p_forS, p_rtn, p_rtr, p_rte, mk0, mk1, mk2, mk3, okS0, okS1, okS2, okS3, rdVar, List.getElem?_cons_zero, List.getElem?_cons_succ, List.set_cons_zero, List.set_cons_succ, rs_bind_ok, rs_bind_err, rs_bind_bad, rs_map_ok, rs_map_err, rs_st_ok, rs_st_err, rs_ofO_some, ot_seq_next, ot_seq_ret, ot_seq_err, ot_seq_brk, ot_seq_cont, Option.bind_some, Option.map_some, if_true, Bool.false_eq_true, if_false, Bool.not_true, Bool.not_false, methF, owOf, setOw, e1, len_d, e2, ex]
theorem DK_none {x : Doc} {i : Int} {s0 s1 s2 s3 s6 : Sl} (h : x.kid i = none) : DK [s0, s1, s2, s3, .dat x.d, .dat (.int i), s6] = .ret (.str "refused") [s0, s1, s2, s3, .dat x.d, .dat (.int i), s6] := by
  have h0 := Doc.kid_none h
  unfold DK
  by_cases e0 : 0 ≤ i
  · have e1 : decide (0 ≤ i) = true := by simpa using e0
    have e2 : decide (i < (x.kids.length : Int) + 1 - 1) = false := by simp; omega
    simp -implicitDefEqProofs only [p_seqS, p_ifS, p_orT, p_andT, p_andV, p_orV, p_ifT, p_bin2, p_bin2B, p_chain3, p_bool, p_dIntOp, p_add, p_intOf, p_callR_ok, p_callR_err, p_gN, p_gT2, p_gsNil, p_gsCons, p_seqI_t, p_seqI_l, p_itm_t, p_itm_l, p_cst, p_un1, p_binN, p_notV, p_newL, p_tup, p_lst, p_slc, p_oNo, p_oYes, p_aNil, p_aCons, p_aStar, p_callF, p_callB, p_tval, p_notT, p_argI, p_setS, p_setNS, p_asgS, p_retS, p_exprS, p_forS, p_rtn, p_rtr, p_rte, mk0, mk1, mk2, mk3, okS0, okS1, okS2, okS3, rdVar, List.getElem?_cons_zero, List.getElem?_cons_succ, List.set_cons_zero, List.set_cons_succ, rs_bind_ok, rs_bind_err, rs_bind_bad, rs_map_ok, rs_map_err, rs_st_ok, rs_st_err, rs_ofO_some, ot_seq_next, ot_seq_ret, ot_seq_err, ot_seq_brk, ot_seq_cont, Option.bind_some, Option.map_some, if_true, Bool.false_eq_true, if_false, Bool.not_true, Bool.not_false, methF, owOf, setOw, e1, len_d, e2]
  · have e1 : decide (0 ≤ i) = false := by simpa using e0
    simp -implicitDefEqProofs only [p_seqS, p_ifS, p_orT, p_andT, p_andV, p_orV, p_ifT, p_bin2, p_bin2B, p_chain3, p_bool, p_dIntOp, p_add, p_intOf, p_callR_ok, p_callR_err, p_gN, p_gT2, p_gsNil, p_gsCons, p_seqI_t, p_seqI_l, p_itm_t, p_itm_l, p_cst, p_un1, p_binN, p_notV, p_newL, p_tup, p_lst, p_slc, p_oNo, p_oYes, p_aNil, p_aCons, p_aStar, p_callF, p_callB, p_tval, p_notT, p_argI, p_setS, p_setNS, p_asgS, p_retS, p_exprS, p_forS, p_rtn, p_rtr, p_rte, mk0, mk1, mk2, mk3, okS0, okS1, okS2, okS3, rdVar, List.getElem?_cons_zero, List.getElem?_cons_succ, List.set_cons_zero, List.set_cons_succ, rs_bind_ok, rs_bind_err, rs_bind_bad, rs_map_ok, rs_map_err, rs_st_ok, rs_st_err, rs_ofO_some, ot_seq_next, ot_seq_ret, ot_seq_err, ot_seq_brk, ot_seq_cont, Option.bind_some, Option.map_some, if_true, Bool.false_eq_true, if_false, Bool.not_true, Bool.not_false, methF, owOf, setOw, e1]
theorem DK_loop : ∀ (p : Path) (x : Doc) (s0 s1 s2 s3 s5 s6 : Sl), match x.at? p with
    | some y => ∃ s5', forF (gN 5) DK (p.map .int) [s0, s1, s2, s3, .dat x.d, s5, s6] = .next [s0, s1, s2, s3, .dat y.d, s5', s6]
    | none => ∃ ρ', forF (gN 5) DK (p.map .int) [s0, s1, s2, s3, .dat x.d, s5, s6] = .ret (.str "refused") ρ'
  | [], x, s0, s1, s2, s3, s5, s6 => ⟨s5, rfl⟩
  | i :: p, x, s0, s1, s2, s3, s5, s6 => by
    have step : forF (gN 5) DK ((i :: p).map .int) [s0, s1, s2, s3, .dat x.d, s5, s6] = match DK [s0, s1, s2, s3, .dat x.d, .dat (.int i), s6] with
      | .next ρ2 => forF (gN 5) DK (p.map .int) ρ2
      | .cont ρ2 => forF (gN 5) DK (p.map .int) ρ2
      | .brk ρ2 => .next ρ2
      | .ret d ρ2 => .ret d ρ2
      | .err c ρ2 => .err c ρ2
      | .bad => .bad := rfl
    rw [step]
    unfold Doc.at?
    cases hk : x.kid i with
    | none =>
      rw [DK_none hk]
      exact ⟨_, rfl⟩
    | some y =>
      rw [DK_some hk, Option.bind_some]
      exact DK_loop p y s0 s1 s2 s3 (.dat (.int i)) s6
def DB : En → Ot := seqS (setS 4 (rdVar 0))
    (seqS (forS (un1 seqItems (rdVar 2)) (gN 5) DK)
    (ifS (tval (isiF "str" (rdVar 3))) (seqS (ifS (notT (tval (callF F__law_is_label (aCons (rdVar 3) aNil)))) (retS (cst (.str "refused"))) .next)
    (setS 0 (callF (F__law_put 80) (aCons (rdVar 0) (aCons (rdVar 2) (aCons (bin2 dAdd (tup (aCons (rdVar 3) aNil)) (slc (rdVar 4) (oYes (cst (.int 1))) oNo)) aNil)))))) (seqS (setS 6 (callF F__law_document_due (aCons (rdVar 3) aNil)))
    (seqS (ifS (bin2B dIsNot (rdVar 6) (cst .none)) (retS (rdVar 6)) .next)
    (seqS (setS 0 (callF (F__law_put 80) (aCons (rdVar 0) (aCons (rdVar 2) (aCons (rdVar 3) aNil)))))
    (ifS (orT (bin2B (dIntOp fun i j => .bool (decide (j < i))) (callF (F__law_size 80) (aCons (rdVar 0) aNil)) (cst (.int 300))) (bin2B (dIntOp fun i j => .bool (decide (j < i))) (callF (F__law_depth 80) (aCons (rdVar 0) aNil)) (cst (.int 40)))) (retS (cst (.str "large"))) .next))))))
theorem add_lab (s : Str) (z : Doc) (hf : z.fit) : dAdd (.tuple [.str s]) (.tuple (z.kids.map Doc.d)) = some (Doc.node s z.kids).d := by
  have hb := big
  have h2 := Doc.sizes_len z.kids
  have h3 := z.size_kids
  unfold Doc.fit at hf
  rw [add_tup (by simp; omega), Doc.d_eq]
  rfl
theorem isn_nn : dIsNot .none .none = some (.bool false) := rfl
theorem isn_sn (s : Str) : dIsNot (.str s) .none = some (.bool true) := rfl
theorem DB_step {x : Doc} {r : Row} {s1 s4 s5 s6 : Sl} (h : Std x) (hr : rowOk r) : match stepR x r with
    | .ok y => ∃ s4' s5' s6', DB [.dat x.d, s1, .dat (pd r.1), .dat r.2.d, s4, s5, s6] = .next [.dat y.d, s1, .dat (pd r.1), .dat r.2.d, s4', s5', s6']
    | .error c => ∃ ρ', DB [.dat x.d, s1, .dat (pd r.1), .dat r.2.d, s4, s5, s6] = .ret (outD (.error c)) ρ' := by
  obtain ⟨p, t⟩ := r
  obtain ⟨b1, b2⟩ := h.bd
  have hf : x.fit := by unfold Doc.fit; omega
  have lp := DK_loop p x (.dat x.d) s1 (.dat (pd p)) (.dat t.d) s5 s6
  have es : seqItems (pd p) = some (p.map .int) := rfl
  unfold stepR DB
  dsimp only
  cases ha : x.at? p with
  | none =>
    rw [ha] at lp
    obtain ⟨ρ', e⟩ := lp
    exact ⟨_, by simp -implicitDefEqProofs only [p_seqS, p_ifS, p_orT, p_andT, p_andV, p_orV, p_ifT, p_bin2, p_bin2B, p_chain3, p_bool, p_dIntOp, p_add, p_intOf, p_callR_ok, p_callR_err, p_gN, p_gT2, p_gsNil, p_gsCons, p_seqI_t, p_seqI_l, p_itm_t, p_itm_l, p_cst, p_un1, p_binN, p_notV, p_newL, p_tup, p_lst, p_slc, p_oNo, p_oYes, p_aNil, p_aCons, p_aStar, p_callF, p_callB, p_tval, p_notT, p_argI, p_setS, p_setNS, p_asgS, p_retS, p_exprS, p_forS, p_rtn, p_rtr, p_rte, mk0, mk1, mk2, mk3, okS0, okS1, okS2, okS3, rdVar, List.getElem?_cons_zero, List.getElem?_cons_succ, List.set_cons_zero, List.set_cons_succ, rs_bind_ok, rs_bind_err, rs_bind_bad, rs_map_ok, rs_map_err, rs_st_ok, rs_st_err, rs_ofO_some, ot_seq_next, ot_seq_ret, ot_seq_err, ot_seq_brk, ot_seq_cont, Option.bind_some, Option.map_some, if_true, Bool.false_eq_true, if_false, Bool.not_true, Bool.not_false, methF, owOf, setOw, es, e]; rfl⟩
  | some z =>
    rw [ha] at lp
    obtain ⟨s5', e⟩ := lp
    have zs := Doc.at_size ha
    have zd := Doc.at_depth ha
    have hz : z.fit := by unfold Doc.fit; omega
    dsimp only
    cases t with
    | lab s =>
      have hs : s.length ≤ sizeLine := hr.2
      have el := law_is_label_ok hs
      have e : forF (gN 5) DK (p.map .int) [.dat x.d, s1, .dat (pd p), .dat (.str s), .dat x.d, s5, s6] = _ := e
      dsimp only
      cases hl : isLab s with
      | false =>
        rw [hl] at el
        rw [if_neg (by simp)]
        exact ⟨_, by simp -implicitDefEqProofs only [p_seqS, p_ifS, p_orT, p_andT, p_andV, p_orV, p_ifT, p_bin2, p_bin2B, p_chain3, p_bool, p_dIntOp, p_add, p_intOf, p_callR_ok, p_callR_err, p_gN, p_gT2, p_gsNil, p_gsCons, p_seqI_t, p_seqI_l, p_itm_t, p_itm_l, p_cst, p_un1, p_binN, p_notV, p_newL, p_tup, p_lst, p_slc, p_oNo, p_oYes, p_aNil, p_aCons, p_aStar, p_callF, p_callB, p_tval, p_notT, p_argI, p_setS, p_setNS, p_asgS, p_retS, p_exprS, p_forS, p_rtn, p_rtr, p_rte, mk0, mk1, mk2, mk3, okS0, okS1, okS2, okS3, rdVar, List.getElem?_cons_zero, List.getElem?_cons_succ, List.set_cons_zero, List.set_cons_succ, rs_bind_ok, rs_bind_err, rs_bind_bad, rs_map_ok, rs_map_err, rs_st_ok, rs_st_err, rs_ofO_some, ot_seq_next, ot_seq_ret, ot_seq_err, ot_seq_brk, ot_seq_cont, Option.bind_some, Option.map_some, if_true, Bool.false_eq_true, if_false, Bool.not_true, Bool.not_false, methF, owOf, setOw, es, Told.d, e, p_isiF, ty_str, kit_ss, el]; rfl⟩
      | true =>
        rw [hl] at el
        have ep := law_put_ok 80 x p (.node s z.kids) (by omega) (by rw [ha]; simp) hf
        exact ⟨_, _, _, by simp -implicitDefEqProofs only [p_seqS, p_ifS, p_orT, p_andT, p_andV, p_orV, p_ifT, p_bin2, p_bin2B, p_chain3, p_bool, p_dIntOp, p_add, p_intOf, p_callR_ok, p_callR_err, p_gN, p_gT2, p_gsNil, p_gsCons, p_seqI_t, p_seqI_l, p_itm_t, p_itm_l, p_cst, p_un1, p_binN, p_notV, p_newL, p_tup, p_lst, p_slc, p_oNo, p_oYes, p_aNil, p_aCons, p_aStar, p_callF, p_callB, p_tval, p_notT, p_argI, p_setS, p_setNS, p_asgS, p_retS, p_exprS, p_forS, p_rtn, p_rtr, p_rte, mk0, mk1, mk2, mk3, okS0, okS1, okS2, okS3, rdVar, List.getElem?_cons_zero, List.getElem?_cons_succ, List.set_cons_zero, List.set_cons_succ, rs_bind_ok, rs_bind_err, rs_bind_bad, rs_map_ok, rs_map_err, rs_st_ok, rs_st_err, rs_ofO_some, ot_seq_next, ot_seq_ret, ot_seq_err, ot_seq_brk, ot_seq_cont, Option.bind_some, Option.map_some, if_true, Bool.false_eq_true, if_false, Bool.not_true, Bool.not_false, methF, owOf, setOw, es, Told.d, e, p_isiF, ty_str, kit_ss, el, tail_d, add_lab s z hz, ep]; rfl⟩
    | doc o =>
      obtain ⟨o1, o2, o3⟩ : o.depth ≤ 30 ∧ o.small ∧ o.fit := hr.2
      have e : forF (gN 5) DK (p.map .int) [.dat x.d, s1, .dat (pd p), .dat o.d, .dat x.d, s5, s6] = _ := e
      have hd := Doc.put_depth (o := o) ha
      have hsz := Doc.put_size (o := o) ha
      have ed := law_document_due_ok o (by omega) o3 o2
      have ep := law_put_ok 80 x p o (by omega) (by rw [ha]; simp) hf
      unfold dueD at ed
      dsimp only
      unfold chkE
      by_cases hbo : bigD o
      · rw [if_pos hbo] at ed ⊢
        exact ⟨_, by simp -implicitDefEqProofs only [p_seqS, p_ifS, p_orT, p_andT, p_andV, p_orV, p_ifT, p_bin2, p_bin2B, p_chain3, p_bool, p_dIntOp, p_add, p_intOf, p_callR_ok, p_callR_err, p_gN, p_gT2, p_gsNil, p_gsCons, p_seqI_t, p_seqI_l, p_itm_t, p_itm_l, p_cst, p_un1, p_binN, p_notV, p_newL, p_tup, p_lst, p_slc, p_oNo, p_oYes, p_aNil, p_aCons, p_aStar, p_callF, p_callB, p_tval, p_notT, p_argI, p_setS, p_setNS, p_asgS, p_retS, p_exprS, p_forS, p_rtn, p_rtr, p_rte, mk0, mk1, mk2, mk3, okS0, okS1, okS2, okS3, rdVar, List.getElem?_cons_zero, List.getElem?_cons_succ, List.set_cons_zero, List.set_cons_succ, rs_bind_ok, rs_bind_err, rs_bind_bad, rs_map_ok, rs_map_err, rs_st_ok, rs_st_err, rs_ofO_some, ot_seq_next, ot_seq_ret, ot_seq_err, ot_seq_brk, ot_seq_cont, Option.bind_some, Option.map_some, if_true, Bool.false_eq_true, if_false, Bool.not_true, Bool.not_false, methF, owOf, setOw, es, Told.d, e, p_isiF, ty_doc, kit_ts, ed, isn_sn]; rfl⟩
      · rw [if_neg hbo] at ed ⊢
        by_cases hg : o.Good
        · rw [if_pos hg] at ed ⊢
          dsimp only
          have hbo' : o.size ≤ 300 := by unfold bigD at hbo; omega
          have m1 := law_size_ok 80 (x.put p o) (by omega) (by unfold Doc.fit; omega)
          have m2 := law_depth_ok 80 (x.put p o) (by omega) (by unfold Doc.fit; omega)
          by_cases hb : bigD (x.put p o)
          · rw [if_pos hb]
            by_cases h1 : decide ((300 : Int) < ((x.put p o).size : Nat)) = true
            · exact ⟨_, by simp -implicitDefEqProofs only [p_seqS, p_ifS, p_orT, p_andT, p_andV, p_orV, p_ifT, p_bin2, p_bin2B, p_chain3, p_bool, p_dIntOp, p_add, p_intOf, p_callR_ok, p_callR_err, p_gN, p_gT2, p_gsNil, p_gsCons, p_seqI_t, p_seqI_l, p_itm_t, p_itm_l, p_cst, p_un1, p_binN, p_notV, p_newL, p_tup, p_lst, p_slc, p_oNo, p_oYes, p_aNil, p_aCons, p_aStar, p_callF, p_callB, p_tval, p_notT, p_argI, p_setS, p_setNS, p_asgS, p_retS, p_exprS, p_forS, p_rtn, p_rtr, p_rte, mk0, mk1, mk2, mk3, okS0, okS1, okS2, okS3, rdVar, List.getElem?_cons_zero, List.getElem?_cons_succ, List.set_cons_zero, List.set_cons_succ, rs_bind_ok, rs_bind_err, rs_bind_bad, rs_map_ok, rs_map_err, rs_st_ok, rs_st_err, rs_ofO_some, ot_seq_next, ot_seq_ret, ot_seq_err, ot_seq_brk, ot_seq_cont, Option.bind_some, Option.map_some, if_true, Bool.false_eq_true, if_false, Bool.not_true, Bool.not_false, methF, owOf, setOw, es, Told.d, e, p_isiF, ty_doc, kit_ts, ed, isn_nn, ep, m1, h1]; rfl⟩
            · have h2 := (big_iff.mpr hb).resolve_left h1
              have h1 : decide ((300 : Int) < ((x.put p o).size : Nat)) = false := by simpa using h1
              exact ⟨_, by simp -implicitDefEqProofs only [p_seqS, p_ifS, p_orT, p_andT, p_andV, p_orV, p_ifT, p_bin2, p_bin2B, p_chain3, p_bool, p_dIntOp, p_add, p_intOf, p_callR_ok, p_callR_err, p_gN, p_gT2, p_gsNil, p_gsCons, p_seqI_t, p_seqI_l, p_itm_t, p_itm_l, p_cst, p_un1, p_binN, p_notV, p_newL, p_tup, p_lst, p_slc, p_oNo, p_oYes, p_aNil, p_aCons, p_aStar, p_callF, p_callB, p_tval, p_notT, p_argI, p_setS, p_setNS, p_asgS, p_retS, p_exprS, p_forS, p_rtn, p_rtr, p_rte, mk0, mk1, mk2, mk3, okS0, okS1, okS2, okS3, rdVar, List.getElem?_cons_zero, List.getElem?_cons_succ, List.set_cons_zero, List.set_cons_succ, rs_bind_ok, rs_bind_err, rs_bind_bad, rs_map_ok, rs_map_err, rs_st_ok, rs_st_err, rs_ofO_some, ot_seq_next, ot_seq_ret, ot_seq_err, ot_seq_brk, ot_seq_cont, Option.bind_some, Option.map_some, if_true, Bool.false_eq_true, if_false, Bool.not_true, Bool.not_false, methF, owOf, setOw, es, Told.d, e, p_isiF, ty_doc, kit_ts, ed, isn_nn, ep, m1, h1, m2, h2]; rfl⟩
          · rw [if_neg hb]
            have h1 : decide ((300 : Int) < ((x.put p o).size : Nat)) = false := by
              have := mt (fun q => big_iff.mp (.inl q)) hb
              simpa using this
            have h2 : decide ((40 : Int) < ((x.put p o).depth : Nat)) = false := by
              have := mt (fun q => big_iff.mp (.inr q)) hb
              simpa using this
            exact ⟨_, _, _, by simp -implicitDefEqProofs only [p_seqS, p_ifS, p_orT, p_andT, p_andV, p_orV, p_ifT, p_bin2, p_bin2B, p_chain3, p_bool, p_dIntOp, p_add, p_intOf, p_callR_ok, p_callR_err, p_gN, p_gT2, p_gsNil, p_gsCons, p_seqI_t, p_seqI_l, p_itm_t, p_itm_l, p_cst, p_un1, p_binN, p_notV, p_newL, p_tup, p_lst, p_slc, p_oNo, p_oYes, p_aNil, p_aCons, p_aStar, p_callF, p_callB, p_tval, p_notT, p_argI, p_setS, p_setNS, p_asgS, p_retS, p_exprS, p_forS, p_rtn, p_rtr, p_rte, mk0, mk1, mk2, mk3, okS0, okS1, okS2, okS3, rdVar, List.getElem?_cons_zero, List.getElem?_cons_succ, List.set_cons_zero, List.set_cons_succ, rs_bind_ok, rs_bind_err, rs_bind_bad, rs_map_ok, rs_map_err, rs_st_ok, rs_st_err, rs_ofO_some, ot_seq_next, ot_seq_ret, ot_seq_err, ot_seq_brk, ot_seq_cont, Option.bind_some, Option.map_some, if_true, Bool.false_eq_true, if_false, Bool.not_true, Bool.not_false, methF, owOf, setOw, es, Told.d, e, p_isiF, ty_doc, kit_ts, ed, isn_nn, ep, m1, h1, m2, h2]; rfl⟩
        · rw [if_neg hg] at ed ⊢
          exact ⟨_, by simp -implicitDefEqProofs only [p_seqS, p_ifS, p_orT, p_andT, p_andV, p_orV, p_ifT, p_bin2, p_bin2B, p_chain3, p_bool, p_dIntOp, p_add, p_intOf, p_callR_ok, p_callR_err, p_gN, p_gT2, p_gsNil, p_gsCons, p_seqI_t, p_seqI_l, p_itm_t, p_itm_l, p_cst, p_un1, p_binN, p_notV, p_newL, p_tup, p_lst, p_slc, p_oNo, p_oYes, p_aNil, p_aCons, p_aStar, p_callF, p_callB, p_tval, p_notT, p_argI, p_setS, p_setNS, p_asgS, p_retS, p_exprS, p_forS, p_rtn, p_rtr, p_rte, mk0, mk1, mk2, mk3, okS0, okS1, okS2, okS3, rdVar, List.getElem?_cons_zero, List.getElem?_cons_succ, List.set_cons_zero, List.set_cons_succ, rs_bind_ok, rs_bind_err, rs_bind_bad, rs_map_ok, rs_map_err, rs_st_ok, rs_st_err, rs_ofO_some, ot_seq_next, ot_seq_ret, ot_seq_err, ot_seq_brk, ot_seq_cont, Option.bind_some, Option.map_some, if_true, Bool.false_eq_true, if_false, Bool.not_true, Bool.not_false, methF, owOf, setOw, es, Told.d, e, p_isiF, ty_doc, kit_ts, ed, isn_sn]; rfl⟩
theorem DB_loop : ∀ (rs : List Row) (x : Doc) (s1 s2 s3 s4 s5 s6 : Sl), Std x → (∀ r ∈ rs, rowOk r) → match app x rs with
    | .ok y => ∃ s2' s3' s4' s5' s6', forF (gT 2 (gsCons (gN 2) (gsCons (gN 3) gsNil))) DB (rs.map rd) [.dat x.d, s1, s2, s3, s4, s5, s6] = .next [.dat y.d, s1, s2', s3', s4', s5', s6']
    | .error c => ∃ ρ', forF (gT 2 (gsCons (gN 2) (gsCons (gN 3) gsNil))) DB (rs.map rd) [.dat x.d, s1, s2, s3, s4, s5, s6] = .ret (outD (.error c)) ρ'
  | [], x, s1, s2, s3, s4, s5, s6, _, _ => ⟨_, _, _, _, _, rfl⟩
  | r :: rs, x, s1, s2, s3, s4, s5, s6, h, hr => by
    have step : forF (gT 2 (gsCons (gN 2) (gsCons (gN 3) gsNil))) DB ((r :: rs).map rd) [.dat x.d, s1, s2, s3, s4, s5, s6] = match DB [.dat x.d, s1, .dat (pd r.1), .dat r.2.d, s4, s5, s6] with
      | .next ρ2 => forF (gT 2 (gsCons (gN 2) (gsCons (gN 3) gsNil))) DB (rs.map rd) ρ2
      | .cont ρ2 => forF (gT 2 (gsCons (gN 2) (gsCons (gN 3) gsNil))) DB (rs.map rd) ρ2
      | .brk ρ2 => .next ρ2
      | .ret d ρ2 => .ret d ρ2
      | .err c ρ2 => .err c ρ2
      | .bad => .bad := rfl
    have one := DB_step (s1 := s1) (s4 := s4) (s5 := s5) (s6 := s6) h (hr r (by simp))
    rw [step]
    unfold app
    cases hs : stepR x r with
    | error c =>
      rw [hs] at one
      obtain ⟨ρ', e⟩ := one
      rw [e]
      exact ⟨_, rfl⟩
    | ok y =>
      rw [hs] at one
      obtain ⟨s4', s5', s6', e⟩ := one
      rw [e]
      exact DB_loop rs y s1 _ _ s4' s5' s6' (step_std h hs) fun r hr' => hr r (by simp [hr'])
theorem law_due_ok (x : Doc) (rs : List Row) (h : Std x) (hr : ∀ r ∈ rs, rowOk r) : F__law_due [x.d, .tuple (rs.map rd)] = .ok (outD (app x rs)) := by
  show runF 7 2 B__law_due _ = _
  rw [runF_at (m := 2) rfl]
  have e0 : initE 7 [x.d, .tuple (rs.map rd)] = [.dat x.d, .dat (.tuple (rs.map rd)), .un, .un, .un, .un, .un] := rfl
  have eb : B__law_due = seqS (forS (un1 seqItems (rdVar 1)) (gT 2 (gsCons (gN 2) (gsCons (gN 3) gsNil))) DB) (retS (tup (aCons (cst (.str "told")) (aCons (rdVar 0) aNil)))) := rfl
  have lp := DB_loop rs x (.dat (.tuple (rs.map rd))) .un .un .un .un .un h hr
  rw [e0, eb]
  cases ha : app x rs with
  | error c =>
    rw [ha] at lp
    obtain ⟨ρ', e⟩ := lp
    simp -implicitDefEqProofs only [p_seqS, p_ifS, p_orT, p_andT, p_andV, p_orV, p_ifT, p_bin2, p_bin2B, p_chain3, p_bool, p_dIntOp, p_add, p_intOf, p_callR_ok, p_callR_err, p_gN, p_gT2, p_gsNil, p_gsCons, p_seqI_t, p_seqI_l, p_itm_t, p_itm_l, p_cst, p_un1, p_binN, p_notV, p_newL, p_tup, p_lst, p_slc, p_oNo, p_oYes, p_aNil, p_aCons, p_aStar, p_callF, p_callB, p_tval, p_notT, p_argI, p_setS, p_setNS, p_asgS, p_retS, p_exprS, p_forS, p_rtn, p_rtr, p_rte, mk0, mk1, mk2, mk3, okS0, okS1, okS2, okS3, rdVar, List.getElem?_cons_zero, List.getElem?_cons_succ, List.set_cons_zero, List.set_cons_succ, rs_bind_ok, rs_bind_err, rs_bind_bad, rs_map_ok, rs_map_err, rs_st_ok, rs_st_err, rs_ofO_some, ot_seq_next, ot_seq_ret, ot_seq_err, ot_seq_brk, ot_seq_cont, Option.bind_some, Option.map_some, if_true, Bool.false_eq_true, if_false, Bool.not_true, Bool.not_false, methF, owOf, setOw, e]
  | ok y =>
    rw [ha] at lp
    obtain ⟨a, b, c, d, f, e⟩ := lp
    simp -implicitDefEqProofs only [p_seqS, p_ifS, p_orT, p_andT, p_andV, p_orV, p_ifT, p_bin2, p_bin2B, p_chain3, p_bool, p_dIntOp, p_add, p_intOf, p_callR_ok, p_callR_err, p_gN, p_gT2, p_gsNil, p_gsCons, p_seqI_t, p_seqI_l, p_itm_t, p_itm_l, p_cst, p_un1, p_binN, p_notV, p_newL, p_tup, p_lst, p_slc, p_oNo, p_oYes, p_aNil, p_aCons, p_aStar, p_callF, p_callB, p_tval, p_notT, p_argI, p_setS, p_setNS, p_asgS, p_retS, p_exprS, p_forS, p_rtn, p_rtr, p_rte, mk0, mk1, mk2, mk3, okS0, okS1, okS2, okS3, rdVar, List.getElem?_cons_zero, List.getElem?_cons_succ, List.set_cons_zero, List.set_cons_succ, rs_bind_ok, rs_bind_err, rs_bind_bad, rs_map_ok, rs_map_err, rs_st_ok, rs_st_err, rs_ofO_some, ot_seq_next, ot_seq_ret, ot_seq_err, ot_seq_brk, ot_seq_cont, Option.bind_some, Option.map_some, if_true, Bool.false_eq_true, if_false, Bool.not_true, Bool.not_false, methF, owOf, setOw, e]
    rfl
/-! told -/
theorem res_ok {c : Str} (h : c = "NotAllowed" ∨ c = "TooLarge") : res c = some (if c = "NotAllowed" then ("refused" : Str) else ("large" : Str)) := by
  rcases h with rfl | rfl
  · rfl
  · rfl
theorem told_ok {k : Nat} {a b d : PyData} (F : List PyData → Rt) (hk : [F_changes, F_changed][k]? = some F) (h : F [a, b] = .ok d) : F__law_told [.int (k : Nat), a, b] = .ok (.tuple [.str "told", d]) := by
  show runF 4 3 B__law_told _ = _
  rw [runF_at (m := 3) rfl]
  have e0 : initE 4 [.int (k : Nat), a, b] = [.dat (.int (k : Nat)), .dat a, .dat b, .un] := rfl
  have ei : ixN [F_changes, F_changed].length (k : Int) = some k := by
    have hk2 := (List.getElem?_eq_some_iff.mp hk).1
    unfold ixN
    rw [if_pos (by omega), if_pos (by omega), Int.toNat_natCast]
  rw [e0, B__law_told]
  unfold tryF
  simp -implicitDefEqProofs only [p_seqS, p_ifS, p_orT, p_andT, p_andV, p_orV, p_ifT, p_bin2, p_bin2B, p_chain3, p_bool, p_dIntOp, p_add, p_intOf, p_callR_ok, p_callR_err, p_gN, p_gT2, p_gsNil, p_gsCons, p_seqI_t, p_seqI_l, p_itm_t, p_itm_l, p_cst, p_un1, p_binN, p_notV, p_newL, p_tup, p_lst, p_slc, p_oNo, p_oYes, p_aNil, p_aCons, p_aStar, p_callF, p_callB, p_tval, p_notT, p_argI, p_setS, p_setNS, p_asgS, p_retS, p_exprS, p_forS, p_rtn, p_rtr, p_rte, mk0, mk1, mk2, mk3, okS0, okS1, okS2, okS3, rdVar, List.getElem?_cons_zero, List.getElem?_cons_succ, List.set_cons_zero, List.set_cons_succ, rs_bind_ok, rs_bind_err, rs_bind_bad, rs_map_ok, rs_map_err, rs_st_ok, rs_st_err, rs_ofO_some, ot_seq_next, ot_seq_ret, ot_seq_err, ot_seq_brk, ot_seq_cont, Option.bind_some, Option.map_some, if_true, Bool.false_eq_true, if_false, Bool.not_true, Bool.not_false, methF, owOf, setOw, pickF, ei, hk, h]
theorem told_err {k : Nat} {a b : PyData} {c : Str} (F : List PyData → Rt) (hk : [F_changes, F_changed][k]? = some F) (h : F [a, b] = .err c) (hc : c = "NotAllowed" ∨ c = "TooLarge") : F__law_told [.int (k : Nat), a, b] = .ok (.str (if c = "NotAllowed" then "refused" else "large")) := by
  show runF 4 3 B__law_told _ = _
  rw [runF_at (m := 3) rfl]
  have e0 : initE 4 [.int (k : Nat), a, b] = [.dat (.int (k : Nat)), .dat a, .dat b, .un] := rfl
  have ei : ixN [F_changes, F_changed].length (k : Int) = some k := by
    have hk2 := (List.getElem?_eq_some_iff.mp hk).1
    unfold ixN
    rw [if_pos (by omega), if_pos (by omega), Int.toNat_natCast]
  rw [e0, B__law_told]
  unfold tryF
  simp -implicitDefEqProofs only [p_seqS, p_ifS, p_orT, p_andT, p_andV, p_orV, p_ifT, p_bin2, p_bin2B, p_chain3, p_bool, p_dIntOp, p_add, p_intOf, p_callR_ok, p_callR_err, p_gN, p_gT2, p_gsNil, p_gsCons, p_seqI_t, p_seqI_l, p_itm_t, p_itm_l, p_cst, p_un1, p_binN, p_notV, p_newL, p_tup, p_lst, p_slc, p_oNo, p_oYes, p_aNil, p_aCons, p_aStar, p_callF, p_callB, p_tval, p_notT, p_argI, p_setS, p_setNS, p_asgS, p_retS, p_exprS, p_forS, p_rtn, p_rtr, p_rte, mk0, mk1, mk2, mk3, okS0, okS1, okS2, okS3, rdVar, List.getElem?_cons_zero, List.getElem?_cons_succ, List.set_cons_zero, List.set_cons_succ, rs_bind_ok, rs_bind_err, rs_bind_bad, rs_map_ok, rs_map_err, rs_st_ok, rs_st_err, rs_ofO_some, ot_seq_next, ot_seq_ret, ot_seq_err, ot_seq_brk, ot_seq_cont, Option.bind_some, Option.map_some, if_true, Bool.false_eq_true, if_false, Bool.not_true, Bool.not_false, methF, owOf, setOw, pickF, ei, hk, h, res_ok hc]
  rfl
theorem step_err {x : Doc} {r : Row} {c : Str} (h : stepR x r = .error c) : c = "NotAllowed" ∨ c = "TooLarge" := by
  obtain ⟨p, t⟩ := r
  unfold stepR at h
  dsimp only at h
  cases ha : x.at? p with
  | none => rw [ha] at h; cases h; exact .inl rfl
  | some z =>
    rw [ha] at h
    dsimp only at h
    cases t with
    | lab s =>
      dsimp only at h
      split at h
      · cases h
      · cases h; exact .inl rfl
    | doc o =>
      dsimp only at h
      unfold chkE at h
      split at h
      · rename_i c' hc
        cases h
        split at hc
        · cases hc; exact .inr rfl
        · split at hc
          · cases hc
          · cases hc; exact .inl rfl
      · split at h
        · cases h; exact .inr rfl
        · cases h
theorem app_err : ∀ {rs : List Row} {x : Doc} {c : Str}, app x rs = .error c → c = "NotAllowed" ∨ c = "TooLarge"
  | [], x, c, h => by cases h
  | r :: rs, x, c, h => by
    unfold app at h
    cases hs : stepR x r with
    | error c' =>
      rw [hs] at h
      cases h
      exact step_err hs
    | ok y =>
      rw [hs] at h
      exact app_err h
theorem told_changed (x : Doc) (rs : List Row) (h : Std x) (hr : ∀ r ∈ rs, rowOk r) : F__law_told [.int 1, x.d, .tuple (rs.map rd)] = .ok (outD (app x rs)) := by
  have e := changed_ok x rs h hr
  cases ha : app x rs with
  | ok y =>
    rw [ha] at e
    exact told_ok (k := 1) F_changed rfl e
  | error c =>
    rw [ha] at e
    exact told_err (k := 1) F_changed rfl e (app_err ha)
end ML
set_option maxRecDepth 100000
set_option maxHeartbeats 4000000
/-! the drawn values: the stream, the next number, a label -/
namespace ML
open PySem L2
theorem p_callSF {i : Nat} {F : List PyData → List PyData → Rm} {g : En → Rs (List PyData)} {ρ : En} : callSF i F g ρ = (ofO ((ρ[i]?).bind owOf) ρ).bind fun _ ρ => (g ρ).bind fun ds ρ1 => match ρ1[i]? with
      | some s0 => match owOf s0 with
        | some xs => match F xs ds with
          | .ok d xs' => .ok d (ρ1.set i (setOw s0 xs'))
          | .bad => .bad
        | none => .bad
      | none => .bad := rfl
theorem p_ixvF {i : Nat} {g : En → Rs PyData} {ρ : En} : ixvF i g ρ = (ofO (lstAt ρ i) ρ).bind fun _ ρ => (g ρ).bind fun d ρ1 => (ofO (lstAt ρ1 i) ρ1).bind fun xs ρ1 => ofO (dIx (.list xs) d) ρ1 := rfl
theorem runS_at {n m : Nat} {body : En → Ot} {xs ds : List PyData} (h : ds.length + 1 = m) : runS n m body xs ds = (body (initS n xs ds)).rm := if_pos h
/-- a state, with at most b numbers drawn -/
def St (b : Nat) (s : List PyData) : Prop := ∃ (xs : List Int) (c : Nat), s = [.list (dInts xs), .int (c : Nat)] ∧ xs ≠ [] ∧ c ≤ b ∧ xs.length ≤ 1000000
theorem St.mono {b b' : Nat} {s : List PyData} (h : St b s) (hb : b ≤ b') : St b' s := by
  obtain ⟨xs, c, e, n, hc, hl⟩ := h
  exact ⟨xs, c, e, n, by omega, hl⟩
theorem dMul_int {i j : Int} (h : CMul i j) : dMul (.int i) (.int j) = some (.int (i * j)) := if_pos h
theorem dMod_int {i j : Int} (h : 0 < j) : dIntOpC (fun _ j => 0 < j) (fun i j => PyData.int (i % j)) (.int i) (.int j) = some (.int (i % j)) := if_pos h
theorem dDiv_int {i j : Int} (h : CDiv i j) : dIntOpC CDiv (fun i j => PyData.int (i / j)) (.int i) (.int j) = some (.int (i / j)) := if_pos h
theorem int1_i (i : Int) : dInt1 [.int i] = some (.int i) := rfl
theorem ix_l0 {a : PyData} {xs : List PyData} : dIx (.list (a :: xs)) (.int 0) = some a := atI_0
theorem ix_nat {xs : List PyData} {k : Nat} {x : PyData} (h : xs[k]? = some x) : dIx (.list xs) (.int (k : Nat)) = some x := atI_nat h
theorem ix_natT {xs : List PyData} {k : Nat} {x : PyData} (h : xs[k]? = some x) : dIx (.tuple xs) (.int (k : Nat)) = some x := atI_nat h
theorem ix_l1 {a b : PyData} {xs : List PyData} : dIx (.list (a :: b :: xs)) (.int 1) = some b := ix_nat (k := 1) rfl
theorem ix_t1 {a b : PyData} {xs : List PyData} : dIx (.tuple (a :: b :: xs)) (.int 1) = some b := ix_natT (k := 1) rfl
theorem ix_t0 {a : PyData} {xs : List PyData} : dIx (.tuple (a :: xs)) (.int 0) = some a := atI_0
theorem dInts_ix {xs : List Int} (hn : xs ≠ []) (i : Int) : ∃ j : Int, dIx (.list (dInts xs)) (.int (i % (xs.length : Nat))) = some (.int j) := by
  have hl : 0 < xs.length := List.length_pos_iff.mpr hn
  have h0 : 0 ≤ i % (xs.length : Nat) := Int.emod_nonneg _ (by omega)
  have h1 : i % (xs.length : Nat) < (xs.length : Nat) := Int.emod_lt_of_pos _ (by omega)
  obtain ⟨k, hk⟩ := Int.eq_ofNat_of_zero_le h0
  rw [hk] at h1 ⊢
  have hk : k < xs.length := by omega
  refine ⟨xs[k], ix_nat ?_⟩
  unfold dInts
  rw [List.getElem?_map, List.getElem?_eq_getElem hk]
  rfl
theorem gSub_arg {i j : Nat} {d : PyData} {ρ : En} {xs : List PyData} (h : ρ[i]? = some (.arg xs)) (hj : j < xs.length) : gSub i (cst (.int (j : Nat))) d ρ = some (ρ.set i (.arg (xs.set j d))) := by
  have e : ixN xs.length (j : Int) = some j := by
    unfold ixN
    rw [if_pos (by omega), if_pos (by omega), Int.toNat_natCast]
  unfold gSub
  rw [h]
  simp only [Option.bind_some, owOf, p_cst, h, setOw, e, Option.map_some]
theorem law_next_ok {s : List PyData} {b : Nat} {m : Int} (h : St b s) (hm : 0 < m) (hb : b < 2 ^ 40) : ∃ (r : Nat) (s' : List PyData), F__law_next s [.int m] = .ok (.int (r : Nat)) s' ∧ (r : Int) < m ∧ St (b + 1) s' := by
  obtain ⟨xs, c, rfl, hn, hc, hl⟩ := h
  have hl0 : 0 < xs.length := List.length_pos_iff.mpr hn
  have e0 : initS 3 [.list (dInts xs), .int (c : Nat)] [.int m] = [.arg [.list (dInts xs), .int (c : Nat)], .dat (.int m), .un] := rfl
  have eg : gSub 0 (cst (.int 1)) (.int ((c : Int) + 1)) [.arg [.list (dInts xs), .int (c : Nat)], .dat (.int m), .un] = some [.arg [.list (dInts xs), .int ((c : Int) + 1)], .dat (.int m), .un] := gSub_arg (xs := [.list (dInts xs), .int (c : Nat)]) (j := 1) rfl (by simp)
  have el : (dInts xs).length = xs.length := by unfold dInts; simp
  have hdiv : CDiv ((c : Int) + 1) ((dInts xs).length : Nat) := ⟨by omega, by omega⟩
  obtain ⟨j, hj⟩ := dInts_ix hn ((c : Int) + 1)
  rw [← el] at hj
  have t0 : 0 ≤ ((c : Int) + 1) / ((dInts xs).length : Nat) := Int.ediv_nonneg (by omega) (by omega)
  have t1 : ((c : Int) + 1) / ((dInts xs).length : Nat) ≤ (c : Int) + 1 := Int.ediv_le_self _ (by omega)
  have c1 : CMul (((c : Int) + 1) / ((dInts xs).length : Nat)) 389 := .inr ⟨by omega, by omega⟩
  have c2 : CMul ((c : Int) + 1) (((c : Int) + 1) / ((dInts xs).length : Nat)) := .inl ⟨by omega, by omega⟩
  have c3 : CMul (((c : Int) + 1) * (((c : Int) + 1) / ((dInts xs).length : Nat))) 17 := .inr ⟨by omega, by omega⟩
  refine ⟨((j + ((c : Int) + 1) / ((dInts xs).length : Nat) * 389 + ((c : Int) + 1) * (((c : Int) + 1) / ((dInts xs).length : Nat)) * 17) % m).toNat, [.list (dInts xs), .int ((c + 1 : Nat) : Int)], ?_, ?_, xs, c + 1, rfl, hn, by omega, hl⟩
  · show runS 3 2 B__law_next _ _ = _
    rw [runS_at (m := 2) rfl, e0, B__law_next]
    have hmod := Int.emod_nonneg (j + ((c : Int) + 1) / ((dInts xs).length : Nat) * 389 + ((c : Int) + 1) * (((c : Int) + 1) / ((dInts xs).length : Nat)) * 17) (show m ≠ 0 by omega)
    have ec : ((c + 1 : Nat) : Int) = (c : Int) + 1 := by omega
    simp -implicitDefEqProofs only [p_seqS, p_ifS, p_orT, p_andT, p_andV, p_orV, p_ifT, p_bin2, p_bin2B, p_chain3, p_bool, p_dIntOp, p_add, p_intOf, p_callR_ok, p_callR_err, p_gN, p_gT2, p_gsNil, p_gsCons, p_seqI_t, p_seqI_l, p_itm_t, p_itm_l, p_cst, p_un1, p_binN, p_notV, p_newL, p_tup, p_lst, p_slc, p_oNo, p_oYes, p_aNil, p_aCons, p_aStar, p_callF, p_callB, p_tval, p_notT, p_argI, p_setS, p_setNS, p_asgS, p_retS, p_exprS, p_forS, p_rtn, p_rtr, p_rte, mk0, mk1, mk2, mk3, okS0, okS1, okS2, okS3, rdVar, List.getElem?_cons_zero, List.getElem?_cons_succ, List.set_cons_zero, List.set_cons_succ, rs_bind_ok, rs_bind_err, rs_bind_bad, rs_map_ok, rs_map_err, rs_st_ok, rs_st_err, rs_ofO_some, ot_seq_next, ot_seq_ret, ot_seq_err, ot_seq_brk, ot_seq_cont, Option.bind_some, Option.map_some, if_true, Bool.false_eq_true, if_false, Bool.not_true, Bool.not_false, methF, owOf, setOw, p_callSF, p_ixvF, lstAt, ix_l1, eg, ix_l0, p_len_l, dDiv_int hdiv, dMod_int (show (0 : Int) < ((dInts xs).length : Nat) by omega), hj, dMul_int c1, dMul_int c2, dMul_int c3, int1_i, dMod_int hm, Int.toNat_of_nonneg hmod, ec]
    rfl
  · have h1 := Int.emod_nonneg (j + ((c : Int) + 1) / ((dInts xs).length : Nat) * 389 + ((c : Int) + 1) * (((c : Int) + 1) / ((dInts xs).length : Nat)) * 17) (show m ≠ 0 by omega)
    have h2 := Int.emod_lt_of_pos (j + ((c : Int) + 1) / ((dInts xs).length : Nat) * 389 + ((c : Int) + 1) * (((c : Int) + 1) / ((dInts xs).length : Nat)) * 17) hm
    omega
end ML
set_option maxRecDepth 100000
set_option maxHeartbeats 4000000
/-! a drawn label -/
namespace ML
open PySem L2
theorem okS4 {a b c d : PyData} {ρ : En} : okSize [a, b, c, d] ρ = .ok [a, b, c, d] ρ := if_pos (show 4 ≤ sizeLine by decide)
theorem okS5 {a b c d e : PyData} {ρ : En} : okSize [a, b, c, d, e] ρ = .ok [a, b, c, d, e] ρ := if_pos (show 5 ≤ sizeLine by decide)
theorem okS6 {a b c d e f : PyData} {ρ : En} : okSize [a, b, c, d, e, f] ρ = .ok [a, b, c, d, e, f] ρ := if_pos (show 6 ≤ sizeLine by decide)
theorem ix_str {z : Str} {r : Nat} (hz : z.length ≤ sizeLine) (hr : r < z.cps.toList.length) : ∃ c, c ∈ z.cps.toList ∧ dIx (.str z) (.int (r : Nat)) = some (.str ⟨#[c]⟩) := by
  refine ⟨z.cps.toList[r], List.getElem_mem hr, ?_⟩
  show (if z.length ≤ sizeLine then (atI z.cps.toList (r : Nat)).map fun c => PyData.str ⟨#[c]⟩ else none) = _
  rw [if_pos hz, atI_nat (List.getElem?_eq_getElem hr)]
  rfl
theorem low_len : lowS.cps.toList.length = 26 := by decide +kernel
theorem all_len : allS.cps.toList.length = 36 := by decide +kernel
theorem low_all : ∀ c ∈ lowS.cps.toList, c ∈ allS.cps.toList := by decide +kernel
theorem low_z : lowS.length ≤ sizeLine := by decide +kernel
theorem all_z : allS.length ≤ sizeLine := by decide +kernel
theorem add_str {a b : Str} (h : a.length + b.length ≤ sizeLine) : dAdd (.str a) (.str b) = some (.str (a ++ b)) := if_pos h
theorem low_add : dAdd (.str lowS) (.str "0123456789") = some (.str allS) := by
  have e : (lowS ++ ("0123456789" : Str) : Str) = allS := by decide +kernel
  have h : lowS.length + ("0123456789" : Str).length ≤ sizeLine := by decide +kernel
  rw [← e]
  exact add_str h
theorem pick11 {r : Nat} (h : (r : Int) < 5) : ∃ j : Nat, j ≤ 11 ∧ dIx (.list [.int 0, .int 0, .int 1, .int 2, .int 11]) (.int (r : Nat)) = some (.int (j : Nat)) := by
  have h : r < 5 := by omega
  match r, h with
  | 0, _ => exact ⟨0, by omega, rfl⟩
  | 1, _ => exact ⟨0, by omega, rfl⟩
  | 2, _ => exact ⟨1, by omega, rfl⟩
  | 3, _ => exact ⟨2, by omega, rfl⟩
  | 4, _ => exact ⟨11, by omega, rfl⟩
def wordOk (n : Nat) (w : Str) : Prop := ∃ c r, w.cps.toList = c :: r ∧ r.length = n ∧ c ∈ lowS.cps.toList ∧ ∀ x ∈ c :: r, x ∈ allS.cps.toList
theorem wordOk_lab {n : Nat} {w : Str} (h : wordOk n w) (hn : n < 12) : isLab w = true := by
  obtain ⟨c, r, e, hr, h1, h2⟩ := h
  unfold isLab
  rw [e]
  dsimp only
  rw [Bool.and_eq_true, Bool.and_eq_true, decide_eq_true_eq, decide_eq_true_eq, List.all_eq_true]
  exact ⟨by omega, h1, fun x hx => decide_eq_true (h2 x hx)⟩
theorem str_snoc (w : Str) (c : Nat) : (w ++ (⟨#[c]⟩ : Str)).cps.toList = w.cps.toList ++ [c] := by
  show (w.cps ++ #[c]).toList = _
  simp
theorem wordOk_snoc {n : Nat} {w : Str} {c : Nat} (h : wordOk n w) (hc : c ∈ allS.cps.toList) : wordOk (n + 1) (w ++ (⟨#[c]⟩ : Str)) := by
  obtain ⟨a, r, e, hr, h1, h2⟩ := h
  refine ⟨a, r ++ [c], by rw [str_snoc, e]; rfl, by simp [hr], h1, fun x hx => ?_⟩
  rw [List.mem_cons, List.mem_append, List.mem_singleton] at hx
  rcases hx with rfl | hx | rfl
  · exact h2 _ (by simp)
  · exact h2 x (by simp [hx])
  · exact hc
theorem wordOk_len {n : Nat} {w : Str} (h : wordOk n w) : w.length = n + 1 := by
  obtain ⟨a, r, e, hr, h1, h2⟩ := h
  have : w.length = w.cps.toList.length := by simp [Str.length]
  rw [this, e, List.length_cons, hr]
def LW : En → Ot := setS 2 (bin2 dAdd (rdVar 2) (bin2 dIx (bin2 dAdd (rdVar 1) (cst (.str "0123456789"))) (callSF 0 F__law_next (aCons (cst (.int 36)) aNil))))
theorem law_label_ok {s : List PyData} {b : Nat} (h : St b s) (hb : b < 2 ^ 39) : ∃ (w : Str) (s' : List PyData), F__law_label s [] = .ok (.str w) s' ∧ isLab w = true ∧ St (b + 13) s' := by
  obtain ⟨r1, s1, e1, l1, h1⟩ := law_next_ok (m := 26) h (by omega) (by omega)
  obtain ⟨c1, m1, i1⟩ := ix_str low_z (r := r1) (by rw [low_len]; omega)
  obtain ⟨r2, s2, e2, l2, h2⟩ := law_next_ok (m := 5) h1 (by omega) (by omega)
  obtain ⟨j, hj, i2⟩ := pick11 l2
  have hb1 := big
  obtain ⟨ρ', e, s', w, k, rfl, hs, hw⟩ := forF_inv (t := gN 3) (body := LW) (fun i ρ => ∃ s' w k, ρ = [.arg s', .dat (.str lowS), .dat (.str w), k] ∧ St (b + 2 + i) s' ∧ wordOk i w) ((List.range j).map fun i => PyData.int (i : Nat)) 0
    [.arg s2, .dat (.str lowS), .dat (.str ⟨#[c1]⟩), .un] ⟨s2, _, .un, rfl, h2, c1, [], rfl, rfl, m1, by simpa using low_all c1 m1⟩ (by
      rintro i d ρ hd ⟨s', w, k, rfl, hs, hw⟩
      rw [Nat.zero_add] at hs hw ⊢
      have hi : i < j := by
        have := (List.getElem?_eq_some_iff.mp hd).1
        simpa using this
      obtain ⟨r3, s3, e3, l3, h3⟩ := law_next_ok (m := 36) hs (by omega) (by omega)
      obtain ⟨c3, m3, i3⟩ := ix_str all_z (r := r3) (by rw [all_len]; omega)
      have hl := wordOk_len hw
      have ea : dAdd (.str w) (.str ⟨#[c3]⟩) = some (.str (w ++ ⟨#[c3]⟩)) := add_str (by rw [hl]; show i + 1 + 1 ≤ _; omega)
      refine ⟨_, [.arg s3, .dat (.str lowS), .dat (.str (w ++ ⟨#[c3]⟩)), .dat d], rfl, .inl ?_, s3, _, _, rfl, by exact h3, wordOk_snoc hw m3⟩
      unfold LW
      simp -implicitDefEqProofs only [p_seqS, p_ifS, p_orT, p_andT, p_andV, p_orV, p_ifT, p_bin2, p_bin2B, p_chain3, p_bool, p_dIntOp, p_add, p_intOf, p_callR_ok, p_callR_err, p_gN, p_gT2, p_gsNil, p_gsCons, p_seqI_t, p_seqI_l, p_itm_t, p_itm_l, p_cst, p_un1, p_binN, p_notV, p_newL, p_tup, p_lst, p_slc, p_oNo, p_oYes, p_aNil, p_aCons, p_aStar, p_callF, p_callB, p_tval, p_notT, p_argI, p_setS, p_setNS, p_asgS, p_retS, p_exprS, p_forS, p_rtn, p_rtr, p_rte, mk0, mk1, mk2, mk3, okS0, okS1, okS2, okS3, rdVar, List.getElem?_cons_zero, List.getElem?_cons_succ, List.set_cons_zero, List.set_cons_succ, rs_bind_ok, rs_bind_err, rs_bind_bad, rs_map_ok, rs_map_err, rs_st_ok, rs_st_err, rs_ofO_some, ot_seq_next, ot_seq_ret, ot_seq_err, ot_seq_brk, ot_seq_cont, Option.bind_some, Option.map_some, if_true, Bool.false_eq_true, if_false, Bool.not_true, Bool.not_false, methF, owOf, setOw, p_callSF, p_ixvF, lstAt, low_add, e3, i3, ea])
  have ej : ((List.range j).map fun i => PyData.int (i : Nat)).length = j := by simp
  rw [ej, Nat.zero_add] at hw hs
  refine ⟨w, s', ?_, wordOk_lab hw (by omega), hs.mono (by omega)⟩
  show runS 4 1 B__law_label _ _ = _
  have e0 : initS 4 s [] = [.arg s, .un, .un, .un] := rfl
  have eb : B__law_label = seqS (setS 1 (cst (.str lowS))) (seqS (setS 2 (bin2 dIx (rdVar 1) (callSF 0 F__law_next (aCons (cst (.int 26)) aNil))))
    (seqS (forS (argI rng1 (aCons (bin2 dIx (newL (lst (aCons (cst (.int 0)) (aCons (cst (.int 0)) (aCons (cst (.int 1)) (aCons (cst (.int 2)) (aCons (cst (.int 11)) aNil))))))) (callSF 0 F__law_next (aCons (cst (.int 5)) aNil))) aNil)) (gN 3) LW) (retS (rdVar 2)))) := rfl
  rw [runS_at (m := 1) rfl, e0, eb]
  simp -implicitDefEqProofs only [p_seqS, p_ifS, p_orT, p_andT, p_andV, p_orV, p_ifT, p_bin2, p_bin2B, p_chain3, p_bool, p_dIntOp, p_add, p_intOf, p_callR_ok, p_callR_err, p_gN, p_gT2, p_gsNil, p_gsCons, p_seqI_t, p_seqI_l, p_itm_t, p_itm_l, p_cst, p_un1, p_binN, p_notV, p_newL, p_tup, p_lst, p_slc, p_oNo, p_oYes, p_aNil, p_aCons, p_aStar, p_callF, p_callB, p_tval, p_notT, p_argI, p_setS, p_setNS, p_asgS, p_retS, p_exprS, p_forS, p_rtn, p_rtr, p_rte, mk0, mk1, mk2, mk3, okS0, okS1, okS2, okS3, rdVar, List.getElem?_cons_zero, List.getElem?_cons_succ, List.set_cons_zero, List.set_cons_succ, rs_bind_ok, rs_bind_err, rs_bind_bad, rs_map_ok, rs_map_err, rs_st_ok, rs_st_err, rs_ofO_some, ot_seq_next, ot_seq_ret, ot_seq_err, ot_seq_brk, ot_seq_cont, Option.bind_some, Option.map_some, if_true, Bool.false_eq_true, if_false, Bool.not_true, Bool.not_false, methF, owOf, setOw, p_callSF, p_ixvF, lstAt, e1, i1, okS5, e2, i2, rng1_nat (show j ≤ 100000000 by omega), e]
  rfl
end ML
set_option maxRecDepth 100000
set_option maxHeartbeats 4000000
/-! drawn signs -/
namespace ML
open PySem L2
open PySem.W (alike)
abbrev Sg := Str × Nat
def sg (z : Sg) : PyData := .tuple [.str z.1, .int (z.2 : Nat)]
def keyS (z : Sg) : List Key := [.inr z.1, .inl (z.2 : Nat)]
def unkey : List Key → Sg
  | [.inr l, .inl i] => (l, i.toNat)
  | _ => ("", 0)
theorem unkey_key (z : Sg) : unkey (keyS z) = z := by
  unfold keyS unkey
  simp
theorem tD_key (z : Sg) : tD (keyS z) = sg z := rfl
def signsOk (L : List Sg) : Prop := (∀ z ∈ L, isLab z.1 = true ∧ z.2 ≤ 3) ∧ (∃ l, (l, 0) ∈ L) ∧ L.length ≤ 60
theorem uniq_len : ∀ ks : List (List Key), (uniq ks).length ≤ ks.length
  | [] => Nat.le_refl _
  | k :: ks => by
    have := uniq_len ks
    unfold uniq
    split
    · rw [List.length_cons]; omega
    · rw [List.length_cons, List.length_cons]; omega
theorem sortSet_ok {L : List Sg} (h : signsOk L) : ∃ L', dSortSet (.list (L.map sg)) = some (L'.map sg) ∧ signsOk L' := by
  refine ⟨(sortSet (L.map keyS)).map unkey, ?_, ?_, ?_, ?_⟩
  · have hf : flatsD (L.map sg) = some (L.map keyS) := by
      have := flatsD_map (L.map keyS)
      rw [List.map_map] at this
      exact this
    have c1 : ((L.map keyS).all fun a => (L.map keyS).all fun b => alike (tD a) (tD b)) = true := by
      rw [List.all_eq_true]
      intro a ha
      rw [List.all_eq_true]
      intro c hc
      obtain ⟨z, _, rfl⟩ := List.mem_map.mp ha
      obtain ⟨y, _, rfl⟩ := List.mem_map.mp hc
      rfl
    have c2 : ((L.map keyS).all fun a => !a.isEmpty) = true := by
      rw [List.all_eq_true]
      intro a ha
      obtain ⟨z, _, rfl⟩ := List.mem_map.mp ha
      rfl
    have c0 : (L.map keyS).length < 64 := by rw [List.length_map]; have := h.2.2; omega
    unfold dSortSet
    dsimp only
    rw [hf, Option.bind_some, if_pos ⟨c0, c1, c2⟩, List.map_map]
    congr 1
    refine List.map_congr_left fun k hk => ?_
    obtain ⟨z, hz, rfl⟩ := List.mem_map.mp (mem_sortSet.mp hk)
    show tD (keyS z) = sg (unkey (keyS z))
    rw [unkey_key, tD_key]
  · intro z hz
    obtain ⟨k, hk, rfl⟩ := List.mem_map.mp hz
    obtain ⟨y, hy, rfl⟩ := List.mem_map.mp (mem_sortSet.mp hk)
    rw [unkey_key]
    exact h.1 y hy
  · obtain ⟨l, hl⟩ := h.2.1
    refine ⟨l, ?_⟩
    rw [← unkey_key (l, 0)]
    exact List.mem_map_of_mem (mem_sortSet.mpr (List.mem_map_of_mem hl))
  · have h1 := uniq_len (L.map keyS)
    have h2 := h.2.2
    rw [List.length_map] at h1
    unfold sortSet
    rw [List.length_map, List.length_mergeSort]
    omega
theorem dEq_int {i j : Int} : dEq (.int i) (.int j) = some (.bool (decide (i = j))) := by
  simp [dEq, dEqB, scalD]
theorem pick6 {r k : Nat} (h : (r : Int) < 6) (hk : k ≤ 3) : ∃ j : Nat, j ≤ 3 ∧ dIx (.list [.int 0, .int 1, .int 1, .int 2, .int 2, .int (k : Nat)]) (.int (r : Nat)) = some (.int (j : Nat)) := by
  have h : r < 6 := by omega
  match r, h with
  | 0, _ => exact ⟨0, by omega, rfl⟩
  | 1, _ => exact ⟨1, by omega, rfl⟩
  | 2, _ => exact ⟨1, by omega, rfl⟩
  | 3, _ => exact ⟨2, by omega, rfl⟩
  | 4, _ => exact ⟨2, by omega, rfl⟩
  | 5, _ => exact ⟨k, hk, rfl⟩
theorem pick23 (b : Bool) : ∃ k : Nat, k ≤ 3 ∧ dIx (.list [.int 2, .int 3]) (.int (if b = true then 1 else 0)) = some (.int (k : Nat)) := by
  cases b with
  | false => exact ⟨2, by omega, rfl⟩
  | true => exact ⟨3, by omega, rfl⟩
def SB : En → Ot := exprS (methF 2 gAppend (aCons (tup (aCons (callSF 0 F__law_label aNil) (aCons (bin2 dIx (newL (lst (aCons (cst (.int 0)) (aCons (cst (.int 1)) (aCons (cst (.int 1)) (aCons (cst (.int 2)) (aCons (cst (.int 2)) (aCons (bin2 dIx (newL (lst (aCons (cst (.int 2)) (aCons (cst (.int 3)) aNil)))) (callB dInt1 (aCons (bin2 dEq (callSF 0 F__law_next (aCons (cst (.int 5)) aNil)) (cst (.int 0))) aNil))) aNil)))))))) (callSF 0 F__law_next (aCons (cst (.int 6)) aNil))) aNil))) aNil))
theorem append_ok {xs : List PyData} {d : PyData} (h : xs.length + 1 ≤ sizeLine) : gAppend xs [d] = some (.none, xs ++ [d]) := if_pos h
theorem law_signs_ok {s : List PyData} {b : Nat} (h : St b s) (hb : b < 2 ^ 38) : ∃ (L : List Sg) (s' : List PyData), F__law_signs s [.int 5] = .ok (.tuple (L.map sg)) s' ∧ signsOk L ∧ St (b + 100) s' := by
  obtain ⟨w, s1, e1, l1, h1⟩ := law_label_ok h (by omega)
  obtain ⟨j, s2, e2, l2, h2⟩ := law_next_ok (m := 5) h1 (by omega) (by omega)
  have hb1 := big
  obtain ⟨ρ', e, s', L, k, rfl, hs, hL, h0, hlen⟩ := forF_inv (t := gN 3) (body := SB) (fun i ρ => ∃ s' L k, ρ = [.arg s', .dat (.int 5), .own (L.map sg), k] ∧ St (b + 14 + 15 * i) s' ∧ (∀ z ∈ L, isLab z.1 = true ∧ z.2 ≤ 3) ∧ (∃ l, ((l, 0) : Sg) ∈ L) ∧ L.length = 1 + i) ((List.range j).map fun i => PyData.int (i : Nat)) 0
    [.arg s2, .dat (.int 5), .own [sg (w, 0)], .un] ⟨s2, [(w, 0)], .un, rfl, h2.mono (by omega), by simpa using l1, ⟨w, by simp⟩, rfl⟩ (by
      rintro i d ρ hd ⟨s', L, k, rfl, hs, hL, h0, hlen⟩
      rw [Nat.zero_add] at hs hlen ⊢
      have hi : i < j := by
        have := (List.getElem?_eq_some_iff.mp hd).1
        simpa using this
      obtain ⟨w3, s3, e3, l3, h3⟩ := law_label_ok hs (by omega)
      obtain ⟨r4, s4, e4, l4, h4⟩ := law_next_ok (m := 5) h3 (by omega) (by omega)
      obtain ⟨k4, q4, i4⟩ := pick23 (decide ((r4 : Int) = 0))
      obtain ⟨r5, s5, e5, l5, h5⟩ := law_next_ok (m := 6) h4 (by omega) (by omega)
      obtain ⟨k5, q5, i5⟩ := pick6 l5 q4
      have ha : gAppend (L.map sg) [.tuple [.str w3, .int (k5 : Nat)]] = some (.none, (L ++ [(w3, k5)]).map sg) := by
        rw [append_ok (by rw [List.length_map]; omega), List.map_append]
        rfl
      refine ⟨_, [.arg s5, .dat (.int 5), .own ((L ++ [(w3, k5)]).map sg), .dat d], rfl, .inl ?_, s5, _, _, rfl, h5.mono (by omega), ?_, ?_, by simp [hlen]; omega⟩
      · unfold SB
        simp -implicitDefEqProofs only [p_seqS, p_ifS, p_orT, p_andT, p_andV, p_orV, p_ifT, p_bin2, p_bin2B, p_chain3, p_bool, p_dIntOp, p_add, p_intOf, p_callR_ok, p_callR_err, p_gN, p_gT2, p_gsNil, p_gsCons, p_seqI_t, p_seqI_l, p_itm_t, p_itm_l, p_cst, p_un1, p_binN, p_notV, p_newL, p_tup, p_lst, p_slc, p_oNo, p_oYes, p_aNil, p_aCons, p_aStar, p_callF, p_callB, p_tval, p_notT, p_argI, p_setS, p_setNS, p_asgS, p_retS, p_exprS, p_forS, p_rtn, p_rtr, p_rte, mk0, mk1, mk2, mk3, okS0, okS1, okS2, okS3, rdVar, List.getElem?_cons_zero, List.getElem?_cons_succ, List.set_cons_zero, List.set_cons_succ, rs_bind_ok, rs_bind_err, rs_bind_bad, rs_map_ok, rs_map_err, rs_st_ok, rs_st_err, rs_ofO_some, ot_seq_next, ot_seq_ret, ot_seq_err, ot_seq_brk, ot_seq_cont, Option.bind_some, Option.map_some, if_true, Bool.false_eq_true, if_false, Bool.not_true, Bool.not_false, methF, owOf, setOw, p_callSF, p_ixvF, lstAt, e3, e4, dEq_int, int1_b, i4, okS6, e5, i5, ha]
      · intro z hz
        rcases List.mem_append.mp hz with hz | hz
        · exact hL z hz
        · rw [List.mem_singleton.mp hz]
          exact ⟨l3, q5⟩
      · obtain ⟨l, hl⟩ := h0
        exact ⟨l, by simp [hl]⟩)
  have ej : ((List.range j).map fun i => PyData.int (i : Nat)).length = j := by simp
  rw [ej, Nat.zero_add] at hs hlen
  obtain ⟨L', q, hL'⟩ := sortSet_ok (L := L) ⟨hL, h0, by omega⟩
  refine ⟨L', s', ?_, hL', hs.mono (by omega)⟩
  show runS 4 2 B__law_signs _ _ = _
  have e0 : initS 4 s [.int 5] = [.arg s, .dat (.int 5), .un, .un] := rfl
  have eb : B__law_signs = seqS (setNS 2 (lst (aCons (tup (aCons (callSF 0 F__law_label aNil) (aCons (cst (.int 0)) aNil))) aNil)))
    (seqS (forS (argI rng1 (aCons (callSF 0 F__law_next (aCons (rdVar 1) aNil)) aNil)) (gN 3) SB) (retS (callB dTupleOf (aCons (newL (un1 dSortSet (rdVar 2))) aNil)))) := rfl
  have et : ∀ xs, dTupleOf [.list xs] = some (.tuple xs) := fun _ => rfl
  have e : forF (gN 3) SB _ [.arg s2, .dat (.int 5), .own [.tuple [.str w, .int 0]], .un] = _ := e
  rw [runS_at (m := 2) rfl, e0, eb]
  simp -implicitDefEqProofs only [p_seqS, p_ifS, p_orT, p_andT, p_andV, p_orV, p_ifT, p_bin2, p_bin2B, p_chain3, p_bool, p_dIntOp, p_add, p_intOf, p_callR_ok, p_callR_err, p_gN, p_gT2, p_gsNil, p_gsCons, p_seqI_t, p_seqI_l, p_itm_t, p_itm_l, p_cst, p_un1, p_binN, p_notV, p_newL, p_tup, p_lst, p_slc, p_oNo, p_oYes, p_aNil, p_aCons, p_aStar, p_callF, p_callB, p_tval, p_notT, p_argI, p_setS, p_setNS, p_asgS, p_retS, p_exprS, p_forS, p_rtn, p_rtr, p_rte, mk0, mk1, mk2, mk3, okS0, okS1, okS2, okS3, rdVar, List.getElem?_cons_zero, List.getElem?_cons_succ, List.set_cons_zero, List.set_cons_succ, rs_bind_ok, rs_bind_err, rs_bind_bad, rs_map_ok, rs_map_err, rs_st_ok, rs_st_err, rs_ofO_some, ot_seq_next, ot_seq_ret, ot_seq_err, ot_seq_brk, ot_seq_cont, Option.bind_some, Option.map_some, if_true, Bool.false_eq_true, if_false, Bool.not_true, Bool.not_false, methF, owOf, setOw, p_callSF, p_ixvF, lstAt, e1, e2, rng1_nat (show j ≤ 100000000 by omega), e, q, et]
  rfl
end ML
set_option maxRecDepth 100000
set_option maxHeartbeats 4000000
/-! a drawn document -/
namespace ML
open PySem L2
theorem okN_node (l : Str) (cs : List Doc) : okN (.node l cs) = (isLab l && decide (cs.length ≤ 3)) := rfl
theorem lcF_filterC {γ : Type} {t : Tgt} {c : En → Rs Bool} {e : En → Rs PyData} {vs : List Nat} {ρ : En} (f g : γ → PyData) (p : γ → Bool) : ∀ (cs : List γ), (∀ x ∈ cs, ∃ ρ1 ρ2, t (f x) ρ = some ρ1 ∧ c ρ1 = .ok (p x) ρ2 ∧ wipeE ρ2 vs = ρ ∧ (p x = true → ∃ ρ3, e ρ2 = .ok (g x) ρ3 ∧ wipeE ρ3 vs = ρ)) → lcF t c e vs (cs.map f) ρ = .ok ((cs.filter p).map g) ρ
  | [], _ => rfl
  | x :: cs, h => by
    obtain ⟨ρ1, ρ2, e1, e2, e3, e4⟩ := h x (by simp)
    have ih := lcF_filterC f g p cs fun d hd => h d (by simp [hd])
    rw [List.map_cons]
    unfold lcF
    rw [e1]
    dsimp only
    rw [e2]
    cases hp : p x with
    | false =>
      dsimp only
      rw [e3, ih, List.filter_cons_of_neg (by simp [hp])]
    | true =>
      obtain ⟨ρ3, e5, e6⟩ := e4 hp
      dsimp only
      rw [e5]
      dsimp only
      rw [e6, ih, List.filter_cons_of_pos hp]
      rfl
theorem lcAll_filterC {γ : Type} {t : Tgt} {c : En → Rs Bool} {e : En → Rs PyData} {vs : List Nat} {ρ ρ0 : En} {f0 : En → Rs (List PyData)} (cs : List γ) (f g : γ → PyData) (p : γ → Bool) (hf : f0 ρ0 = .ok (cs.map f) ρ) (hw : wipeE ρ vs = ρ) (hz : cs.length ≤ sizeLine)
    (h : ∀ x ∈ cs, ∃ ρ1 ρ2, t (f x) ρ = some ρ1 ∧ c ρ1 = .ok (p x) ρ2 ∧ wipeE ρ2 vs = ρ ∧ (p x = true → ∃ ρ3, e ρ2 = .ok (g x) ρ3 ∧ wipeE ρ3 vs = ρ)) : lcAll f0 t c e vs ρ0 = .ok ((cs.filter p).map g) ρ := by
  have hz' : ((cs.filter p).map g).length ≤ sizeLine := by
    rw [List.length_map]
    exact Nat.le_trans (List.length_filter_le p cs) hz
  unfold lcAll
  rw [hf, rs_bind_ok, hw, lcF_filterC f g p cs h, rs_bind_ok]
  rw [List.length_map] at hz'
  simp [hz']
theorem maxL_some {ns : List Int} (h : ns ≠ []) : ∃ m : Int, dMaxL [.list (ns.map .int)] = some (.int m) := by
  cases ns with
  | nil => exact absurd rfl h
  | cons n ns =>
    refine ⟨ns.foldl max n, ?_⟩
    show (intsOf _).bind _ = _
    rw [intsOf_map]
    rfl
def DOCB (R : List PyData → List PyData → Rm) : En → Ot := seqS (setS 12 (bin2 (dIntOp fun i j => .int (i - j)) (rdVar 9) (bin2 (dIntOp fun i j => .int (i - j)) (bin2 (dIntOp fun i j => .int (i - j)) (rdVar 5) (rdVar 11)) (cst (.int 1)))))
    (seqS (ifS (bin2B (dIntOp fun i j => .bool (decide (i < j))) (rdVar 11) (bin2 (dIntOp fun i j => .int (i - j)) (rdVar 5) (cst (.int 1)))) (setS 12 (bin2 dAdd (cst (.int 1)) (callSF 0 F__law_next (aCons (rdVar 12) aNil)))) .next)
    (seqS (exprS (methF 10 gAppend (aCons (callSF 0 R (aCons (rdVar 1) (aCons (rdVar 12) aNil))) aNil)))
    (setS 9 (bin2 (dIntOp fun i j => .int (i - j)) (rdVar 9) (rdVar 12)))))
def LEAF : En → Ot := retS (tup (aCons (bin2 dIx (rdVar 6) (callSF 0 F__law_next (aCons (callB dLen (aCons (rdVar 6) aNil)) aNil))) aNil))
def TAIL (R : List PyData → List PyData → Rm) : En → Ot := seqS (setS 9 (bin2 (dIntOp fun i j => .int (i - j)) (rdVar 2) (cst (.int 1))))
    (seqS (setNS 10 (lst aNil)) (seqS (forS (argI rng1 (aCons (rdVar 5) aNil)) (gN 11) (DOCB R)) (retS (bin2 dAdd (tup (aCons (rdVar 4) aNil)) (callB dTupleOf (aCons (rdVar 10) aNil))))))
theorem leaf_ok {L : List Sg} {s : List PyData} {b : Nat} {s1 s2 s3 s4 s5 s7 s8 s9 s10 s11 s12 : Sl} (hL : signsOk L) (h : St b s) (hb : b < 2 ^ 39) : ∃ (x : Doc) (s' : List PyData) (r : List Sl), LEAF (.arg s :: s1 :: s2 :: s3 :: s4 :: s5 :: .own ((L.filter fun z : Sg => decide (z.2 = 0)).map fun z : Sg => PyData.str z.1) :: [s7, s8, s9, s10, s11, s12]) = .ret x.d (.arg s' :: r) ∧ x.Good ∧ x.size = 1 ∧ St (b + 1) s' := by
  obtain ⟨l, hl⟩ := hL.2.1
  have hm : (l, 0) ∈ L.filter fun z => decide (z.2 = 0) := List.mem_filter.mpr ⟨hl, by simp⟩
  have hp := List.length_pos_of_mem hm
  obtain ⟨r, s', e, l1, h1⟩ := law_next_ok (m := ((((L.filter fun z : Sg => decide (z.2 = 0)).map fun z : Sg => PyData.str z.1).length : Nat) : Int)) h (by rw [List.length_map]; omega) (by omega)
  rw [List.length_map] at l1
  have hr : r < (L.filter fun z : Sg => decide (z.2 = 0)).length := by omega
  have ei : dIx (.list ((L.filter fun z : Sg => decide (z.2 = 0)).map fun z : Sg => PyData.str z.1)) (.int (r : Nat)) = some (.str ((L.filter fun z : Sg => decide (z.2 = 0))[r]).1) := ix_nat (by rw [List.getElem?_map, List.getElem?_eq_getElem hr]; rfl)
  have hmem := List.getElem_mem hr
  have hlab := (hL.1 _ (List.mem_filter.mp hmem).1).1
  refine ⟨.node ((L.filter fun z : Sg => decide (z.2 = 0))[r]).1 [], s', ?r, ?m, ?g, by simp [Doc.size, Doc.sizes], h1⟩
  case m =>
    unfold LEAF
    simp -implicitDefEqProofs only [p_seqS, p_ifS, p_orT, p_andT, p_andV, p_orV, p_ifT, p_bin2, p_bin2B, p_chain3, p_bool, p_dIntOp, p_add, p_intOf, p_callR_ok, p_callR_err, p_gN, p_gT2, p_gsNil, p_gsCons, p_seqI_t, p_seqI_l, p_itm_t, p_itm_l, p_cst, p_un1, p_binN, p_notV, p_newL, p_tup, p_lst, p_slc, p_oNo, p_oYes, p_aNil, p_aCons, p_aStar, p_callF, p_callB, p_tval, p_notT, p_argI, p_setS, p_setNS, p_asgS, p_retS, p_exprS, p_forS, p_rtn, p_rtr, p_rte, mk0, mk1, mk2, mk3, okS0, okS1, okS2, okS3, rdVar, List.getElem?_cons_zero, List.getElem?_cons_succ, List.set_cons_zero, List.set_cons_succ, rs_bind_ok, rs_bind_err, rs_bind_bad, rs_map_ok, rs_map_err, rs_st_ok, rs_st_err, rs_ofO_some, ot_seq_next, ot_seq_ret, ot_seq_err, ot_seq_brk, ot_seq_cont, Option.bind_some, Option.map_some, if_true, Bool.false_eq_true, if_false, Bool.not_true, Bool.not_false, methF, owOf, setOw, p_callSF, p_ixvF, lstAt, p_len_l, e, ei]
    rfl
  case g =>
    refine Doc.good_mk ?_ (by simp)
    rw [okN_node, hlab]
    rfl
theorem sizes_snoc (cs : List Doc) (c : Doc) : Doc.sizes (cs ++ [c]) = Doc.sizes cs + c.size := by
  induction cs with
  | nil => simp [Doc.sizes]
  | cons a cs ih =>
    rw [List.cons_append, Doc.sizes, Doc.sizes, ih]
    omega
theorem tail_ok (R : List PyData → List PyData → Rm) {L : List Sg} {whole b : Nat} {l : Str} {rk : Nat} {s : List PyData} {s3 s6 s7 s8 s9 s10 s11 s12 : Sl} (hl : isLab l = true) (hrk : rk ≤ 3) (h0 : 0 < rk) (hw : rk < whole) (hwz : whole ≤ 90000) (h : St b s) (hb : b + 3 * whole ≤ 2 ^ 39)
    (ih : ∀ (own b' : Nat) (s : List PyData), 1 ≤ own → own < whole → St b' s → b' + 3 * own < 2 ^ 39 → ∃ (x : Doc) (s' : List PyData), R s [.tuple (L.map sg), .int (own : Nat)] = .ok x.d s' ∧ x.Good ∧ x.size ≤ own ∧ St (b' + 3 * own) s') :
    ∃ (x : Doc) (s' : List PyData) (r : List Sl), TAIL R [.arg s, .dat (.tuple (L.map sg)), .dat (.int (whole : Nat)), s3, .dat (.str l), .dat (.int (rk : Nat)), s6, s7, s8, s9, s10, s11, s12] = .ret x.d (.arg s' :: r) ∧ x.Good ∧ x.size ≤ whole ∧ St (b + 3 * whole - 1) s' := by
  have hbg := big
  obtain ⟨ρ', e, s', cs, left, k, own, rfl, hs, hc, hg, hsz, hlf⟩ := forF_inv (t := gN 11) (body := DOCB R) (fun i ρ => ∃ (s' : List PyData) (cs : List Doc) (left : Nat) (k own : Sl), ρ = [.arg s', .dat (.tuple (L.map sg)), .dat (.int (whole : Nat)), s3, .dat (.str l), .dat (.int (rk : Nat)), s6, s7, s8, .dat (.int (left : Nat)), .own (cs.map Doc.d), k, own] ∧ St (b + min i (rk - 1) + 3 * (whole - 1 - left)) s' ∧ cs.length = i ∧ (∀ c ∈ cs, c.Good) ∧ Doc.sizes cs + left ≤ whole - 1 ∧ rk - i ≤ left)
    ((List.range rk).map fun i => PyData.int (i : Nat)) 0 [.arg s, .dat (.tuple (L.map sg)), .dat (.int (whole : Nat)), s3, .dat (.str l), .dat (.int (rk : Nat)), s6, s7, s8, .dat (.int ((whole - 1 : Nat) : Int)), .own [], s11, s12]
    ⟨s, [], whole - 1, s11, s12, rfl, h.mono (by omega), rfl, by simp, by simp [Doc.sizes], by omega⟩ (by
      rintro i d ρ hd ⟨s', cs, left, k, own, rfl, hs, hc, hg, hsz, hlf⟩
      rw [Nat.zero_add] at hs hc hlf ⊢
      have hi : i < rk := by
        have := (List.getElem?_eq_some_iff.mp hd).1
        simpa using this
      rw [List.getElem?_map, List.getElem?_range hi] at hd
      cases hd
      have w1 : (left : Int) - ((rk : Int) - (i : Int) - 1) = ((left - (rk - i - 1) : Nat) : Int) := by omega
      by_cases hlast : i < rk - 1
      · have d1 : decide ((i : Int) < (rk : Int) - 1) = true := by simp; omega
        obtain ⟨r1, s1, e1, l1, h1⟩ := law_next_ok (m := ((left - (rk - i - 1) : Nat) : Int)) hs (by omega) (by omega)
        have w2 : (1 : Int) + (r1 : Nat) = ((1 + r1 : Nat) : Int) := by omega
        obtain ⟨x, s2, e2, gx, zx, h2⟩ := ih (1 + r1) _ s1 (by omega) (by omega) h1 (by omega)
        have ha : gAppend (cs.map Doc.d) [x.d] = some (.none, (cs ++ [x]).map Doc.d) := by
          rw [append_ok (by rw [List.length_map]; omega), List.map_append]
          rfl
        have w3 : (left : Int) - ((1 + r1 : Nat) : Int) = ((left - (1 + r1) : Nat) : Int) := by omega
        refine ⟨_, [.arg s2, .dat (.tuple (L.map sg)), .dat (.int (whole : Nat)), s3, .dat (.str l), .dat (.int (rk : Nat)), s6, s7, s8, .dat (.int ((left - (1 + r1) : Nat) : Int)), .own ((cs ++ [x]).map Doc.d), .dat (.int (i : Nat)), .dat (.int ((1 + r1 : Nat) : Int))], rfl, .inl ?_, s2, cs ++ [x], left - (1 + r1), _, _, rfl, h2.mono (by omega), by simp [hc], ?_, by rw [sizes_snoc]; omega, by omega⟩
        · unfold DOCB
          simp -implicitDefEqProofs only [p_seqS, p_ifS, p_orT, p_andT, p_andV, p_orV, p_ifT, p_bin2, p_bin2B, p_chain3, p_bool, p_dIntOp, p_add, p_intOf, p_callR_ok, p_callR_err, p_gN, p_gT2, p_gsNil, p_gsCons, p_seqI_t, p_seqI_l, p_itm_t, p_itm_l, p_cst, p_un1, p_binN, p_notV, p_newL, p_tup, p_lst, p_slc, p_oNo, p_oYes, p_aNil, p_aCons, p_aStar, p_callF, p_callB, p_tval, p_notT, p_argI, p_setS, p_setNS, p_asgS, p_retS, p_exprS, p_forS, p_rtn, p_rtr, p_rte, mk0, mk1, mk2, mk3, okS0, okS1, okS2, okS3, rdVar, List.getElem?_cons_zero, List.getElem?_cons_succ, List.set_cons_zero, List.set_cons_succ, rs_bind_ok, rs_bind_err, rs_bind_bad, rs_map_ok, rs_map_err, rs_st_ok, rs_st_err, rs_ofO_some, ot_seq_next, ot_seq_ret, ot_seq_err, ot_seq_brk, ot_seq_cont, Option.bind_some, Option.map_some, if_true, Bool.false_eq_true, if_false, Bool.not_true, Bool.not_false, methF, owOf, setOw, p_callSF, p_ixvF, lstAt, w1, d1, e1, w2, e2, ha, w3]
        · intro c hc
          rcases List.mem_append.mp hc with hc | hc
          · exact hg c hc
          · rw [List.mem_singleton.mp hc]
            exact gx
      · have d1 : decide ((i : Int) < (rk : Int) - 1) = false := by simp; omega
        obtain ⟨x, s2, e2, gx, zx, h2⟩ := ih (left - (rk - i - 1)) _ s' (by omega) (by omega) hs (by omega)
        have ha : gAppend (cs.map Doc.d) [x.d] = some (.none, (cs ++ [x]).map Doc.d) := by
          rw [append_ok (by rw [List.length_map]; omega), List.map_append]
          rfl
        have w3 : (left : Int) - ((left - (rk - i - 1) : Nat) : Int) = ((left - (left - (rk - i - 1)) : Nat) : Int) := by omega
        refine ⟨_, [.arg s2, .dat (.tuple (L.map sg)), .dat (.int (whole : Nat)), s3, .dat (.str l), .dat (.int (rk : Nat)), s6, s7, s8, .dat (.int ((left - (left - (rk - i - 1)) : Nat) : Int)), .own ((cs ++ [x]).map Doc.d), .dat (.int (i : Nat)), .dat (.int ((left - (rk - i - 1) : Nat) : Int))], rfl, .inl ?_, s2, cs ++ [x], left - (left - (rk - i - 1)), _, _, rfl, h2.mono (by omega), by simp [hc], ?_, by rw [sizes_snoc]; omega, by omega⟩
        · unfold DOCB
          simp -implicitDefEqProofs only [p_seqS, p_ifS, p_orT, p_andT, p_andV, p_orV, p_ifT, p_bin2, p_bin2B, p_chain3, p_bool, p_dIntOp, p_add, p_intOf, p_callR_ok, p_callR_err, p_gN, p_gT2, p_gsNil, p_gsCons, p_seqI_t, p_seqI_l, p_itm_t, p_itm_l, p_cst, p_un1, p_binN, p_notV, p_newL, p_tup, p_lst, p_slc, p_oNo, p_oYes, p_aNil, p_aCons, p_aStar, p_callF, p_callB, p_tval, p_notT, p_argI, p_setS, p_setNS, p_asgS, p_retS, p_exprS, p_forS, p_rtn, p_rtr, p_rte, mk0, mk1, mk2, mk3, okS0, okS1, okS2, okS3, rdVar, List.getElem?_cons_zero, List.getElem?_cons_succ, List.set_cons_zero, List.set_cons_succ, rs_bind_ok, rs_bind_err, rs_bind_bad, rs_map_ok, rs_map_err, rs_st_ok, rs_st_err, rs_ofO_some, ot_seq_next, ot_seq_ret, ot_seq_err, ot_seq_brk, ot_seq_cont, Option.bind_some, Option.map_some, if_true, Bool.false_eq_true, if_false, Bool.not_true, Bool.not_false, methF, owOf, setOw, p_callSF, p_ixvF, lstAt, w1, d1, e2, ha, w3]
        · intro c hc
          rcases List.mem_append.mp hc with hc | hc
          · exact hg c hc
          · rw [List.mem_singleton.mp hc]
            exact gx)
  have ej : ((List.range rk).map fun i => PyData.int (i : Nat)).length = rk := by simp
  rw [ej, Nat.zero_add] at hs hc
  refine ⟨.node l cs, s', ?r, ?m, ?g, by rw [Doc.size]; omega, hs.mono (by omega)⟩
  case m =>
    have et : ∀ xs, dTupleOf [.list xs] = some (.tuple xs) := fun _ => rfl
    have ea : dAdd (.tuple [.str l]) (.tuple (cs.map Doc.d)) = some (Doc.node l cs).d := by
      rw [add_tup (by simp; omega), Doc.d_eq]
      rfl
    have w0 : ((whole : Nat) : Int) - 1 = ((whole - 1 : Nat) : Int) := by omega
    unfold TAIL
    simp -implicitDefEqProofs only [p_seqS, p_ifS, p_orT, p_andT, p_andV, p_orV, p_ifT, p_bin2, p_bin2B, p_chain3, p_bool, p_dIntOp, p_add, p_intOf, p_callR_ok, p_callR_err, p_gN, p_gT2, p_gsNil, p_gsCons, p_seqI_t, p_seqI_l, p_itm_t, p_itm_l, p_cst, p_un1, p_binN, p_notV, p_newL, p_tup, p_lst, p_slc, p_oNo, p_oYes, p_aNil, p_aCons, p_aStar, p_callF, p_callB, p_tval, p_notT, p_argI, p_setS, p_setNS, p_asgS, p_retS, p_exprS, p_forS, p_rtn, p_rtr, p_rte, mk0, mk1, mk2, mk3, okS0, okS1, okS2, okS3, rdVar, List.getElem?_cons_zero, List.getElem?_cons_succ, List.set_cons_zero, List.set_cons_succ, rs_bind_ok, rs_bind_err, rs_bind_bad, rs_map_ok, rs_map_err, rs_st_ok, rs_st_err, rs_ofO_some, ot_seq_next, ot_seq_ret, ot_seq_err, ot_seq_brk, ot_seq_cont, Option.bind_some, Option.map_some, if_true, Bool.false_eq_true, if_false, Bool.not_true, Bool.not_false, methF, owOf, setOw, p_callSF, p_ixvF, lstAt, w0, rng1_nat (show rk ≤ 100000000 by omega), e, et, ea]
    rfl
  case g =>
    refine Doc.good_mk ?_ hg
    rw [okN_node, hl, Bool.true_and, decide_eq_true_eq]
    omega
theorem law_document_ok : ∀ (n whole b : Nat) (s : List PyData) (L : List Sg), St b s → b + 3 * whole < 2 ^ 39 → signsOk L → 1 ≤ whole → whole < n → whole ≤ 90000 → ∃ (x : Doc) (s' : List PyData), F__law_document n s [.tuple (L.map sg), .int (whole : Nat)] = .ok x.d s' ∧ x.Good ∧ x.size ≤ whole ∧ St (b + 3 * whole) s'
  | 0, whole, b, s, L, _, _, _, _, h, _ => absurd h (by omega)
  | n + 1, whole, b, s, L, h, hb, hL, h1, hn, hz => by
    have hbg := big
    have hll := hL.2.2
    have e0 : initS 13 s [.tuple (L.map sg), .int (whole : Nat)] = [.arg s, .dat (.tuple (L.map sg)), .dat (.int (whole : Nat)), .un, .un, .un, .un, .un, .un, .un, .un, .un, .un] := rfl
    have c1 : lcAll (un1 seqItems (rdVar 1)) (gT 2 (gsCons (gN 4) (gsCons (gN 5) gsNil))) tYes' (rdVar 5) [4, 5] [.arg s, .dat (.tuple (L.map sg)), .dat (.int (whole : Nat)), .un, .un, .un, .un, .un, .un, .un, .un, .un, .un] = .ok (L.map fun z : Sg => .int (z.2 : Nat)) [.arg s, .dat (.tuple (L.map sg)), .dat (.int (whole : Nat)), .un, .un, .un, .un, .un, .un, .un, .un, .un, .un] :=
      lcAll_mapC L sg (fun z => .int (z.2 : Nat)) (by simp -implicitDefEqProofs only [p_seqS, p_ifS, p_orT, p_andT, p_andV, p_orV, p_ifT, p_bin2, p_bin2B, p_chain3, p_bool, p_dIntOp, p_add, p_intOf, p_callR_ok, p_callR_err, p_gN, p_gT2, p_gsNil, p_gsCons, p_seqI_t, p_seqI_l, p_itm_t, p_itm_l, p_cst, p_un1, p_binN, p_notV, p_newL, p_tup, p_lst, p_slc, p_oNo, p_oYes, p_aNil, p_aCons, p_aStar, p_callF, p_callB, p_tval, p_notT, p_argI, p_setS, p_setNS, p_asgS, p_retS, p_exprS, p_forS, p_rtn, p_rtr, p_rte, mk0, mk1, mk2, mk3, okS0, okS1, okS2, okS3, rdVar, List.getElem?_cons_zero, List.getElem?_cons_succ, List.set_cons_zero, List.set_cons_succ, rs_bind_ok, rs_bind_err, rs_bind_bad, rs_map_ok, rs_map_err, rs_st_ok, rs_st_err, rs_ofO_some, ot_seq_next, ot_seq_ret, ot_seq_err, ot_seq_brk, ot_seq_cont, Option.bind_some, Option.map_some, if_true, Bool.false_eq_true, if_false, Bool.not_true, Bool.not_false, methF, owOf, setOw]) rfl (by omega) (by
        rintro ⟨l, r⟩ _
        exact ⟨_, _, rfl, rfl, rfl⟩)
    have c2 : ∀ s3, lcAll (un1 seqItems (rdVar 1)) (gT 2 (gsCons (gN 4) (gsCons (gN 5) gsNil))) (bin2B dEq (rdVar 5) (cst (.int 0))) (rdVar 4) [4, 5] [.arg s, .dat (.tuple (L.map sg)), .dat (.int (whole : Nat)), s3, .un, .un, .un, .un, .un, .un, .un, .un, .un] = .ok ((L.filter fun z : Sg => decide (z.2 = 0)).map fun z : Sg => .str z.1) [.arg s, .dat (.tuple (L.map sg)), .dat (.int (whole : Nat)), s3, .un, .un, .un, .un, .un, .un, .un, .un, .un] := fun s3 =>
      lcAll_filterC L sg (fun z => .str z.1) (fun z => decide (z.2 = 0)) (by simp -implicitDefEqProofs only [p_seqS, p_ifS, p_orT, p_andT, p_andV, p_orV, p_ifT, p_bin2, p_bin2B, p_chain3, p_bool, p_dIntOp, p_add, p_intOf, p_callR_ok, p_callR_err, p_gN, p_gT2, p_gsNil, p_gsCons, p_seqI_t, p_seqI_l, p_itm_t, p_itm_l, p_cst, p_un1, p_binN, p_notV, p_newL, p_tup, p_lst, p_slc, p_oNo, p_oYes, p_aNil, p_aCons, p_aStar, p_callF, p_callB, p_tval, p_notT, p_argI, p_setS, p_setNS, p_asgS, p_retS, p_exprS, p_forS, p_rtn, p_rtr, p_rte, mk0, mk1, mk2, mk3, okS0, okS1, okS2, okS3, rdVar, List.getElem?_cons_zero, List.getElem?_cons_succ, List.set_cons_zero, List.set_cons_succ, rs_bind_ok, rs_bind_err, rs_bind_bad, rs_map_ok, rs_map_err, rs_st_ok, rs_st_err, rs_ofO_some, ot_seq_next, ot_seq_ret, ot_seq_err, ot_seq_brk, ot_seq_cont, Option.bind_some, Option.map_some, if_true, Bool.false_eq_true, if_false, Bool.not_true, Bool.not_false, methF, owOf, setOw]) rfl (by omega) (by
        rintro ⟨l, r⟩ _
        refine ⟨_, [.arg s, .dat (.tuple (L.map sg)), .dat (.int (whole : Nat)), s3, .dat (.str l), .dat (.int (r : Nat)), .un, .un, .un, .un, .un, .un, .un], rfl, ?_, rfl, fun _ => ⟨_, rfl, rfl⟩⟩
        simp -implicitDefEqProofs only [p_seqS, p_ifS, p_orT, p_andT, p_andV, p_orV, p_ifT, p_bin2, p_bin2B, p_chain3, p_bool, p_dIntOp, p_add, p_intOf, p_callR_ok, p_callR_err, p_gN, p_gT2, p_gsNil, p_gsCons, p_seqI_t, p_seqI_l, p_itm_t, p_itm_l, p_cst, p_un1, p_binN, p_notV, p_newL, p_tup, p_lst, p_slc, p_oNo, p_oYes, p_aNil, p_aCons, p_aStar, p_callF, p_callB, p_tval, p_notT, p_argI, p_setS, p_setNS, p_asgS, p_retS, p_exprS, p_forS, p_rtn, p_rtr, p_rte, mk0, mk1, mk2, mk3, okS0, okS1, okS2, okS3, rdVar, List.getElem?_cons_zero, List.getElem?_cons_succ, List.set_cons_zero, List.set_cons_succ, rs_bind_ok, rs_bind_err, rs_bind_bad, rs_map_ok, rs_map_err, rs_st_ok, rs_st_err, rs_ofO_some, ot_seq_next, ot_seq_ret, ot_seq_err, ot_seq_brk, ot_seq_cont, Option.bind_some, Option.map_some, if_true, Bool.false_eq_true, if_false, Bool.not_true, Bool.not_false, methF, owOf, setOw, dEq_int]
        congr 1
        apply decide_eq_decide.mpr
        show ((r : Int) = 0) ↔ r = 0
        omega)
    have c3 : ∀ s3 s6, lcAll (un1 seqItems (rdVar 1)) (gN 8) (andT (bin2B (dIntOp fun i j => .bool (decide (j < i))) (bin2 dIx (rdVar 8) (cst (.int 1))) (cst (.int 0))) (bin2B (dIntOp fun i j => .bool (decide (i < j))) (bin2 dIx (rdVar 8) (cst (.int 1))) (rdVar 2))) (rdVar 8) [8] [.arg s, .dat (.tuple (L.map sg)), .dat (.int (whole : Nat)), s3, .un, .un, s6, .un, .un, .un, .un, .un, .un] = .ok ((L.filter fun z : Sg => decide (0 < z.2 ∧ z.2 < whole)).map sg) [.arg s, .dat (.tuple (L.map sg)), .dat (.int (whole : Nat)), s3, .un, .un, s6, .un, .un, .un, .un, .un, .un] := fun s3 s6 =>
      lcAll_filterC L sg sg (fun z => decide (0 < z.2 ∧ z.2 < whole)) (by simp -implicitDefEqProofs only [p_seqS, p_ifS, p_orT, p_andT, p_andV, p_orV, p_ifT, p_bin2, p_bin2B, p_chain3, p_bool, p_dIntOp, p_add, p_intOf, p_callR_ok, p_callR_err, p_gN, p_gT2, p_gsNil, p_gsCons, p_seqI_t, p_seqI_l, p_itm_t, p_itm_l, p_cst, p_un1, p_binN, p_notV, p_newL, p_tup, p_lst, p_slc, p_oNo, p_oYes, p_aNil, p_aCons, p_aStar, p_callF, p_callB, p_tval, p_notT, p_argI, p_setS, p_setNS, p_asgS, p_retS, p_exprS, p_forS, p_rtn, p_rtr, p_rte, mk0, mk1, mk2, mk3, okS0, okS1, okS2, okS3, rdVar, List.getElem?_cons_zero, List.getElem?_cons_succ, List.set_cons_zero, List.set_cons_succ, rs_bind_ok, rs_bind_err, rs_bind_bad, rs_map_ok, rs_map_err, rs_st_ok, rs_st_err, rs_ofO_some, ot_seq_next, ot_seq_ret, ot_seq_err, ot_seq_brk, ot_seq_cont, Option.bind_some, Option.map_some, if_true, Bool.false_eq_true, if_false, Bool.not_true, Bool.not_false, methF, owOf, setOw]) rfl (by omega) (by
        rintro ⟨l, r⟩ _
        refine ⟨_, [.arg s, .dat (.tuple (L.map sg)), .dat (.int (whole : Nat)), s3, .un, .un, s6, .un, .dat (sg (l, r)), .un, .un, .un, .un], rfl, ?_, rfl, fun _ => ⟨_, rfl, rfl⟩⟩
        by_cases hr : 0 < r
        · have d1 : decide ((0 : Int) < (r : Nat)) = true := by simp; omega
          simp -implicitDefEqProofs only [p_seqS, p_ifS, p_orT, p_andT, p_andV, p_orV, p_ifT, p_bin2, p_bin2B, p_chain3, p_bool, p_dIntOp, p_add, p_intOf, p_callR_ok, p_callR_err, p_gN, p_gT2, p_gsNil, p_gsCons, p_seqI_t, p_seqI_l, p_itm_t, p_itm_l, p_cst, p_un1, p_binN, p_notV, p_newL, p_tup, p_lst, p_slc, p_oNo, p_oYes, p_aNil, p_aCons, p_aStar, p_callF, p_callB, p_tval, p_notT, p_argI, p_setS, p_setNS, p_asgS, p_retS, p_exprS, p_forS, p_rtn, p_rtr, p_rte, mk0, mk1, mk2, mk3, okS0, okS1, okS2, okS3, rdVar, List.getElem?_cons_zero, List.getElem?_cons_succ, List.set_cons_zero, List.set_cons_succ, rs_bind_ok, rs_bind_err, rs_bind_bad, rs_map_ok, rs_map_err, rs_st_ok, rs_st_err, rs_ofO_some, ot_seq_next, ot_seq_ret, ot_seq_err, ot_seq_brk, ot_seq_cont, Option.bind_some, Option.map_some, if_true, Bool.false_eq_true, if_false, Bool.not_true, Bool.not_false, methF, owOf, setOw, sg, ix_t1, d1]
          congr 1
          apply decide_eq_decide.mpr
          show ((r : Int) < whole) ↔ 0 < r ∧ r < whole
          omega
        · have d1 : decide ((0 : Int) < (r : Nat)) = false := by simp; omega
          have d2 : decide (0 < r ∧ r < whole) = false := by simp; omega
          simp -implicitDefEqProofs only [p_seqS, p_ifS, p_orT, p_andT, p_andV, p_orV, p_ifT, p_bin2, p_bin2B, p_chain3, p_bool, p_dIntOp, p_add, p_intOf, p_callR_ok, p_callR_err, p_gN, p_gT2, p_gsNil, p_gsCons, p_seqI_t, p_seqI_l, p_itm_t, p_itm_l, p_cst, p_un1, p_binN, p_notV, p_newL, p_tup, p_lst, p_slc, p_oNo, p_oYes, p_aNil, p_aCons, p_aStar, p_callF, p_callB, p_tval, p_notT, p_argI, p_setS, p_setNS, p_asgS, p_retS, p_exprS, p_forS, p_rtn, p_rtr, p_rte, mk0, mk1, mk2, mk3, okS0, okS1, okS2, okS3, rdVar, List.getElem?_cons_zero, List.getElem?_cons_succ, List.set_cons_zero, List.set_cons_succ, rs_bind_ok, rs_bind_err, rs_bind_bad, rs_map_ok, rs_map_err, rs_st_ok, rs_st_err, rs_ofO_some, ot_seq_next, ot_seq_ret, ot_seq_err, ot_seq_brk, ot_seq_cont, Option.bind_some, Option.map_some, if_true, Bool.false_eq_true, if_false, Bool.not_true, Bool.not_false, methF, owOf, setOw, sg, ix_t1, d1, d2])
    obtain ⟨l0, hl0⟩ := hL.2.1
    obtain ⟨mx, hmx⟩ := maxL_some (ns := L.map fun z => ((z.2 : Nat) : Int)) (by
      intro e
      rw [List.map_eq_nil_iff] at e
      rw [e] at hl0
      cases hl0)
    rw [List.map_map] at hmx
    have hmx : dMaxL [.list (L.map fun z : Sg => PyData.int ((z.2 : Nat) : Int))] = some (.int mx) := hmx
    have eb : B__law_document (F__law_document n) = seqS (setNS 3 (lcAll (un1 seqItems (rdVar 1)) (gT 2 (gsCons (gN 4) (gsCons (gN 5) gsNil))) tYes' (rdVar 5) [4, 5]))
      (seqS (setNS 6 (lcAll (un1 seqItems (rdVar 1)) (gT 2 (gsCons (gN 4) (gsCons (gN 5) gsNil))) (bin2B dEq (rdVar 5) (cst (.int 0))) (rdVar 4) [4, 5]))
      (seqS (ifS (orT (bin2B (dIntOp fun i j => .bool (decide (i < j))) (rdVar 2) (cst (.int 2))) (bin2B dEq (callB dMaxL (aCons (rdVar 3) aNil)) (cst (.int 0)))) LEAF .next)
      (seqS (setNS 7 (lcAll (un1 seqItems (rdVar 1)) (gN 8) (andT (bin2B (dIntOp fun i j => .bool (decide (j < i))) (bin2 dIx (rdVar 8) (cst (.int 1))) (cst (.int 0))) (bin2B (dIntOp fun i j => .bool (decide (i < j))) (bin2 dIx (rdVar 8) (cst (.int 1))) (rdVar 2))) (rdVar 8) [8]))
      (seqS (ifS (bin2B dEq (callB dLen (aCons (rdVar 7) aNil)) (cst (.int 0))) LEAF .next)
      (seqS (asgS (bin2 dIx (rdVar 7) (callSF 0 F__law_next (aCons (callB dLen (aCons (rdVar 7) aNil)) aNil))) (gT 2 (gsCons (gN 4) (gsCons (gN 5) gsNil))))
      (TAIL (F__law_document n))))))) := rfl
    have fin : ∀ {x : Doc} {s' : List PyData} {r : List Sl}, (Ot.ret x.d (.arg s' :: r)).rm = .ok x.d s' := rfl
    show ∃ (x : Doc) (s' : List PyData), runS 13 3 (B__law_document (F__law_document n)) s [.tuple (L.map sg), .int (whole : Nat)] = _ ∧ _
    rw [runS_at (m := 3) rfl, e0, eb]
    by_cases hw2 : whole < 2
    · have d1 : decide (((whole : Nat) : Int) < 2) = true := by simp; omega
      obtain ⟨x, s', r, e, g, z, hs⟩ := leaf_ok (s1 := .dat (.tuple (L.map sg))) (s2 := .dat (.int (whole : Nat))) (s3 := .own (L.map fun z : Sg => PyData.int ((z.2 : Nat) : Int))) (s4 := .un) (s5 := .un) (s7 := .un) (s8 := .un) (s9 := .un) (s10 := .un) (s11 := .un) (s12 := .un) hL h (by omega)
      refine ⟨x, s', ?_, g, by omega, hs.mono (by omega)⟩
      simp -implicitDefEqProofs only [p_seqS, p_ifS, p_orT, p_andT, p_andV, p_orV, p_ifT, p_bin2, p_bin2B, p_chain3, p_bool, p_dIntOp, p_add, p_intOf, p_callR_ok, p_callR_err, p_gN, p_gT2, p_gsNil, p_gsCons, p_seqI_t, p_seqI_l, p_itm_t, p_itm_l, p_cst, p_un1, p_binN, p_notV, p_newL, p_tup, p_lst, p_slc, p_oNo, p_oYes, p_aNil, p_aCons, p_aStar, p_callF, p_callB, p_tval, p_notT, p_argI, p_setS, p_setNS, p_asgS, p_retS, p_exprS, p_forS, p_rtn, p_rtr, p_rte, mk0, mk1, mk2, mk3, okS0, okS1, okS2, okS3, rdVar, List.getElem?_cons_zero, List.getElem?_cons_succ, List.set_cons_zero, List.set_cons_succ, rs_bind_ok, rs_bind_err, rs_bind_bad, rs_map_ok, rs_map_err, rs_st_ok, rs_st_err, rs_ofO_some, ot_seq_next, ot_seq_ret, ot_seq_err, ot_seq_brk, ot_seq_cont, Option.bind_some, Option.map_some, if_true, Bool.false_eq_true, if_false, Bool.not_true, Bool.not_false, methF, owOf, setOw, c1, c2, d1, e, fin]
    · have d1 : decide (((whole : Nat) : Int) < 2) = false := by simp; omega
      by_cases hm0 : mx = 0
      · have d2 : decide (mx = 0) = true := by simpa using hm0
        obtain ⟨x, s', r, e, g, z, hs⟩ := leaf_ok (s1 := .dat (.tuple (L.map sg))) (s2 := .dat (.int (whole : Nat))) (s3 := .dat (.list (L.map fun z : Sg => PyData.int ((z.2 : Nat) : Int)))) (s4 := .un) (s5 := .un) (s7 := .un) (s8 := .un) (s9 := .un) (s10 := .un) (s11 := .un) (s12 := .un) hL h (by omega)
        refine ⟨x, s', ?_, g, by omega, hs.mono (by omega)⟩
        simp -implicitDefEqProofs only [p_seqS, p_ifS, p_orT, p_andT, p_andV, p_orV, p_ifT, p_bin2, p_bin2B, p_chain3, p_bool, p_dIntOp, p_add, p_intOf, p_callR_ok, p_callR_err, p_gN, p_gT2, p_gsNil, p_gsCons, p_seqI_t, p_seqI_l, p_itm_t, p_itm_l, p_cst, p_un1, p_binN, p_notV, p_newL, p_tup, p_lst, p_slc, p_oNo, p_oYes, p_aNil, p_aCons, p_aStar, p_callF, p_callB, p_tval, p_notT, p_argI, p_setS, p_setNS, p_asgS, p_retS, p_exprS, p_forS, p_rtn, p_rtr, p_rte, mk0, mk1, mk2, mk3, okS0, okS1, okS2, okS3, rdVar, List.getElem?_cons_zero, List.getElem?_cons_succ, List.set_cons_zero, List.set_cons_succ, rs_bind_ok, rs_bind_err, rs_bind_bad, rs_map_ok, rs_map_err, rs_st_ok, rs_st_err, rs_ofO_some, ot_seq_next, ot_seq_ret, ot_seq_err, ot_seq_brk, ot_seq_cont, Option.bind_some, Option.map_some, if_true, Bool.false_eq_true, if_false, Bool.not_true, Bool.not_false, methF, owOf, setOw, c1, c2, d1, hmx, dEq_int, d2, e, fin]
      · have d2 : decide (mx = 0) = false := by simpa using hm0
        by_cases hr0 : (L.filter fun z : Sg => decide (0 < z.2 ∧ z.2 < whole)) = []
        · have d3 : decide (((((L.filter fun z : Sg => decide (0 < z.2 ∧ z.2 < whole)).map sg).length : Nat) : Int) = 0) = true := by
            rw [hr0]
            rfl
          obtain ⟨x, s', r, e, g, z, hs⟩ := leaf_ok (s1 := .dat (.tuple (L.map sg))) (s2 := .dat (.int (whole : Nat))) (s3 := .dat (.list (L.map fun z : Sg => PyData.int ((z.2 : Nat) : Int)))) (s4 := .un) (s5 := .un) (s7 := .dat (.list ((L.filter fun z : Sg => decide (0 < z.2 ∧ z.2 < whole)).map sg))) (s8 := .un) (s9 := .un) (s10 := .un) (s11 := .un) (s12 := .un) hL h (by omega)
          refine ⟨x, s', ?_, g, by omega, hs.mono (by omega)⟩
          simp -implicitDefEqProofs only [p_seqS, p_ifS, p_orT, p_andT, p_andV, p_orV, p_ifT, p_bin2, p_bin2B, p_chain3, p_bool, p_dIntOp, p_add, p_intOf, p_callR_ok, p_callR_err, p_gN, p_gT2, p_gsNil, p_gsCons, p_seqI_t, p_seqI_l, p_itm_t, p_itm_l, p_cst, p_un1, p_binN, p_notV, p_newL, p_tup, p_lst, p_slc, p_oNo, p_oYes, p_aNil, p_aCons, p_aStar, p_callF, p_callB, p_tval, p_notT, p_argI, p_setS, p_setNS, p_asgS, p_retS, p_exprS, p_forS, p_rtn, p_rtr, p_rte, mk0, mk1, mk2, mk3, okS0, okS1, okS2, okS3, rdVar, List.getElem?_cons_zero, List.getElem?_cons_succ, List.set_cons_zero, List.set_cons_succ, rs_bind_ok, rs_bind_err, rs_bind_bad, rs_map_ok, rs_map_err, rs_st_ok, rs_st_err, rs_ofO_some, ot_seq_next, ot_seq_ret, ot_seq_err, ot_seq_brk, ot_seq_cont, Option.bind_some, Option.map_some, if_true, Bool.false_eq_true, if_false, Bool.not_true, Bool.not_false, methF, owOf, setOw, c1, c2, d1, hmx, dEq_int, d2, c3, p_len_l, d3, e, fin]
        · have hp := List.length_pos_iff.mpr hr0
          have d3 : decide (((((L.filter fun z : Sg => decide (0 < z.2 ∧ z.2 < whole)).map sg).length : Nat) : Int) = 0) = false := by
            rw [List.length_map]
            simp only [decide_eq_false_iff_not]
            omega
          obtain ⟨q, s1, e1, l1, h2⟩ := law_next_ok (m := ((((L.filter fun z : Sg => decide (0 < z.2 ∧ z.2 < whole)).map sg).length : Nat) : Int)) h (by rw [List.length_map]; omega) (by omega)
          rw [List.length_map] at l1
          have hq : q < (L.filter fun z : Sg => decide (0 < z.2 ∧ z.2 < whole)).length := by omega
          have ei : dIx (.list ((L.filter fun z : Sg => decide (0 < z.2 ∧ z.2 < whole)).map sg)) (.int (q : Nat)) = some (sg (L.filter fun z : Sg => decide (0 < z.2 ∧ z.2 < whole))[q]) := ix_nat (by rw [List.getElem?_map, List.getElem?_eq_getElem hq]; rfl)
          obtain ⟨m1, m2⟩ := List.mem_filter.mp (List.getElem_mem hq)
          rw [decide_eq_true_eq] at m2
          obtain ⟨a1, a2⟩ := hL.1 _ m1
          generalize (L.filter fun z : Sg => decide (0 < z.2 ∧ z.2 < whole))[q] = z at ei a1 a2 m2
          obtain ⟨l, rk⟩ := z
          obtain ⟨x, s', r, e, g, z, hs⟩ := tail_ok (F__law_document n) (L := L) (whole := whole) (s3 := .dat (.list (L.map fun z : Sg => PyData.int ((z.2 : Nat) : Int)))) (s6 := .own ((L.filter fun z : Sg => decide (z.2 = 0)).map fun z : Sg => PyData.str z.1)) (s7 := .dat (.list ((L.filter fun z : Sg => decide (0 < z.2 ∧ z.2 < whole)).map sg))) (s8 := .un) (s9 := .un) (s10 := .un) (s11 := .un) (s12 := .un) a1 a2 m2.1 m2.2 hz h2 (by omega) (fun own b' s h3 h4 h5 h6 => law_document_ok n own b' s L h5 h6 hL h3 (by omega) (by omega))
          refine ⟨x, s', ?_, g, z, hs.mono (by omega)⟩
          simp -implicitDefEqProofs only [p_seqS, p_ifS, p_orT, p_andT, p_andV, p_orV, p_ifT, p_bin2, p_bin2B, p_chain3, p_bool, p_dIntOp, p_add, p_intOf, p_callR_ok, p_callR_err, p_gN, p_gT2, p_gsNil, p_gsCons, p_seqI_t, p_seqI_l, p_itm_t, p_itm_l, p_cst, p_un1, p_binN, p_notV, p_newL, p_tup, p_lst, p_slc, p_oNo, p_oYes, p_aNil, p_aCons, p_aStar, p_callF, p_callB, p_tval, p_notT, p_argI, p_setS, p_setNS, p_asgS, p_retS, p_exprS, p_forS, p_rtn, p_rtr, p_rte, mk0, mk1, mk2, mk3, okS0, okS1, okS2, okS3, rdVar, List.getElem?_cons_zero, List.getElem?_cons_succ, List.set_cons_zero, List.set_cons_succ, rs_bind_ok, rs_bind_err, rs_bind_bad, rs_map_ok, rs_map_err, rs_st_ok, rs_st_err, rs_ofO_some, ot_seq_next, ot_seq_ret, ot_seq_err, ot_seq_brk, ot_seq_cont, Option.bind_some, Option.map_some, if_true, Bool.false_eq_true, if_false, Bool.not_true, Bool.not_false, methF, owOf, setOw, p_callSF, p_ixvF, lstAt, c1, c2, d1, hmx, dEq_int, d2, c3, p_len_l, d3, e1, ei, sg, e, fin]
end ML
set_option maxRecDepth 100000
set_option maxHeartbeats 4000000
/-! a document near another one; the exact ones; the stream -/
namespace ML
open PySem L2
theorem mem_nodes (x : Doc) : ∀ (p q : Path) (y : Doc), (q, y) ∈ Doc.nodes p x → ∃ p', q = p ++ p' ∧ x.at? p' = some y := by
  refine Doc.ind (P := fun x => ∀ (p q : Path) (y : Doc), (q, y) ∈ Doc.nodes p x → ∃ p', q = p ++ p' ∧ x.at? p' = some y) (fun l cs ih p q y h => ?_) x
  rw [Doc.nodes, List.mem_cons] at h
  rcases h with h | h
  · cases h
    exact ⟨[], by simp, rfl⟩
  · have key : ∀ (cs pre : List Doc), (∀ c ∈ cs, ∀ (p q : Path) (y : Doc), (q, y) ∈ Doc.nodes p c → ∃ p', q = p ++ p' ∧ c.at? p' = some y) → (q, y) ∈ Doc.nodesL p pre.length cs → ∃ p', q = p ++ p' ∧ (Doc.node l (pre ++ cs)).at? p' = some y := by
      intro cs
      induction cs with
      | nil => intro pre _ h; rw [Doc.nodesL] at h; cases h
      | cons c cs h2 =>
        intro pre ih h
        rw [Doc.nodesL, List.mem_append] at h
        rcases h with h | h
        · obtain ⟨p', e, ha⟩ := ih c (by simp) _ _ _ h
          refine ⟨(pre.length : Int) :: p', by rw [e]; simp, ?_⟩
          rw [Doc.at?, Doc.kid_nat]
          show (Option.bind (pre ++ c :: cs)[pre.length]? _) = _
          simp [ha]
        · have := h2 (pre ++ [c]) (fun c hc => ih c (by simp [hc])) (by rw [List.length_append, List.length_singleton]; exact h)
          simpa using this
    exact key cs [] ih h
theorem depth_size (x : Doc) : x.depth < x.size := by
  refine Doc.ind (P := fun x => x.depth < x.size) (fun l cs ih => ?_) x
  rw [Doc.depth, Doc.size]
  have : Doc.depths cs ≤ Doc.sizes cs := Doc.depths_le fun c hc => by
    have := ih c hc
    have := Doc.sizes_mem hc
    omega
  omega
theorem relab_good {w : Str} {y : Doc} (hw : isLab w = true) (g : y.Good) : (Doc.node w y.kids).Good := by
  have h := Doc.good_kids g
  refine Doc.good_mk ?_ h.2
  have := h.1
  unfold okN at this
  rw [Bool.and_eq_true] at this
  rw [okN_node, hw, Bool.true_and]
  exact this.2
def NR : En → Ot := seqS (setS 4 (callF (F__law_nodes 80) (aCons (rdVar 1) (aCons (tup aNil) aNil))))
    (seqS (asgS (bin2 dIx (rdVar 4) (callSF 0 F__law_next (aCons (callB dLen (aCons (rdVar 4) aNil)) aNil))) (gT 2 (gsCons (gN 5) (gsCons (gN 6) gsNil))))
    (setS 1 (callF (F__law_put 80) (aCons (rdVar 1) (aCons (rdVar 5) (aCons (bin2 dIx (newL (lst (aCons (bin2 dAdd (tup (aCons (callSF 0 F__law_label aNil) aNil)) (slc (rdVar 6) (oYes (cst (.int 1))) oNo)) (aCons (callSF 0 (F__law_document 14) (aCons (rdVar 2) (aCons (bin2 dAdd (cst (.int 1)) (callSF 0 F__law_next (aCons (cst (.int 4)) aNil))) aNil))) aNil)))) (callSF 0 F__law_next (aCons (cst (.int 2)) aNil))) aNil))))))
theorem NR_step {s : List PyData} {b N : Nat} {x : Doc} {L : List Sg} {s3 s4 s5 s6 : Sl} (h : St b s) (hb : b < 2 ^ 37) (hL : signsOk L) (g : x.Good) (hx : x.size ≤ N) (hN : N ≤ 70) :
    ∃ (y : Doc) (s' : List PyData) (s4' s5' s6' : Sl), NR [.arg s, .dat x.d, .dat (.tuple (L.map sg)), s3, s4, s5, s6] = .next [.arg s', .dat y.d, .dat (.tuple (L.map sg)), s3, s4', s5', s6'] ∧ y.Good ∧ y.size ≤ N + 3 ∧ St (b + 40) s' := by
  have hbg := big
  have hds := depth_size x
  have hf : x.fit := by unfold Doc.fit; omega
  have mn : F__law_nodes 80 [x.d, .tuple []] = _ := law_nodes_ok 80 x [] (by omega) hf (by simp; omega)
  have hln : ((Doc.nodes [] x).map nd).length = x.size := by rw [List.length_map, Doc.nodes_len]
  have hpos := x.size_pos
  obtain ⟨r1, s1, e1, l1, h1⟩ := law_next_ok (m := ((((Doc.nodes [] x).map nd).length : Nat) : Int)) h (by omega) (by omega)
  have hr1 : r1 < (Doc.nodes [] x).length := by rw [Doc.nodes_len]; omega
  have hm := List.getElem_mem hr1
  have ei : dIx (.list ((Doc.nodes [] x).map nd)) (.int (r1 : Nat)) = some (nd (Doc.nodes [] x)[r1]) := ix_nat (by rw [List.getElem?_map, List.getElem?_eq_getElem hr1]; rfl)
  generalize (Doc.nodes [] x)[r1] = z at hm ei
  obtain ⟨p, y⟩ := z
  obtain ⟨p', ep, ha⟩ := mem_nodes x [] p y hm
  rw [List.nil_append] at ep
  subst ep
  have gy := Doc.at_good g ha
  have yd := Doc.at_depth ha
  have ys := Doc.at_size ha
  have yp := y.size_pos
  obtain ⟨w, s2, e2, l2, h2⟩ := law_label_ok h1 (by omega)
  obtain ⟨r3, s3', e3, l3, h3⟩ := law_next_ok (m := 4) h2 (by omega) (by omega)
  have w3 : (1 : Int) + (r3 : Nat) = ((1 + r3 : Nat) : Int) := by omega
  obtain ⟨o, s4', e4, go, zo, h4⟩ := law_document_ok 14 (1 + r3) _ s3' L h3 (by omega) hL (by omega) (by omega) (by omega)
  obtain ⟨r5, s5', e5, l5, h5⟩ := law_next_ok (m := 2) h4 (by omega) (by omega)
  have hyf : y.fit := by unfold Doc.fit; omega
  have ea := add_lab w y hyf
  have fin : ∃ q : Doc, dIx (.list [(Doc.node w y.kids).d, o.d]) (.int (r5 : Nat)) = some q.d ∧ q.Good ∧ q.size ≤ y.size + 3 := by
    match r5, l5 with
    | 0, _ => exact ⟨_, rfl, relab_good l2 gy, by rw [Doc.size, y.size_kids]; omega⟩
    | 1, _ => exact ⟨_, rfl, go, by omega⟩
    | n + 2, h => omega
  obtain ⟨q, e6, gq, zq⟩ := fin
  have epu := law_put_ok 80 x p q (by omega) (by rw [ha]; simp) hf
  have hsz := Doc.put_size (o := q) ha
  refine ⟨x.put p q, s5', .dat (.list ((Doc.nodes [] x).map nd)), .dat (pd p), .dat y.d, ?_, Doc.put_good g gq ha, by omega, h5.mono (by omega)⟩
  unfold NR
  simp -implicitDefEqProofs only [p_seqS, p_ifS, p_orT, p_andT, p_andV, p_orV, p_ifT, p_bin2, p_bin2B, p_chain3, p_bool, p_dIntOp, p_add, p_intOf, p_callR_ok, p_callR_err, p_gN, p_gT2, p_gsNil, p_gsCons, p_seqI_t, p_seqI_l, p_itm_t, p_itm_l, p_cst, p_un1, p_binN, p_notV, p_newL, p_tup, p_lst, p_slc, p_oNo, p_oYes, p_aNil, p_aCons, p_aStar, p_callF, p_callB, p_tval, p_notT, p_argI, p_setS, p_setNS, p_asgS, p_retS, p_exprS, p_forS, p_rtn, p_rtr, p_rte, mk0, mk1, mk2, mk3, okS0, okS1, okS2, okS3, rdVar, List.getElem?_cons_zero, List.getElem?_cons_succ, List.set_cons_zero, List.set_cons_succ, rs_bind_ok, rs_bind_err, rs_bind_bad, rs_map_ok, rs_map_err, rs_st_ok, rs_st_err, rs_ofO_some, ot_seq_next, ot_seq_ret, ot_seq_err, ot_seq_brk, ot_seq_cont, Option.bind_some, Option.map_some, if_true, Bool.false_eq_true, if_false, Bool.not_true, Bool.not_false, methF, owOf, setOw, p_callSF, p_ixvF, lstAt, mn, p_len_l, e1, ei, nd, e2, tail_d, ea, e3, w3, e4, e5, e6, epu]
theorem law_near_ok {s : List PyData} {b N : Nat} {x : Doc} {L : List Sg} (h : St b s) (hb : b < 2 ^ 36) (hL : signsOk L) (g : x.Good) (hx : x.size ≤ N) (hN : N ≤ 60) :
    ∃ (y : Doc) (s' : List PyData), F__law_near s [x.d, .tuple (L.map sg)] = .ok y.d s' ∧ y.Good ∧ y.size ≤ N + 9 ∧ St (b + 130) s' := by
  obtain ⟨r1, s1, e1, l1, h1⟩ := law_next_ok (m := 3) h (by omega) (by omega)
  have w1 : (1 : Int) + (r1 : Nat) = ((1 + r1 : Nat) : Int) := by omega
  obtain ⟨ρ', e, s', y, s3, s4, s5, s6, rfl, hs, gy, zy⟩ := forF_inv (t := gN 3) (body := NR) (fun i ρ => ∃ (s' : List PyData) (y : Doc) (s3 s4 s5 s6 : Sl), ρ = [.arg s', .dat y.d, .dat (.tuple (L.map sg)), s3, s4, s5, s6] ∧ St (b + 1 + 40 * i) s' ∧ y.Good ∧ y.size ≤ N + 3 * i) ((List.range (1 + r1)).map fun i => PyData.int (i : Nat)) 0
    [.arg s1, .dat x.d, .dat (.tuple (L.map sg)), .un, .un, .un, .un] ⟨s1, x, .un, .un, .un, .un, rfl, h1, g, by omega⟩ (by
      rintro i d ρ hd ⟨s', y, s3, s4, s5, s6, rfl, hs, gy, zy⟩
      rw [Nat.zero_add] at hs zy ⊢
      have hi : i < 1 + r1 := by
        have := (List.getElem?_eq_some_iff.mp hd).1
        simpa using this
      obtain ⟨z, s2, a, b', c, e, gz, zz, h2⟩ := NR_step (s3 := .dat d) (s4 := s4) (s5 := s5) (s6 := s6) hs (by omega) hL gy zy (by omega)
      exact ⟨_, _, rfl, .inl e, s2, z, _, _, _, _, rfl, h2.mono (by omega), gz, by omega⟩)
  have ej : ((List.range (1 + r1)).map fun i => PyData.int (i : Nat)).length = 1 + r1 := by simp
  rw [ej, Nat.zero_add] at hs zy
  refine ⟨y, s', ?_, gy, by omega, hs.mono (by omega)⟩
  show runS 7 3 B__law_near _ _ = _
  have e0 : initS 7 s [x.d, .tuple (L.map sg)] = [.arg s, .dat x.d, .dat (.tuple (L.map sg)), .un, .un, .un, .un] := rfl
  have eb : B__law_near = seqS (forS (argI rng1 (aCons (bin2 dAdd (cst (.int 1)) (callSF 0 F__law_next (aCons (cst (.int 3)) aNil))) aNil)) (gN 3) NR) (retS (rdVar 1)) := rfl
  rw [runS_at (m := 3) rfl, e0, eb]
  simp -implicitDefEqProofs only [p_seqS, p_ifS, p_orT, p_andT, p_andV, p_orV, p_ifT, p_bin2, p_bin2B, p_chain3, p_bool, p_dIntOp, p_add, p_intOf, p_callR_ok, p_callR_err, p_gN, p_gT2, p_gsNil, p_gsCons, p_seqI_t, p_seqI_l, p_itm_t, p_itm_l, p_cst, p_un1, p_binN, p_notV, p_newL, p_tup, p_lst, p_slc, p_oNo, p_oYes, p_aNil, p_aCons, p_aStar, p_callF, p_callB, p_tval, p_notT, p_argI, p_setS, p_setNS, p_asgS, p_retS, p_exprS, p_forS, p_rtn, p_rtr, p_rte, mk0, mk1, mk2, mk3, okS0, okS1, okS2, okS3, rdVar, List.getElem?_cons_zero, List.getElem?_cons_succ, List.set_cons_zero, List.set_cons_succ, rs_bind_ok, rs_bind_err, rs_bind_bad, rs_map_ok, rs_map_err, rs_st_ok, rs_st_err, rs_ofO_some, ot_seq_next, ot_seq_ret, ot_seq_err, ot_seq_brk, ot_seq_cont, Option.bind_some, Option.map_some, if_true, Bool.false_eq_true, if_false, Bool.not_true, Bool.not_false, methF, owOf, setOw, p_callSF, p_ixvF, lstAt, e1, w1, rng1_nat (show 1 + r1 ≤ 100000000 by omega), e]
  rfl
/-! the exact ones -/
def exB : Nat → Nat
  | 0 => 0
  | 1 => 1
  | 2 => 2
  | 3 => 3
  | n + 4 => 3 * (exB (n + 3) - 2) + 1
theorem exB_3 : ∀ n, 3 ≤ exB (n + 3)
  | 0 => Nat.le_refl _
  | n + 1 => by
    have := exB_3 n
    rw [exB]
    omega
theorem exB_pred {n m : Nat} (h : m ≤ exB (n + 1)) (h4 : m < 4) : m - 1 ≤ exB n := by
  match n, h with
  | 0, h => have h : m ≤ 1 := h; show m - 1 ≤ 0; omega
  | 1, h => have h : m ≤ 2 := h; show m - 1 ≤ 1; omega
  | 2, h => have h : m ≤ 3 := h; show m - 1 ≤ 2; omega
  | n + 3, h =>
    have := exB_3 n
    omega
theorem exB_third {n m : Nat} (h : m ≤ exB (n + 1)) (h4 : 4 ≤ m) : (m - 1) / 3 + 2 ≤ exB n := by
  match n, h with
  | 0, h => have h : m ≤ 1 := h; omega
  | 1, h => have h : m ≤ 2 := h; omega
  | 2, h => have h : m ≤ 3 := h; omega
  | n + 3, h =>
    have := exB_3 n
    rw [exB] at h
    omega
theorem lab_a : isLab "a" = true := by decide +kernel
theorem lab_f : isLab "f" = true := by decide +kernel
theorem lab_g : isLab "g" = true := by decide +kernel
theorem law_exact_ok : ∀ (n m : Nat), 1 ≤ m → m ≤ exB n → ∃ x : Doc, F__law_exact n [.int (m : Nat)] = .ok x.d ∧ x.Good ∧ x.size = m ∧ x.depth ≤ n
  | 0, m, h1, h => by
    rw [exB] at h
    omega
  | n + 1, m, h1, h => by
    have e0 : initE 2 [.int (m : Nat)] = [.dat (.int (m : Nat)), .un] := rfl
    show ∃ x : Doc, runF 2 1 (B__law_exact (F__law_exact n)) [.int (m : Nat)] = _ ∧ _
    rw [runF_at (m := 1) rfl, e0, B__law_exact]
    by_cases hm1 : m = 1
    · have d1 : decide (((m : Nat) : Int) = 1) = true := by simp; omega
      refine ⟨.node "a" [], ?_, Doc.good_mk (by rw [okN_node, lab_a]; rfl) (by simp), by rw [Doc.size, Doc.sizes]; omega, by rw [Doc.depth, Doc.depths]; omega⟩
      simp -implicitDefEqProofs only [p_seqS, p_ifS, p_orT, p_andT, p_andV, p_orV, p_ifT, p_bin2, p_bin2B, p_chain3, p_bool, p_dIntOp, p_add, p_intOf, p_callR_ok, p_callR_err, p_gN, p_gT2, p_gsNil, p_gsCons, p_seqI_t, p_seqI_l, p_itm_t, p_itm_l, p_cst, p_un1, p_binN, p_notV, p_newL, p_tup, p_lst, p_slc, p_oNo, p_oYes, p_aNil, p_aCons, p_aStar, p_callF, p_callB, p_tval, p_notT, p_argI, p_setS, p_setNS, p_asgS, p_retS, p_exprS, p_forS, p_rtn, p_rtr, p_rte, mk0, mk1, mk2, mk3, okS0, okS1, okS2, okS3, rdVar, List.getElem?_cons_zero, List.getElem?_cons_succ, List.set_cons_zero, List.set_cons_succ, rs_bind_ok, rs_bind_err, rs_bind_bad, rs_map_ok, rs_map_err, rs_st_ok, rs_st_err, rs_ofO_some, ot_seq_next, ot_seq_ret, ot_seq_err, ot_seq_brk, ot_seq_cont, Option.bind_some, Option.map_some, if_true, Bool.false_eq_true, if_false, Bool.not_true, Bool.not_false, methF, owOf, setOw, dEq_int, d1]
      rfl
    · have d1 : decide (((m : Nat) : Int) = 1) = false := by simp; omega
      by_cases hm4 : m < 4
      · have d2 : decide (((m : Nat) : Int) < 4) = true := by simp; omega
        have w1 : ((m : Nat) : Int) - 1 = ((m - 1 : Nat) : Int) := by omega
        obtain ⟨x, e, g, z, dx⟩ := law_exact_ok n (m - 1) (by omega) (exB_pred h hm4)
        refine ⟨.node "g" [x], ?_, Doc.good_mk (by rw [okN_node, lab_g]; rfl) (by simpa using g), by rw [Doc.size, Doc.sizes, Doc.sizes]; omega, by rw [Doc.depth, Doc.depths, Doc.depths]; omega⟩
        simp -implicitDefEqProofs only [p_seqS, p_ifS, p_orT, p_andT, p_andV, p_orV, p_ifT, p_bin2, p_bin2B, p_chain3, p_bool, p_dIntOp, p_add, p_intOf, p_callR_ok, p_callR_err, p_gN, p_gT2, p_gsNil, p_gsCons, p_seqI_t, p_seqI_l, p_itm_t, p_itm_l, p_cst, p_un1, p_binN, p_notV, p_newL, p_tup, p_lst, p_slc, p_oNo, p_oYes, p_aNil, p_aCons, p_aStar, p_callF, p_callB, p_tval, p_notT, p_argI, p_setS, p_setNS, p_asgS, p_retS, p_exprS, p_forS, p_rtn, p_rtr, p_rte, mk0, mk1, mk2, mk3, okS0, okS1, okS2, okS3, rdVar, List.getElem?_cons_zero, List.getElem?_cons_succ, List.set_cons_zero, List.set_cons_succ, rs_bind_ok, rs_bind_err, rs_bind_bad, rs_map_ok, rs_map_err, rs_st_ok, rs_st_err, rs_ofO_some, ot_seq_next, ot_seq_ret, ot_seq_err, ot_seq_brk, ot_seq_cont, Option.bind_some, Option.map_some, if_true, Bool.false_eq_true, if_false, Bool.not_true, Bool.not_false, methF, owOf, setOw, dEq_int, d1, d2, w1, e]
        rfl
      · have d2 : decide (((m : Nat) : Int) < 4) = false := by simp; omega
        have w1 : ((m : Nat) : Int) - 1 = ((m - 1 : Nat) : Int) := by omega
        have hc : CDiv ((m - 1 : Nat) : Int) 3 := ⟨by omega, by omega⟩
        have w2 : ((m - 1 : Nat) : Int) / 3 = (((m - 1) / 3 : Nat) : Int) := by omega
        have hm : CMul 2 (((m - 1) / 3 : Nat) : Int) := .inl ⟨by omega, by omega⟩
        have w3 : ((m - 1 : Nat) : Int) - 2 * (((m - 1) / 3 : Nat) : Int) = ((m - 1 - 2 * ((m - 1) / 3) : Nat) : Int) := by omega
        have ht := exB_third h (by omega)
        obtain ⟨x, e, g, z, dx⟩ := law_exact_ok n ((m - 1) / 3) (by omega) (by omega)
        obtain ⟨y, e', g', z', dy⟩ := law_exact_ok n (m - 1 - 2 * ((m - 1) / 3)) (by omega) (by omega)
        refine ⟨.node "f" [x, x, y], ?_, Doc.good_mk (by rw [okN_node, lab_f]; rfl) (by simp [g, g']), by rw [Doc.size, Doc.sizes, Doc.sizes, Doc.sizes, Doc.sizes]; omega, by rw [Doc.depth, Doc.depths, Doc.depths, Doc.depths, Doc.depths]; omega⟩
        have em : ∀ a b c d ρ, mkTup [a, b, c, d] ρ = .ok (.tuple [a, b, c, d]) ρ := fun a b c d ρ => if_pos (show 4 ≤ sizeLine by decide)
        simp -implicitDefEqProofs only [p_seqS, p_ifS, p_orT, p_andT, p_andV, p_orV, p_ifT, p_bin2, p_bin2B, p_chain3, p_bool, p_dIntOp, p_add, p_intOf, p_callR_ok, p_callR_err, p_gN, p_gT2, p_gsNil, p_gsCons, p_seqI_t, p_seqI_l, p_itm_t, p_itm_l, p_cst, p_un1, p_binN, p_notV, p_newL, p_tup, p_lst, p_slc, p_oNo, p_oYes, p_aNil, p_aCons, p_aStar, p_callF, p_callB, p_tval, p_notT, p_argI, p_setS, p_setNS, p_asgS, p_retS, p_exprS, p_forS, p_rtn, p_rtr, p_rte, mk0, mk1, mk2, mk3, okS0, okS1, okS2, okS3, rdVar, List.getElem?_cons_zero, List.getElem?_cons_succ, List.set_cons_zero, List.set_cons_succ, rs_bind_ok, rs_bind_err, rs_bind_bad, rs_map_ok, rs_map_err, rs_st_ok, rs_st_err, rs_ofO_some, ot_seq_next, ot_seq_ret, ot_seq_err, ot_seq_brk, ot_seq_cont, Option.bind_some, Option.map_some, if_true, Bool.false_eq_true, if_false, Bool.not_true, Bool.not_false, methF, owOf, setOw, dEq_int, d1, d2, w1, dDiv_int hc, w2, dMul_int hm, w3, e, e', em]
        rfl
end ML
set_option maxRecDepth 100000
set_option maxHeartbeats 4000000
/-! the stream of numbers -/
namespace ML
open PySem L2
/-- a loop that may break off -/
theorem forF_brk {t : Tgt} {body : En → Ot} (I : Nat → En → Prop) : ∀ (ds : List PyData) (k : Nat) (ρ : En), I k ρ →
    (∀ j d ρ, d ∈ ds → j < k + ds.length → I j ρ → ∃ ρ1 ρ2, t d ρ = some ρ1 ∧ (body ρ1 = .next ρ2 ∨ body ρ1 = .cont ρ2 ∨ body ρ1 = .brk ρ2) ∧ I (j + 1) ρ2) → ∃ m ρ', forF t body ds ρ = .next ρ' ∧ I m ρ' ∧ m ≤ k + ds.length
  | [], k, ρ, h0, _ => ⟨k, ρ, rfl, h0, by simp⟩
  | d :: ds, k, ρ, h0, hs => by
    obtain ⟨ρ1, ρ2, e1, e2, h1⟩ := hs k d ρ (by simp) (by rw [List.length_cons]; omega) h0
    unfold forF
    rw [e1]
    dsimp only
    rcases e2 with e2 | e2 | e2
    · rw [e2]
      obtain ⟨m, ρ', e, h, hm⟩ := forF_brk I ds (k + 1) ρ2 h1 fun j d' ρ hd hj hi => hs j d' ρ (by simp [hd]) (by rw [List.length_cons]; omega) hi
      exact ⟨m, ρ', e, h, by rw [List.length_cons]; omega⟩
    · rw [e2]
      obtain ⟨m, ρ', e, h, hm⟩ := forF_brk I ds (k + 1) ρ2 h1 fun j d' ρ hd hj hi => hs j d' ρ (by simp [hd]) (by rw [List.length_cons]; omega) hi
      exact ⟨m, ρ', e, h, by rw [List.length_cons]; omega⟩
    · rw [e2]
      exact ⟨k + 1, ρ2, rfl, h1, by rw [List.length_cons]; omega⟩
def STI1 : En → Ot := seqS (exprS (methF 1 gAppend (aCons (bin2 (dIntOpC (fun _ j => 0 < j) fun i j => .int (i % j)) (callB dInt1 (aCons (rdVar 3) aNil)) (cst (.int 1009))) aNil)))
    (seqS (setS 3 (bin2 (dIntOpC CDiv fun i j => .int (i / j)) (rdVar 3) (cst (.int 1009)))) (ifS (bin2B dEq (rdVar 3) (cst (.int 0))) .brk .next))
def STI2 : En → Ot := seqS (setS 5 (bin2 (dIntOpC (fun _ j => 0 < j) fun i j => .int (i % j)) (callB dInt1 (aCons (bin2 dAdd (bin2 dAdd (bin2 dMul (rdVar 5) (cst (.int 48271))) (bin2 dMul (cst (.int 7)) (rdVar 4))) (cst (.int 11))) aNil)) (cst (.int 2147483647))))
    (exprS (methF 1 gAppend (aCons (bin2 (dIntOpC (fun _ j => 0 < j) fun i j => .int (i % j)) (bin2 (dIntOpC (fun _ j => 0 < j) fun i j => .int (i % j)) (callB dInt1 (aCons (bin2 dAdd (bin2 dMul (rdVar 5) (cst (.int 69621))) (rdVar 4)) aNil)) (cst (.int 2147483629))) (cst (.int 1009))) aNil)))
def STB : En → Ot := seqS (setS 3 (callB dAbs (aCons (callB dInt1 (aCons (rdVar 2) aNil)) aNil)))
    (ifS (bin2B (dIntOp fun i j => .bool (decide (j ≤ i))) (rdVar 3) (bin2 (dIntOpC CPow fun i j => .int (i ^ j.toNat)) (cst (.int 10)) (cst (.int 18)))) (forS (argI rng1 (aCons (cst (.int 60)) aNil)) (gN 4) STI1) (seqS (setS 5 (bin2 (dIntOpC (fun _ j => 0 < j) fun i j => .int (i % j)) (callB dInt1 (aCons (rdVar 3) aNil)) (cst (.int 2147483647))))
    (forS (argI rng1 (aCons (cst (.int 10)) aNil)) (gN 4) STI2)))
/-- the numbers that are kept -/
def Num (s0 : Sl) (m : Nat) (ρ : En) : Prop := ∃ (xs : List Int) (s2 : Sl) (r : Int) (s4 s5 : Sl), ρ = [s0, .own (dInts xs), s2, .dat (.int r), s4, s5] ∧ xs.length ≤ m
def NumB (s0 : Sl) (m : Nat) (ρ : En) : Prop := ∃ (xs : List Int) (s2 s3 s4 : Sl) (r : Int), ρ = [s0, .own (dInts xs), s2, s3, s4, .dat (.int r)] ∧ xs.length ≤ m
def NumA (s0 : Sl) (m : Nat) (ρ : En) : Prop := ∃ (xs : List Int) (s2 s3 s4 s5 : Sl), ρ = [s0, .own (dInts xs), s2, s3, s4, s5] ∧ xs.length ≤ m
theorem app_ints {xs : List Int} {i : Int} (h : xs.length < 100000) : gAppend (dInts xs) [.int i] = some (.none, dInts (xs ++ [i])) := by
  have hb := big
  rw [append_ok (by unfold dInts; rw [List.length_map]; omega)]
  unfold dInts
  rw [List.map_append]
  rfl
theorem range_mem {n : Nat} {d : PyData} (h : d ∈ (List.range n).map fun i => PyData.int (i : Nat)) : ∃ i : Nat, d = .int (i : Nat) ∧ i < n := by
  obtain ⟨i, hi, rfl⟩ := List.mem_map.mp h
  exact ⟨i, rfl, by simpa using hi⟩
theorem STI1_loop {s0 s2 s4 s5 : Sl} {xs : List Int} {r : Int} (h : xs.length < 50000) : ∃ ρ', forF (gN 4) STI1 ((List.range 60).map fun i => PyData.int (i : Nat)) [s0, .own (dInts xs), s2, .dat (.int r), s4, s5] = .next ρ' ∧ NumA s0 (xs.length + 60) ρ' := by
  have c1 : CDiv r 1009 := ⟨by omega, by omega⟩
  obtain ⟨m, ρ', e, ⟨ys, t2, q, t4, t5, rfl, hy⟩, hm⟩ := forF_brk (t := gN 4) (body := STI1) (Num s0) ((List.range 60).map fun i => PyData.int (i : Nat)) xs.length [s0, .own (dInts xs), s2, .dat (.int r), s4, s5] ⟨xs, s2, r, s4, s5, rfl, Nat.le_refl _⟩ (by
    rintro j d ρ hd hj ⟨ys, t2, q, t4, t5, rfl, hy⟩
    rw [List.length_map, List.length_range] at hj
    have c2 : CDiv q 1009 := ⟨by omega, by omega⟩
    have ha := app_ints (xs := ys) (i := q % 1009) (by omega)
    by_cases hz : q / 1009 = 0
    · have dz : decide (q / 1009 = 0) = true := by simpa using hz
      refine ⟨_, [s0, .own (dInts (ys ++ [q % 1009])), t2, .dat (.int (q / 1009)), .dat d, t5], rfl, .inr (.inr ?_), _, _, _, _, _, rfl, by rw [List.length_append, List.length_singleton]; omega⟩
      unfold STI1
      simp -implicitDefEqProofs only [p_seqS, p_ifS, p_orT, p_andT, p_andV, p_orV, p_ifT, p_bin2, p_bin2B, p_chain3, p_bool, p_dIntOp, p_add, p_intOf, p_callR_ok, p_callR_err, p_gN, p_gT2, p_gsNil, p_gsCons, p_seqI_t, p_seqI_l, p_itm_t, p_itm_l, p_cst, p_un1, p_binN, p_notV, p_newL, p_tup, p_lst, p_slc, p_oNo, p_oYes, p_aNil, p_aCons, p_aStar, p_callF, p_callB, p_tval, p_notT, p_argI, p_setS, p_setNS, p_asgS, p_retS, p_exprS, p_forS, p_rtn, p_rtr, p_rte, mk0, mk1, mk2, mk3, okS0, okS1, okS2, okS3, rdVar, List.getElem?_cons_zero, List.getElem?_cons_succ, List.set_cons_zero, List.set_cons_succ, rs_bind_ok, rs_bind_err, rs_bind_bad, rs_map_ok, rs_map_err, rs_st_ok, rs_st_err, rs_ofO_some, ot_seq_next, ot_seq_ret, ot_seq_err, ot_seq_brk, ot_seq_cont, Option.bind_some, Option.map_some, if_true, Bool.false_eq_true, if_false, Bool.not_true, Bool.not_false, methF, owOf, setOw, int1_i, dMod_int (show (0 : Int) < 1009 by omega), ha, dDiv_int c2, dEq_int, dz]
    · have dz : decide (q / 1009 = 0) = false := by simpa using hz
      refine ⟨_, [s0, .own (dInts (ys ++ [q % 1009])), t2, .dat (.int (q / 1009)), .dat d, t5], rfl, .inl ?_, _, _, _, _, _, rfl, by rw [List.length_append, List.length_singleton]; omega⟩
      unfold STI1
      simp -implicitDefEqProofs only [p_seqS, p_ifS, p_orT, p_andT, p_andV, p_orV, p_ifT, p_bin2, p_bin2B, p_chain3, p_bool, p_dIntOp, p_add, p_intOf, p_callR_ok, p_callR_err, p_gN, p_gT2, p_gsNil, p_gsCons, p_seqI_t, p_seqI_l, p_itm_t, p_itm_l, p_cst, p_un1, p_binN, p_notV, p_newL, p_tup, p_lst, p_slc, p_oNo, p_oYes, p_aNil, p_aCons, p_aStar, p_callF, p_callB, p_tval, p_notT, p_argI, p_setS, p_setNS, p_asgS, p_retS, p_exprS, p_forS, p_rtn, p_rtr, p_rte, mk0, mk1, mk2, mk3, okS0, okS1, okS2, okS3, rdVar, List.getElem?_cons_zero, List.getElem?_cons_succ, List.set_cons_zero, List.set_cons_succ, rs_bind_ok, rs_bind_err, rs_bind_bad, rs_map_ok, rs_map_err, rs_st_ok, rs_st_err, rs_ofO_some, ot_seq_next, ot_seq_ret, ot_seq_err, ot_seq_brk, ot_seq_cont, Option.bind_some, Option.map_some, if_true, Bool.false_eq_true, if_false, Bool.not_true, Bool.not_false, methF, owOf, setOw, int1_i, dMod_int (show (0 : Int) < 1009 by omega), ha, dDiv_int c2, dEq_int, dz])
  rw [List.length_map, List.length_range] at hm
  exact ⟨_, e, ys, t2, _, t4, t5, rfl, by omega⟩
theorem STI2_loop {s0 s2 s3 s4 : Sl} {xs : List Int} {r : Int} (h : xs.length < 50000) : ∃ ρ', forF (gN 4) STI2 ((List.range 10).map fun i => PyData.int (i : Nat)) [s0, .own (dInts xs), s2, s3, s4, .dat (.int r)] = .next ρ' ∧ NumA s0 (xs.length + 60) ρ' := by
  obtain ⟨m, ρ', e, ⟨ys, t2, t3, t4, q, rfl, hy⟩, hm⟩ := forF_brk (t := gN 4) (body := STI2) (NumB s0) ((List.range 10).map fun i => PyData.int (i : Nat)) xs.length [s0, .own (dInts xs), s2, s3, s4, .dat (.int r)] ⟨xs, s2, s3, s4, r, rfl, Nat.le_refl _⟩ (by
    rintro j d ρ hd hj ⟨ys, t2, t3, t4, q, rfl, hy⟩
    rw [List.length_map, List.length_range] at hj
    obtain ⟨i, rfl, hi⟩ := range_mem hd
    have m1 : CMul q 48271 := .inr ⟨by omega, by omega⟩
    have m2 : CMul 7 (i : Nat) := .inl ⟨by omega, by omega⟩
    have m3 : CMul ((q * 48271 + 7 * (i : Nat) + 11) % 2147483647) 69621 := .inr ⟨by omega, by omega⟩
    refine ⟨_, [s0, .own (dInts (ys ++ [((q * 48271 + 7 * (i : Nat) + 11) % 2147483647 * 69621 + (i : Nat)) % 2147483629 % 1009])), t2, t3, .dat (.int (i : Nat)), .dat (.int ((q * 48271 + 7 * (i : Nat) + 11) % 2147483647))], rfl, .inl ?_, _, _, _, _, _, rfl, by rw [List.length_append, List.length_singleton]; omega⟩
    unfold STI2
    simp -implicitDefEqProofs only [p_seqS, p_ifS, p_orT, p_andT, p_andV, p_orV, p_ifT, p_bin2, p_bin2B, p_chain3, p_bool, p_dIntOp, p_add, p_intOf, p_callR_ok, p_callR_err, p_gN, p_gT2, p_gsNil, p_gsCons, p_seqI_t, p_seqI_l, p_itm_t, p_itm_l, p_cst, p_un1, p_binN, p_notV, p_newL, p_tup, p_lst, p_slc, p_oNo, p_oYes, p_aNil, p_aCons, p_aStar, p_callF, p_callB, p_tval, p_notT, p_argI, p_setS, p_setNS, p_asgS, p_retS, p_exprS, p_forS, p_rtn, p_rtr, p_rte, mk0, mk1, mk2, mk3, okS0, okS1, okS2, okS3, rdVar, List.getElem?_cons_zero, List.getElem?_cons_succ, List.set_cons_zero, List.set_cons_succ, rs_bind_ok, rs_bind_err, rs_bind_bad, rs_map_ok, rs_map_err, rs_st_ok, rs_st_err, rs_ofO_some, ot_seq_next, ot_seq_ret, ot_seq_err, ot_seq_brk, ot_seq_cont, Option.bind_some, Option.map_some, if_true, Bool.false_eq_true, if_false, Bool.not_true, Bool.not_false, methF, owOf, setOw, dMul_int m1, dMul_int m2, int1_i, dMod_int (show (0 : Int) < 2147483647 by omega), dMul_int m3, dMod_int (show (0 : Int) < 2147483629 by omega), dMod_int (show (0 : Int) < 1009 by omega), app_ints (xs := ys) (show ys.length < 100000 by omega)])
  rw [List.length_map, List.length_range] at hm
  exact ⟨_, e, ys, t2, t3, t4, _, rfl, by omega⟩
theorem dPow_int {i j : Int} (h : CPow i j) : dIntOpC CPow (fun i j => PyData.int (i ^ j.toNat)) (.int i) (.int j) = some (.int (i ^ j.toNat)) := if_pos h
theorem STB_step {s0 s3 s4 s5 : Sl} {xs : List Int} {i : Int} (h : xs.length < 50000) : ∃ ρ', STB [s0, .own (dInts xs), .dat (.int i), s3, s4, s5] = .next ρ' ∧ NumA s0 (xs.length + 60) ρ' := by
  have ha : dAbs [.int i] = some (.int (if i < 0 then -i else i)) := rfl
  generalize (if i < 0 then -i else i) = r at ha
  have hp : CPow 10 18 := ⟨by omega, by omega, by decide⟩
  have r60 := rng1_nat (k := 60) (by omega)
  have r60 : rng1 [.int 60] = _ := r60
  have r10 : rng1 [.int 10] = _ := rng1_nat (k := 10) (by omega)
  by_cases hb : (10 : Int) ^ (18 : Int).toNat ≤ r
  · have d1 := decide_eq_true hb
    obtain ⟨ρ', e, hn⟩ := STI1_loop (s0 := s0) (s2 := .dat (.int i)) (s4 := s4) (s5 := s5) (r := r) h
    refine ⟨ρ', ?_, hn⟩
    unfold STB
    simp -implicitDefEqProofs only [p_seqS, p_ifS, p_orT, p_andT, p_andV, p_orV, p_ifT, p_bin2, p_bin2B, p_chain3, p_bool, p_dIntOp, p_add, p_intOf, p_callR_ok, p_callR_err, p_gN, p_gT2, p_gsNil, p_gsCons, p_seqI_t, p_seqI_l, p_itm_t, p_itm_l, p_cst, p_un1, p_binN, p_notV, p_newL, p_tup, p_lst, p_slc, p_oNo, p_oYes, p_aNil, p_aCons, p_aStar, p_callF, p_callB, p_tval, p_notT, p_argI, p_setS, p_setNS, p_asgS, p_retS, p_exprS, p_forS, p_rtn, p_rtr, p_rte, mk0, mk1, mk2, mk3, okS0, okS1, okS2, okS3, rdVar, List.getElem?_cons_zero, List.getElem?_cons_succ, List.set_cons_zero, List.set_cons_succ, rs_bind_ok, rs_bind_err, rs_bind_bad, rs_map_ok, rs_map_err, rs_st_ok, rs_st_err, rs_ofO_some, ot_seq_next, ot_seq_ret, ot_seq_err, ot_seq_brk, ot_seq_cont, Option.bind_some, Option.map_some, if_true, Bool.false_eq_true, if_false, Bool.not_true, Bool.not_false, methF, owOf, setOw, int1_i, ha, dPow_int hp, d1, r60, e]
  · have d1 := decide_eq_false hb
    obtain ⟨ρ', e, hn⟩ := STI2_loop (s0 := s0) (s2 := .dat (.int i)) (s3 := .dat (.int r)) (s4 := s4) (r := r % 2147483647) h
    refine ⟨ρ', ?_, hn⟩
    unfold STB
    simp -implicitDefEqProofs only [p_seqS, p_ifS, p_orT, p_andT, p_andV, p_orV, p_ifT, p_bin2, p_bin2B, p_chain3, p_bool, p_dIntOp, p_add, p_intOf, p_callR_ok, p_callR_err, p_gN, p_gT2, p_gsNil, p_gsCons, p_seqI_t, p_seqI_l, p_itm_t, p_itm_l, p_cst, p_un1, p_binN, p_notV, p_newL, p_tup, p_lst, p_slc, p_oNo, p_oYes, p_aNil, p_aCons, p_aStar, p_callF, p_callB, p_tval, p_notT, p_argI, p_setS, p_setNS, p_asgS, p_retS, p_exprS, p_forS, p_rtn, p_rtr, p_rte, mk0, mk1, mk2, mk3, okS0, okS1, okS2, okS3, rdVar, List.getElem?_cons_zero, List.getElem?_cons_succ, List.set_cons_zero, List.set_cons_succ, rs_bind_ok, rs_bind_err, rs_bind_bad, rs_map_ok, rs_map_err, rs_st_ok, rs_st_err, rs_ofO_some, ot_seq_next, ot_seq_ret, ot_seq_err, ot_seq_brk, ot_seq_cont, Option.bind_some, Option.map_some, if_true, Bool.false_eq_true, if_false, Bool.not_true, Bool.not_false, methF, owOf, setOw, int1_i, ha, dPow_int hp, d1, dMod_int (show (0 : Int) < 2147483647 by omega), r10, e]
theorem law_stream_ok (ns : List Int) (hn : ns.length ≤ 63) : ∃ xs : List Int, F__law_stream [.list (dInts ns)] = .ok (.list (dInts xs)) ∧ xs ≠ [] ∧ xs.length ≤ 1000000 := by
  show ∃ xs : List Int, runF 6 1 B__law_stream _ = _ ∧ _
  rw [runF_at (m := 1) rfl]
  have e0 : initE 6 [.list (dInts ns)] = [.dat (.list (dInts ns)), .un, .un, .un, .un, .un] := rfl
  have eb : B__law_stream = seqS (setNS 1 (lst aNil)) (seqS (forS (un1 seqItems (slc (rdVar 0) oNo (oYes (cst (.int 63))))) (gN 2) STB) (seqS (ifS (bin2B dEq (lenV 1) (cst (.int 0))) (exprS (methF 1 gAppend (aCons (cst (.int 0)) aNil))) .next) (retS (rdVar 1)))) := rfl
  have es : dSl (.list (dInts ns)) none (some 63) = some (.list (dInts ns)) := by
    show some (PyData.list (cutD _ none (some ((63 : Nat) : Int)))) = _
    rw [cut_lo, List.take_of_length_le (by unfold dInts; rw [List.length_map]; exact hn)]
  obtain ⟨m, ρ', e, ⟨xs, s2, s3, s4, s5, rfl, hx⟩, hm⟩ := forF_brk (t := gN 2) (body := STB) (fun m => NumA (.dat (.list (dInts ns))) (60 * m)) (dInts ns) 0 [.dat (.list (dInts ns)), .own [], .un, .un, .un, .un] ⟨[], _, _, _, _, rfl, by simp⟩ (by
    rintro j d ρ hd hj ⟨xs, s2, s3, s4, s5, rfl, hx⟩
    obtain ⟨i, _, rfl⟩ := List.mem_map.mp hd
    have : (dInts ns).length = ns.length := by unfold dInts; rw [List.length_map]
    obtain ⟨ρ', e, ys, t2, t3, t4, t5, rfl, hy⟩ := STB_step (s0 := .dat (.list (dInts ns))) (s3 := s3) (s4 := s4) (s5 := s5) (xs := xs) (i := i) (by omega)
    exact ⟨_, _, rfl, .inl e, ys, t2, t3, t4, t5, rfl, by omega⟩)
  have hl : (dInts ns).length = ns.length := by unfold dInts; rw [List.length_map]
  rw [e0, eb]
  cases xs with
  | nil =>
    refine ⟨[0], ?_, by simp, by simp⟩
    have hd : decide (((([] : List PyData).length : Nat) : Int) = 0) = true := rfl
    have ha : gAppend [] [.int 0] = some (.none, [.int 0]) := rfl
    have e : forF (gN 2) STB (dInts ns) [.dat (.list (dInts ns)), .own [], .un, .un, .un, .un] = .next [.dat (.list (dInts ns)), .own [], s2, s3, s4, s5] := e
    simp -implicitDefEqProofs only [p_seqS, p_ifS, p_orT, p_andT, p_andV, p_orV, p_ifT, p_bin2, p_bin2B, p_chain3, p_bool, p_dIntOp, p_add, p_intOf, p_callR_ok, p_callR_err, p_gN, p_gT2, p_gsNil, p_gsCons, p_seqI_t, p_seqI_l, p_itm_t, p_itm_l, p_cst, p_un1, p_binN, p_notV, p_newL, p_tup, p_lst, p_slc, p_oNo, p_oYes, p_aNil, p_aCons, p_aStar, p_callF, p_callB, p_tval, p_notT, p_argI, p_setS, p_setNS, p_asgS, p_retS, p_exprS, p_forS, p_rtn, p_rtr, p_rte, mk0, mk1, mk2, mk3, okS0, okS1, okS2, okS3, rdVar, List.getElem?_cons_zero, List.getElem?_cons_succ, List.set_cons_zero, List.set_cons_succ, rs_bind_ok, rs_bind_err, rs_bind_bad, rs_map_ok, rs_map_err, rs_st_ok, rs_st_err, rs_ofO_some, ot_seq_next, ot_seq_ret, ot_seq_err, ot_seq_brk, ot_seq_cont, Option.bind_some, Option.map_some, if_true, Bool.false_eq_true, if_false, Bool.not_true, Bool.not_false, methF, owOf, setOw, es, e, lenV, lstAt, dEq_int, hd, ha]
    rfl
  | cons a xs =>
    refine ⟨a :: xs, ?_, by simp, by omega⟩
    have hd : decide ((((dInts (a :: xs)).length : Nat) : Int) = 0) = false := by
      unfold dInts
      rw [List.length_map, List.length_cons]
      simp only [decide_eq_false_iff_not]
      omega
    simp -implicitDefEqProofs only [p_seqS, p_ifS, p_orT, p_andT, p_andV, p_orV, p_ifT, p_bin2, p_bin2B, p_chain3, p_bool, p_dIntOp, p_add, p_intOf, p_callR_ok, p_callR_err, p_gN, p_gT2, p_gsNil, p_gsCons, p_seqI_t, p_seqI_l, p_itm_t, p_itm_l, p_cst, p_un1, p_binN, p_notV, p_newL, p_tup, p_lst, p_slc, p_oNo, p_oYes, p_aNil, p_aCons, p_aStar, p_callF, p_callB, p_tval, p_notT, p_argI, p_setS, p_setNS, p_asgS, p_retS, p_exprS, p_forS, p_rtn, p_rtr, p_rte, mk0, mk1, mk2, mk3, okS0, okS1, okS2, okS3, rdVar, List.getElem?_cons_zero, List.getElem?_cons_succ, List.set_cons_zero, List.set_cons_succ, rs_bind_ok, rs_bind_err, rs_bind_bad, rs_map_ok, rs_map_err, rs_st_ok, rs_st_err, rs_ofO_some, ot_seq_next, ot_seq_ret, ot_seq_err, ot_seq_brk, ot_seq_cont, Option.bind_some, Option.map_some, if_true, Bool.false_eq_true, if_false, Bool.not_true, Bool.not_false, methF, owOf, setOw, es, e, lenV, lstAt, dEq_int, hd]
end ML
set_option maxRecDepth 100000
set_option maxHeartbeats 4000000
/-! what repr is handed -/
namespace ML
open PySem L2
structure Rp (n w : Nat) (d : PyData) : Prop where
  sh : d.showable = true
  nd : d.hasDict = false
  dp : d.depth ≤ n
  ln : d.shown.length ≤ w
theorem Rp.mono {n w n' w' : Nat} {d : PyData} (h : Rp n w d) (hn : n ≤ n') (hw : w ≤ w') : Rp n' w' d := ⟨h.sh, h.nd, Nat.le_trans h.dp hn, Nat.le_trans h.ln hw⟩
theorem rp_none : Rp 0 4 .none := ⟨by simp [PyData.showable], by simp [PyData.hasDict], by simp [PyData.depth], by rw [PyData.shown]; decide +kernel⟩
def codesOk (s : Str) : Prop := ∀ c ∈ s.cps.toList, c < 16 ^ 8
theorem rp_str {s : Str} (h : s.length ≤ 12) (hc : codesOk s) : Rp 0 122 (.str s) := ⟨by simp [PyData.showable], by simp [PyData.hasDict], by simp [PyData.depth], by
  rw [PyData.shown]
  have := StrLaws.reprText_len s hc
  omega⟩
theorem small_txt : ∀ i : Fin 41, (toString ((i.val : Int) - 20) : Str).length ≤ 4 := by decide +kernel
theorem rp_int {i : Int} (h0 : -20 ≤ i) (h1 : i ≤ 20) : Rp 0 4 (.int i) := by
  have hf := small_txt ⟨(i + 20).toNat, by omega⟩
  have e : (((i + 20).toNat : Nat) : Int) - 20 = i := by omega
  dsimp only at hf
  rw [e] at hf
  refine ⟨?_, by simp [PyData.hasDict], by simp [PyData.depth], by rw [PyData.shown]; exact hf⟩
  rw [PyData.showable, decide_eq_true_eq]
  have : i.natAbs.log2 ≤ i.natAbs := Nat.log2_le_self _
  omega
theorem showableAll_of : ∀ {xs : List PyData}, (∀ x ∈ xs, x.showable = true) → PyData.showableAll xs = true
  | [], _ => by rw [PyData.showableAll]
  | x :: xs, h => by rw [PyData.showableAll, h x (by simp), showableAll_of fun y hy => h y (by simp [hy])]; rfl
theorem hasDictAll_of : ∀ {xs : List PyData}, (∀ x ∈ xs, x.hasDict = false) → PyData.hasDictAll xs = false
  | [], _ => by rw [PyData.hasDictAll]
  | x :: xs, h => by rw [PyData.hasDictAll, h x (by simp), hasDictAll_of fun y hy => h y (by simp [hy])]; rfl
theorem depthAll_of {n : Nat} : ∀ {xs : List PyData}, (∀ x ∈ xs, x.depth ≤ n) → PyData.depthAll xs ≤ n
  | [], _ => by rw [PyData.depthAll]; omega
  | x :: xs, h => by
    have := h x (by simp)
    have := depthAll_of (n := n) (xs := xs) fun y hy => h y (by simp [hy])
    rw [PyData.depthAll]
    omega
def wts (xs : List PyData) : Nat := (xs.map fun x => x.shown.length + 2).sum
theorem shownAll_len : ∀ xs : List PyData, (PyData.shownAll xs).length = xs.length
  | [] => by rw [PyData.shownAll]; rfl
  | x :: xs => by rw [PyData.shownAll, List.length_cons, shownAll_len xs, List.length_cons]
theorem piled_shown : ∀ xs : List PyData, piled (PyData.shownAll xs) = wts xs
  | [] => by rw [PyData.shownAll]; rfl
  | x :: xs => by
    rw [PyData.shownAll, piled_cons, piled_shown xs]
    unfold wts
    rw [List.map_cons, List.sum_cons]
theorem tup_len (ts : List Str) : (tupleText ts).length ≤ piled ts + 2 := by
  unfold tupleText
  rw [strLen_append, strLen_append]
  have e1 : ((("(" : String) : Str)).length = 1 := rfl
  have e2 : ((if ts.length == 1 then ",)" else ")" : String) : Str).length ≤ 2 := by
    split
    · exact Nat.le_refl 2
    · exact Nat.le_succ 1
  rw [e1]
  cases ts with
  | nil =>
    have e3 : (Str.join ", " []).length = 0 := rfl
    rw [e3]
    have e4 : ((if ([] : List Str).length == 1 then ",)" else ")" : String) : Str).length = 1 := rfl
    rw [e4]
    omega
  | cons t ts =>
    have := join_length_add (t :: ts) (by simp)
    omega
theorem txt_len : ∀ (ts : List Str) (k : Nat) (acc : Str), (textFrom k acc ts).length ≤ acc.length + piled ts
  | [], k, acc => by unfold textFrom; omega
  | t :: ts, k, acc => by
    unfold textFrom
    have := txt_len ts (k + 1) (acc ++ (if k > 0 then ", " else "" : String) ++ t)
    rw [strLen_append, strLen_append] at this
    have e : ((if k > 0 then ", " else "" : String) : Str).length ≤ 2 := by
      split
      · exact Nat.le_refl 2
      · exact Nat.zero_le 2
    rw [piled_cons]
    omega
theorem lst_len (ts : List Str) : (listText ts).length ≤ piled ts + 2 := by
  unfold listText
  rw [strLen_append]
  have := txt_len ts 0 ("[" : String)
  have e1 : ((("[" : String) : Str)).length = 1 := rfl
  have e2 : ((("]" : String) : Str)).length = 1 := rfl
  omega
theorem rp_tup {n : Nat} {xs : List PyData} (h : ∀ x ∈ xs, ∃ w, Rp n w x) : Rp (n + 1) (wts xs + 2) (.tuple xs) := by
  refine ⟨?_, ?_, ?_, ?_⟩
  · rw [PyData.showable]
    exact showableAll_of fun x hx => (h x hx).elim fun _ r => r.sh
  · rw [PyData.hasDict]
    exact hasDictAll_of fun x hx => (h x hx).elim fun _ r => r.nd
  · rw [PyData.depth]
    have := depthAll_of (n := n) fun x hx => (h x hx).elim fun _ r => r.dp
    omega
  · rw [PyData.shown]
    have := tup_len (PyData.shownAll xs)
    rw [piled_shown] at this
    exact this
theorem rp_lst {n : Nat} {xs : List PyData} (h : ∀ x ∈ xs, ∃ w, Rp n w x) : Rp (n + 1) (wts xs + 2) (.list xs) := by
  refine ⟨?_, ?_, ?_, ?_⟩
  · rw [PyData.showable]
    exact showableAll_of fun x hx => (h x hx).elim fun _ r => r.sh
  · rw [PyData.hasDict]
    exact hasDictAll_of fun x hx => (h x hx).elim fun _ r => r.nd
  · rw [PyData.depth]
    have := depthAll_of (n := n) fun x hx => (h x hx).elim fun _ r => r.dp
    omega
  · rw [PyData.shown]
    have := lst_len (PyData.shownAll xs)
    rw [piled_shown] at this
    exact this
theorem wts_le {w : Nat} : ∀ {xs : List PyData}, (∀ x ∈ xs, ∃ n, Rp n w x) → wts xs ≤ xs.length * (w + 2)
  | [], _ => by simp [wts]
  | x :: xs, h => by
    obtain ⟨n, r⟩ := h x (by simp)
    have := r.ln
    have ih := wts_le (w := w) (xs := xs) fun y hy => h y (by simp [hy])
    unfold wts at ih ⊢
    rw [List.map_cons, List.sum_cons, List.length_cons, Nat.succ_mul]
    omega
/-- a tuple of things alike -/
theorem rp_tupW {n w : Nat} {xs : List PyData} (h : ∀ x ∈ xs, Rp n w x) : Rp (n + 1) (xs.length * (w + 2) + 2) (.tuple xs) := by
  have := wts_le (w := w) (xs := xs) fun x hx => ⟨n, h x hx⟩
  exact (rp_tup fun x hx => ⟨w, h x hx⟩).mono (Nat.le_refl _) (by omega)
theorem rp_lstW {n w : Nat} {xs : List PyData} (h : ∀ x ∈ xs, Rp n w x) : Rp (n + 1) (xs.length * (w + 2) + 2) (.list xs) := by
  have := wts_le (w := w) (xs := xs) fun x hx => ⟨n, h x hx⟩
  exact (rp_lst fun x hx => ⟨w, h x hx⟩).mono (Nat.le_refl _) (by omega)
theorem repr_ok {n w : Nat} {d : PyData} (hi : itemsOf d ≠ none) (h : Rp n w d) (hn : n < 64) (hw : w ≤ sizeLine) : dRepr [d] = some (.str d.shown) := by
  have h1 := h.dp
  have h2 := h.ln
  unfold dRepr
  dsimp only
  rw [if_pos ⟨hi, h.sh, h.nd, by omega, by omega⟩]
theorem same_ok {n w : Nat} {d : PyData} (h : Rp n w d) (hn : n < 63) (hw : w + 10 ≤ sizeLine) : F__law_same [d, d] = .ok (.bool true) := by
  show runF 2 2 B__law_same _ = _
  rw [runF_at (m := 2) rfl]
  have e0 : initE 2 [d, d] = [.dat d, .dat d] := rfl
  have r : dRepr [.list [d]] = some (.str (PyData.list [d]).shown) := repr_ok (by simp [itemsOf]) (rp_lstW (n := n) (w := w) (by simpa using h)) (by omega) (by rw [List.length_singleton]; omega)
  have q : ∀ s : Str, dEq (.str s) (.str s) = some (.bool true) := fun s => by simp [dEq, dEqB, scalD]
  rw [e0, B__law_same]
  simp -implicitDefEqProofs only [p_seqS, p_ifS, p_orT, p_andT, p_andV, p_orV, p_ifT, p_bin2, p_bin2B, p_chain3, p_bool, p_dIntOp, p_add, p_intOf, p_callR_ok, p_callR_err, p_gN, p_gT2, p_gsNil, p_gsCons, p_seqI_t, p_seqI_l, p_itm_t, p_itm_l, p_cst, p_un1, p_binN, p_notV, p_newL, p_tup, p_lst, p_slc, p_oNo, p_oYes, p_aNil, p_aCons, p_aStar, p_callF, p_callB, p_tval, p_notT, p_argI, p_setS, p_setNS, p_asgS, p_retS, p_exprS, p_forS, p_rtn, p_rtr, p_rte, mk0, mk1, mk2, mk3, okS0, okS1, okS2, okS3, rdVar, List.getElem?_cons_zero, List.getElem?_cons_succ, List.set_cons_zero, List.set_cons_succ, rs_bind_ok, rs_bind_err, rs_bind_bad, rs_map_ok, rs_map_err, rs_st_ok, rs_st_err, rs_ofO_some, ot_seq_next, ot_seq_ret, ot_seq_err, ot_seq_brk, ot_seq_cont, Option.bind_some, Option.map_some, if_true, Bool.false_eq_true, if_false, Bool.not_true, Bool.not_false, methF, owOf, setOw, r, q]
/-! documents -/
theorem all_codes : ∀ c ∈ allS.cps.toList, c < 16 ^ 8 := by decide +kernel
theorem lab_codes {s : Str} (h : isLab s = true) : codesOk s := by
  unfold isLab at h
  intro c hc
  cases e : s.cps.toList with
  | nil => rw [e] at hc; cases hc
  | cons a r =>
    rw [e] at h hc
    dsimp only at h
    rw [Bool.and_eq_true, Bool.and_eq_true, List.all_eq_true] at h
    have := h.2.2 c hc
    exact all_codes c (by simpa using this)
theorem rp_lab {s : Str} (h : isLab s = true) : Rp 0 122 (.str s) := rp_str (Doc.lab_len h) (lab_codes h)
theorem rp_doc (x : Doc) : x.Good → Rp (x.depth + 1) (200 * x.size - 2) x.d := by
  refine Doc.ind (P := fun x => x.Good → Rp (x.depth + 1) (200 * x.size - 2) x.d) (fun l cs ih g => ?_) x
  obtain ⟨g1, g2⟩ := Doc.good_kids g
  have gl : isLab l = true := Doc.good_lab g
  have key : ∀ cs : List Doc, (∀ c ∈ cs, Rp (c.depth + 1) (200 * c.size - 2) c.d) → wts (cs.map Doc.d) ≤ 200 * Doc.sizes cs := by
    intro cs
    induction cs with
    | nil => intro _; simp [wts, Doc.sizes]
    | cons c cs h2 =>
      intro h
      have h1 := (h c (by simp)).ln
      have h3 := h2 fun c hc => h c (by simp [hc])
      have hp := c.size_pos
      unfold wts at h3 ⊢
      rw [List.map_cons, List.map_cons, List.sum_cons, Doc.sizes]
      omega
  have hk := key cs fun c hc => ih c hc (g2 c hc)
  have hl := (rp_lab gl).ln
  rw [Doc.d_eq, Doc.depth, Doc.size]
  refine (rp_tup (n := Doc.depths cs) fun z hz => ?_).mono (Nat.le_refl _) ?_
  · rcases List.mem_cons.mp hz with rfl | hz
    · exact ⟨_, (rp_lab gl).mono (by omega) (Nat.le_refl _)⟩
    · obtain ⟨c, hc, rfl⟩ := List.mem_map.mp hz
      exact ⟨_, (ih c hc (g2 c hc)).mono (Doc.depth_mem hc) (Nat.le_refl _)⟩
  · have : wts (PyData.str l :: cs.map Doc.d) = (PyData.str l).shown.length + 2 + wts (cs.map Doc.d) := by
      unfold wts
      rw [List.map_cons, List.sum_cons]
    omega
theorem at_small : ∀ {p : Path} {x y : Doc}, x.Good → x.at? p = some y → ∀ i ∈ p, 0 ≤ i ∧ i < 3
  | [], x, y, _, _, i, hi => by cases hi
  | j :: p, x, y, g, h, i, hi => by
    rw [Doc.at?] at h
    cases hk : x.kid j with
    | none => rw [hk] at h; cases h
    | some z =>
      rw [hk] at h
      have h : z.at? p = some y := h
      obtain ⟨h0, h1, _⟩ := Doc.kid_some hk
      obtain ⟨g1, g2⟩ := Doc.good_kids g
      unfold okN at g1
      rw [Bool.and_eq_true, decide_eq_true_eq] at g1
      rcases List.mem_cons.mp hi with rfl | hi
      · omega
      · exact at_small (g2 z (Doc.kid_mem hk)) h i hi
theorem chg_told (x : Doc) : ∀ (p : Path) (y : Doc), y.Good → ∀ r ∈ Doc.chg p x y, match r.2 with
    | .lab s => isLab s = true
    | .doc o => o.Good ∧ o.size ≤ y.size := by
  refine Doc.ind (P := fun x => ∀ (p : Path) (y : Doc), y.Good → ∀ r ∈ Doc.chg p x y, match r.2 with
    | .lab s => isLab s = true
    | .doc o => o.Good ∧ o.size ≤ y.size) (fun l cs ih p y g r hr => ?_) x
  have one : ∀ {r : Row}, r ∈ [(p, Told.doc y)] → match r.2 with
    | .lab s => isLab s = true
    | .doc o => o.Good ∧ o.size ≤ y.size := by
    intro r hr
    rw [List.mem_singleton.mp hr]
    exact ⟨g, Nat.le_refl _⟩
  have key : ∀ (cs es : List Doc) (k : Nat), (∀ c ∈ cs, ∀ (p : Path) (y : Doc), y.Good → ∀ r ∈ Doc.chg p c y, match r.2 with
    | .lab s => isLab s = true
    | .doc o => o.Good ∧ o.size ≤ y.size) → (∀ e ∈ es, e.Good ∧ e.size ≤ y.size) → ∀ r ∈ Doc.chgs p k cs es, match r.2 with
    | .lab s => isLab s = true
    | .doc o => o.Good ∧ o.size ≤ y.size := by
    intro cs
    induction cs with
    | nil => intro es k _ _ r hr; rw [Doc.chgs] at hr; cases hr
    | cons c cs h2 =>
      intro es k ih he r hr
      cases es with
      | nil => rw [Doc.chgs] at hr; cases hr
      | cons e es =>
        rw [Doc.chgs, List.mem_append] at hr
        rcases hr with hr | hr
        · have := ih c (by simp) _ e (he e (by simp)).1 r hr
          have hz := (he e (by simp)).2
          obtain ⟨q, t⟩ := r
          cases t with
          | lab s => exact this
          | doc o => exact ⟨this.1, Nat.le_trans this.2 hz⟩
        · exact h2 es (k + 1) (fun c hc => ih c (by simp [hc])) (fun e h => he e (by simp [h])) r hr
  rw [Doc.chg_eq] at hr
  split at hr
  · exact one hr
  · split at hr
    · exact one hr
    · rcases List.mem_append.mp hr with hr | hr
      · split at hr
        · cases hr
        · rw [List.mem_singleton.mp hr]
          exact Doc.good_lab g
      · exact key cs y.kids 0 ih (fun e he => ⟨(Doc.good_kids g).2 e he, by
          have := Doc.sizes_mem he
          rw [y.size_kids]
          omega⟩) r hr
end ML
set_option maxRecDepth 100000
set_option maxHeartbeats 4000000
/-! one turn of the law: the statements one by one -/
namespace ML
open PySem L2
theorem lcAll_mapCW {γ : Type} {t : Tgt} {e : En → Rs PyData} {vs : List Nat} {ρ ρ0 ρ1 : En} {f0 : En → Rs (List PyData)} (cs : List γ) (f g : γ → PyData) (hf : f0 ρ0 = .ok (cs.map f) ρ1) (hw : wipeE ρ1 vs = ρ) (hz : cs.length ≤ sizeLine)
    (h : ∀ c ∈ cs, ∃ ρ1 ρ2, t (f c) ρ = some ρ1 ∧ e ρ1 = .ok (g c) ρ2 ∧ wipeE ρ2 vs = ρ) : lcAll f0 t tYes' e vs ρ0 = .ok (cs.map g) ρ := by
  unfold lcAll
  rw [hf, rs_bind_ok, hw, lcF_mapC f g cs h, rs_bind_ok]
  simp [hz]
def A3 : En → Ot := setS 3 (callSF 1 F__law_signs (aCons (cst (.int 5)) aNil))
def A4 : En → Ot := setS 4 (callSF 1 (F__law_document 14) (aCons (rdVar 3) (aCons (bin2 dAdd (cst (.int 1)) (callSF 1 F__law_next (aCons (cst (.int 12)) aNil))) aNil)))
def A5 : En → Ot := setS 5 (bin2 dIx (newL (lst (aCons (callSF 1 (F__law_document 14) (aCons (rdVar 3) (aCons (bin2 dAdd (cst (.int 1)) (callSF 1 F__law_next (aCons (cst (.int 12)) aNil))) aNil))) (aCons (callSF 1 F__law_near (aCons (rdVar 4) (aCons (rdVar 3) aNil))) aNil)))) (callSF 1 F__law_next (aCons (cst (.int 2)) aNil)))
def A6 : En → Ot := setS 6 (callB dRepr (aCons (tup (aCons (rdVar 4) (aCons (rdVar 5) aNil))) aNil))
def A7 : En → Ot := setS 7 (callF F__law_told (aCons (cst (.int 0)) (aCons (rdVar 4) (aCons (rdVar 5) aNil))))
def A8 : En → Ot := ifS (orT (notT (tval (callF F__law_same (aCons (rdVar 7) (aCons (tup (aCons (cst (.str "told")) (aCons (callB dTupleOf (aCons (callF (F__law_listed 25) (aCons (rdVar 4) (aCons (rdVar 5) (aCons (tup aNil) aNil)))) aNil)) aNil))) aNil))))) (bin2B dNe (callF F__law_price (aCons (rdVar 4) (aCons (bin2 dIx (rdVar 7) (cst (.int 1))) aNil))) (callF (F__law_cost 25) (aCons (rdVar 4) (aCons (rdVar 5) aNil))))) (retS (cst (.bool false))) .next
def A9 : En → Ot := ifS (notT (tval (callF F__law_same (aCons (newL (lst (aCons (callF F__law_told (aCons (cst (.int 1)) (aCons (rdVar 4) (aCons (bin2 dIx (rdVar 7) (cst (.int 1))) aNil)))) (aCons (callF F__law_told (aCons (cst (.int 0)) (aCons (rdVar 4) (aCons (rdVar 4) aNil)))) aNil)))) (aCons (newL (lst (aCons (tup (aCons (cst (.str "told")) (aCons (rdVar 5) aNil))) (aCons (tup (aCons (cst (.str "told")) (aCons (tup aNil) aNil))) aNil)))) aNil))))) (retS (cst (.bool false))) .next
def A10 : En → Ot := setNS 8 (lst aNil)
def A11 : En → Ot := setS 9 (bin2 dAdd (newL (lcAll (un1 seqItems (callF (F__law_nodes 80) (aCons (rdVar 4) (aCons (tup aNil) aNil)))) (gT 2 (gsCons (gN 10) (gsCons (gN 11) gsNil))) tYes' (rdVar 10) [10, 11])) (newL (lst (aCons (tup (aCons (cst (.int 9)) aNil)) (aCons (tup (aCons (cst (.int 0)) (aCons (un1 dNeg (cst (.int 1))) aNil))) aNil)))))
def RB : En → Ot := seqS (setS 13 (bin2 dIx (newL (lst (aCons (callSF 1 F__law_label aNil) (aCons (cst (.str "")) (aCons (cst (.str "A")) (aCons (cst (.str "ab")) aNil)))))) (callSF 1 F__law_next (aCons (cst (.int 4)) aNil))))
    (exprS (methF 8 gAppend (aCons (tup (aCons (bin2 dIx (rdVar 9) (callSF 1 F__law_next (aCons (callB dLen (aCons (rdVar 9) aNil)) aNil))) (aCons (bin2 dIx (newL (lst (aCons (rdVar 13) (aCons (rdVar 5) (aCons (tup (aCons (cst (.str "A")) aNil)) aNil))))) (bin2 dIx (newL (lst (aCons (cst (.int 0)) (aCons (cst (.int 0)) (aCons (cst (.int 1)) (aCons (cst (.int 1)) (aCons (cst (.int 2)) aNil))))))) (callSF 1 F__law_next (aCons (cst (.int 5)) aNil)))) aNil))) aNil)))
def A12 : En → Ot := forS (argI rng1 (aCons (callSF 1 F__law_next (aCons (cst (.int 4)) aNil)) aNil)) (gN 12) RB
def A13 : En → Ot := ifS (notT (tval (callF F__law_same (aCons (callF F__law_told (aCons (cst (.int 1)) (aCons (rdVar 4) (aCons (callB dTupleOf (aCons (rdVar 8) aNil)) aNil)))) (aCons (callF F__law_due (aCons (rdVar 4) (aCons (callB dTupleOf (aCons (rdVar 8) aNil)) aNil))) aNil))))) (retS (cst (.bool false))) .next
def A14 : En → Ot := ifS (orT (bin2B dNe (bin2 dAdd (newL (lcAll (argI rng1 (aCons (cst (.int 2)) aNil)) (gN 12) tYes' (callF F__law_told (aCons (rdVar 12) (aCons (tup (aCons (cst (.str "A")) aNil)) (aCons (tup aNil) aNil)))) [12])) (newL (lst (aCons (callF F__law_told (aCons (cst (.int 0)) (aCons (rdVar 4) (aCons (tup (aCons (cst (.str "A")) aNil)) aNil)))) aNil)))) (bin2 dMul (newL (lst (aCons (cst (.str "refused")) aNil))) (cst (.int 3)))) (bin2B dNe (callB dRepr (aCons (tup (aCons (rdVar 4) (aCons (rdVar 5) aNil))) aNil)) (rdVar 6))) (retS (cst (.bool false))) .next
def TURN : En → Ot := seqS A3 (seqS A4 (seqS A5 (seqS A6 (seqS A7 (seqS A8 (seqS A9 (seqS A10 (seqS A11 (seqS A12 (seqS A13 A14))))))))))
def Z1 : En → Ot := setS 14 (callF (F__law_exact 12) (aCons (cst (.int 150)) aNil))
def Z2 : En → Ot := setS 10 (bin2 dIx (bin2 dIx (callF (F__law_nodes 80) (aCons (rdVar 14) (aCons (tup aNil) aNil))) (un1 dNeg (cst (.int 1)))) (cst (.int 0)))
def Z3 : En → Ot := setS 15 (bin2 dAdd (cst (.int 151)) (callSF 1 F__law_next (aCons (cst (.int 2)) aNil)))
def Z4 : En → Ot := setS 8 (tup (aCons (tup (aCons (rdVar 10) (aCons (callF (F__law_exact 12) (aCons (rdVar 15) aNil)) aNil))) (aCons (tup (aCons (rdVar 10) (aCons (cst (.str "b")) aNil))) aNil)))
def Z5 : En → Ot := retS (callF F__law_same (aCons (callF F__law_told (aCons (cst (.int 1)) (aCons (rdVar 14) (aCons (rdVar 8) aNil)))) (aCons (callF F__law_due (aCons (rdVar 14) (aCons (rdVar 8) aNil))) aNil)))
theorem B_law_eq : B_law = seqS (setNS 1 (lst (aCons (callF F__law_stream (aCons (rdVar 0) aNil)) (aCons (cst (.int 0)) aNil)))) (seqS (forS (argI rng1 (aCons (cst (.int 6)) aNil)) (gN 2) TURN) (seqS Z1 (seqS Z2 (seqS Z3 (seqS Z4 Z5))))) := rfl
section
variable {sc tn v3 v4 v5 v6 v7 v8 v9 v10 v11 v12 v13 v14 v15 : Sl} {s : List PyData} {b : Nat} {L : List Sg} {x y : Doc}
theorem a3_ok (h : St b s) (hb : b < 2 ^ 30) : ∃ (L : List Sg) (s' : List PyData), A3 [sc, .own s, tn, v3, v4, v5, v6, v7, v8, v9, v10, v11, v12, v13, v14, v15] = .next [sc, .own s', tn, .dat (.tuple (L.map sg)), v4, v5, v6, v7, v8, v9, v10, v11, v12, v13, v14, v15] ∧ signsOk L ∧ St (b + 100) s' := by
  obtain ⟨L, s', e, hL, hs⟩ := law_signs_ok h (by omega)
  refine ⟨L, s', ?_, hL, hs⟩
  unfold A3
  simp -implicitDefEqProofs only [p_seqS, p_ifS, p_orT, p_andT, p_andV, p_orV, p_ifT, p_bin2, p_bin2B, p_chain3, p_bool, p_dIntOp, p_add, p_intOf, p_callR_ok, p_callR_err, p_gN, p_gT2, p_gsNil, p_gsCons, p_seqI_t, p_seqI_l, p_itm_t, p_itm_l, p_cst, p_un1, p_binN, p_notV, p_newL, p_tup, p_lst, p_slc, p_oNo, p_oYes, p_aNil, p_aCons, p_aStar, p_callF, p_callB, p_tval, p_notT, p_argI, p_setS, p_setNS, p_asgS, p_retS, p_exprS, p_forS, p_rtn, p_rtr, p_rte, mk0, mk1, mk2, mk3, okS0, okS1, okS2, okS3, rdVar, List.getElem?_cons_zero, List.getElem?_cons_succ, List.set_cons_zero, List.set_cons_succ, rs_bind_ok, rs_bind_err, rs_bind_bad, rs_map_ok, rs_map_err, rs_st_ok, rs_st_err, rs_ofO_some, ot_seq_next, ot_seq_ret, ot_seq_err, ot_seq_brk, ot_seq_cont, Option.bind_some, Option.map_some, if_true, Bool.false_eq_true, if_false, Bool.not_true, Bool.not_false, methF, owOf, setOw, p_callSF, p_ixvF, lstAt, e]
theorem a4_ok (h : St b s) (hb : b < 2 ^ 30) (hL : signsOk L) : ∃ (x : Doc) (s' : List PyData), A4 [sc, .own s, tn, .dat (.tuple (L.map sg)), v4, v5, v6, v7, v8, v9, v10, v11, v12, v13, v14, v15] = .next [sc, .own s', tn, .dat (.tuple (L.map sg)), .dat x.d, v5, v6, v7, v8, v9, v10, v11, v12, v13, v14, v15] ∧ x.Good ∧ x.size ≤ 12 ∧ St (b + 40) s' := by
  obtain ⟨r, s1, e1, l1, h1⟩ := law_next_ok (m := 12) h (by omega) (by omega)
  have w1 : (1 : Int) + (r : Nat) = ((1 + r : Nat) : Int) := by omega
  obtain ⟨x, s2, e2, g, z, h2⟩ := law_document_ok 14 (1 + r) _ s1 L h1 (by omega) hL (by omega) (by omega) (by omega)
  refine ⟨x, s2, ?_, g, by omega, h2.mono (by omega)⟩
  unfold A4
  simp -implicitDefEqProofs only [p_seqS, p_ifS, p_orT, p_andT, p_andV, p_orV, p_ifT, p_bin2, p_bin2B, p_chain3, p_bool, p_dIntOp, p_add, p_intOf, p_callR_ok, p_callR_err, p_gN, p_gT2, p_gsNil, p_gsCons, p_seqI_t, p_seqI_l, p_itm_t, p_itm_l, p_cst, p_un1, p_binN, p_notV, p_newL, p_tup, p_lst, p_slc, p_oNo, p_oYes, p_aNil, p_aCons, p_aStar, p_callF, p_callB, p_tval, p_notT, p_argI, p_setS, p_setNS, p_asgS, p_retS, p_exprS, p_forS, p_rtn, p_rtr, p_rte, mk0, mk1, mk2, mk3, okS0, okS1, okS2, okS3, rdVar, List.getElem?_cons_zero, List.getElem?_cons_succ, List.set_cons_zero, List.set_cons_succ, rs_bind_ok, rs_bind_err, rs_bind_bad, rs_map_ok, rs_map_err, rs_st_ok, rs_st_err, rs_ofO_some, ot_seq_next, ot_seq_ret, ot_seq_err, ot_seq_brk, ot_seq_cont, Option.bind_some, Option.map_some, if_true, Bool.false_eq_true, if_false, Bool.not_true, Bool.not_false, methF, owOf, setOw, p_callSF, p_ixvF, lstAt, e1, w1, e2]
theorem a5_ok (h : St b s) (hb : b < 2 ^ 30) (hL : signsOk L) (g : x.Good) (hx : x.size ≤ 12) : ∃ (y : Doc) (s' : List PyData), A5 [sc, .own s, tn, .dat (.tuple (L.map sg)), .dat x.d, v5, v6, v7, v8, v9, v10, v11, v12, v13, v14, v15] = .next [sc, .own s', tn, .dat (.tuple (L.map sg)), .dat x.d, .dat y.d, v6, v7, v8, v9, v10, v11, v12, v13, v14, v15] ∧ y.Good ∧ y.size ≤ 21 ∧ St (b + 200) s' := by
  obtain ⟨r, s1, e1, l1, h1⟩ := law_next_ok (m := 12) h (by omega) (by omega)
  have w1 : (1 : Int) + (r : Nat) = ((1 + r : Nat) : Int) := by omega
  obtain ⟨y1, s2, e2, g1, z1, h2⟩ := law_document_ok 14 (1 + r) _ s1 L h1 (by omega) hL (by omega) (by omega) (by omega)
  obtain ⟨y2, s3, e3, g2, z2, h3⟩ := law_near_ok h2 (by omega) hL g hx (by omega)
  obtain ⟨r4, s4, e4, l4, h4⟩ := law_next_ok (m := 2) h3 (by omega) (by omega)
  have fin : ∃ q : Doc, dIx (.list [y1.d, y2.d]) (.int (r4 : Nat)) = some q.d ∧ q.Good ∧ q.size ≤ 21 := by
    match r4, l4 with
    | 0, _ => exact ⟨_, rfl, g1, by omega⟩
    | 1, _ => exact ⟨_, rfl, g2, by omega⟩
    | n + 2, h => omega
  obtain ⟨q, e5, gq, zq⟩ := fin
  refine ⟨q, s4, ?_, gq, zq, h4.mono (by omega)⟩
  unfold A5
  simp -implicitDefEqProofs only [p_seqS, p_ifS, p_orT, p_andT, p_andV, p_orV, p_ifT, p_bin2, p_bin2B, p_chain3, p_bool, p_dIntOp, p_add, p_intOf, p_callR_ok, p_callR_err, p_gN, p_gT2, p_gsNil, p_gsCons, p_seqI_t, p_seqI_l, p_itm_t, p_itm_l, p_cst, p_un1, p_binN, p_notV, p_newL, p_tup, p_lst, p_slc, p_oNo, p_oYes, p_aNil, p_aCons, p_aStar, p_callF, p_callB, p_tval, p_notT, p_argI, p_setS, p_setNS, p_asgS, p_retS, p_exprS, p_forS, p_rtn, p_rtr, p_rte, mk0, mk1, mk2, mk3, okS0, okS1, okS2, okS3, rdVar, List.getElem?_cons_zero, List.getElem?_cons_succ, List.set_cons_zero, List.set_cons_succ, rs_bind_ok, rs_bind_err, rs_bind_bad, rs_map_ok, rs_map_err, rs_st_ok, rs_st_err, rs_ofO_some, ot_seq_next, ot_seq_ret, ot_seq_err, ot_seq_brk, ot_seq_cont, Option.bind_some, Option.map_some, if_true, Bool.false_eq_true, if_false, Bool.not_true, Bool.not_false, methF, owOf, setOw, p_callSF, p_ixvF, lstAt, e1, w1, e2, e3, e4, e5]
theorem std_of (g : x.Good) (h : x.size ≤ 41) : Std x := by
  have := depth_size x
  exact ⟨by unfold bigD; omega, g⟩
theorem rp_doc' (g : x.Good) (h : x.size ≤ 41) : Rp 42 8200 x.d := by
  have := depth_size x
  exact (rp_doc x g).mono (by omega) (by omega)
theorem big2 : (1000000 : Nat) ≤ sizeLine := by decide
theorem kept_ok (gx : x.Good) (hx : x.size ≤ 41) (gy : y.Good) (hy : y.size ≤ 41) : dRepr [.tuple [x.d, y.d]] = some (.str (PyData.tuple [x.d, y.d]).shown) := by
  have hb := big2
  refine repr_ok (n := 43) (w := 20000) (by simp [itemsOf]) ((rp_tupW (n := 42) (w := 8200) ?_).mono (by omega) (by simp)) (by omega) (by omega)
  intro d hd
  simp only [List.mem_cons, List.not_mem_nil, or_false] at hd
  rcases hd with rfl | rfl
  · exact rp_doc' gx hx
  · exact rp_doc' gy hy
theorem a6_ok (gx : x.Good) (hx : x.size ≤ 41) (gy : y.Good) (hy : y.size ≤ 41) : A6 [sc, .own s, tn, v3, .dat x.d, .dat y.d, v6, v7, v8, v9, v10, v11, v12, v13, v14, v15] = .next [sc, .own s, tn, v3, .dat x.d, .dat y.d, .dat (.str (PyData.tuple [x.d, y.d]).shown), v7, v8, v9, v10, v11, v12, v13, v14, v15] := by
  unfold A6
  simp -implicitDefEqProofs only [p_seqS, p_ifS, p_orT, p_andT, p_andV, p_orV, p_ifT, p_bin2, p_bin2B, p_chain3, p_bool, p_dIntOp, p_add, p_intOf, p_callR_ok, p_callR_err, p_gN, p_gT2, p_gsNil, p_gsCons, p_seqI_t, p_seqI_l, p_itm_t, p_itm_l, p_cst, p_un1, p_binN, p_notV, p_newL, p_tup, p_lst, p_slc, p_oNo, p_oYes, p_aNil, p_aCons, p_aStar, p_callF, p_callB, p_tval, p_notT, p_argI, p_setS, p_setNS, p_asgS, p_retS, p_exprS, p_forS, p_rtn, p_rtr, p_rte, mk0, mk1, mk2, mk3, okS0, okS1, okS2, okS3, rdVar, List.getElem?_cons_zero, List.getElem?_cons_succ, List.set_cons_zero, List.set_cons_succ, rs_bind_ok, rs_bind_err, rs_bind_bad, rs_map_ok, rs_map_err, rs_st_ok, rs_st_err, rs_ofO_some, ot_seq_next, ot_seq_ret, ot_seq_err, ot_seq_brk, ot_seq_cont, Option.bind_some, Option.map_some, if_true, Bool.false_eq_true, if_false, Bool.not_true, Bool.not_false, methF, owOf, setOw, kept_ok gx hx gy hy]
theorem told_changes (gx : x.Good) (hx : x.size ≤ 12) (gy : y.Good) (hy : y.size ≤ 41) : F__law_told [.int 0, x.d, y.d] = .ok (.tuple [.str "told", .tuple ((Doc.chg [] x y).map rd)]) := by
  have := depth_size x
  exact told_ok (k := 0) F_changes rfl (changes_ok x y (std_of gx (by omega)) (std_of gy hy) (by omega))
theorem a7_ok (gx : x.Good) (hx : x.size ≤ 12) (gy : y.Good) (hy : y.size ≤ 41) : A7 [sc, .own s, tn, v3, .dat x.d, .dat y.d, v6, v7, v8, v9, v10, v11, v12, v13, v14, v15] = .next [sc, .own s, tn, v3, .dat x.d, .dat y.d, v6, .dat (.tuple [.str "told", .tuple ((Doc.chg [] x y).map rd)]), v8, v9, v10, v11, v12, v13, v14, v15] := by
  unfold A7
  simp -implicitDefEqProofs only [p_seqS, p_ifS, p_orT, p_andT, p_andV, p_orV, p_ifT, p_bin2, p_bin2B, p_chain3, p_bool, p_dIntOp, p_add, p_intOf, p_callR_ok, p_callR_err, p_gN, p_gT2, p_gsNil, p_gsCons, p_seqI_t, p_seqI_l, p_itm_t, p_itm_l, p_cst, p_un1, p_binN, p_notV, p_newL, p_tup, p_lst, p_slc, p_oNo, p_oYes, p_aNil, p_aCons, p_aStar, p_callF, p_callB, p_tval, p_notT, p_argI, p_setS, p_setNS, p_asgS, p_retS, p_exprS, p_forS, p_rtn, p_rtr, p_rte, mk0, mk1, mk2, mk3, okS0, okS1, okS2, okS3, rdVar, List.getElem?_cons_zero, List.getElem?_cons_succ, List.set_cons_zero, List.set_cons_succ, rs_bind_ok, rs_bind_err, rs_bind_bad, rs_map_ok, rs_map_err, rs_st_ok, rs_st_err, rs_ofO_some, ot_seq_next, ot_seq_ret, ot_seq_err, ot_seq_brk, ot_seq_cont, Option.bind_some, Option.map_some, if_true, Bool.false_eq_true, if_false, Bool.not_true, Bool.not_false, methF, owOf, setOw, told_changes gx hx gy hy]
theorem rp_told : Rp 0 122 (.str "told") := rp_str (by decide +kernel) (by intro c hc; revert c; decide +kernel)
theorem rp_word {s : Str} (h : s.length ≤ 12 ∧ codesOk s) : Rp 0 122 (.str s) := rp_str h.1 h.2
theorem rp_pair {n w1 w2 : Nat} {a c : PyData} (h1 : Rp n w1 a) (h2 : Rp n w2 c) : Rp (n + 1) (w1 + w2 + 6) (.tuple [a, c]) := by
  have l1 := h1.ln
  have l2 := h2.ln
  refine (rp_tup (n := n) (xs := [a, c]) ?_).mono (Nat.le_refl _) ?_
  · intro d hd
    simp only [List.mem_cons, List.not_mem_nil, or_false] at hd
    rcases hd with rfl | rfl
    · exact ⟨_, h1⟩
    · exact ⟨_, h2⟩
  · simp [wts]
    omega
theorem rp_path {p : Path} (h : ∀ i ∈ p, 0 ≤ i ∧ i < 3) (hp : p.length ≤ 12) : Rp 1 74 (pd p) := by
  refine (rp_tupW (n := 0) (w := 4) (xs := p.map .int) ?_).mono (Nat.le_refl _) (by rw [List.length_map]; omega)
  intro d hd
  obtain ⟨i, hi, rfl⟩ := List.mem_map.mp hd
  have := h i hi
  exact rp_int (by omega) (by omega)
theorem rp_rows (gx : x.Good) (hx : x.size ≤ 12) (gy : y.Good) (hy : y.size ≤ 41) : Rp 44 110000 (.tuple ((Doc.chg [] x y).map rd)) := by
  have hp := price_chg x x [] y rfl
  have ht := chg_told x [] y gy
  have hl := Doc.chg_len x [] y
  have hds := depth_size x
  refine (rp_tupW (n := 43) (w := 8300) (xs := (Doc.chg [] x y).map rd) ?_).mono (Nat.le_refl _) ?_
  · intro d hd
    obtain ⟨⟨p, t⟩, hr, rfl⟩ := List.mem_map.mp hd
    have h1 := hp.2 _ hr
    have h1 : x.at? p ≠ none := h1
    have h2 := ht _ hr
    cases ha : x.at? p with
    | none => exact absurd ha h1
    | some z =>
      have h3 := at_small gx ha
      have h4 := Doc.at_depth ha
      have r1 := (rp_path h3 (by omega)).mono (show 1 ≤ 42 by omega) (Nat.le_refl _)
      cases t with
      | lab l =>
        have h2 : isLab l = true := h2
        exact (rp_pair r1 ((rp_lab h2).mono (show 0 ≤ 42 by omega) (Nat.le_refl _))).mono (Nat.le_refl _) (by omega)
      | doc o =>
        have h2 : o.Good ∧ o.size ≤ y.size := h2
        exact (rp_pair r1 (rp_doc' h2.1 (by omega))).mono (Nat.le_refl _) (by omega)
  · rw [List.length_map]
    omega
theorem same_of {d e : PyData} {n w : Nat} (q : d = e) (h : Rp n w d) (hn : n < 63) (hw : w ≤ 900000) : F__law_same [d, e] = .ok (.bool true) := by
  subst q
  have := big2
  exact same_ok h hn (by omega)
theorem dNe_self (i : Int) : dNe (.int i) (.int i) = some (.bool false) := by simp [dNe, dEqB, scalD]
theorem dNe_selfS (i : Str) : dNe (.str i) (.str i) = some (.bool false) := by simp [dNe, dEqB, scalD]
theorem tupOf (xs : List PyData) : dTupleOf [.list xs] = some (.tuple xs) := rfl
theorem a8_ok (gx : x.Good) (hx : x.size ≤ 12) (gy : y.Good) (hy : y.size ≤ 41) : A8 [sc, .own s, tn, v3, .dat x.d, .dat y.d, v6, .dat (.tuple [.str "told", .tuple ((Doc.chg [] x y).map rd)]), v8, v9, v10, v11, v12, v13, v14, v15] = .next [sc, .own s, tn, v3, .dat x.d, .dat y.d, v6, .dat (.tuple [.str "told", .tuple ((Doc.chg [] x y).map rd)]), v8, v9, v10, v11, v12, v13, v14, v15] := by
  have d1 := depth_size x
  have d2 := depth_size y
  have fx : x.fit := by unfold Doc.fit; omega
  have fy : y.fit := by unfold Doc.fit; omega
  have e1 : F__law_listed 25 [x.d, y.d, .tuple []] = _ := law_listed_ok 25 x y [] (by omega) (by omega) (by omega) (by omega) (by omega) (by simp; omega)
  have e2 : F__law_same [.tuple [.str "told", .tuple ((Doc.chg [] x y).map rd)], .tuple [.str "told", .tuple ((Doc.chg [] x y).map rd)]] = _ := same_of rfl (rp_pair (rp_told.mono (show 0 ≤ 44 by omega) (Nat.le_refl _)) (rp_rows gx hx gy hy)) (by omega) (by omega)
  have hp := price_chg x x [] y rfl
  have ht := chg_told x [] y gy
  have e3 := law_price_ok x (Doc.chg [] x y) (by omega) fx (fun r hr => ⟨hp.2 r hr, fun o ho => by
    have := ht r hr
    rw [ho] at this
    have h2 : o.Good ∧ o.size ≤ y.size := this
    have := depth_size o
    unfold Doc.fit
    omega⟩)
  rw [hp.1] at e3
  have e4 := law_cost_ok 25 x y (by omega) (by omega) (by omega) fx fy
  unfold A8
  simp -implicitDefEqProofs only [p_seqS, p_ifS, p_orT, p_andT, p_andV, p_orV, p_ifT, p_bin2, p_bin2B, p_chain3, p_bool, p_dIntOp, p_add, p_intOf, p_callR_ok, p_callR_err, p_gN, p_gT2, p_gsNil, p_gsCons, p_seqI_t, p_seqI_l, p_itm_t, p_itm_l, p_cst, p_un1, p_binN, p_notV, p_newL, p_tup, p_lst, p_slc, p_oNo, p_oYes, p_aNil, p_aCons, p_aStar, p_callF, p_callB, p_tval, p_notT, p_argI, p_setS, p_setNS, p_asgS, p_retS, p_exprS, p_forS, p_rtn, p_rtr, p_rte, mk0, mk1, mk2, mk3, okS0, okS1, okS2, okS3, rdVar, List.getElem?_cons_zero, List.getElem?_cons_succ, List.set_cons_zero, List.set_cons_succ, rs_bind_ok, rs_bind_err, rs_bind_bad, rs_map_ok, rs_map_err, rs_st_ok, rs_st_err, rs_ofO_some, ot_seq_next, ot_seq_ret, ot_seq_err, ot_seq_brk, ot_seq_cont, Option.bind_some, Option.map_some, if_true, Bool.false_eq_true, if_false, Bool.not_true, Bool.not_false, methF, owOf, setOw, e1, tupOf, e2, ix_t1, e3, e4, dNe_self]
theorem app_full (gx : x.Good) (hx : x.size ≤ 12) (gy : y.Good) (hy : y.size ≤ 41) : app x (Doc.chg [] x y) = .ok y := by
  have d1 := depth_size x
  have d2 := depth_size y
  have := app_chg x x [] y [] rfl gy (by omega) (by omega) (by simp; omega)
  rw [List.append_nil] at this
  exact this
theorem rows_ok (gx : x.Good) (hx : x.size ≤ 12) (gy : y.Good) (hy : y.size ≤ 31) : ∀ r ∈ Doc.chg [] x y, rowOk r := by
  have d1 := depth_size x
  have hp := price_chg x x [] y rfl
  have ht := chg_told x [] y gy
  rintro ⟨p, t⟩ hr
  have h1 : x.at? p ≠ none := hp.2 _ hr
  have h2 := ht _ hr
  cases ha : x.at? p with
  | none => exact absurd ha h1
  | some z =>
    have h4 := Doc.at_depth ha
    refine ⟨by show p.length ≤ 50000; omega, ?_⟩
    cases t with
    | lab l =>
      have h2 : isLab l = true := h2
      have := Doc.lab_len h2
      have := big
      show l.length ≤ sizeLine
      omega
    | doc o =>
      have h2 : o.Good ∧ o.size ≤ y.size := h2
      have := depth_size o
      exact ⟨by omega, Doc.good_small h2.1, by unfold Doc.fit; omega⟩
theorem a9_ok (gx : x.Good) (hx : x.size ≤ 12) (gy : y.Good) (hy : y.size ≤ 31) : A9 [sc, .own s, tn, v3, .dat x.d, .dat y.d, v6, .dat (.tuple [.str "told", .tuple ((Doc.chg [] x y).map rd)]), v8, v9, v10, v11, v12, v13, v14, v15] = .next [sc, .own s, tn, v3, .dat x.d, .dat y.d, v6, .dat (.tuple [.str "told", .tuple ((Doc.chg [] x y).map rd)]), v8, v9, v10, v11, v12, v13, v14, v15] := by
  have e1 := told_changed x (Doc.chg [] x y) (std_of gx (by omega)) (rows_ok gx hx gy hy)
  rw [app_full gx hx gy (by omega)] at e1
  have e1 : F__law_told [.int 1, x.d, .tuple ((Doc.chg [] x y).map rd)] = .ok (.tuple [.str "told", y.d]) := e1
  have e2 := told_changes gx hx gx (show x.size ≤ 41 by omega)
  rw [chg_self] at e2
  have e2 : F__law_told [.int 0, x.d, x.d] = .ok (.tuple [.str "told", .tuple []]) := e2
  have r1 := rp_pair (rp_told.mono (show 0 ≤ 42 by omega) (Nat.le_refl _)) (rp_doc' gy (by omega))
  have r0 : Rp 1 2 (.tuple []) := rp_tupW (n := 0) (w := 0) (xs := []) (by simp)
  have r2 := rp_pair (rp_told.mono (show 0 ≤ 1 by omega) (Nat.le_refl _)) r0
  have e3 : F__law_same [.list [.tuple [.str "told", y.d], .tuple [.str "told", .tuple []]], .list [.tuple [.str "told", y.d], .tuple [.str "told", .tuple []]]] = _ := same_of rfl (rp_lstW (n := 43) (w := 10000) (by
    intro d hd
    simp only [List.mem_cons, List.not_mem_nil, or_false] at hd
    rcases hd with rfl | rfl
    · exact r1.mono (by omega) (by omega)
    · exact r2.mono (by omega) (by omega))) (by omega) (by simp)
  unfold A9
  simp -implicitDefEqProofs only [p_seqS, p_ifS, p_orT, p_andT, p_andV, p_orV, p_ifT, p_bin2, p_bin2B, p_chain3, p_bool, p_dIntOp, p_add, p_intOf, p_callR_ok, p_callR_err, p_gN, p_gT2, p_gsNil, p_gsCons, p_seqI_t, p_seqI_l, p_itm_t, p_itm_l, p_cst, p_un1, p_binN, p_notV, p_newL, p_tup, p_lst, p_slc, p_oNo, p_oYes, p_aNil, p_aCons, p_aStar, p_callF, p_callB, p_tval, p_notT, p_argI, p_setS, p_setNS, p_asgS, p_retS, p_exprS, p_forS, p_rtn, p_rtr, p_rte, mk0, mk1, mk2, mk3, okS0, okS1, okS2, okS3, rdVar, List.getElem?_cons_zero, List.getElem?_cons_succ, List.set_cons_zero, List.set_cons_succ, rs_bind_ok, rs_bind_err, rs_bind_bad, rs_map_ok, rs_map_err, rs_st_ok, rs_st_err, rs_ofO_some, ot_seq_next, ot_seq_ret, ot_seq_err, ot_seq_brk, ot_seq_cont, Option.bind_some, Option.map_some, if_true, Bool.false_eq_true, if_false, Bool.not_true, Bool.not_false, methF, owOf, setOw, ix_t1, e1, e2, e3]
end
end ML
set_option maxRecDepth 100000
set_option maxHeartbeats 4000000
/-! the rest of a turn -/
namespace ML
open PySem L2
section
variable {sc tn v3 v4 v5 v6 v7 v8 v9 v10 v11 v12 v13 v14 v15 : Sl} {s : List PyData} {b : Nat} {L : List Sg} {x y : Doc}
def pathsOf (x : Doc) : List Path := (Doc.nodes [] x).map Prod.fst ++ [[9], [0, -1]]
theorem a11_ok (gx : x.Good) (hx : x.size ≤ 12) : A11 [sc, .own s, tn, v3, .dat x.d, v5, v6, v7, v8, v9, .un, .un, v12, v13, v14, v15] = .next [sc, .own s, tn, v3, .dat x.d, v5, v6, v7, v8, .dat (.list ((pathsOf x).map pd)), .un, .un, v12, v13, v14, v15] := by
  have hb := big
  have d1 := depth_size x
  have fx : x.fit := by unfold Doc.fit; omega
  have mn : F__law_nodes 80 [x.d, .tuple []] = _ := law_nodes_ok 80 x [] (by omega) fx (by simp; omega)
  have hc := lcAll_mapC (t := gT 2 (gsCons (gN 10) (gsCons (gN 11) gsNil))) (e := rdVar 10) (vs := [10, 11]) (ρ := [sc, .own s, tn, v3, .dat x.d, v5, v6, v7, v8, v9, .un, .un, v12, v13, v14, v15]) (ρ0 := [sc, .own s, tn, v3, .dat x.d, v5, v6, v7, v8, v9, .un, .un, v12, v13, v14, v15])
    (f0 := un1 seqItems (callF (F__law_nodes 80) (aCons (rdVar 4) (aCons (tup aNil) aNil)))) (Doc.nodes [] x) nd (fun z => pd z.1) (by simp -implicitDefEqProofs only [p_seqS, p_ifS, p_orT, p_andT, p_andV, p_orV, p_ifT, p_bin2, p_bin2B, p_chain3, p_bool, p_dIntOp, p_add, p_intOf, p_callR_ok, p_callR_err, p_gN, p_gT2, p_gsNil, p_gsCons, p_seqI_t, p_seqI_l, p_itm_t, p_itm_l, p_cst, p_un1, p_binN, p_notV, p_newL, p_tup, p_lst, p_slc, p_oNo, p_oYes, p_aNil, p_aCons, p_aStar, p_callF, p_callB, p_tval, p_notT, p_argI, p_setS, p_setNS, p_asgS, p_retS, p_exprS, p_forS, p_rtn, p_rtr, p_rte, mk0, mk1, mk2, mk3, okS0, okS1, okS2, okS3, rdVar, List.getElem?_cons_zero, List.getElem?_cons_succ, List.set_cons_zero, List.set_cons_succ, rs_bind_ok, rs_bind_err, rs_bind_bad, rs_map_ok, rs_map_err, rs_st_ok, rs_st_err, rs_ofO_some, ot_seq_next, ot_seq_ret, ot_seq_err, ot_seq_brk, ot_seq_cont, Option.bind_some, Option.map_some, if_true, Bool.false_eq_true, if_false, Bool.not_true, Bool.not_false, methF, owOf, setOw, mn]) rfl (by rw [Doc.nodes_len]; omega) (fun z _ => ⟨_, _, rfl, rfl, rfl⟩)
  have ea : dAdd (.list ((Doc.nodes [] x).map fun z => pd z.1)) (.list [.tuple [.int 9], .tuple [.int 0, .int (-1)]]) = some (.list ((pathsOf x).map pd)) := by
    have : (Doc.nodes [] x).length ≤ 12 := by rw [Doc.nodes_len]; omega
    show (if _ then some (PyData.list _) else none) = _
    rw [if_pos (by rw [List.length_map]; show _ + 2 ≤ _; omega)]
    unfold pathsOf
    rw [List.map_append, List.map_map]
    rfl
  have en : dNeg (.int 1) = some (.int (-1)) := rfl
  unfold A11
  simp -implicitDefEqProofs only [p_seqS, p_ifS, p_orT, p_andT, p_andV, p_orV, p_ifT, p_bin2, p_bin2B, p_chain3, p_bool, p_dIntOp, p_add, p_intOf, p_callR_ok, p_callR_err, p_gN, p_gT2, p_gsNil, p_gsCons, p_seqI_t, p_seqI_l, p_itm_t, p_itm_l, p_cst, p_un1, p_binN, p_notV, p_newL, p_tup, p_lst, p_slc, p_oNo, p_oYes, p_aNil, p_aCons, p_aStar, p_callF, p_callB, p_tval, p_notT, p_argI, p_setS, p_setNS, p_asgS, p_retS, p_exprS, p_forS, p_rtn, p_rtr, p_rte, mk0, mk1, mk2, mk3, okS0, okS1, okS2, okS3, rdVar, List.getElem?_cons_zero, List.getElem?_cons_succ, List.set_cons_zero, List.set_cons_succ, rs_bind_ok, rs_bind_err, rs_bind_bad, rs_map_ok, rs_map_err, rs_st_ok, rs_st_err, rs_ofO_some, ot_seq_next, ot_seq_ret, ot_seq_err, ot_seq_brk, ot_seq_cont, Option.bind_some, Option.map_some, if_true, Bool.false_eq_true, if_false, Bool.not_true, Bool.not_false, methF, owOf, setOw, hc, en, ea]
def letA : Doc := .node "A" []
theorem letA_d : letA.d = .tuple [.str "A"] := by unfold letA; rw [Doc.d_eq]; rfl
theorem labA : isLab "A" = false := by decide +kernel
theorem letA_small : letA.small := by
  intro z hz
  unfold letA at hz
  rw [Doc.nodes, Doc.nodesL, List.mem_singleton] at hz
  subst hz
  show (Str.ofString "A").length ≤ sizeLine
  decide +kernel
theorem letA_chk : chkE letA = some ("NotAllowed" : Str) := by
  unfold chkE
  rw [if_neg (by unfold bigD letA; rw [Doc.size, Doc.sizes, Doc.depth, Doc.depths]; omega), if_neg]
  intro g
  have h := Doc.good_lab g
  have h : isLab "A" = true := h
  rw [labA] at h
  cases h
theorem letA_depth : letA.depth = 0 := by unfold letA; rw [Doc.depth, Doc.depths]
theorem letA_size : letA.size = 1 := by unfold letA; rw [Doc.size, Doc.sizes]
theorem paths_ok (gx : x.Good) (hx : x.size ≤ 12) : ∀ p ∈ pathsOf x, p.length ≤ 50000 := by
  intro p hp
  have d1 := depth_size x
  rcases List.mem_append.mp hp with hp | hp
  · obtain ⟨⟨q, z⟩, hz, rfl⟩ := List.mem_map.mp hp
    obtain ⟨p', e, ha⟩ := mem_nodes x [] q z hz
    have := Doc.at_depth ha
    rw [List.nil_append] at e
    subst e
    show List.length q ≤ 50000
    omega
  · simp only [List.mem_cons, List.not_mem_nil, or_false] at hp
    rcases hp with rfl | rfl
    · simp
    · simp
theorem pick2 {r : Nat} (h : (r : Int) < 5) : ∃ j : Nat, j < 3 ∧ dIx (.list [.int 0, .int 0, .int 1, .int 1, .int 2]) (.int (r : Nat)) = some (.int (j : Nat)) := by
  have h : r < 5 := by omega
  match r, h with
  | 0, _ => exact ⟨0, by omega, rfl⟩
  | 1, _ => exact ⟨0, by omega, rfl⟩
  | 2, _ => exact ⟨1, by omega, rfl⟩
  | 3, _ => exact ⟨1, by omega, rfl⟩
  | 4, _ => exact ⟨2, by omega, rfl⟩
theorem rb_ok {rs : List Row} (h : St b s) (hb : b < 2 ^ 31) (gx : x.Good) (hx : x.size ≤ 12) (gy : y.Good) (hy : y.size ≤ 31) (hr : ∀ r ∈ rs, rowOk r) (hl : rs.length ≤ 100) :
    ∃ (r : Row) (s' : List PyData) (w : Sl), RB [sc, .own s, tn, v3, v4, .dat y.d, v6, v7, .own (rs.map rd), .dat (.list ((pathsOf x).map pd)), v10, v11, v12, v13, v14, v15] = .next [sc, .own s', tn, v3, v4, .dat y.d, v6, v7, .own ((rs ++ [r]).map rd), .dat (.list ((pathsOf x).map pd)), v10, v11, v12, w, v14, v15] ∧ (∀ q ∈ rs ++ [r], rowOk q) ∧ St (b + 16) s' := by
  have hbg := big
  have dy := depth_size y
  obtain ⟨w1, s1, e1, l1, h1⟩ := law_label_ok h (by omega)
  obtain ⟨r2, s2, e2, l2, h2⟩ := law_next_ok (m := 4) h1 (by omega) (by omega)
  have fin : ∃ w : Str, dIx (.list [.str w1, .str "", .str "A", .str "ab"]) (.int (r2 : Nat)) = some (.str w) ∧ w.length ≤ 12 := by
    match r2, l2 with
    | 0, _ => exact ⟨w1, rfl, Doc.lab_len l1⟩
    | 1, _ => exact ⟨"", rfl, by decide +kernel⟩
    | 2, _ => exact ⟨"A", rfl, by decide +kernel⟩
    | 3, _ => exact ⟨"ab", rfl, by decide +kernel⟩
    | n + 4, h => omega
  obtain ⟨w, e3, hw⟩ := fin
  have hpl : 0 < (pathsOf x).length := by unfold pathsOf; simp
  obtain ⟨r4, s4, e4, l4, h4⟩ := law_next_ok (m := ((((pathsOf x).map pd).length : Nat) : Int)) h2 (by rw [List.length_map]; omega) (by omega)
  rw [List.length_map] at l4
  have hr4 : r4 < (pathsOf x).length := by omega
  have e5 : dIx (.list ((pathsOf x).map pd)) (.int (r4 : Nat)) = some (pd (pathsOf x)[r4]) := ix_nat (by rw [List.getElem?_map, List.getElem?_eq_getElem hr4]; rfl)
  have hp := paths_ok gx hx _ (List.getElem_mem hr4)
  generalize (pathsOf x)[r4] = p at e5 hp
  obtain ⟨r6, s6, e6, l6, h6⟩ := law_next_ok (m := 5) h4 (by omega) (by omega)
  obtain ⟨j, hj, e7⟩ := pick2 l6
  have fin2 : ∃ t : Told, dIx (.list [.str w, y.d, .tuple [.str "A"]]) (.int (j : Nat)) = some t.d ∧ rowOk (p, t) := by
    match j, hj with
    | 0, _ => exact ⟨.lab w, rfl, hp, by show w.length ≤ sizeLine; omega⟩
    | 1, _ => exact ⟨.doc y, rfl, hp, by show y.depth ≤ 30 ∧ y.small ∧ y.fit; exact ⟨by omega, Doc.good_small gy, by unfold Doc.fit; omega⟩⟩
    | 2, _ =>
      refine ⟨.doc letA, ?_, hp, ?_⟩
      · show some (PyData.tuple [.str "A"]) = some letA.d
        rw [letA_d]
      · show letA.depth ≤ 30 ∧ letA.small ∧ letA.fit
        exact ⟨by rw [letA_depth]; omega, letA_small, by unfold Doc.fit; rw [letA_size]; omega⟩
  obtain ⟨t, e8, ht⟩ := fin2
  have ea : gAppend (rs.map rd) [.tuple [pd p, t.d]] = some (.none, (rs ++ [(p, t)]).map rd) := by
    rw [append_ok (by rw [List.length_map]; omega), List.map_append]
    rfl
  refine ⟨(p, t), s6, .dat (.str w), ?_, ?_, h6.mono (by omega)⟩
  · unfold RB
    simp -implicitDefEqProofs only [p_seqS, p_ifS, p_orT, p_andT, p_andV, p_orV, p_ifT, p_bin2, p_bin2B, p_chain3, p_bool, p_dIntOp, p_add, p_intOf, p_callR_ok, p_callR_err, p_gN, p_gT2, p_gsNil, p_gsCons, p_seqI_t, p_seqI_l, p_itm_t, p_itm_l, p_cst, p_un1, p_binN, p_notV, p_newL, p_tup, p_lst, p_slc, p_oNo, p_oYes, p_aNil, p_aCons, p_aStar, p_callF, p_callB, p_tval, p_notT, p_argI, p_setS, p_setNS, p_asgS, p_retS, p_exprS, p_forS, p_rtn, p_rtr, p_rte, mk0, mk1, mk2, mk3, okS0, okS1, okS2, okS3, rdVar, List.getElem?_cons_zero, List.getElem?_cons_succ, List.set_cons_zero, List.set_cons_succ, rs_bind_ok, rs_bind_err, rs_bind_bad, rs_map_ok, rs_map_err, rs_st_ok, rs_st_err, rs_ofO_some, ot_seq_next, ot_seq_ret, ot_seq_err, ot_seq_brk, ot_seq_cont, Option.bind_some, Option.map_some, if_true, Bool.false_eq_true, if_false, Bool.not_true, Bool.not_false, methF, owOf, setOw, p_callSF, p_ixvF, lstAt, e1, okS4, e2, e3, p_len_l, e4, e5, okS5, e6, e7, e8, ea]
  · intro q hq
    rcases List.mem_append.mp hq with hq | hq
    · exact hr q hq
    · rw [List.mem_singleton.mp hq]
      exact ht
theorem a12_ok (h : St b s) (hb : b < 2 ^ 30) (gx : x.Good) (hx : x.size ≤ 12) (gy : y.Good) (hy : y.size ≤ 31) :
    ∃ (rs : List Row) (s' : List PyData) (k w : Sl), A12 [sc, .own s, tn, v3, v4, .dat y.d, v6, v7, .own [], .dat (.list ((pathsOf x).map pd)), v10, v11, v12, v13, v14, v15] = .next [sc, .own s', tn, v3, v4, .dat y.d, v6, v7, .own (rs.map rd), .dat (.list ((pathsOf x).map pd)), v10, v11, k, w, v14, v15] ∧ (∀ q ∈ rs, rowOk q) ∧ St (b + 60) s' := by
  obtain ⟨j, s1, e1, l1, h1⟩ := law_next_ok (m := 4) h (by omega) (by omega)
  obtain ⟨ρ', e, rs, s', k, w, rfl, hr, hs, hl⟩ := forF_inv (t := gN 12) (body := RB) (fun i ρ => ∃ (rs : List Row) (s' : List PyData) (k w : Sl), ρ = [sc, .own s', tn, v3, v4, .dat y.d, v6, v7, .own (rs.map rd), .dat (.list ((pathsOf x).map pd)), v10, v11, k, w, v14, v15] ∧ (∀ q ∈ rs, rowOk q) ∧ St (b + 1 + 16 * i) s' ∧ rs.length = i) ((List.range j).map fun i => PyData.int (i : Nat)) 0
    [sc, .own s1, tn, v3, v4, .dat y.d, v6, v7, .own [], .dat (.list ((pathsOf x).map pd)), v10, v11, v12, v13, v14, v15] ⟨[], s1, v12, v13, rfl, by simp, h1, rfl⟩ (by
      rintro i d ρ hd ⟨rs, s', k, w, rfl, hr, hs, hl⟩
      rw [Nat.zero_add] at hs hl ⊢
      have hi : i < j := by
        have := (List.getElem?_eq_some_iff.mp hd).1
        simpa using this
      obtain ⟨r, s2, w2, e, hr2, h2⟩ := rb_ok (sc := sc) (tn := tn) (v3 := v3) (v4 := v4) (v6 := v6) (v7 := v7) (v10 := v10) (v11 := v11) (v12 := .dat d) (v13 := w) (v14 := v14) (v15 := v15) hs (by omega) gx hx gy hy hr (by omega)
      exact ⟨_, _, rfl, .inl e, rs ++ [r], s2, _, w2, rfl, hr2, h2.mono (by omega), by simp [hl]⟩)
  have ej : ((List.range j).map fun i => PyData.int (i : Nat)).length = j := by simp
  rw [ej, Nat.zero_add] at hs
  refine ⟨rs, s', k, w, ?_, hr, hs.mono (by omega)⟩
  unfold A12
  simp -implicitDefEqProofs only [p_seqS, p_ifS, p_orT, p_andT, p_andV, p_orV, p_ifT, p_bin2, p_bin2B, p_chain3, p_bool, p_dIntOp, p_add, p_intOf, p_callR_ok, p_callR_err, p_gN, p_gT2, p_gsNil, p_gsCons, p_seqI_t, p_seqI_l, p_itm_t, p_itm_l, p_cst, p_un1, p_binN, p_notV, p_newL, p_tup, p_lst, p_slc, p_oNo, p_oYes, p_aNil, p_aCons, p_aStar, p_callF, p_callB, p_tval, p_notT, p_argI, p_setS, p_setNS, p_asgS, p_retS, p_exprS, p_forS, p_rtn, p_rtr, p_rte, mk0, mk1, mk2, mk3, okS0, okS1, okS2, okS3, rdVar, List.getElem?_cons_zero, List.getElem?_cons_succ, List.set_cons_zero, List.set_cons_succ, rs_bind_ok, rs_bind_err, rs_bind_bad, rs_map_ok, rs_map_err, rs_st_ok, rs_st_err, rs_ofO_some, ot_seq_next, ot_seq_ret, ot_seq_err, ot_seq_brk, ot_seq_cont, Option.bind_some, Option.map_some, if_true, Bool.false_eq_true, if_false, Bool.not_true, Bool.not_false, methF, owOf, setOw, p_callSF, p_ixvF, lstAt, e1, rng1_nat (show j ≤ 100000000 by omega), e]
theorem app_std : ∀ {rs : List Row} {x y : Doc}, Std x → app x rs = .ok y → Std y
  | [], x, y, h, e => by cases e; exact h
  | r :: rs, x, y, h, e => by
    unfold app at e
    cases hs : stepR x r with
    | error c => rw [hs] at e; cases e
    | ok z =>
      rw [hs] at e
      exact app_std (step_std h hs) e
theorem rp_out {x : Doc} (h : Std x) (rs : List Row) : Rp 43 61000 (outD (app x rs)) := by
  cases ha : app x rs with
  | error c =>
    unfold outD
    dsimp only
    have r1 : Rp 0 122 (.str "refused") := rp_str (by decide +kernel) (by intro c hc; revert c; decide +kernel)
    have r2 : Rp 0 122 (.str "large") := rp_str (by decide +kernel) (by intro c hc; revert c; decide +kernel)
    split
    · exact r1.mono (by omega) (by omega)
    · exact r2.mono (by omega) (by omega)
  | ok y =>
    have hy : Std y := app_std h ha
    have hb := hy.bd
    exact (rp_pair (rp_told.mono (show 0 ≤ 42 by omega) (Nat.le_refl _)) ((rp_doc y hy.2).mono (show y.depth + 1 ≤ 42 by omega) (Nat.le_refl _))).mono (by omega) (by omega)
theorem a13_ok {rs : List Row} (gx : x.Good) (hx : x.size ≤ 12) (hr : ∀ q ∈ rs, rowOk q) : ∃ v8', A13 [sc, .own s, tn, v3, .dat x.d, v5, v6, v7, .own (rs.map rd), v9, v10, v11, v12, v13, v14, v15] = .next [sc, .own s, tn, v3, .dat x.d, v5, v6, v7, v8', v9, v10, v11, v12, v13, v14, v15] := by
  have hs := std_of gx (by omega)
  have e1 := told_changed x rs hs hr
  have e2 := law_due_ok x rs hs hr
  have e3 : F__law_same [outD (app x rs), outD (app x rs)] = _ := same_of rfl (rp_out hs rs) (by omega) (by omega)
  refine ⟨.dat (.list (rs.map rd)), ?_⟩
  unfold A13
  simp -implicitDefEqProofs only [p_seqS, p_ifS, p_orT, p_andT, p_andV, p_orV, p_ifT, p_bin2, p_bin2B, p_chain3, p_bool, p_dIntOp, p_add, p_intOf, p_callR_ok, p_callR_err, p_gN, p_gT2, p_gsNil, p_gsCons, p_seqI_t, p_seqI_l, p_itm_t, p_itm_l, p_cst, p_un1, p_binN, p_notV, p_newL, p_tup, p_lst, p_slc, p_oNo, p_oYes, p_aNil, p_aCons, p_aStar, p_callF, p_callB, p_tval, p_notT, p_argI, p_setS, p_setNS, p_asgS, p_retS, p_exprS, p_forS, p_rtn, p_rtr, p_rte, mk0, mk1, mk2, mk3, okS0, okS1, okS2, okS3, rdVar, List.getElem?_cons_zero, List.getElem?_cons_succ, List.set_cons_zero, List.set_cons_succ, rs_bind_ok, rs_bind_err, rs_bind_bad, rs_map_ok, rs_map_err, rs_st_ok, rs_st_err, rs_ofO_some, ot_seq_next, ot_seq_ret, ot_seq_err, ot_seq_brk, ot_seq_cont, Option.bind_some, Option.map_some, if_true, Bool.false_eq_true, if_false, Bool.not_true, Bool.not_false, methF, owOf, setOw, tupOf, e1, e2, e3]
theorem told_A (k : Nat) (hk : k < 2) : F__law_told [.int (k : Nat), .tuple [.str "A"], .tuple []] = .ok (.str "refused") := by
  match k, hk with
  | 0, _ =>
    have e := changes_bad letA (.tuple []) (by rw [letA_depth]; omega) letA_small letA_chk
    rw [letA_d] at e
    exact told_err (k := 0) F_changes rfl e (.inl rfl)
  | 1, _ =>
    have e := changed_bad letA (.tuple []) (by rw [letA_depth]; omega) letA_small letA_chk
    rw [letA_d] at e
    exact told_err (k := 1) F_changed rfl e (.inl rfl)
theorem told_xA (gx : x.Good) (hx : x.size ≤ 12) : F__law_told [.int 0, x.d, .tuple [.str "A"]] = .ok (.str "refused") := by
  have e := changes_bad2 x letA (std_of gx (by omega)) (by rw [letA_depth]; omega) letA_small letA_chk
  rw [letA_d] at e
  exact told_err (k := 0) F_changes rfl e (.inl rfl)
theorem add_lst {xs ys : List PyData} (h : xs.length + ys.length ≤ sizeLine) : dAdd (.list xs) (.list ys) = some (.list (xs ++ ys)) := if_pos h
theorem ne_three : dNe (.list [.str "refused", .str "refused", .str "refused"]) (.list [.str "refused", .str "refused", .str "refused"]) = some (.bool false) := by
  with_unfolding_all rfl
theorem mul_three : dMul (.list [.str "refused"]) (.int 3) = some (.list [.str "refused", .str "refused", .str "refused"]) := by
  have h : (-(2 ^ 63) : Int) ≤ 3 ∧ (3 : Int) < 2 ^ 63 ∧ [PyData.str "refused"].length * (3 : Int).toNat ≤ sizeLine := ⟨by decide, by decide, by decide⟩
  unfold dMul
  dsimp only
  rw [if_pos h]
  rfl
theorem a14_ok (gx : x.Good) (hx : x.size ≤ 12) (gy : y.Good) (hy : y.size ≤ 41) : A14 [sc, .own s, tn, v3, .dat x.d, .dat y.d, .dat (.str (PyData.tuple [x.d, y.d]).shown), v7, v8, v9, v10, v11, v12, v13, v14, v15] = .next [sc, .own s, tn, v3, .dat x.d, .dat y.d, .dat (.str (PyData.tuple [x.d, y.d]).shown), v7, v8, v9, v10, v11, .un, v13, v14, v15] := by
  have hb := big
  have r2 : rng1 [.int 2] = some ((List.range 2).map fun i => PyData.int (i : Nat)) := rng1_nat (k := 2) (by omega)
  have hc := lcAll_mapCW (t := gN 12) (e := callF F__law_told (aCons (rdVar 12) (aCons (tup (aCons (cst (.str "A")) aNil)) (aCons (tup aNil) aNil)))) (vs := [12]) (ρ := [sc, .own s, tn, v3, .dat x.d, .dat y.d, .dat (.str (PyData.tuple [x.d, y.d]).shown), v7, v8, v9, v10, v11, .un, v13, v14, v15]) (ρ0 := [sc, .own s, tn, v3, .dat x.d, .dat y.d, .dat (.str (PyData.tuple [x.d, y.d]).shown), v7, v8, v9, v10, v11, v12, v13, v14, v15])
    (f0 := argI rng1 (aCons (cst (.int 2)) aNil)) (List.range 2) (fun i => PyData.int (i : Nat)) (fun _ => .str "refused") (by simp -implicitDefEqProofs only [p_seqS, p_ifS, p_orT, p_andT, p_andV, p_orV, p_ifT, p_bin2, p_bin2B, p_chain3, p_bool, p_dIntOp, p_add, p_intOf, p_callR_ok, p_callR_err, p_gN, p_gT2, p_gsNil, p_gsCons, p_seqI_t, p_seqI_l, p_itm_t, p_itm_l, p_cst, p_un1, p_binN, p_notV, p_newL, p_tup, p_lst, p_slc, p_oNo, p_oYes, p_aNil, p_aCons, p_aStar, p_callF, p_callB, p_tval, p_notT, p_argI, p_setS, p_setNS, p_asgS, p_retS, p_exprS, p_forS, p_rtn, p_rtr, p_rte, mk0, mk1, mk2, mk3, okS0, okS1, okS2, okS3, rdVar, List.getElem?_cons_zero, List.getElem?_cons_succ, List.set_cons_zero, List.set_cons_succ, rs_bind_ok, rs_bind_err, rs_bind_bad, rs_map_ok, rs_map_err, rs_st_ok, rs_st_err, rs_ofO_some, ot_seq_next, ot_seq_ret, ot_seq_err, ot_seq_brk, ot_seq_cont, Option.bind_some, Option.map_some, if_true, Bool.false_eq_true, if_false, Bool.not_true, Bool.not_false, methF, owOf, setOw, r2]; rfl) rfl (by simp; omega) (fun i hi => by
      have hi : i < 2 := by simpa using hi
      refine ⟨_, [sc, .own s, tn, v3, .dat x.d, .dat y.d, .dat (.str (PyData.tuple [x.d, y.d]).shown), v7, v8, v9, v10, v11, .dat (.int (i : Nat)), v13, v14, v15], rfl, ?_, rfl⟩
      simp -implicitDefEqProofs only [p_seqS, p_ifS, p_orT, p_andT, p_andV, p_orV, p_ifT, p_bin2, p_bin2B, p_chain3, p_bool, p_dIntOp, p_add, p_intOf, p_callR_ok, p_callR_err, p_gN, p_gT2, p_gsNil, p_gsCons, p_seqI_t, p_seqI_l, p_itm_t, p_itm_l, p_cst, p_un1, p_binN, p_notV, p_newL, p_tup, p_lst, p_slc, p_oNo, p_oYes, p_aNil, p_aCons, p_aStar, p_callF, p_callB, p_tval, p_notT, p_argI, p_setS, p_setNS, p_asgS, p_retS, p_exprS, p_forS, p_rtn, p_rtr, p_rte, mk0, mk1, mk2, mk3, okS0, okS1, okS2, okS3, rdVar, List.getElem?_cons_zero, List.getElem?_cons_succ, List.set_cons_zero, List.set_cons_succ, rs_bind_ok, rs_bind_err, rs_bind_bad, rs_map_ok, rs_map_err, rs_st_ok, rs_st_err, rs_ofO_some, ot_seq_next, ot_seq_ret, ot_seq_err, ot_seq_brk, ot_seq_cont, Option.bind_some, Option.map_some, if_true, Bool.false_eq_true, if_false, Bool.not_true, Bool.not_false, methF, owOf, setOw, told_A i hi])
  have hcl : (List.range 2).map (fun _ => PyData.str "refused") = [.str "refused", .str "refused"] := rfl
  have ea : dAdd (.list [.str "refused", .str "refused"]) (.list [.str "refused"]) = some (.list [.str "refused", .str "refused", .str "refused"]) := by
    rw [add_lst (by show 2 + 1 ≤ _; omega)]
    rfl
  unfold A14
  simp -implicitDefEqProofs only [p_seqS, p_ifS, p_orT, p_andT, p_andV, p_orV, p_ifT, p_bin2, p_bin2B, p_chain3, p_bool, p_dIntOp, p_add, p_intOf, p_callR_ok, p_callR_err, p_gN, p_gT2, p_gsNil, p_gsCons, p_seqI_t, p_seqI_l, p_itm_t, p_itm_l, p_cst, p_un1, p_binN, p_notV, p_newL, p_tup, p_lst, p_slc, p_oNo, p_oYes, p_aNil, p_aCons, p_aStar, p_callF, p_callB, p_tval, p_notT, p_argI, p_setS, p_setNS, p_asgS, p_retS, p_exprS, p_forS, p_rtn, p_rtr, p_rte, mk0, mk1, mk2, mk3, okS0, okS1, okS2, okS3, rdVar, List.getElem?_cons_zero, List.getElem?_cons_succ, List.set_cons_zero, List.set_cons_succ, rs_bind_ok, rs_bind_err, rs_bind_bad, rs_map_ok, rs_map_err, rs_st_ok, rs_st_err, rs_ofO_some, ot_seq_next, ot_seq_ret, ot_seq_err, ot_seq_brk, ot_seq_cont, Option.bind_some, Option.map_some, if_true, Bool.false_eq_true, if_false, Bool.not_true, Bool.not_false, methF, owOf, setOw, hc, hcl, told_xA gx hx, ea, mul_three, ne_three, kept_ok gx (show x.size ≤ 41 by omega) gy hy, dNe_selfS]
theorem turn_ok (h : St b s) (hb : b < 2 ^ 29) : ∃ (s' : List PyData) (w3 w4 w5 w6 w7 w8 w9 w12 w13 : Sl), TURN [sc, .own s, tn, v3, v4, v5, v6, v7, v8, v9, .un, .un, v12, v13, v14, v15] = .next [sc, .own s', tn, w3, w4, w5, w6, w7, w8, w9, .un, .un, w12, w13, v14, v15] ∧ St (b + 400) s' := by
  obtain ⟨L, s1, e3, hL, h1⟩ := a3_ok (sc := sc) (tn := tn) (v3 := v3) (v4 := v4) (v5 := v5) (v6 := v6) (v7 := v7) (v8 := v8) (v9 := v9) (v10 := .un) (v11 := .un) (v12 := v12) (v13 := v13) (v14 := v14) (v15 := v15) h (by omega)
  obtain ⟨x, s2, e4, gx, hx, h2⟩ := a4_ok (sc := sc) (tn := tn) (v4 := v4) (v5 := v5) (v6 := v6) (v7 := v7) (v8 := v8) (v9 := v9) (v10 := .un) (v11 := .un) (v12 := v12) (v13 := v13) (v14 := v14) (v15 := v15) h1 (by omega) hL
  obtain ⟨y, s3, e5, gy, hy, h3⟩ := a5_ok (sc := sc) (tn := tn) (v5 := v5) (v6 := v6) (v7 := v7) (v8 := v8) (v9 := v9) (v10 := .un) (v11 := .un) (v12 := v12) (v13 := v13) (v14 := v14) (v15 := v15) h2 (by omega) hL gx hx
  obtain ⟨rs, s4, k, w, e12, hr, h4⟩ := a12_ok (sc := sc) (tn := tn) (v3 := .dat (.tuple (L.map sg))) (v4 := .dat x.d) (v6 := .dat (.str (PyData.tuple [x.d, y.d]).shown)) (v7 := .dat (.tuple [.str "told", .tuple ((Doc.chg [] x y).map rd)])) (v10 := .un) (v11 := .un) (v12 := v12) (v13 := v13) (v14 := v14) (v15 := v15) h3 (by omega) gx hx gy (show y.size ≤ 31 by omega)
  obtain ⟨v8', e13⟩ := a13_ok (sc := sc) (s := s4) (tn := tn) (v3 := .dat (.tuple (L.map sg))) (v5 := .dat y.d) (v6 := .dat (.str (PyData.tuple [x.d, y.d]).shown)) (v7 := .dat (.tuple [.str "told", .tuple ((Doc.chg [] x y).map rd)])) (v9 := .dat (.list ((pathsOf x).map pd))) (v10 := .un) (v11 := .un) (v12 := k) (v13 := w) (v14 := v14) (v15 := v15) gx hx hr
  refine ⟨s4, .dat (.tuple (L.map sg)), .dat x.d, .dat y.d, .dat (.str (PyData.tuple [x.d, y.d]).shown), .dat (.tuple [.str "told", .tuple ((Doc.chg [] x y).map rd)]), v8', .dat (.list ((pathsOf x).map pd)), .un, w, ?_, h4.mono (by omega)⟩
  unfold TURN
  rw [p_seqS, e3, ot_seq_next, p_seqS, e4, ot_seq_next, p_seqS, e5, ot_seq_next, p_seqS, a6_ok gx (by omega) gy (by omega), ot_seq_next, p_seqS, a7_ok gx hx gy (by omega), ot_seq_next, p_seqS, a8_ok gx hx gy (by omega), ot_seq_next, p_seqS, a9_ok gx hx gy (by omega), ot_seq_next, p_seqS]
  have e10 : ∀ ρ : En, A10 ρ = .next (ρ.set 8 (.own [])) := fun ρ => by
    unfold A10
    simp -implicitDefEqProofs only [p_seqS, p_ifS, p_orT, p_andT, p_andV, p_orV, p_ifT, p_bin2, p_bin2B, p_chain3, p_bool, p_dIntOp, p_add, p_intOf, p_callR_ok, p_callR_err, p_gN, p_gT2, p_gsNil, p_gsCons, p_seqI_t, p_seqI_l, p_itm_t, p_itm_l, p_cst, p_un1, p_binN, p_notV, p_newL, p_tup, p_lst, p_slc, p_oNo, p_oYes, p_aNil, p_aCons, p_aStar, p_callF, p_callB, p_tval, p_notT, p_argI, p_setS, p_setNS, p_asgS, p_retS, p_exprS, p_forS, p_rtn, p_rtr, p_rte, mk0, mk1, mk2, mk3, okS0, okS1, okS2, okS3, rdVar, List.getElem?_cons_zero, List.getElem?_cons_succ, List.set_cons_zero, List.set_cons_succ, rs_bind_ok, rs_bind_err, rs_bind_bad, rs_map_ok, rs_map_err, rs_st_ok, rs_st_err, rs_ofO_some, ot_seq_next, ot_seq_ret, ot_seq_err, ot_seq_brk, ot_seq_cont, Option.bind_some, Option.map_some, if_true, Bool.false_eq_true, if_false, Bool.not_true, Bool.not_false, methF, owOf, setOw]
  rw [e10, ot_seq_next]
  simp only [List.set_cons_succ, List.set_cons_zero]
  rw [p_seqS, a11_ok gx hx, ot_seq_next, p_seqS, e12, ot_seq_next, p_seqS, e13, ot_seq_next, a14_ok gx hx gy (by omega)]
theorem lab_b : isLab "b" = true := by decide +kernel
theorem ix_last {xs : List PyData} {d : PyData} : dIx (.list (xs ++ [d])) (.int (-1)) = some d := by
  show atI _ _ = _
  unfold atI ixN
  rw [if_neg (by decide), if_pos (by simp; omega), Option.bind_some]
  have e : ((-1 : Int) + (((xs ++ [d]).length : Nat) : Int)).toNat = xs.length := by
    rw [List.length_append, List.length_singleton]
    omega
  rw [e]
  simp
theorem ex200 : 200 ≤ exB 12 := by decide
theorem law_true_of (ns : List Int) (hn : ns.length ≤ 63) : F_law [.list (dInts ns)] = .ok (.bool true) := by
  show runF 16 1 B_law _ = _
  rw [runF_at (m := 1) rfl]
  have hbg := big
  have e0 : initE 16 [.list (dInts ns)] = [.dat (.list (dInts ns)), .un, .un, .un, .un, .un, .un, .un, .un, .un, .un, .un, .un, .un, .un, .un] := rfl
  obtain ⟨xs, es, hxs, hxl⟩ := law_stream_ok ns hn
  have h0 : St 0 [.list (dInts xs), .int 0] := ⟨xs, 0, rfl, hxs, Nat.le_refl _, hxl⟩
  obtain ⟨ρ', e, s, tn, w3, w4, w5, w6, w7, w8, w9, w12, w13, rfl, hs⟩ := forF_inv (t := gN 2) (body := TURN) (fun i ρ => ∃ (s : List PyData) (tn w3 w4 w5 w6 w7 w8 w9 w12 w13 : Sl), ρ = [.dat (.list (dInts ns)), .own s, tn, w3, w4, w5, w6, w7, w8, w9, .un, .un, w12, w13, .un, .un] ∧ St (400 * i) s) ((List.range 6).map fun i => PyData.int (i : Nat)) 0
    [.dat (.list (dInts ns)), .own [.list (dInts xs), .int 0], .un, .un, .un, .un, .un, .un, .un, .un, .un, .un, .un, .un, .un, .un] ⟨_, _, _, _, _, _, _, _, _, _, _, rfl, h0⟩ (by
      rintro i d ρ hd ⟨s, tn, w3, w4, w5, w6, w7, w8, w9, w12, w13, rfl, hs⟩
      rw [Nat.zero_add] at hs ⊢
      have hi : i < 6 := by
        have := (List.getElem?_eq_some_iff.mp hd).1
        simpa using this
      obtain ⟨s', a3, a4, a5, a6, a7, a8, a9, a12, a13, e, h'⟩ := turn_ok (sc := .dat (.list (dInts ns))) (tn := .dat d) (v3 := w3) (v4 := w4) (v5 := w5) (v6 := w6) (v7 := w7) (v8 := w8) (v9 := w9) (v12 := w12) (v13 := w13) (v14 := .un) (v15 := .un) hs (by omega)
      exact ⟨_, _, rfl, .inl e, s', _, _, _, _, _, _, _, _, _, _, rfl, h'.mono (by omega)⟩)
  have hs : St 2400 s := hs.mono (by simp)
  obtain ⟨wh, e1, gw, zw, dw⟩ := law_exact_ok 12 150 (by omega) (by decide)
  have e1 : F__law_exact 12 [.int 150] = .ok wh.d := e1
  have fw : wh.fit := by unfold Doc.fit; omega
  have mn : F__law_nodes 80 [wh.d, .tuple []] = _ := law_nodes_ok 80 wh [] (by omega) fw (by simp; omega)
  have hsw : Std wh := ⟨by unfold bigD; omega, gw⟩
  have hne : Doc.nodes [] wh ≠ [] := by
    intro q
    have := Doc.nodes_len wh []
    rw [q, zw] at this
    cases this
  obtain ⟨N, ⟨p, z⟩, hN⟩ := (List.eq_nil_or_concat (Doc.nodes [] wh)).resolve_left hne
  rw [List.concat_eq_append] at hN
  obtain ⟨p', ep, ha⟩ := mem_nodes wh [] p z (by rw [hN]; simp)
  rw [List.nil_append] at ep
  subst ep
  have hpd := Doc.at_depth ha
  have el : dIx (.list ((Doc.nodes [] wh).map nd)) (.int (-1)) = some (nd (p, z)) := by
    rw [hN, List.map_append]
    exact ix_last
  obtain ⟨r, s2, e2, l2, h2⟩ := law_next_ok (m := 2) hs (by omega) (by omega)
  have w2 : (151 : Int) + (r : Nat) = ((151 + r : Nat) : Int) := by omega
  obtain ⟨o, e3, go, zo, do'⟩ := law_exact_ok 12 (151 + r) (by omega) (Nat.le_trans (by omega) ex200)
  have hrow : ∀ q ∈ [((p, .doc o) : Row), (p, .lab "b")], rowOk q := by
    intro q hq
    simp only [List.mem_cons, List.not_mem_nil, or_false] at hq
    rcases hq with rfl | rfl
    · exact ⟨by show p.length ≤ 50000; omega, by show o.depth ≤ 30 ∧ o.small ∧ o.fit; exact ⟨by omega, Doc.good_small go, by unfold Doc.fit; omega⟩⟩
    · exact ⟨by show p.length ≤ 50000; omega, by show (Str.ofString "b").length ≤ sizeLine; decide +kernel⟩
  have e4 : F__law_told [.int 1, wh.d, .tuple [.tuple [pd p, o.d], .tuple [pd p, .str "b"]]] = _ := told_changed wh [((p, .doc o) : Row), (p, .lab "b")] hsw hrow
  have e5 : F__law_due [wh.d, .tuple [.tuple [pd p, o.d], .tuple [pd p, .str "b"]]] = _ := law_due_ok wh [((p, .doc o) : Row), (p, .lab "b")] hsw hrow
  have e6 : F__law_same [outD (app wh [((p, .doc o) : Row), (p, .lab "b")]), outD (app wh [((p, .doc o) : Row), (p, .lab "b")])] = _ := same_of rfl (rp_out hsw _) (by omega) (by omega)
  have r6 : rng1 [.int 6] = some ((List.range 6).map fun i => PyData.int (i : Nat)) := rng1_nat (k := 6) (by omega)
  have en : dNeg (.int 1) = some (.int (-1)) := rfl
  rw [e0, B_law_eq]
  unfold Z1 Z2 Z3 Z4 Z5
  simp -implicitDefEqProofs only [p_seqS, p_ifS, p_orT, p_andT, p_andV, p_orV, p_ifT, p_bin2, p_bin2B, p_chain3, p_bool, p_dIntOp, p_add, p_intOf, p_callR_ok, p_callR_err, p_gN, p_gT2, p_gsNil, p_gsCons, p_seqI_t, p_seqI_l, p_itm_t, p_itm_l, p_cst, p_un1, p_binN, p_notV, p_newL, p_tup, p_lst, p_slc, p_oNo, p_oYes, p_aNil, p_aCons, p_aStar, p_callF, p_callB, p_tval, p_notT, p_argI, p_setS, p_setNS, p_asgS, p_retS, p_exprS, p_forS, p_rtn, p_rtr, p_rte, mk0, mk1, mk2, mk3, okS0, okS1, okS2, okS3, rdVar, List.getElem?_cons_zero, List.getElem?_cons_succ, List.set_cons_zero, List.set_cons_succ, rs_bind_ok, rs_bind_err, rs_bind_bad, rs_map_ok, rs_map_err, rs_st_ok, rs_st_err, rs_ofO_some, ot_seq_next, ot_seq_ret, ot_seq_err, ot_seq_brk, ot_seq_cont, Option.bind_some, Option.map_some, if_true, Bool.false_eq_true, if_false, Bool.not_true, Bool.not_false, methF, owOf, setOw, p_callSF, p_ixvF, lstAt, es, r6, e, e1, mn, en, el, nd, ix_t0, e2, w2, e3, e4, e5, e6]
end
theorem law_true : ∀ ns : List Int, ns.length ≤ 63 → F_law [.list (dInts ns)] = .ok (.bool true) := law_true_of
end ML
set_option maxRecDepth 100000
set_option maxHeartbeats 0
open PySem PySem.W PySem.Calls PyProof.Rows
theorem PySem.Challenge.cw_recastform_k51_changes_of_documents_holds : PySem.Challenge.rw_recastform_k51_changes_of_documents.Holds := by
  w_on; o_law
  refine HandSHeadRun.head_any (r := ML.lawRow) (q := view ML.lawRow.prog [49]) (H := ML.lawHook) (ob := ML.lawOb) (M := 4000) (loose := ML.lawLoose) (d := HandSHeadRun.topDef ML.lawRow.prog 49) (kwd := []) ML.lawOb_eq
    (by kernel_rfl) (fun s => by kernel_rfl) ML.lawRun (by kernel_rfl) (by kernel_rfl) (by kernel_rfl) (by rfl) (by first | assumption | decide +kernel) (by decide +kernel) ⟨rfl, rfl, rfl, rfl, rfl, by decide +kernel⟩ ?hw ?hc
  case hw => w_witness2
  case hc =>
    refine ML.walk_endD (l := PySem.Challenge.rw_recastform_k51_changes_of_documents) (n := 63) (k := 158) (x := "script") rfl (by decide) (by kernel_rfl) ⟨rfl, by decide, by decide⟩ ?F
    intro w mg fa h Y G hmg
    obtain ⟨K, KX, ck, c⟩ := Y
    refine ⟨K, ML.F_law, KX, ML.law_true, fun base _ _ => ?_⟩
    have e : (HandSHeadRun.topDef ML.lawRow.prog 49).name = ("law" : PySem.Str) := by kernel_rfl
    rw [e]
    exact ML.df_law (ML.facts_of KX G ck c)
