import PyProof.Rows.All
import Wide.All
import OpenK.AllK
import Wide.FinOn
import HandS.ForMost
import HandS.ForExc
import HandS.CallSlots
import HandS.Nested
import HandS.Flow
import KE.KDictDisplayH
import HandS.TupAny
import HandS.IsInst
import HandS.TryMany
import HandS.Small
import HandS.ExcInit
import HandS.ExcField
import HandS.Wide
import HandS.Deep
import HandS.Zip
import PyProof.Rows.RegReprOcc
import HandS.Property
import HandS.OwnEq
import HandS.Replace
import HandS.ReplaceLit
import HandS.ReplaceList
import PyProof.EnumMake
import HandS.Zip0
import HandS.Dict
import HandS.StrMore
import HandS.More
import HandS.ReplaceDef
import PySem.Challenge.RW_figureread_k02_whole_numbers_read
set_option Elab.async false
set_option linter.all false
set_option maxRecDepth 100000
namespace DL
open PySem PySem.Spec PyProof.Rows L2

inductive D where
  | non | bl (b : Bool) | int (i : Int) | str (x : List Nat) | tup (xs : List D) | ref (a : Addr)

inductive MO where
  | lst (xs : List D)
  | ins (C dx : Addr) (ns : List Str) (ds : List D)
  | dcK (kvs : List (Key × D))
  | dcN (kvs : List (D × D))
  | xd (f : Str) (d : D)
  | raw (o : HO)

abbrev Env := List (Option D)
abbrev DM := Addr → Option MO
abbrev DQ := D → DM → Prop
abbrev DW := Addr → List D → Env → DM → Prop
abbrev DX := Addr → List D → DM → Prop
abbrev DE := DW → Env → DM → DQ → Prop
abbrev DT := DW → Env → DM → (Bool → DM → Prop) → Prop
abbrev DA := DW → Env → DM → (List D → DM → Prop) → Prop
structure DEnds where
  nx : Env → DM → Prop
  rt : DQ
  bk : Env → DM → Prop
  ct : Env → DM → Prop
abbrev DS := DW → DEnds → Env → DM → Prop
abbrev DSp := List D → DM → DQ → DX → Prop
def mupd (M : DM) (a : Addr) (o : MO) : DM := fun b => if b = a then some o else M b
theorem mupd_same {M : DM} {a : Addr} {o : MO} : mupd M a o a = some o := if_pos rfl
theorem mupd_ne {M : DM} {a b : Addr} {o : MO} (h : b ≠ a) : mupd M a o b = M b := if_neg h
theorem mupd_upd {M : DM} {a : Addr} {o u : MO} : mupd (mupd M a o) a u = mupd M a u := by
  funext b; unfold mupd; split <;> rfl
def MSub (M M' : DM) : Prop := ∀ a o, M a = some o → M' a = some o
theorem MSub.refl (M : DM) : MSub M M := fun _ _ h => h
theorem MSub.trans {M1 M2 M3 : DM} (h : MSub M1 M2) (g : MSub M2 M3) : MSub M1 M3 := fun a o e => g a o (h a o e)
theorem MSub.new {M : DM} {a : Addr} {o : MO} (h : M a = none) : MSub M (mupd M a o) := fun b u e => by
  by_cases hb : b = a
  · subst hb; rw [h] at e; cases e
  · rw [mupd_ne hb]; exact e

def sV (x : List Nat) : Str := ⟨x.toArray⟩

structure ZP where
  K : PySem.W.Frag
  T : List NdefX.NTab
  P : Program
  w : World
mutual
def nk : D → NestedKey
  | .non => .none
  | .bl b => .num (if b then 1 else 0)
  | .int i => .num i
  | .str x => .text (sV x)
  | .tup ds => .tup (nks ds)
  | .ref _ => .none
def nks : List D → List NestedKey
  | [] => []
  | d :: ds => nk d :: nks ds
end
mutual
def kdB : D → Bool
  | .ref _ => false
  | .tup ds => kdsB ds
  | _ => true
def kdsB : List D → Bool
  | [] => true
  | d :: ds => kdB d && kdsB ds
end
def DNo (P : Program) (w : World) (a : Addr) (xs : List (NestedKey × Addr × V)) : HO := .ext fun h => xs.length ≤ sizeLine ∧ (a == sysModules) = false ∧
  ∃ ys : List (NestedKey × Addr × Value), Paired (fun (p : NestedKey × Addr × V) (q : NestedKey × Addr × Value) => p.1 = q.1 ∧ p.2.1 = q.2.1 ∧ RelV p.2.2 q.2.2) xs ys ∧
    ∃ o es ep, h.get? a = some o ∧ o.ExactDict ∧ o.data = .dict es ep ∧ es.toList = ys.map (entryOfKey (nestedKind P w)) ∧ (ys.map (·.1)).Nodup

section
variable (K : PySem.W.Frag) (H : Hp)
mutual
def RD : D → V → Prop
  | .non, v => v = .non
  | .bl b, v => v = .bl b
  | .int i, v => v = .int i
  | .str x, v => v = .str (sV x)
  | .ref a, v => v = .ref a
  | .tup ds, v => ∃ a vs, v = .ref a ∧ SqT K H a vs ∧ RDs ds vs
def RDs : List D → List V → Prop
  | [], vs => vs = []
  | d :: ds, vs => ∃ v r, vs = v :: r ∧ RD d v ∧ RDs ds r
end
def RSt (σ : L2.St) (ρ : Env) : Prop := σ.length = ρ.length ∧ ∀ (i : Nat) (d : D), ρ[i]? = some (some d) → ∃ v, σ[i]? = some (some v) ∧ RD K H d v
def RX (d : Option Addr) (fs : List D) : Prop := (d = none ∧ fs = []) ∨ ∃ dx, d = some dx ∧ fs = [D.ref dx]
end
def RO (Z : ZP) (H : Hp) (a : Addr) : Option HO → MO → Prop
  | o, .lst xs => ∃ vs, o = some (.lst vs) ∧ RDs Z.K H xs vs
  | o, .ins C dx ns ds => ∃ vs, o = some (.ins C dx (ns.zip vs)) ∧ RDs Z.K H ds vs ∧ ns.length = ds.length ∧ ns.Nodup
  | o, .dcK kvs => ∃ vs, o = some (.dK ((kvs.map (·.1)).zip vs)) ∧ RDs Z.K H (kvs.map (·.2)) vs
  | o, .dcN kvs => ∃ xs : List (NestedKey × Addr × V), o = some (DNo Z.P Z.w a xs) ∧ xs.map (·.1) = kvs.map (fun p => nk p.1) ∧ RDs Z.K H (kvs.map (·.1)) (xs.map fun x => V.ref x.2.1) ∧ RDs Z.K H (kvs.map (·.2)) (xs.map fun x => x.2.2) ∧ ∀ p ∈ kvs, kdB p.1 = true ∧ (nk p.1).depth ≤ 8
  | o, .xd f d => ∃ v, o = some (.xd [(f, v)]) ∧ RD Z.K H d v
  | o, .raw u => o = some u
def RM (Z : ZP) (H : Hp) (M : DM) : Prop := ∀ a o, M a = some o → RO Z H a (H a) o
def KeepT (K : PySem.W.Frag) (H H' : Hp) : Prop := ∀ a xs, SqT K H a xs → SqT K H' a xs
theorem KeepT.refl {K : PySem.W.Frag} {H : Hp} : KeepT K H H := fun _ _ h => h
theorem KeepT.trans {K : PySem.W.Frag} {H1 H2 H3 : Hp} (h : KeepT K H1 H2) (g : KeepT K H2 H3) : KeepT K H1 H3 := fun a xs e => g a xs (h a xs e)
theorem sqt_ne {K : PySem.W.Frag} {H : Hp} {a : Addr} {o : HO} (h : H a = none ∨ H a = some o) (ho : ∀ xs, o ≠ .tup xs) (hf : ∀ b u, o ≠ .frz b u) (u : HO) : ∀ b ys, SqT K H b ys → SqT K (upd H a u) b ys := fun b ys e => by
  have key : ∀ w, H b = some w → (w = .tup ys ∨ ∃ o' , w = .frz o' (.tup ys)) → b ≠ a := fun w e1 e2 z => by
    subst z
    rcases h with h | h
    · rw [h] at e1; cases e1
    · rw [h] at e1; cases e1
      rcases e2 with e2 | ⟨o', e2⟩
      · exact ho _ e2
      · exact hf _ _ e2
  rcases e with (e | ⟨o', e⟩) | e
  · exact .inl (.inl (by rw [upd_ne (key _ e (.inl rfl))]; exact e))
  · exact .inl (.inr ⟨o', by rw [upd_ne (key _ e (.inr ⟨o', rfl⟩))]; exact e⟩)
  · exact .inr e
theorem keepT_new {K : PySem.W.Frag} {H : Hp} {a : Addr} {u : HO} (h : H a = none) : KeepT K H (upd H a u) := fun b ys e => sqt_ne (o := .lst []) (.inl h) (fun _ z => nomatch z) (fun _ _ z => nomatch z) u b ys e

section
variable {K : PySem.W.Frag} {H H' : Hp}
mutual
theorem RD.keep (k : KeepT K H H') : ∀ (d : D) (v : V), RD K H d v → RD K H' d v
  | .non, _, h => h
  | .bl _, _, h => h
  | .int _, _, h => h
  | .str _, _, h => h
  | .ref _, _, h => h
  | .tup ds, _, h => by
    rw [RD] at h ⊢
    obtain ⟨a, vs, e, s, r⟩ := h
    exact ⟨a, vs, e, k _ _ s, RDs.keep k ds vs r⟩
theorem RDs.keep (k : KeepT K H H') : ∀ (ds : List D) (vs : List V), RDs K H ds vs → RDs K H' ds vs
  | [], _, h => h
  | d :: ds, _, h => by
    rw [RDs] at h ⊢
    obtain ⟨v, r, e, h1, h2⟩ := h
    exact ⟨v, r, e, RD.keep k d v h1, RDs.keep k ds r h2⟩
end
theorem RDs.length : ∀ {ds : List D} {vs : List V}, RDs K H ds vs → vs.length = ds.length
  | [], _, h => by rw [RDs] at h; rw [h]; rfl
  | d :: ds, _, h => by
    rw [RDs] at h
    obtain ⟨v, r, e, h1, h2⟩ := h
    rw [e, List.length_cons, List.length_cons, RDs.length h2]
theorem RDs.get : ∀ {ds : List D} {vs : List V} {i : Nat} {d : D}, RDs K H ds vs → ds[i]? = some d → ∃ v, vs[i]? = some v ∧ RD K H d v
  | [], _, i, d, h, e => by simp at e
  | d' :: ds, _, i, d, h, e => by
    rw [RDs] at h
    obtain ⟨v, r, e', h1, h2⟩ := h
    subst e'
    cases i with
    | zero => simp at e; subst e; exact ⟨v, rfl, h1⟩
    | succ i => simpa using RDs.get (i := i) h2 (by simpa using e)
theorem RDs.cons {d : D} {v : V} {ds : List D} {vs : List V} (h : RD K H d v) (g : RDs K H ds vs) : RDs K H (d :: ds) (v :: vs) := by
  rw [RDs]; exact ⟨v, vs, rfl, h, g⟩
theorem RDs.nil : RDs K H [] [] := by rw [RDs]
theorem RDs.append : ∀ {ds es : List D} {vs ws : List V}, RDs K H ds vs → RDs K H es ws → RDs K H (ds ++ es) (vs ++ ws)
  | [], _, _, _, h, g => by rw [RDs] at h; subst h; exact g
  | d :: ds, _, _, _, h, g => by
    rw [RDs] at h
    obtain ⟨v, r, e', h1, h2⟩ := h
    subst e'
    exact RDs.cons h1 (RDs.append h2 g)
theorem RDs.set : ∀ {ds : List D} {vs : List V} {d : D} {v : V} (i : Nat), RDs K H ds vs → RD K H d v → RDs K H (ds.set i d) (vs.set i v)
  | [], _, _, _, _, h, g => by rw [RDs] at h; subst h; exact RDs.nil
  | d' :: ds, _, d, v, i, h, g => by
    rw [RDs] at h
    obtain ⟨v', r, e', h1, h2⟩ := h
    subst e'
    cases i with
    | zero => exact RDs.cons g h2
    | succ i => exact RDs.cons h1 (RDs.set i h2 g)
theorem RDs.take : ∀ {ds : List D} {vs : List V} (i : Nat), RDs K H ds vs → RDs K H (ds.take i) (vs.take i)
  | [], _, i, h => by rw [RDs] at h; subst h; simp; exact RDs.nil
  | d' :: ds, _, i, h => by
    rw [RDs] at h
    obtain ⟨v', r, e', h1, h2⟩ := h
    subst e'
    cases i with
    | zero => exact RDs.nil
    | succ i => exact RDs.cons h1 (RDs.take i h2)
theorem RDs.drop : ∀ {ds : List D} {vs : List V} (i : Nat), RDs K H ds vs → RDs K H (ds.drop i) (vs.drop i)
  | [], _, i, h => by rw [RDs] at h; subst h; simp; exact RDs.nil
  | d' :: ds, _, i, h => by
    rw [RDs] at h
    obtain ⟨v', r, e', h1, h2⟩ := h
    subst e'
    cases i with
    | zero => exact RDs.cons h1 h2
    | succ i => exact RDs.drop i h2
theorem RSt.keep (k : KeepT K H H') {σ : L2.St} {ρ : Env} (h : RSt K H σ ρ) : RSt K H' σ ρ :=
  ⟨h.1, fun i d e => let ⟨v, e1, r⟩ := h.2 i d e; ⟨v, e1, RD.keep k _ _ r⟩⟩
theorem RSt.set {σ : L2.St} {ρ : Env} {i : Nat} {d : D} {v : V} (h : RSt K H σ ρ) (r : RD K H d v) : RSt K H (σ.set i (some v)) (ρ.set i (some d)) := by
  refine ⟨by simpa using h.1, fun (j : Nat) e he => ?_⟩
  by_cases hj : i = j
  · subst hj
    by_cases hi : i < ρ.length
    · rw [List.getElem?_set_self hi] at he
      cases he
      exact ⟨v, List.getElem?_set_self (by rw [h.1]; exact hi), r⟩
    · rw [List.getElem?_eq_none (by simpa using Nat.le_of_not_lt hi)] at he
      cases he
  · rw [List.getElem?_set_ne hj] at he ⊢
    exact h.2 j e he
end

section
variable {Z : ZP} {H H' : Hp}
theorem RO.keep {Z : ZP} {H H' : Hp} {a : Addr} (k : KeepT Z.K H H') : ∀ {o : Option HO} {m : MO}, RO Z H a o m → RO Z H' a o m
  | o, .lst xs, h => let ⟨vs, e, r⟩ := h; ⟨vs, e, RDs.keep k _ _ r⟩
  | o, .ins C dx ns ds, h => let ⟨vs, e, r, q⟩ := h; ⟨vs, e, RDs.keep k _ _ r, q⟩
  | o, .dcK kvs, h => let ⟨vs, e, r⟩ := h; ⟨vs, e, RDs.keep k _ _ r⟩
  | o, .dcN kvs, h => let ⟨xs, e, e2, r1, r2, q⟩ := h; ⟨xs, e, e2, RDs.keep k _ _ r1, RDs.keep k _ _ r2, q⟩
  | o, .xd f d, h => let ⟨v, e, r⟩ := h; ⟨v, e, RD.keep k _ _ r⟩
  | o, .raw u, h => h
theorem RO.some {Z : ZP} {H : Hp} {a : Addr} : ∀ {o : Option HO} {m : MO}, RO Z H a o m → ∃ u, o = some u
  | o, .lst xs, h => let ⟨vs, e, r⟩ := h; ⟨_, e⟩
  | o, .ins C dx ns ds, h => let ⟨vs, e, r⟩ := h; ⟨_, e⟩
  | o, .dcK kvs, h => let ⟨vs, e, r⟩ := h; ⟨_, e⟩
  | o, .dcN kvs, h => let ⟨xs, e, r⟩ := h; ⟨_, e⟩
  | o, .xd f d, h => let ⟨v, e, r⟩ := h; ⟨_, e⟩
  | o, .raw u, h => ⟨_, h⟩
theorem RM.sub {M M' : DM} (h : RM Z H M') (s : MSub M M') : RM Z H M := fun a o e => h a o (s a o e)
theorem RM.free {M : DM} {a : Addr} (h : RM Z H M) (e : H a = none) : M a = none := by
  cases q : M a with
  | none => rfl
  | some o =>
    obtain ⟨u, z⟩ := (h a o q).some
    rw [e] at z; cases z
theorem RM.upd {M : DM} {a : Addr} {o : MO} {u : HO} (h : RM Z H M) (k : KeepT Z.K H (L2.upd H a u)) (r : RO Z (L2.upd H a u) a (some u) o) : RM Z (L2.upd H a u) (mupd M a o) := fun b p e => by
  by_cases hb : b = a
  · subst hb
    rw [mupd_same] at e; cases e
    rw [upd_same]; exact r
  · rw [mupd_ne hb] at e
    rw [upd_ne hb]
    exact (h b p e).keep k
theorem RM.laid {M : DM} {a : Addr} {u : HO} (h : RM Z H M) (hn : H a = none) : RM Z (L2.upd H a u) M := fun b p e => by
  have hb : b ≠ a := fun z => by
    subst z
    obtain ⟨u, z⟩ := (h b p e).some
    rw [hn] at z; cases z
  rw [upd_ne hb]
  exact (h b p e).keep (keepT_new hn)
end
structure Nx (Z : ZP) (H H' : Hp) (M' : DM) : Prop where
  kp : KeepT Z.K H H'
  mm : RM Z H' M'
  tb : NdefX.TabsN Z.T H'
structure Rel (Z : ZP) (G : Hp) (σ : L2.St) (H : Hp) (ρ : Env) (M : DM) : Prop where
  kp : KeepT Z.K G H
  st : RSt Z.K H σ ρ
  mm : RM Z H M
  tb : NdefX.TabsN Z.T H
theorem Rel.nx {Z : ZP} {G : Hp} {σ : L2.St} {H H' : Hp} {ρ : Env} {M M' : DM} (r : Rel Z G σ H ρ M) (n : Nx Z H H' M') : Rel Z G σ H' ρ M' :=
  ⟨r.kp.trans n.kp, r.st.keep n.kp, n.mm, n.tb⟩
theorem Rel.stay {Z : ZP} {G : Hp} {σ : L2.St} {H : Hp} {ρ : Env} {M : DM} (r : Rel Z G σ H ρ M) : Nx Z H H M := ⟨KeepT.refl, r.mm, r.tb⟩
theorem Nx.trans {Z : ZP} {H H1 H2 : Hp} {M1 M2 : DM} (a : Nx Z H H1 M1) (b : Nx Z H1 H2 M2) : Nx Z H H2 M2 := ⟨a.kp.trans b.kp, b.mm, b.tb⟩
theorem Nx.sub {Z : ZP} {H H1 : Hp} {M1 M2 : DM} (a : Nx Z H H1 M1) (s : MSub M2 M1) : Nx Z H H1 M2 := ⟨a.kp, a.mm.sub s, a.tb⟩

section
variable (Z : ZP) (G : Hp)
def lE (t : Env → DM → DQ → Prop) : TE := fun σ H Q => ∃ ρ M R, Rel Z G σ H ρ M ∧ t ρ M R ∧ ∀ d M' v H', R d M' → Nx Z H H' M' → RD Z.K H' d v → Q v H'
def lT (t : Env → DM → (Bool → DM → Prop) → Prop) : TT := fun σ H Q => ∃ ρ M R, Rel Z G σ H ρ M ∧ t ρ M R ∧ ∀ b M' H', R b M' → Nx Z H H' M' → Q b H'
def lA (t : Env → DM → (List D → DM → Prop) → Prop) : TA := fun σ H Q => ∃ ρ M R, Rel Z G σ H ρ M ∧ t ρ M R ∧ ∀ ds M' vs H', R ds M' → Nx Z H H' M' → RDs Z.K H' ds vs → Q vs H'
def lS (t : DEnds → Env → DM → Prop) : TS := fun D σ H => ∃ ρ M E, Rel Z G σ H ρ M ∧ t E ρ M ∧
  (∀ ρ' M' σ' H', E.nx ρ' M' → KeepT Z.K H H' → Rel Z G σ' H' ρ' M' → D.nx σ' H') ∧
  (∀ d M' v H', E.rt d M' → Nx Z H H' M' → RD Z.K H' d v → D.rt v H') ∧
  (∀ ρ' M' σ' H', E.bk ρ' M' → KeepT Z.K H H' → Rel Z G σ' H' ρ' M' → D.bk σ' H') ∧
  (∀ ρ' M' σ' H', E.ct ρ' M' → KeepT Z.K H H' → Rel Z G σ' H' ρ' M' → D.ct σ' H')
def lW (W : DW) : WX := fun cls d σ H => ∃ C fs ρ M, cls = .ref C ∧ RX d fs ∧ Rel Z G σ H ρ M ∧ W C fs ρ M
def lSp (sp : DSp) : Sp := fun vs H Q E => ∃ ds M R EX, RDs Z.K H ds vs ∧ RM Z H M ∧ NdefX.TabsN Z.T H ∧ sp ds M R EX ∧
  (∀ d M' v H', R d M' → Nx Z H H' M' → RD Z.K H' d v → Q v H') ∧ (∀ C fs M' d H', EX C fs M' → Nx Z H H' M' → RX d fs → E (.ref C) d H')
end

structure QE (Z : ZP) (G : Hp) (X : Cx) (e : Expr) (t : DE) : Prop where
  pe : ∀ W, Takes X (lW Z G W) → PE X e (lE Z G (t W))
structure QT (Z : ZP) (G : Hp) (X : Cx) (e : Expr) (t : DT) : Prop where
  pt : ∀ W, Takes X (lW Z G W) → PT X e (lT Z G (t W))
structure QW (Z : ZP) (G : Hp) (X : Cx) (e : Expr) (t : DT) : Prop where
  pw : ∀ W, Takes X (lW Z G W) → PW X e (lT Z G (t W))
structure QA (Z : ZP) (G : Hp) (X : Cx) (es : List Expr) (t : DA) : Prop where
  pa : ∀ W, Takes X (lW Z G W) → PA X es (lA Z G (t W))
structure QS (Z : ZP) (G : Hp) (X : Cx) (s : Stmt) (t : DS) : Prop where
  ps : ∀ W, Takes X (lW Z G W) → PS X s (lS Z G (t W))
structure QSs (Z : ZP) (G : Hp) (X : Cx) (s : List Stmt) (t : DS) : Prop where
  pss : ∀ W, Takes X (lW Z G W) → PSs X s (lS Z G (t W))

theorem pe_of {X : Cx} {e : Expr} {t t' : TE} (h : PE X e t) (w : ∀ σ H Q, t' σ H Q → t σ H Q) : PE X e t' := ⟨fun pins s σ H Q I q => h.run pins s σ H Q I (w σ H Q q)⟩
theorem pt_of {X : Cx} {e : Expr} {t t' : TT} (h : PT X e t) (w : ∀ σ H Q, t' σ H Q → t σ H Q) : PT X e t' := ⟨fun pins s σ H Q I q => h.run pins s σ H Q I (w σ H Q q)⟩
theorem pw_of {X : Cx} {e : Expr} {t t' : TT} (h : PW X e t) (w : ∀ σ H Q, t' σ H Q → t σ H Q) : PW X e t' := ⟨fun wh pins s σ H Q I q => h.run wh pins s σ H Q I (w σ H Q q)⟩
theorem pa_of {X : Cx} {e : List Expr} {t t' : TA} (h : PA X e t) (w : ∀ σ H Q, t' σ H Q → t σ H Q) : PA X e t' := ⟨fun pos pins s σ H Q I q => h.run pos pins s σ H Q I (w σ H Q q)⟩
theorem ps_of {X : Cx} {e : Stmt} {t t' : TS} (h : PS X e t) (w : ∀ D σ H, t' D σ H → t D σ H) : PS X e t' := ⟨fun pins s σ H D I q => h.run pins s σ H D I (w D σ H q)⟩
theorem pss_of {X : Cx} {e : List Stmt} {t t' : TS} (h : PSs X e t) (w : ∀ D σ H, t' D σ H → t D σ H) : PSs X e t' := ⟨fun pins s σ H D I q => h.run pins s σ H D I (w D σ H q)⟩
end DL

set_option Elab.async false
set_option linter.all false
set_option maxRecDepth 100000
namespace DL
open PySem PySem.Spec PyProof.Rows L2

structure Here (Z : ZP) (H : Hp) (M : DM) : Prop where
  mm : RM Z H M
  tb : NdefX.TabsN Z.T H
section
variable {Z : ZP} {G H H' : Hp} {M M' : DM} {σ : L2.St} {ρ : Env}
theorem Rel.here (r : Rel Z G σ H ρ M) : Here Z H M := ⟨r.mm, r.tb⟩
theorem Nx.here (n : Nx Z H H' M') : Here Z H' M' := ⟨n.mm, n.tb⟩
theorem Here.stay (h : Here Z H M) : Nx Z H H M := ⟨KeepT.refl, h.mm, h.tb⟩
theorem tabs_new {T : List NdefX.NTab} {p : Addr} {o : HO} (t : NdefX.TabsN T H) (h : H p = none) : NdefX.TabsN T (upd H p o) :=
  t.ext fun b u e => by rw [upd_ne (ne_of_none e h)]; exact e
theorem Here.laid (h : Here Z H M) {p : Addr} {o : HO} (hp : H p = none) : Nx Z H (upd H p o) M :=
  ⟨keepT_new hp, h.mm.laid hp, tabs_new h.tb hp⟩
theorem rd_tup {ds : List D} {vs : List V} {p : Addr} (h : H p = none) (r : RDs Z.K H ds vs) : RD Z.K (upd H p (.tup vs)) (.tup ds) (.ref p) := by
  rw [RD]
  exact ⟨p, vs, rfl, SqT.of upd_same, RDs.keep (keepT_new h) _ _ r⟩
theorem Here.lst (h : Here Z H M) {p : Addr} {ds : List D} {vs : List V} (hp : H p = none) (r : RDs Z.K H ds vs) : Nx Z H (upd H p (.lst vs)) (mupd M p (.lst ds)) :=
  ⟨keepT_new hp, h.mm.upd (keepT_new hp) ⟨vs, rfl, RDs.keep (keepT_new hp) _ _ r⟩, tabs_new h.tb hp⟩
theorem Here.free (h : Here Z H M) {p : Addr} (hp : H p = none) : M p = none := h.mm.free hp
theorem Here.at_lst (h : Here Z H M) {p : Addr} {ds : List D} (e : M p = some (.lst ds)) : ∃ vs, H p = some (.lst vs) ∧ RDs Z.K H ds vs := h.mm p _ e
theorem Here.at_ins (h : Here Z H M) {p C dx : Addr} {ns : List Str} {ds : List D} (e : M p = some (.ins C dx ns ds)) : ∃ vs, H p = some (.ins C dx (ns.zip vs)) ∧ RDs Z.K H ds vs ∧ ns.length = ds.length ∧ ns.Nodup := h.mm p _ e
def isMut : HO → Bool
  | .lst _ => true | .ins _ _ _ => true | .dK _ => true | .dT _ => true | .set _ _ => true
  | _ => false
theorem keepT_mut {K : PySem.W.Frag} {p : Addr} {o u : HO} (e : H p = some o) (m : isMut o = true) : KeepT K H (upd H p u) := fun b ys q =>
  sqt_ne (o := o) (.inr e) (fun _ z => by subst z; cases m) (fun _ _ z => by subst z; cases m) u b ys q
theorem tabs_mut {T : List NdefX.NTab} {p : Addr} {o u : HO} (t : NdefX.TabsN T H) (e : H p = some o) (m : isMut o = true) : NdefX.TabsN T (upd H p u) := fun x hx => by
  obtain ⟨ps, h1, h2, h3⟩ := t x hx
  have n1 : x.1 ≠ p := fun z => by rw [z, e] at h1; cases h1; cases m
  refine ⟨ps, by rw [upd_ne n1]; exact h1, h2, fun pos cv hc => ?_⟩
  obtain ⟨c, e1, e2⟩ := h3 pos cv hc
  have n2 : c ≠ p := fun z => by
    rw [z, e] at e2
    have e3 := Option.some.inj e2
    rw [e3] at m
    exact absurd (show false = true from m) Bool.false_ne_true
  exact ⟨c, e1, by rw [upd_ne n2]; exact e2⟩
theorem Here.mut (h : Here Z H M) {p : Addr} {o u : HO} {m : MO} (e : H p = some o) (im : isMut o = true) (r : RO Z (upd H p u) p (some u) m) : Nx Z H (upd H p u) (mupd M p m) :=
  ⟨keepT_mut e im, h.mm.upd (keepT_mut e im) r, tabs_mut h.tb e im⟩
end

def dVar (i : Nat) : DE := fun _ ρ M R => match ρ[i]? with
  | some (some d) => R d M
  | _ => False
def dC (d : D) : DE := fun _ _ M R => R d M
section
variable {Z : ZP} {G : Hp} {X : Cx} {pos : Pos}
theorem qv (i : Nat) {x : Str} (hN : X.N[i]? = some x := by rfl) (hv : Vis X.env.scope x := by first | exact Or.inl rfl | exact Or.inr (Or.inl rfl) | exact Or.inr (Or.inr rfl)) (hd : (x == ("__debug__" : Str)) = false := by decide)
    (hcd : (x == ("__classdict__" : Str)) = false := by decide) : QE Z G X (.Name x pos) (dVar i) := by
  refine ⟨fun W tk => pe_of (pe_var hN hv hd hcd) fun σ H Q ⟨ρ, M, R, r, h, k⟩ => ?_⟩
  unfold dVar at h
  split at h
  · rename_i d e
    obtain ⟨v, e1, rd⟩ := r.st.2 i d e
    exact ⟨v, e1, k d M v H h r.stay rd⟩
  · exact h.elim
theorem qe_const {e : Expr} {d : D} {v : V} (h : PE X e (tC v)) (rd : ∀ H, RD Z.K H d v) : QE Z G X e (dC d) :=
  ⟨fun W tk => pe_of h fun σ H Q ⟨ρ, M, R, r, q, k⟩ => k d M v H q r.stay (rd H)⟩
theorem qe_int {i : Int} {j} : QE Z G X (.Constant (.int i) j pos) (dC (.int i)) := qe_const pe_int fun _ => rfl
theorem qe_bl {b : Bool} {j} : QE Z G X (.Constant (.bool b) j pos) (dC (.bl b)) := qe_const pe_bl fun _ => rfl
theorem qe_non {j} : QE Z G X (.Constant .none j pos) (dC .non) := qe_const pe_non fun _ => rfl
theorem qe_str {x : Str} (y : List Nat) {j} (e : x = sV y := by rfl) : QE Z G X (.Constant (.str x) j pos) (dC (.str y)) := qe_const pe_str fun _ => by rw [RD, e]
theorem qe_glob {x : Str} {v : V} {u : Value} {d : D} (hm : X.mg x = some u) (r : RelV v u) (rd : ∀ H, RD Z.K H d v) (hg : Gl X x := by rfl) (hd : (x == ("__debug__" : Str)) = false := by decide) : QE Z G X (.Name x pos) (dC d) :=
  qe_const (pe_glob hg hm r hd) rd
end

def OpD (Z : ZP) (X : Cx) (f : Value → Value → Sem Value) (g : D → D → DM → DQ → Prop) : Prop :=
  ∃ r, OpR X f r ∧ ∀ (H : Hp) (M : DM) (x y : V) (dx dy : D) (R : DQ) (Q : VK), Here Z H M → RD Z.K H dx x → RD Z.K H dy y → g dx dy M R →
    (∀ d M' v H', R d M' → Nx Z H H' M' → RD Z.K H' d v → Q v H') → r x y H Q
def dOp (g : D → D → DM → DQ → Prop) (ta tb : DE) : DE := fun W ρ M R => ta W ρ M fun x M1 => tb W ρ M1 fun y M2 => g x y M2 R
section
variable {Z : ZP} {G : Hp} {X : Cx} {pos : Pos} {a b c : Expr} {ta tb tc : DE}
theorem dop_lift {f : Value → Value → Sem Value} {r : R2} {g : D → D → DM → DQ → Prop} {W : DW} (hr : ∀ (H : Hp) (M : DM) (x y : V) (dx dy : D) (R : DQ) (Q : VK), Here Z H M → RD Z.K H dx x → RD Z.K H dy y → g dx dy M R →
    (∀ d M' v H', R d M' → Nx Z H H' M' → RD Z.K H' d v → Q v H') → r x y H Q) (σ : L2.St) (H : Hp) (Q : VK) (h : lE Z G (dOp g ta tb W) σ H Q) : tOp r (lE Z G (ta W)) (lE Z G (tb W)) σ H Q := by
  obtain ⟨ρ, M, R, rl, h, k⟩ := h
  refine ⟨ρ, M, _, rl, h, fun x M1 v1 H1 h1 n1 r1 => ⟨ρ, M1, _, rl.nx n1, h1, fun y M2 v2 H2 h2 n2 r2 => ?_⟩⟩
  exact hr H2 M2 v1 v2 x y R Q n2.here (RD.keep n2.kp _ _ r1) r2 h2 fun d M' v H' q n rd => k d M' v H' q ((n1.trans n2).trans n) rd
theorem qe_op {op : Operator} {g} (o : OpD Z X (binaryOp op) g) (ha : QE Z G X a ta) (hb : QE Z G X b tb) : QE Z G X (.BinOp a op b pos) (dOp g ta tb) := by
  obtain ⟨r, ho, hr⟩ := o
  exact ⟨fun W tk => pe_of (pe_op ho (ha.pe W tk) (hb.pe W tk)) (dop_lift (f := binaryOp op) hr)⟩
theorem qe_cmp {op : CmpOp} {g} (o : OpD Z X (compareOp op) g) (ha : QE Z G X a ta) (hb : QE Z G X b tb) (hm : behindInMarks op b = false := by first | exact nomark _ | rfl) : QE Z G X (.Compare a [op] [b] pos) (dOp g ta tb) := by
  obtain ⟨r, ho, hr⟩ := o
  exact ⟨fun W tk => pe_of (pe_cmpR ho (ha.pe W tk) (hb.pe W tk) hm) (dop_lift (f := compareOp op) hr)⟩
def dTest (t : DE) : DT := fun W ρ M R => t W ρ M fun d M1 => match d with
  | .bl b => R b M1
  | _ => False
theorem lT_test {t : DE} {W : DW} {te : TE} (w : ∀ σ H Q, lE Z G (t W) σ H Q → te σ H Q) (σ : L2.St) (H : Hp) (Q : Bool → Hp → Prop) (h : lT Z G (dTest t W) σ H Q) : tTest te σ H Q := by
  obtain ⟨ρ, M, R, rl, h, k⟩ := h
  refine w σ H _ ⟨ρ, M, _, rl, h, fun d M1 v H1 h1 n1 r1 => ?_⟩
  cases d with
  | bl b => exact ⟨b, r1, k b M1 H1 h1 n1⟩
  | _ => exact h1.elim
theorem qt_cmp {op : CmpOp} {g} (o : OpD Z X (compareOp op) g) (ha : QE Z G X a ta) (hb : QE Z G X b tb) (hm : behindInMarks op b = false := by first | exact nomark _ | rfl) : QT Z G X (.Compare a [op] [b] pos) (dTest (dOp g ta tb)) := by
  obtain ⟨r, ho, hr⟩ := o
  exact ⟨fun W tk => pt_of (pt_cmpR ho (ha.pe W tk) (hb.pe W tk) hm) (lT_test (dop_lift (f := compareOp op) hr))⟩
theorem qt_val {e : Expr} {t : DE} (h : QE Z G X e t) (he : ∀ whole, isTrue e X.env whole = (do let v ← whole; standAt e.pos; holding [v] (truthy v)) := by intro _; rfl) : QT Z G X e (dTest t) :=
  ⟨fun W tk => pt_of (pt_val (h.pe W tk) he) (lT_test (te := lE Z G (t W)) fun _ _ _ q => q)⟩
def dChain (g g' : D → D → DM → DQ → Prop) (ta tb tc : DE) : DE := fun W ρ M R => ta W ρ M fun x M1 => tb W ρ M1 fun y M2 => g x y M2 fun z M3 => match z with
  | .bl true => tc W ρ M3 fun w M4 => g' y w M4 R
  | .bl false => R (.bl false) M3
  | _ => False
theorem chain_lift {r r' : R2} {g g' : D → D → DM → DQ → Prop} {W : DW} (hr : ∀ (H : Hp) (M : DM) (x y : V) (dx dy : D) (R : DQ) (Q : VK), Here Z H M → RD Z.K H dx x → RD Z.K H dy y → g dx dy M R →
    (∀ d M' v H', R d M' → Nx Z H H' M' → RD Z.K H' d v → Q v H') → r x y H Q) (hr' : ∀ (H : Hp) (M : DM) (x y : V) (dx dy : D) (R : DQ) (Q : VK), Here Z H M → RD Z.K H dx x → RD Z.K H dy y → g' dx dy M R →
    (∀ d M' v H', R d M' → Nx Z H H' M' → RD Z.K H' d v → Q v H') → r' x y H Q) (σ : L2.St) (H : Hp) (Q : VK) (h : lE Z G (dChain g g' ta tb tc W) σ H Q) : tChain r r' (lE Z G (ta W)) (lE Z G (tb W)) (lE Z G (tc W)) σ H Q := by
  obtain ⟨ρ, M, R, rl, h, k⟩ := h
  refine ⟨ρ, M, _, rl, h, fun x M1 v1 H1 h1 n1 r1 => ⟨ρ, M1, _, rl.nx n1, h1, fun y M2 v2 H2 h2 n2 r2 => ?_⟩⟩
  refine hr H2 M2 v1 v2 x y _ _ n2.here (RD.keep n2.kp _ _ r1) r2 h2 fun d M' v H' q n rd => ?_
  cases d with
  | bl bb =>
    cases bb with
    | true =>
      refine ⟨true, rd, ?_⟩
      rw [if_pos rfl]
      refine ⟨ρ, M', _, ((rl.nx n1).nx n2).nx n, q, fun w M4 v4 H4 h4 n4 r4 => ?_⟩
      exact hr' H4 M4 v2 v4 y w R Q n4.here (RD.keep n4.kp _ _ (RD.keep n.kp _ _ r2)) r4 h4 fun d M' v H' q n' rd => k d M' v H' q ((((n1.trans n2).trans n).trans n4).trans n') rd
    | false =>
      refine ⟨false, rd, ?_⟩
      rw [if_neg Bool.false_ne_true]
      exact k _ _ _ _ q ((n1.trans n2).trans n) (by rw [RD])
  | _ => exact q.elim
theorem qe_chain {op op' : CmpOp} {g g'} (o : OpD Z X (compareOp op) g) (o' : OpD Z X (compareOp op') g') (ha : QE Z G X a ta) (hb : QE Z G X b tb) (hc : QE Z G X c tc)
    (hm : lastMarks [op, op'] [b, c] = false := by rfl) : QE Z G X (.Compare a [op, op'] [b, c] pos) (dChain g g' ta tb tc) := by
  obtain ⟨r, ho, hr⟩ := o
  obtain ⟨r', ho', hr'⟩ := o'
  exact ⟨fun W tk => pe_of (pe_chain ho ho' (ha.pe W tk) (hb.pe W tk) (hc.pe W tk) hm) (chain_lift hr hr')⟩
end

def dAnd (t u : DT) : DT := fun W ρ M R => t W ρ M fun c M1 => match c with
  | true => u W ρ M1 R
  | false => R false M1
def dOr (t u : DT) : DT := fun W ρ M R => t W ρ M fun c M1 => match c with
  | true => R true M1
  | false => u W ρ M1 R
def dNot (t : DT) : DT := fun W ρ M R => t W ρ M fun c M1 => R (!c) M1
def dAndV (ta tb : DE) : DE := fun W ρ M R => ta W ρ M fun x M1 => match x with
  | .bl true => tb W ρ M1 R
  | .bl false => R (.bl false) M1
  | _ => False
def dOrV (ta tb : DE) : DE := fun W ρ M R => ta W ρ M fun x M1 => match x with
  | .bl true => R (.bl true) M1
  | .bl false => tb W ρ M1 R
  | _ => False
def dNotV (ta : DE) : DE := fun W ρ M R => ta W ρ M fun x M1 => match x with
  | .bl b => R (.bl (!b)) M1
  | _ => False
def dIfE (t : DT) (ta tb : DE) : DE := fun W ρ M R => t W ρ M fun c M1 => match c with
  | true => ta W ρ M1 R
  | false => tb W ρ M1 R
section
variable {Z : ZP} {G : Hp} {X : Cx} {pos : Pos} {a b c : Expr} {rest : List Expr} {ta tb : DE} {tA tB : DT}
theorem QW.qt (h : QW Z G X a tA) : QT Z G X a tA := ⟨fun W tk => (h.pw W tk).pt⟩
theorem qw_and1 (ha : QT Z G X a tA) : QW Z G X (.BoolOp .And [a] pos) tA := ⟨fun W tk => pw_and1 (ha.pt W tk)⟩
theorem qw_or1 (ha : QT Z G X a tA) : QW Z G X (.BoolOp .Or [a] pos) tA := ⟨fun W tk => pw_or1 (ha.pt W tk)⟩
theorem qw_and (ha : QT Z G X a tA) (hb : QW Z G X (.BoolOp .And (b :: rest) pos) tB) : QW Z G X (.BoolOp .And (a :: b :: rest) pos) (dAnd tA tB) := by
  refine ⟨fun W tk => pw_of (pw_and (ha.pt W tk) (hb.pw W tk)) fun σ H Q ⟨ρ, M, R, rl, h, k⟩ => ?_⟩
  refine ⟨ρ, M, _, rl, h, fun c M1 H1 h1 n1 => ?_⟩
  cases c with
  | true => rw [if_pos rfl]; exact ⟨ρ, M1, R, rl.nx n1, h1, fun b M' H' q n => k b M' H' q (n1.trans n)⟩
  | false => rw [if_neg Bool.false_ne_true]; exact k false M1 H1 h1 n1
theorem qw_or (ha : QT Z G X a tA) (hb : QW Z G X (.BoolOp .Or (b :: rest) pos) tB) : QW Z G X (.BoolOp .Or (a :: b :: rest) pos) (dOr tA tB) := by
  refine ⟨fun W tk => pw_of (pw_or (ha.pt W tk) (hb.pw W tk)) fun σ H Q ⟨ρ, M, R, rl, h, k⟩ => ?_⟩
  refine ⟨ρ, M, _, rl, h, fun c M1 H1 h1 n1 => ?_⟩
  cases c with
  | true => rw [if_pos rfl]; exact k true M1 H1 h1 n1
  | false => rw [if_neg Bool.false_ne_true]; exact ⟨ρ, M1, R, rl.nx n1, h1, fun b M' H' q n => k b M' H' q (n1.trans n)⟩
theorem qt_not (ha : QT Z G X a tA) : QT Z G X (.UnaryOp .Not a pos) (dNot tA) :=
  ⟨fun W tk => pt_of (pt_not (ha.pt W tk)) fun σ H Q ⟨ρ, M, R, rl, h, k⟩ => ⟨ρ, M, _, rl, h, fun c M1 H1 h1 n1 => k _ M1 H1 h1 n1⟩⟩
theorem qe_one {op} (ha : QE Z G X a ta) : QE Z G X (.BoolOp op [a] pos) ta := ⟨fun W tk => pe_one (ha.pe W tk)⟩
theorem qe_and (ha : QE Z G X a ta) (hb : QE Z G X (.BoolOp .And (b :: rest) pos) tb) : QE Z G X (.BoolOp .And (a :: b :: rest) pos) (dAndV ta tb) := by
  refine ⟨fun W tk => pe_of (pe_and (ha.pe W tk) (hb.pe W tk)) fun σ H Q ⟨ρ, M, R, rl, h, k⟩ => ?_⟩
  refine ⟨ρ, M, _, rl, h, fun c M1 v1 H1 h1 n1 r1 => ?_⟩
  cases c with
  | bl bb =>
    refine ⟨bb, r1, ?_⟩
    cases bb with
    | true => rw [if_pos rfl]; exact ⟨ρ, M1, R, rl.nx n1, h1, fun d M' v H' q n => k d M' v H' q (n1.trans n)⟩
    | false => rw [if_neg Bool.false_ne_true]; exact k _ M1 _ H1 h1 n1 (by rw [RD])
  | _ => exact h1.elim
theorem qe_or (ha : QE Z G X a ta) (hb : QE Z G X (.BoolOp .Or (b :: rest) pos) tb) : QE Z G X (.BoolOp .Or (a :: b :: rest) pos) (dOrV ta tb) := by
  refine ⟨fun W tk => pe_of (pe_or (ha.pe W tk) (hb.pe W tk)) fun σ H Q ⟨ρ, M, R, rl, h, k⟩ => ?_⟩
  refine ⟨ρ, M, _, rl, h, fun c M1 v1 H1 h1 n1 r1 => ?_⟩
  cases c with
  | bl bb =>
    refine ⟨bb, r1, ?_⟩
    cases bb with
    | true => rw [if_pos rfl]; exact k _ M1 _ H1 h1 n1 (by rw [RD])
    | false => rw [if_neg Bool.false_ne_true]; exact ⟨ρ, M1, R, rl.nx n1, h1, fun d M' v H' q n => k d M' v H' q (n1.trans n)⟩
  | _ => exact h1.elim
theorem qe_not (ha : QE Z G X a ta) : QE Z G X (.UnaryOp .Not a pos) (dNotV ta) := by
  refine ⟨fun W tk => pe_of (pe_not (ha.pe W tk)) fun σ H Q ⟨ρ, M, R, rl, h, k⟩ => ?_⟩
  refine ⟨ρ, M, _, rl, h, fun c M1 v1 H1 h1 n1 r1 => ?_⟩
  cases c with
  | bl bb => exact ⟨bb, r1, k _ M1 _ H1 h1 n1 (by rw [RD])⟩
  | _ => exact h1.elim
theorem qe_ifExp (hc : QT Z G X c tA) (ha : QE Z G X a ta) (hb : QE Z G X b tb) : QE Z G X (.IfExp c a b pos) (dIfE tA ta tb) := by
  refine ⟨fun W tk => pe_of (pe_ifExp (hc.pt W tk) (ha.pe W tk) (hb.pe W tk)) fun σ H Q ⟨ρ, M, R, rl, h, k⟩ => ?_⟩
  refine ⟨ρ, M, _, rl, h, fun c M1 H1 h1 n1 => ?_⟩
  cases c with
  | true => rw [if_pos rfl]; exact ⟨ρ, M1, R, rl.nx n1, h1, fun d M' v H' q n => k d M' v H' q (n1.trans n)⟩
  | false => rw [if_neg Bool.false_ne_true]; exact ⟨ρ, M1, R, rl.nx n1, h1, fun d M' v H' q n => k d M' v H' q (n1.trans n)⟩
end

def dNil : DA := fun _ _ M R => R [] M
def dCons (ta : DE) (tr : DA) : DA := fun W ρ M R => ta W ρ M fun x M1 => tr W ρ M1 fun xs M2 => R (x :: xs) M2
def dTup (t : DA) : DE := fun W ρ M R => t W ρ M fun ds M1 => ds.length ≤ sizeLine ∧ R (.tup ds) M1
def dLst (t : DA) : DE := fun W ρ M R => t W ρ M fun ds M1 => ds.length ≤ sizeLine ∧ ∀ p, M1 p = none → R (.ref p) (mupd M1 p (.lst ds))
section
variable {Z : ZP} {G : Hp} {X : Cx} {pos : Pos} {e : Expr} {es : List Expr} {te : DE} {t : DA}
theorem qa_nil : QA Z G X [] dNil := ⟨fun W tk => pa_of pa_nil fun σ H Q ⟨ρ, M, R, rl, h, k⟩ => k [] M [] H h rl.stay RDs.nil⟩
theorem qa_cons (ha : QE Z G X e te) (hr : QA Z G X es t) (hs : starEach (e :: es) X.env = (false, eval e X.env) :: starEach es X.env := by rfl) : QA Z G X (e :: es) (dCons te t) := by
  refine ⟨fun W tk => pa_of (pa_cons (ha.pe W tk) (hr.pa W tk) hs) fun σ H Q ⟨ρ, M, R, rl, h, k⟩ => ?_⟩
  refine ⟨ρ, M, _, rl, h, fun x M1 v1 H1 h1 n1 r1 => ⟨ρ, M1, _, rl.nx n1, h1, fun xs M2 vs H2 h2 n2 r2 => ?_⟩⟩
  exact k _ M2 _ H2 h2 (n1.trans n2) (RDs.cons (RD.keep n2.kp _ _ r1) r2)
theorem qe_tup {x1} (h : QA Z G X es t) : QE Z G X (.Tuple es x1 pos) (dTup t) := by
  refine ⟨fun W tk => pe_of (pe_tup (h.pa W tk)) fun σ H Q ⟨ρ, M, R, rl, h, k⟩ => ?_⟩
  refine ⟨ρ, M, _, rl, h, fun ds M1 vs H1 h1 n1 r1 => ⟨by rw [r1.length]; exact h1.1, fun p hp => ?_⟩⟩
  exact k _ M1 _ _ h1.2 (n1.trans (n1.here.laid hp)) (rd_tup hp r1)
theorem qe_lst (h : QA Z G X es t) : QE Z G X (.List es pos) (dLst t) := by
  refine ⟨fun W tk => pe_of (pe_lst (h.pa W tk)) fun σ H Q ⟨ρ, M, R, rl, h, k⟩ => ?_⟩
  refine ⟨ρ, M, _, rl, h, fun ds M1 vs H1 h1 n1 r1 => ⟨by rw [r1.length]; exact h1.1, fun p hp => ?_⟩⟩
  exact k _ _ _ _ (h1.2 p (n1.here.free hp)) (n1.trans (n1.here.lst hp r1)) (by rw [RD])
end
end DL

set_option Elab.async false
set_option linter.all false
set_option maxRecDepth 100000
namespace DL
open PySem PySem.Spec PyProof.Rows L2

def dNext : DS := fun _ E ρ M => E.nx ρ M
def dSeq (t u : DS) : DS := fun W E ρ M => t W { E with nx := fun ρ' M' => u W E ρ' M' } ρ M
def dIfS (c : DT) (t u : DS) : DS := fun W E ρ M => c W ρ M fun b M1 => match b with
  | true => t W E ρ M1
  | false => u W E ρ M1
def dRet (te : DE) : DS := fun W E ρ M => te W ρ M E.rt
def dRetN : DS := fun _ E _ M => E.rt .non M
def dExpr (te : DE) : DS := fun W E ρ M => te W ρ M fun _ M1 => E.nx ρ M1
def dBrk : DS := fun _ E ρ M => E.bk ρ M
def dCnt : DS := fun _ E ρ M => E.ct ρ M
def dSet (i : Nat) (te : DE) : DS := fun W E ρ M => te W ρ M fun d M1 => E.nx (ρ.set i (some d)) M1
def dNever : DS := fun _ _ _ _ => False
section
variable {Z : ZP} {G : Hp} {X : Cx} {pos : Pos} {e : Expr} {st : Stmt} {rest a b : List Stmt} {te : DE} {t u : DS} {tc : DT}
theorem Rel.go {σ σ' : L2.St} {H H' : Hp} {ρ ρ' : Env} {M M' : DM} (n : Nx Z H H' M') (r : Rel Z G σ H ρ M) (s : RSt Z.K H' σ' ρ') : Rel Z G σ' H' ρ' M' := ⟨r.kp.trans n.kp, s, n.mm, n.tb⟩
theorem qss_nil : QSs Z G X [] dNext := ⟨fun W tk => pss_of pss_nil fun D σ H ⟨ρ, M, E, rl, h, k1, _⟩ => k1 ρ M σ H h KeepT.refl rl⟩
theorem qss_one (h : QS Z G X st t) : QSs Z G X [st] t := ⟨fun W tk => pss_one (h.ps W tk)⟩
theorem qss_cons (h1 : QS Z G X st t) (h2 : QSs Z G X rest u) : QSs Z G X (st :: rest) (dSeq t u) := by
  refine ⟨fun W tk => pss_of (pss_cons (h1.ps W tk) (h2.pss W tk)) fun D σ H ⟨ρ, M, E, rl, h, k1, k2, k3, k4⟩ => ?_⟩
  refine ⟨ρ, M, _, rl, h, fun ρ' M' σ' H' q kp r => ?_, k2, k3, k4⟩
  exact ⟨ρ', M', E, r, q, fun _ _ _ _ q' kp' r' => k1 _ _ _ _ q' (kp.trans kp') r', fun _ _ _ _ q' n' r' => k2 _ _ _ _ q' ⟨kp.trans n'.kp, n'.mm, n'.tb⟩ r', fun _ _ _ _ q' kp' r' => k3 _ _ _ _ q' (kp.trans kp') r', fun _ _ _ _ q' kp' r' => k4 _ _ _ _ q' (kp.trans kp') r'⟩
theorem lS_go {Z : ZP} {G : Hp} {t : DEnds → Env → DM → Prop} {D : Ends} {σ : L2.St} {H H1 : Hp} {ρ : Env} {M1 : DM} {E : DEnds} (rl : Rel Z G σ H1 ρ M1) (kp : KeepT Z.K H H1) (h : t E ρ M1)
    (k1 : ∀ ρ' M' σ' H', E.nx ρ' M' → KeepT Z.K H H' → Rel Z G σ' H' ρ' M' → D.nx σ' H') (k2 : ∀ d M' v H', E.rt d M' → Nx Z H H' M' → RD Z.K H' d v → D.rt v H')
    (k3 : ∀ ρ' M' σ' H', E.bk ρ' M' → KeepT Z.K H H' → Rel Z G σ' H' ρ' M' → D.bk σ' H') (k4 : ∀ ρ' M' σ' H', E.ct ρ' M' → KeepT Z.K H H' → Rel Z G σ' H' ρ' M' → D.ct σ' H') : lS Z G t D σ H1 :=
  ⟨ρ, M1, E, rl, h, fun _ _ _ _ q' kp' r' => k1 _ _ _ _ q' (kp.trans kp') r', fun _ _ _ _ q' n' r' => k2 _ _ _ _ q' ⟨kp.trans n'.kp, n'.mm, n'.tb⟩ r', fun _ _ _ _ q' kp' r' => k3 _ _ _ _ q' (kp.trans kp') r', fun _ _ _ _ q' kp' r' => k4 _ _ _ _ q' (kp.trans kp') r'⟩
theorem qs_if {c : Expr} (hc : QT Z G X c tc) (ha : QSs Z G X a t) (hb : QSs Z G X b u) : QS Z G X (.If c a b pos) (dIfS tc t u) := by
  refine ⟨fun W tk => ps_of (ps_if (hc.pt W tk) (ha.pss W tk) (hb.pss W tk)) fun D σ H ⟨ρ, M, E, rl, h, k1, k2, k3, k4⟩ => ?_⟩
  refine ⟨ρ, M, _, rl, h, fun c M1 H1 h1 n1 => ?_⟩
  cases c with
  | true => rw [if_pos rfl]; exact lS_go (rl.nx n1) n1.kp h1 k1 k2 k3 k4
  | false => rw [if_neg Bool.false_ne_true]; exact lS_go (rl.nx n1) n1.kp h1 k1 k2 k3 k4
theorem qs_ret (he : QE Z G X e te) : QS Z G X (.Return (some e) pos) (dRet te) :=
  ⟨fun W tk => ps_of (ps_ret (he.pe W tk)) fun D σ H ⟨ρ, M, E, rl, h, k1, k2, k3, k4⟩ => ⟨ρ, M, _, rl, h, k2⟩⟩
theorem qs_retN : QS Z G X (.Return none pos) dRetN :=
  ⟨fun W tk => ps_of ps_retN fun D σ H ⟨ρ, M, E, rl, h, k1, k2, k3, k4⟩ => k2 .non M .non H h rl.stay (by rw [RD])⟩
theorem qs_expr (he : QE Z G X e te) (hs : swapsWith e none pos.line X.env = pure false := by rfl) : QS Z G X (.Expr e pos) (dExpr te) :=
  ⟨fun W tk => ps_of (ps_expr (he.pe W tk) hs) fun D σ H ⟨ρ, M, E, rl, h, k1, k2, k3, k4⟩ => ⟨ρ, M, _, rl, h, fun d M' v H' q n r => k1 _ _ _ _ q n.kp (rl.nx n)⟩⟩
theorem qs_break : QS Z G X (.Break pos) dBrk := ⟨fun W tk => ps_of ps_break fun D σ H ⟨ρ, M, E, rl, h, k1, k2, k3, k4⟩ => k3 _ _ _ _ h KeepT.refl rl⟩
theorem qs_continue : QS Z G X (.Continue pos) dCnt := ⟨fun W tk => ps_of ps_continue fun D σ H ⟨ρ, M, E, rl, h, k1, k2, k3, k4⟩ => k4 _ _ _ _ h KeepT.refl rl⟩
theorem qs_pass : QS Z G X (.Pass pos) dNext := ⟨fun W tk => ps_of ps_pass fun D σ H ⟨ρ, M, E, rl, h, k1, k2, k3, k4⟩ => k1 _ _ _ _ h KeepT.refl rl⟩
theorem qs_never : QS Z G X st dNever := ⟨fun W tk => ps_of ps_never fun D σ H ⟨ρ, M, E, rl, h, k1, k2, k3, k4⟩ => h⟩
theorem qss_never {sts : List Stmt} : QSs Z G X sts dNever := ⟨fun W tk => pss_of pss_never fun D σ H ⟨ρ, M, E, rl, h, k1, k2, k3, k4⟩ => h⟩
theorem qs_set {i : Nat} {x : Str} {pos' : Pos} (hN : X.N.Nodup) (he : QE Z G X e te) (hi : X.N[i]? = some x := by rfl) (hx : Loc X.env.scope x := by first | exact Or.inl rfl | exact Or.inr rfl)
    (hs : swapsWith e (some (.Name x pos')) pos.line X.env = pure false := by rfl) (hf : X.fn x = true ∨ X.env.scope.names.lookup x = some .local := by first | exact .inl rfl | exact .inr rfl | assumption) :
    QS Z G X (.Assign [.Name x pos'] e pos) (dSet i te) := by
  refine ⟨fun W tk => ps_of (ps_set hN hi hx (he.pe W tk) hs hf) fun D σ H ⟨ρ, M, E, rl, h, k1, k2, k3, k4⟩ => ?_⟩
  exact ⟨ρ, M, _, rl, h, fun d M' v H' q n r => k1 _ _ _ _ q n.kp ⟨rl.kp.trans n.kp, (rl.st.keep n.kp).set r, n.mm, n.tb⟩⟩
end

abbrev DG := D → Env → DM → (Env → DM → Prop) → Prop
abbrev DGs := List D → Env → DM → (Env → DM → Prop) → Prop
def lG (Z : ZP) (G : Hp) (g : DG) : TG := fun v σ H Q => ∃ d ρ M R, Rel Z G σ H ρ M ∧ RD Z.K H d v ∧ g d ρ M R ∧ ∀ ρ' M' σ' H', R ρ' M' → KeepT Z.K H H' → Rel Z G σ' H' ρ' M' → Q σ' H'
def lGs (Z : ZP) (G : Hp) (g : DGs) : TGs := fun vs σ H Q => ∃ ds ρ M R, Rel Z G σ H ρ M ∧ RDs Z.K H ds vs ∧ g ds ρ M R ∧ ∀ ρ' M' σ' H', R ρ' M' → KeepT Z.K H H' → Rel Z G σ' H' ρ' M' → Q σ' H'
structure QG (Z : ZP) (G : Hp) (X : Cx) (e : Expr) (g : DG) : Prop where
  pg : PG X e (lG Z G g)
structure QGs (Z : ZP) (G : Hp) (X : Cx) (es : List Expr) (g : DGs) : Prop where
  pgs : PGs X es (lGs Z G g)
theorem pg_of {X : Cx} {e : Expr} {t t' : TG} (h : PG X e t) (w : ∀ v σ H Q, t' v σ H Q → t v σ H Q) : PG X e t' := ⟨fun pz s σ H v u Q I r q => h.run pz s σ H v u Q I r (w v σ H Q q)⟩
theorem pgs_of {X : Cx} {e : List Expr} {t t' : TGs} (h : PGs X e t) (w : ∀ v σ H Q, t' v σ H Q → t v σ H Q) : PGs X e t' := ⟨fun pz s σ H v u Q I r q => h.run pz s σ H v u Q I r (w v σ H Q q)⟩
def gN (i : Nat) : DG := fun d ρ M Q => Q (ρ.set i (some d)) M
def gsNil : DGs := fun ds ρ M Q => match ds with
  | [] => Q ρ M
  | _ => False
def gsCons (t : DG) (u : DGs) : DGs := fun ds ρ M Q => match ds with
  | d :: r => t d ρ M fun ρ' M' => u r ρ' M' Q
  | _ => False
def gTp (n : Nat) (t : DGs) : DG := fun d ρ M Q => match d with
  | .tup ds => ds.length = n ∧ t ds ρ M Q
  | _ => False
def gLs (n : Nat) (t : DGs) : DG := fun d ρ M Q => match d with
  | .ref a => ∃ ds, M a = some (.lst ds) ∧ ds.length = n ∧ t ds ρ M Q
  | _ => False
section
variable {Z : ZP} {G : Hp} {X : Cx} {pos : Pos} {e : Expr} {es : List Expr} {t : DG} {u : DGs}
theorem qg_name {i : Nat} {x : Str} (hN : X.N.Nodup) (hi : X.N[i]? = some x := by rfl) (hx : Loc X.env.scope x := by first | exact Or.inl rfl | exact Or.inr rfl) (hf : X.fn x = true ∨ X.env.scope.names.lookup x = some .local := by first | exact .inl rfl | exact .inr rfl | assumption) : QG Z G X (.Name x pos) (gN i) :=
  ⟨pg_of (pg_name hN hi hx hf) fun v σ H Q ⟨d, ρ, M, R, rl, rd, h, k⟩ => k _ _ _ _ h KeepT.refl ⟨rl.kp, rl.st.set rd, rl.mm, rl.tb⟩⟩
theorem qgs_nil : QGs Z G X [] gsNil := ⟨pgs_of pgs_nil fun v σ H Q ⟨ds, ρ, M, R, rl, rd, h, k⟩ => by
  cases ds with
  | nil => rw [RDs] at rd; exact ⟨rd, k _ _ _ _ h KeepT.refl rl⟩
  | cons d r => exact h.elim⟩
theorem qgs_cons (h1 : QG Z G X e t) (h2 : QGs Z G X es u) (hs : (assignEach (e :: es) X.env).map (·.2) = assign e X.env :: (assignEach es X.env).map (·.2) := by rfl) : QGs Z G X (e :: es) (gsCons t u) := ⟨pgs_of (pgs_cons h1.pg h2.pgs hs) fun v σ H Q ⟨ds, ρ, M, R, rl, rd, h, k⟩ => by
  cases ds with
  | nil => exact h.elim
  | cons d r =>
    rw [RDs] at rd
    obtain ⟨v, vr, rfl, r1, r2⟩ := rd
    refine ⟨v, vr, rfl, d, ρ, M, _, rl, r1, h, fun ρ' M' σ' H' q kp r' => ?_⟩
    exact ⟨r, ρ', M', R, r', RDs.keep kp _ _ r2, q, fun _ _ _ _ q' kp' r'' => k _ _ _ _ q' (kp.trans kp') r''⟩⟩
theorem qg_tup {k : Nat} {n : Nat} (hK : X.K = Z.K) (hc : X.calm = true) (h : QGs Z G X es u) (hn : (assignEach es X.env).length = n := by rfl) (hst : (assignEach es X.env).findIdx? (·.1) = none := by rfl) : QG Z G X (.Tuple es k pos) (gTp n u) := ⟨pg_of (pg_tup hc h.pgs hn hst) fun v σ H Q ⟨d, ρ, M, R, rl, rd, h, k⟩ => by
  cases d with
  | tup ds =>
    rw [RD] at rd
    obtain ⟨a, vs, rfl, s, r⟩ := rd
    exact ⟨a, vs, rfl, hK ▸ s, by rw [r.length]; exact h.1, ds, ρ, M, R, rl, r, h.2, k⟩
  | _ => exact h.elim⟩
theorem qg_lst {k : Nat} {n : Nat} (hc : X.calm = true) (h : QGs Z G X es u) (hn : (assignEach es X.env).length = n := by rfl) (hst : (assignEach es X.env).findIdx? (·.1) = none := by rfl) : QG Z G X (.Tuple es k pos) (gLs n u) := ⟨pg_of (pg_lst hc h.pgs hn hst) fun v σ H Q ⟨d, ρ, M, R, rl, rd, h, k⟩ => by
  cases d with
  | ref a =>
    obtain ⟨ds, e, l, h⟩ := h
    obtain ⟨vs, e1, r⟩ := rl.here.at_lst e
    rw [RD] at rd
    exact ⟨a, vs, rd, SqL.of e1, by rw [r.length]; exact l, ds, ρ, M, R, rl, r, h, k⟩
  | _ => exact h.elim⟩
def dAsg (te : DE) (g : DG) : DS := fun W E ρ M => te W ρ M fun d M1 => g d ρ M1 E.nx
theorem qs_asg {tg : Expr} {te : DE} {g : DG} (he : QE Z G X e te) (hg : QG Z G X tg g) (hs : swapsWithSole [tg] e pos.line X.env = pure false := by rfl) (hw : swappedStores [tg] e X.env = pure none := by rfl)
    (h1 : (assignEach [tg] X.env).map (·.2) = [assign tg X.env] := by rfl) : QS Z G X (.Assign [tg] e pos) (dAsg te g) := by
  refine ⟨fun W tk => ps_of (ps_asg (he.pe W tk) hg.pg hs hw h1) fun D σ H ⟨ρ, M, E, rl, h, k1, k2, k3, k4⟩ => ?_⟩
  refine ⟨ρ, M, _, rl, h, fun d M1 v H1 q n r => ⟨d, ρ, M1, E.nx, rl.nx n, r, q, fun _ _ _ _ q' kp' r' => k1 _ _ _ _ q' (n.kp.trans kp') r'⟩⟩
end

def ItD (Z : ZP) (H0 : Hp) (J : It) (xs : List D) (g : DM → Prop) : Prop := ∀ i H M, KeepT Z.K H0 H → Here Z H M → g M →
  (i < xs.length → J.go i H) ∧ (xs.length ≤ i → J.stop i H) ∧ ∀ x H', i < xs.length → J.yld i H x H' → ∃ d, xs[i]? = some d ∧ Nx Z H H' M ∧ RD Z.K H' d x
abbrev DI := DW → Env → DM → (List D → (DM → Prop) → DM → Prop) → Prop
def lI (Z : ZP) (G : Hp) (t : Env → DM → (List D → (DM → Prop) → DM → Prop) → Prop) : TI := fun σ H R => ∃ ρ M Rd, Rel Z G σ H ρ M ∧ t ρ M Rd ∧ ∀ xs g M' J H', Rd xs g M' → Nx Z H H' M' → ItD Z H' J xs g → R J H'
structure QI (Z : ZP) (G : Hp) (X : Cx) (tg iter : Expr) (t : DI) : Prop where
  pi : ∀ W, Takes X (lW Z G W) → PI X tg iter (lI Z G (t W))
theorem pi_of {X : Cx} {tg e : Expr} {t t' : TI} (h : PI X tg e t) (w : ∀ σ H Q, t' σ H Q → t σ H Q) : PI X tg e t' := ⟨fun pz s σ H Q I q => h.run pz s σ H Q I (w σ H Q q)⟩
def dLoop (g : DG) (tb : DEnds → Env → DM → Prop) (gd : DM → Prop) : List D → DEnds → Env → DM → Prop
  | [], E, ρ, M => gd M ∧ E.nx ρ M
  | x :: r, E, ρ, M => gd M ∧ g x ρ M fun ρ1 M1 => tb { E with nx := fun ρ' M' => dLoop g tb gd r E ρ' M', ct := fun ρ' M' => dLoop g tb gd r E ρ' M', bk := E.nx } ρ1 M1
def dFor (ti : DI) (g : DG) (tb : DS) : DS := fun W E ρ M => ti W ρ M fun xs gd M1 => dLoop g (tb W) gd xs E ρ M1
def dWhile (c : DT) (tb : DS) : DS := fun W E ρ M => ∃ J : Nat → Env → DM → Prop, (∃ n, J n ρ M) ∧ ∀ n ρ M, J n ρ M → c W ρ M fun b M1 => match b with
  | true => tb W { E with nx := fun ρ' M' => ∃ n', n' < n ∧ J n' ρ' M', ct := fun ρ' M' => ∃ n', n' < n ∧ J n' ρ' M', bk := E.nx } ρ M1
  | false => E.nx ρ M1
section
variable {Z : ZP} {G : Hp} {X : Cx} {pos : Pos} {tg iter : Expr} {body : List Stmt}
theorem qs_for {ti : DI} {g : DG} {tb : DS} (hp : PassesOwn (model X.prog X.w) X.A X.env X.xe) (hc : X.calm = true) (hi : QI Z G X tg iter ti) (hg : QG Z G X tg g) (hb : QSs Z G X body tb)
    (hs : ∀ x, foldedSetIterable iter X.env x = pure x := by intro _; rfl) : QS Z G X (.For tg iter body [] pos) (dFor ti g tb) := by
  refine ⟨fun W tk => ps_of (ps_for hp hc (hi.pi W tk) hg.pg (hb.pss W tk) hs) fun D σ H ⟨ρ, M, E, rl, h, k1, k2, k3, k4⟩ => ?_⟩
  refine ⟨ρ, M, _, rl, h, fun xs gd M1 J H1 h1 n1 it => ?_⟩
  refine ⟨fun i m σ' H' => ∃ ρ' M', m = xs.length - i ∧ i ≤ xs.length ∧ KeepT Z.K H1 H' ∧ Rel Z G σ' H' ρ' M' ∧ dLoop g (tb W) gd (xs.drop i) E ρ' M', ⟨xs.length, ρ, M1, by simp, Nat.zero_le _, KeepT.refl, rl.nx n1, by simpa using h1⟩, ?_⟩
  rintro i m σ' H' ⟨ρ', M', rfl, hi', kp, r', hl⟩
  by_cases hlt : i < xs.length
  · rw [List.drop_eq_getElem_cons hlt] at hl
    obtain ⟨gd', hl⟩ := hl
    obtain ⟨i1, i2, i3⟩ := it i H' M' kp r'.here gd'
    refine .inr ⟨i1 hlt, fun σ2 H2 => ∃ ρ2 M2, KeepT Z.K H1 H2 ∧ Rel Z G σ2 H2 ρ2 M2 ∧ dLoop g (tb W) gd (xs.drop (i + 1)) E ρ2 M2, fun σ2 H2 ⟨ρ2, M2, kp2, r2, l2⟩ => ⟨xs.length - (i + 1), by omega, ρ2, M2, rfl, hlt, kp2, r2, l2⟩, fun x Hx hx => ?_⟩
    obtain ⟨d, e1, n2, rd⟩ := i3 x Hx hlt hx
    have e2 : xs[i] = d := by rw [List.getElem?_eq_getElem hlt] at e1; exact Option.some.inj e1
    subst e2
    refine ⟨_, ρ', M', _, r'.nx n2, rd, hl, fun ρ3 M3 σ3 H3 q3 kp3 r3 => ?_⟩
    have kpA : KeepT Z.K H1 H3 := (kp.trans n2.kp).trans kp3
    have kpB : KeepT Z.K H H3 := n1.kp.trans kpA
    exact ⟨ρ3, M3, _, r3, q3, fun ρ4 M4 σ4 H4 q4 kp4 r4 => ⟨ρ4, M4, kpA.trans kp4, r4, q4⟩, fun _ _ _ _ q' n' r' => k2 _ _ _ _ q' ⟨kpB.trans n'.kp, n'.mm, n'.tb⟩ r', fun _ _ _ _ q' kp' r' => k1 _ _ _ _ q' (kpB.trans kp') r',
      fun ρ4 M4 σ4 H4 q4 kp4 r4 => ⟨ρ4, M4, kpA.trans kp4, r4, q4⟩⟩
  · have e : i = xs.length := by omega
    subst e
    rw [List.drop_length] at hl
    obtain ⟨gd', hl⟩ := hl
    exact .inl ⟨(it _ H' M' kp r'.here gd').2.1 (Nat.le_refl _), k1 _ _ _ _ hl (n1.kp.trans kp) r'⟩
theorem qs_while {c : Expr} {tc : DT} {tb : DS} (hp : PassesOwn (model X.prog X.w) X.A X.env X.xe) (hc : QT Z G X c tc) (hb : QSs Z G X body tb) : QS Z G X (.While c body [] pos) (dWhile tc tb) := by
  refine ⟨fun W tk => ps_of (ps_while hp (hc.pt W tk) (hb.pss W tk)) fun D σ H ⟨ρ, M, E, rl, ⟨J, ⟨n0, j0⟩, turn⟩, k1, k2, k3, k4⟩ => ?_⟩
  refine ⟨fun m σ' H' => ∃ ρ' M', KeepT Z.K H H' ∧ Rel Z G σ' H' ρ' M' ∧ J m ρ' M', ⟨n0, ρ, M, KeepT.refl, rl, j0⟩, ?_⟩
  rintro m σ' H' ⟨ρ', M', kp, r', j'⟩
  refine ⟨ρ', M', _, r', turn m ρ' M' j', fun b M1 H1 h1 n1 => ?_⟩
  cases b with
  | true =>
    rw [if_pos rfl]
    refine ⟨fun σ2 H2 => ∃ m', m' < m ∧ ∃ ρ2 M2, KeepT Z.K H H2 ∧ Rel Z G σ2 H2 ρ2 M2 ∧ J m' ρ2 M2, fun σ2 H2 q => q, ?_⟩
    have kpA : KeepT Z.K H H1 := kp.trans n1.kp
    exact ⟨ρ', M1, _, r'.nx n1, h1, fun ρ4 M4 σ4 H4 ⟨n', l', q4⟩ kp4 r4 => ⟨n', l', ρ4, M4, kpA.trans kp4, r4, q4⟩, fun _ _ _ _ q' n' r' => k2 _ _ _ _ q' ⟨kpA.trans n'.kp, n'.mm, n'.tb⟩ r', fun _ _ _ _ q' kp' r' => k1 _ _ _ _ q' (kpA.trans kp') r',
      fun ρ4 M4 σ4 H4 ⟨n', l', q4⟩ kp4 r4 => ⟨n', l', ρ4, M4, kpA.trans kp4, r4, q4⟩⟩
  | false =>
    rw [if_neg Bool.false_ne_true]
    exact k1 _ _ _ _ h1 (kp.trans n1.kp) (r'.nx n1)
end

def startD (N : List Str) (ds : List D) : Env := ds.map some ++ List.replicate (N.length - ds.length) none
def Wk (R : DQ) : DQ := fun d M' => ∃ M, MSub M M' ∧ R d M
theorem Wk.self {R : DQ} {d : D} {M : DM} (h : R d M) : Wk R d M := ⟨M, MSub.refl M, h⟩
def WkX (R : DX) : DX := fun C fs M' => ∃ M, MSub M M' ∧ R C fs M
theorem WkX.self {R : DX} {C : Addr} {fs : List D} {M : DM} (h : R C fs M) : WkX R C fs M := ⟨M, MSub.refl M, h⟩
theorem rst_start {K : PySem.W.Frag} {H : Hp} {N : List Str} {ds : List D} {vs : List V} (r : RDs K H ds vs) : RSt K H (start N vs) (startD N ds) := by
  have hl := r.length
  refine ⟨by unfold L2.start startD; simp [hl], fun i d e => ?_⟩
  unfold startD at e
  by_cases hi : i < ds.length
  · rw [List.getElem?_append_left (by simpa using hi), List.getElem?_map] at e
    cases q : ds[i]? with
    | none => rw [q] at e; cases e
    | some d' =>
      rw [q] at e
      cases e
      obtain ⟨v, e1, rd⟩ := r.get q
      refine ⟨v, ?_, rd⟩
      unfold L2.start
      rw [List.getElem?_append_left (by simpa [hl] using hi), List.getElem?_map, e1]
      rfl
  · rw [List.getElem?_append_right (by simpa using hi), List.getElem?_replicate] at e
    split at e <;> cases e
def endsOf (R : DQ) : DEnds := { nx := fun _ M' => Wk R .non M', rt := Wk R, bk := fun _ _ => False, ct := fun _ _ => False }
section
variable {mg : Str → Option Value} {base : Heap} {Z : ZP}
theorem fn_okD {x qual : Str} {st : Stmt} {f : Addr} {fd : FuncData} {N ps : List Str} {k : Nat} {sp : DSp} {t : DS} (F : Fun Z.K x qual st f fd) (S : FnScope N ps (defScope st)) (len : ∀ ds M R EX, sp ds M R EX → ds.length = ps.length)
    (hb : ∀ (cdv : Value) (A : Around) (outer : List PySem.Env) (s : Shared) (H : Hp) (E : XK), Room k (A.deeper (envOfC qual (defScope st) s.heap.objs.size f cdv)) → QSs Z H (cxOf (L2.CX Z.P Z.w) Z.P Z.w Z.K mg base N qual (defScope st) f cdv A outer s H E) (defBody st) t)
    (pure : ∀ ds M R EX, sp ds M R EX → t (fun C fs _ M' => WkX EX C fs M') (endsOf R) (startD N ds) M) : FnOk Z.P Z.w Z.K mg base (L2.CX Z.P Z.w) (k + 1) f fd ps (lSp Z sp) := by
  refine F.okX S (fun vs H Q E ⟨ds, M, R, EX, rd, _, _, hs, _, _⟩ => by rw [rd.length]; exact len _ _ _ _ hs) fun cdv A outer s H vs Q E hr ⟨ds, M, R, EX, rd, mm, tb, hs, kq, kx⟩ => ?_
  have tk : Takes (cxOf (L2.CX Z.P Z.w) Z.P Z.w Z.K mg base N qual (defScope st) f cdv A outer s H E) (lW Z H fun C fs _ M' => WkX EX C fs M') := by
    refine Takes.imp (takes_of rfl rfl rfl rfl) fun c d σ H' ⟨C, fs, ρ, M', ec, rx, rl, M2, sb, h⟩ => ?_
    subst ec
    exact kx C fs M2 d H' h ⟨rl.kp, rl.mm.sub sb, rl.tb⟩ rx
  refine ⟨_, (hb cdv A outer s H E hr).pss _ tk, startD N ds, M, endsOf R, ⟨KeepT.refl, rst_start rd, mm, tb⟩, pure ds M R EX hs, fun ρ' M' σ' H' ⟨M2, sb, h⟩ kp r => ?_, fun d M' v H' ⟨M2, sb, h⟩ n r => ?_, fun _ _ _ _ h => h.elim, fun _ _ _ _ h => h.elim⟩
  · exact kq .non M2 .non H' h ⟨kp, r.mm.sub sb, r.tb⟩ (by rw [RD])
  · exact kq d M2 v H' h (n.sub sb) r
end

def dCall (sp : DSp) (ta : DA) : DE := fun W ρ M R => ta W ρ M fun ds M1 => sp ds M1 R fun C fs M2 => W C fs ρ M2
section
variable {Z : ZP} {G : Hp} {X : Cx} {pos p : Pos} {e : Expr} {es : List Expr} {ta : DA} {f : Addr} {fd : FuncData} {ps : List Str} {k : Nat} {sp : DSp} {x : Str}
theorem sp_lift {W : DW} {ρ : Env} {M1 : DM} {H1 : Hp} {σ : L2.St} {ds : List D} {vs : List V} {R : DQ} {Q : VK} (rl : Rel Z G σ H1 ρ M1) (rd : RDs Z.K H1 ds vs) (h : sp ds M1 R fun C fs M2 => W C fs ρ M2)
    (kq : ∀ d M' v H', R d M' → Nx Z H1 H' M' → RD Z.K H' d v → Q v H') : lSp Z sp vs H1 Q (WE (lW Z G W) σ) :=
  ⟨ds, M1, R, _, rd, rl.mm, rl.tb, h, kq, fun C fs M' d H' q n rx => ⟨C, fs, ρ, M', rfl, rx, rl.nx n, q⟩⟩
theorem qe_call (F : FnOk X.prog X.w X.K X.mg X.base (L2.CX X.prog X.w) k f fd ps (lSp Z sp)) (hr : Room k X.A) (hm : X.mg x = some (.ref f)) (hk : PySem.W.keepIn X.K (.ref f) = true) (hb : Binds X.K fd ps []) (ha : QA Z G X (e :: es) ta)
    (hg : Gl X x := by rfl) (hdb : (x == ("__debug__" : Str)) = false := by decide) (he : starEach (e :: es) X.env = (false, eval e X.env) :: starEach es X.env := by rfl) (hpl : (backTo pos (starEach es X.env)).any (·.1) = false := by rfl) :
    QE Z G X (.Call (.Name x p) (e :: es) [] pos) (dCall sp ta) := by
  refine ⟨fun W tk => pe_of (pe_callS F hr hg hm hk hb (fun σ => passAt tk σ) (ha.pa W tk) hdb he hpl) fun σ H Q ⟨ρ, M, R, rl, h, k⟩ => ?_⟩
  exact ⟨ρ, M, _, rl, h, fun ds M1 vs H1 h1 n1 r1 => sp_lift (rl.nx n1) r1 h1 fun d M' v H' q n r => k d M' v H' q (n1.trans n) r⟩
end

section
variable {X : Cx} {C : Addr} {bmB : List Value} {B newId initId : String}
theorem pmk_own0 {x : Str} {p pos : Pos} (F : ExcBaseFacts B newId initId bmB) (q : PySem.W.excIn X.K C bmB newId = true) (gC : X.mg x = some (.ref C)) (kC : PySem.W.keepIn X.K (.ref C) = true) (r : Raises X (.ref C)) (hg : Gl X x)
    (hdb : (x == ("__debug__" : Str)) = false := by decide) : PMk X (.Call (.Name x p) [] [] pos) (fun _ H Q => Q (.ref C) none H) := by
  intro pz s σ H Q I h
  refine wpAny_Call_Name_kw (ld_glob I hg gC ?_ hdb)
  refine PySem.W.callWith_K0 I.kIn kC ?_
  obtain ⟨bm, N, nm, qn, bs, hdct, sn, sub, ab, col, dd, k0, k1, k2, k3, k5, mN, hC, hN, hni, T⟩ := exc_obj I.kIn q
  refine wpAny_call_exc_subT F T hC hN hni (fun h' e hm => ?_) (by show 0 ≤ sizeLine; exact Nat.zero_le _)
  exact mk_of I hm r h (I.hok.gone hm.new)
end
def dRaise (C : Addr) : DS := fun W _ ρ M => W C [] ρ M
def dRaiseF (C : Addr) (f : Str) (te : DE) : DS := fun W _ ρ M => te W ρ M fun d M1 => ∀ dx, M1 dx = none → W C [.ref dx] ρ (mupd M1 dx (.xd f d))
structure ExcC (K : PySem.W.Frag) (mg : Str → Option Value) (x : Str) (C : Addr) : Prop where
  g : mg x = some (.ref C)
  q : PySem.W.excIn K C [.type "ValueError", .type "Exception", .type "BaseException", .type "object"] "ValueError.__new__" = true
  k : PySem.W.keepIn K (.ref C) = true
  b : PySem.W.subIn K (.ref C) (.type "BaseException") = some true
  t : PySem.W.typeIn K (.ref C) = some (.type "type")
section
variable {Z : ZP} {G : Hp} {X : Cx} {pos pos' p : Pos} {C : Addr} {x : Str}
theorem qs_raise0 (hc : X.calm = true) (c : ExcC X.K X.mg x C) (hg : Gl X x := by rfl) (hdb : (x == ("__debug__" : Str)) = false := by decide) : QS Z G X (.Raise (some (.Call (.Name x p) [] [] pos)) none pos') (dRaise C) := by
  refine ⟨fun W tk => ps_of (ps_raise hc tk (pmk_own0 PySem.F.excBase_ValueError c.q c.g c.k (raises_own c.b c.t) hg hdb)) fun D σ H ⟨ρ, M, E, rl, h, _⟩ => ?_⟩
  exact ⟨C, [], ρ, M, rfl, .inl ⟨rfl, rfl⟩, rl, h⟩
end
end DL

set_option Elab.async false
set_option linter.all false
set_option maxRecDepth 100000
namespace DL
open PySem PySem.Spec PyProof.Rows L2

def pf (f : D → D → Option D) : D → D → DM → DQ → Prop := fun x y M R => match f x y with
  | some z => R z M
  | none => False
theorem sV_inj {a b : List Nat} (h : sV a = sV b) : a = b := by
  have := congrArg (fun s : Str => s.cps.toList) h
  simpa [sV] using this
theorem sV_len (a : List Nat) : (sV a).length = a.length := by simp [sV, Str.length]
theorem sV_cps (a : List Nat) : (sV a).cps.toList = a := by simp [sV]
theorem sV_app (a b : List Nat) : sV a ++ sV b = sV (a ++ b) := by
  show Str.mk ((sV a).cps ++ (sV b).cps) = _
  simp [sV]
theorem dec_sV {a b : List Nat} : decide (V.str (sV a) = V.str (sV b)) = decide (a = b) := by
  by_cases e : a = b
  · subst e; simp
  · rw [decide_eq_false e, decide_eq_false]
    intro h; exact e (sV_inj (V.str.inj h))

section
variable {K : PySem.W.Frag} {H : Hp} {v : V} {Z : ZP} {M : DM}
theorem rd_int {i : Int} (h : RD K H (.int i) v) : v = .int i := by rw [RD] at h; exact h
theorem rd_bl {i : Bool} (h : RD K H (.bl i) v) : v = .bl i := by rw [RD] at h; exact h
theorem rd_non (h : RD K H .non v) : v = .non := by rw [RD] at h; exact h
theorem rd_str {x : List Nat} (h : RD K H (.str x) v) : v = .str (sV x) := by rw [RD] at h; exact h
theorem rd_ref {a : Addr} (h : RD K H (.ref a) v) : v = .ref a := by rw [RD] at h; exact h
theorem rd_tp {ds : List D} (h : RD K H (.tup ds) v) : ∃ a vs, v = .ref a ∧ SqT K H a vs ∧ RDs K H ds vs := by rw [RD] at h; exact h
theorem mk_int {i : Int} : RD K H (.int i) (.int i) := by rw [RD]
theorem mk_bl {i : Bool} : RD K H (.bl i) (.bl i) := by rw [RD]
theorem mk_non : RD K H .non .non := by rw [RD]
theorem mk_str {x : List Nat} : RD K H (.str x) (.str (sV x)) := by rw [RD]
theorem mk_ref {a : Addr} : RD K H (.ref a) (.ref a) := by rw [RD]
theorem mk_tup {ds : List D} {a : Addr} {vs : List V} (s : SqT K H a vs) (r : RDs K H ds vs) : RD K H (.tup ds) (.ref a) := by rw [RD]; exact ⟨a, vs, rfl, s, r⟩
theorem RDs.nil_iff {ds : List D} {vs : List V} (r : RDs K H ds vs) : vs = [] ↔ ds = [] := by
  have := r.length
  cases ds <;> cases vs <;> simp_all
end

def addD : D → D → DM → DQ → Prop := fun x y M R => match x, y with
  | .int i, .int j => R (.int (i + j)) M
  | .str a, .str b => a.length + b.length ≤ sizeLine ∧ R (.str (a ++ b)) M
  | .tup a, .tup b => a.length + b.length ≤ sizeLine ∧ R (.tup (a ++ b)) M
  | .ref a, .ref b => ∃ xs ys, M a = some (.lst xs) ∧ M b = some (.lst ys) ∧ xs.length + ys.length ≤ sizeLine ∧ ∀ p, M p = none → R (.ref p) (mupd M p (.lst (xs ++ ys)))
  | _, _ => False
section
variable {Z : ZP} {X : Cx}
theorem o_add (hK : X.K = Z.K) : OpD Z X (binaryOp .Add) addD := by
  refine ⟨_, OpR.or op_add (OpR.or op_add_str (OpR.or op_catA op_cat)), fun H M x y dx dy R Q hr rx ry g k => ?_⟩
  cases dx <;> cases dy <;> first | exact g.elim | skip
  · rw [rd_int rx, rd_int ry]
    exact .inl ⟨_, _, rfl, rfl, k _ _ _ _ g hr.stay mk_int⟩
  · rw [rd_str rx, rd_str ry]
    refine .inr (.inl ⟨_, _, rfl, rfl, by rw [sV_len, sV_len]; exact g.1, ?_⟩)
    rw [sV_app]
    exact k _ _ _ _ g.2 hr.stay mk_str
  · obtain ⟨a, vs, rfl, sa, ra⟩ := rd_tp rx
    obtain ⟨b, ws, rfl, sb, rb⟩ := rd_tp ry
    refine .inr (.inr (.inl ⟨a, b, vs, ws, rfl, rfl, hK ▸ sa, hK ▸ sb, by rw [ra.length, rb.length]; exact g.1, fun e => ?_, fun _ e => ?_, fun _ _ p hp => ?_⟩))
    · have e' := ra.nil_iff.mp e
      subst e'
      exact k _ _ _ _ g.2 hr.stay (mk_tup sb rb)
    · have e' := rb.nil_iff.mp e
      subst e'
      have g2 : R (.tup _) M := g.2
      rw [List.append_nil] at g2
      exact k _ _ _ _ g2 hr.stay (mk_tup sa ra)
    · exact k _ _ _ _ g.2 (hr.laid hp) (rd_tup hp (ra.append rb))
  · obtain ⟨xs, ys, e1, e2, z, g⟩ := g
    obtain ⟨vs, h1, r1⟩ := hr.at_lst e1
    obtain ⟨ws, h2, r2⟩ := hr.at_lst e2
    rw [rd_ref rx, rd_ref ry]
    refine .inr (.inr (.inr ⟨_, _, vs, ws, rfl, rfl, h1, h2, by rw [r1.length, r2.length]; exact z, fun p hp => ?_⟩))
    exact k _ _ _ _ (g p (hr.free hp)) (hr.lst hp (r1.append r2)) mk_ref
def intI (C : Int → Int → Prop) (f : Int → Int → Int) : D → D → DM → DQ → Prop := fun x y M R => match x, y with
  | .int i, .int j => C i j ∧ R (.int (f i j)) M
  | _, _ => False
def cmpI (f : Int → Int → Bool) : D → D → DM → DQ → Prop := fun x y M R => match x, y with
  | .int i, .int j => R (.bl (f i j)) M
  | _, _ => False
theorem o_int {op : Operator} {C : Int → Int → Prop} {f : Int → Int → Int} (h : OpR X (binaryOp op) (rI C fun i j => .int (f i j))) : OpD Z X (binaryOp op) (intI C f) := by
  refine ⟨_, h, fun H M x y dx dy R Q hr rx ry g k => ?_⟩
  cases dx <;> cases dy <;> first | exact g.elim | skip
  rw [rd_int rx, rd_int ry]
  exact ⟨_, _, rfl, rfl, g.1, k _ _ _ _ g.2 hr.stay mk_int⟩
theorem o_int0 {op : Operator} {f : Int → Int → Int} (h : OpR X (binaryOp op) (rI0 fun i j => .int (f i j))) : OpD Z X (binaryOp op) (intI (fun _ _ => True) f) := by
  refine ⟨_, h, fun H M x y dx dy R Q hr rx ry g k => ?_⟩
  cases dx <;> cases dy <;> first | exact g.elim | skip
  rw [rd_int rx, rd_int ry]
  exact ⟨_, _, rfl, rfl, k _ _ _ _ g.2 hr.stay mk_int⟩
theorem o_cmp {op : CmpOp} {f : Int → Int → Bool} (h : OpR X (compareOp op) (rI0 fun i j => .bl (f i j))) : OpD Z X (compareOp op) (cmpI f) := by
  refine ⟨_, h, fun H M x y dx dy R Q hr rx ry g k => ?_⟩
  cases dx <;> cases dy <;> first | exact g.elim | skip
  rw [rd_int rx, rd_int ry]
  exact ⟨_, _, rfl, rfl, k _ _ _ _ g hr.stay mk_bl⟩
abbrev subD := intI (fun _ _ => True) fun i j => i - j
abbrev mulD := intI CMul fun i j => i * j
abbrev mulWD := intI CMulW fun i j => i * j
abbrev fdivD := intI CDiv fun i j => i / j
abbrev fdivWD := intI CDivW fun i j => i / j
abbrev modD := intI (fun _ j => 0 < j) fun i j => i % j
abbrev powD := intI CPow fun i j => i ^ j.toNat
abbrev ltD := cmpI fun i j => decide (i < j)
abbrev leD := cmpI fun i j => decide (i ≤ j)
abbrev gtD := cmpI fun i j => decide (j < i)
abbrev geD := cmpI fun i j => decide (j ≤ i)
theorem o_sub : OpD Z X (binaryOp .Sub) subD := o_int0 op_sub
theorem o_mul : OpD Z X (binaryOp .Mult) mulD := o_int op_mul
theorem o_mulW : OpD Z X (binaryOp .Mult) mulWD := o_int op_mulW
theorem o_fdiv : OpD Z X (binaryOp .FloorDiv) fdivD := o_int op_fdiv
theorem o_fdivW : OpD Z X (binaryOp .FloorDiv) fdivWD := o_int op_fdivW
theorem o_mod : OpD Z X (binaryOp .Mod) modD := o_int op_mod
theorem o_pow : OpD Z X (binaryOp .Pow) powD := o_int op_pow
theorem o_lt : OpD Z X (compareOp .Lt) ltD := o_cmp op_lt
theorem o_le : OpD Z X (compareOp .LtE) leD := o_cmp op_le
theorem o_gt : OpD Z X (compareOp .Gt) gtD := o_cmp op_gt
theorem o_ge : OpD Z X (compareOp .GtE) geD := o_cmp op_ge

def isN : D → Bool
  | .non => true
  | _ => false
def isD : D → D → DM → DQ → Prop := fun x y M R => match y with
  | .non => R (.bl (isN x)) M
  | _ => False
def isNotD : D → D → DM → DQ → Prop := fun x y M R => match y with
  | .non => R (.bl (!isN x)) M
  | _ => False
theorem isN_of {K : PySem.W.Frag} {H : Hp} {d : D} {v : V} (r : RD K H d v) : decide (v = V.non) = isN d := by
  cases d with
  | non => rw [rd_non r]; rfl
  | bl b => rw [rd_bl r]; rfl
  | int b => rw [rd_int r]; rfl
  | str b => rw [rd_str r]; rfl
  | ref b => rw [rd_ref r]; rfl
  | tup b => obtain ⟨a, vs, rfl, _⟩ := rd_tp r; rfl
theorem o_is : OpD Z X (compareOp .Is) isD := by
  refine ⟨_, op_isN, fun H M x y dx dy R Q hr rx ry g k => ?_⟩
  cases dy <;> first | exact g.elim | skip
  refine ⟨rd_non ry, ?_⟩
  rw [isN_of rx]
  exact k _ _ _ _ g hr.stay mk_bl
theorem o_isNot : OpD Z X (compareOp .IsNot) isNotD := by
  refine ⟨_, op_notN, fun H M x y dx dy R Q hr rx ry g k => ?_⟩
  cases dy <;> first | exact g.elim | skip
  refine ⟨rd_non ry, ?_⟩
  rw [isN_of rx]
  exact k _ _ _ _ g hr.stay mk_bl

mutual
inductive PyOf (M : DM) : D → PyData → Prop
  | non : PyOf M .non .none
  | bl (b : Bool) : PyOf M (.bl b) (.bool b)
  | int (i : Int) : PyOf M (.int i) (.int i)
  | str (x : List Nat) : PyOf M (.str x) (.str (sV x))
  | tup {ds : List D} {ps : List PyData} : PyAll M ds ps → PyOf M (.tup ds) (.tuple ps)
  | lst {a : Addr} {ds : List D} {ps : List PyData} : M a = some (.lst ds) → PyAll M ds ps → PyOf M (.ref a) (.list ps)
inductive PyAll (M : DM) : List D → List PyData → Prop
  | nil : PyAll M [] []
  | cons {d : D} {p : PyData} {ds : List D} {ps : List PyData} : PyOf M d p → PyAll M ds ps → PyAll M (d :: ds) (p :: ps)
end
mutual
theorem PyOf.dp {Z : ZP} {H : Hp} {M : DM} (hr : RM Z H M) : ∀ (p : PyData) (d : D) (v : V), PyOf M d p → RD Z.K H d v → Dp Z.K H v p
  | .none, _, v, h, r => by cases h; rw [rd_non r]; exact .non
  | .bool b, _, v, h, r => by cases h; rw [rd_bl r]; exact .bl b
  | .int b, _, v, h, r => by cases h; rw [rd_int r]; exact .int b
  | .str b, _, v, h, r => by cases h; rw [rd_str r]; exact .str _
  | .tuple ps, _, v, h, r => by
    cases h with
    | tup h => obtain ⟨a, vs, rfl, s, rs⟩ := rd_tp r; exact .tup s (PyAll.dp hr ps _ vs h rs)
  | .list ps, _, v, h, r => by
    cases h with
    | lst e h => obtain ⟨vs, e1, rs⟩ := hr _ _ e; rw [rd_ref r]; exact .lst (SqL.of e1) (PyAll.dp hr ps _ vs h rs)
  | .dict _, _, v, h, r => by cases h
theorem PyAll.dp {Z : ZP} {H : Hp} {M : DM} (hr : RM Z H M) : ∀ (ps : List PyData) (ds : List D) (vs : List V), PyAll M ds ps → RDs Z.K H ds vs → DpAll Z.K H vs ps
  | [], _, vs, h, r => by cases h; rw [RDs] at r; subst r; exact .nil
  | p :: ps, _, vs, h, r => by
    cases h with
    | cons h1 h2 =>
      rw [RDs] at r
      obtain ⟨v, w, rfl, r1, r2⟩ := r
      exact .cons (PyOf.dp hr p _ v h1 r1) (PyAll.dp hr ps _ w h2 r2)
end
def eqS : D → D → Option Bool
  | .non, .non => some true
  | .int i, .int j => some (decide (i = j))
  | .bl i, .bl j => some (decide (i = j))
  | .str i, .str j => some (decide (i = j))
  | .non, .int _ => some false | .int _, .non => some false | .non, .bl _ => some false | .bl _, .non => some false | .non, .str _ => some false | .str _, .non => some false
  | .int _, .str _ => some false | .str _, .int _ => some false | .bl _, .str _ => some false | .str _, .bl _ => some false
  | _, _ => none
def eqD : D → D → DM → DQ → Prop := fun x y M R => match eqS x y with
  | some b => R (.bl b) M
  | none => ∃ p q, PyOf M x p ∧ PyOf M y q ∧ SeqAt.shaped p = true ∧ SeqAt.shaped q = true ∧ R (.bl (PyData.eqv p q)) M
def neD : D → D → DM → DQ → Prop := fun x y M R => match eqS x y with
  | some b => R (.bl (!b)) M
  | none => ∃ p q, PyOf M x p ∧ PyOf M y q ∧ SeqAt.shaped p = true ∧ SeqAt.shaped q = true ∧ R (.bl (!PyData.eqv p q)) M
theorem eqS_of {K : PySem.W.Frag} {H : Hp} {x y : D} {v u : V} {b : Bool} (rx : RD K H x v) (ry : RD K H y u) (e : eqS x y = some b) : scal v u = true ∧ decide (v = u) = b := by
  cases x <;> cases y <;> first | (simp [eqS] at e; done) | skip
  all_goals (simp only [eqS, Option.some.injEq] at e; subst e)
  all_goals (simp only [RD] at rx ry; subst rx; subst ry)
  all_goals first
    | exact ⟨rfl, dec_sV⟩
    | exact ⟨rfl, rfl⟩
    | exact ⟨rfl, by simp⟩
theorem o_eq (hK : X.K = Z.K) (hu : X.A.units + 64 < cLine) : OpD Z X (compareOp .Eq) eqD := by
  refine ⟨_, OpR.or op_eq (op_eqD hu), fun H M x y dx dy R Q hr rx ry g k => ?_⟩
  unfold eqD at g
  split at g
  · rename_i b e
    obtain ⟨s, d⟩ := eqS_of rx ry e
    refine .inl ⟨s, ?_⟩
    rw [d]
    exact k _ _ _ _ g hr.stay mk_bl
  · obtain ⟨p, q, hp, hq, sp, sq, g⟩ := g
    exact .inr ⟨p, q, hK ▸ PyOf.dp hr.mm p _ _ hp rx, hK ▸ PyOf.dp hr.mm q _ _ hq ry, sp, sq, k _ _ _ _ g hr.stay mk_bl⟩
theorem o_ne (hK : X.K = Z.K) (hu : X.A.units + 64 < cLine) : OpD Z X (compareOp .NotEq) neD := by
  refine ⟨_, OpR.or op_ne (op_neD hu), fun H M x y dx dy R Q hr rx ry g k => ?_⟩
  unfold neD at g
  split at g
  · rename_i b e
    obtain ⟨s, d⟩ := eqS_of rx ry e
    refine .inl ⟨s, ?_⟩
    rw [d]
    exact k _ _ _ _ g hr.stay mk_bl
  · obtain ⟨p, q, hp, hq, sp, sq, g⟩ := g
    exact .inr ⟨p, q, hK ▸ PyOf.dp hr.mm p _ _ hp rx, hK ▸ PyOf.dp hr.mm q _ _ hq ry, sp, sq, k _ _ _ _ g hr.stay mk_bl⟩

def flatD : D → Bool
  | .non => true | .bl _ => true | .int _ => true | .str _ => true
  | _ => false
def eqF : D → D → Bool
  | .non, .non => true
  | .bl a, .bl b => a == b
  | .bl a, .int b => (if a then 1 else 0) == b
  | .int a, .bl b => a == (if b then 1 else 0)
  | .int a, .int b => a == b
  | .str a, .str b => a == b
  | _, _ => false
def inF (x : D) (ds : List D) : Bool := ds.any fun y => eqF y x
theorem flatV_of {K : PySem.W.Frag} {H : Hp} {d : D} {v : V} (r : RD K H d v) (f : flatD d = true) : flatV v = true := by
  cases d <;> first | (simp [flatD] at f; done) | (simp only [RD] at r; subst r; rfl)
theorem eqV_of {K : PySem.W.Frag} {H : Hp} {d e : D} {v u : V} (r : RD K H d v) (q : RD K H e u) (f : flatD d = true) (g : flatD e = true) : eqV v u = eqF d e := by
  cases d <;> cases e <;> first | (simp [flatD] at f; done) | (simp [flatD] at g; done) | skip
  all_goals (simp only [RD] at r q; subst r; subst q)
  all_goals first
    | rfl
    | (simp only [eqV, eqF]; rw [Bool.eq_iff_iff]; simp only [beq_iff_eq]; exact ⟨fun h => sV_inj h, fun h => by rw [h]⟩)
theorem inV_of {K : PySem.W.Frag} {H : Hp} {x : D} {u : V} (q : RD K H x u) (g : flatD x = true) : ∀ {ds : List D} {vs : List V}, RDs K H ds vs → ds.all flatD = true → vs.all flatV = true ∧ inV u vs = inF x ds
  | [], vs, r, _ => by rw [RDs] at r; subst r; exact ⟨rfl, rfl⟩
  | d :: ds, vs, r, f => by
    rw [RDs] at r
    obtain ⟨v, w, rfl, r1, r2⟩ := r
    rw [List.all_cons, Bool.and_eq_true] at f
    obtain ⟨i1, i2⟩ := inV_of q g r2 f.2
    refine ⟨by rw [List.all_cons, flatV_of r1 f.1, i1]; rfl, ?_⟩
    unfold inV inF at *
    rw [List.any_cons, List.any_cons, eqV_of r1 q f.1 g, i2]
def inG (neg : Bool) : D → D → DM → DQ → Prop := fun x y M R => match y with
  | .str s => (match x with
    | .str [c] => R (.bl (if neg then !decide (c ∈ s) else decide (c ∈ s))) M
    | _ => False)
  | .tup ds => if flatD x && ds.all flatD then R (.bl (if neg then !inF x ds else inF x ds)) M else
      ∃ p q, PyOf M x p ∧ PyAll M ds q ∧ SeqAt.shaped p = true ∧ SeqAt.shaped (.tuple q) = true ∧ R (.bl (if neg then !(q.any fun z => PyData.eqv z p) else q.any fun z => PyData.eqv z p)) M
  | .ref a => ∃ ds, M a = some (.lst ds) ∧ flatD x = true ∧ ds.all flatD = true ∧ R (.bl (if neg then !inF x ds else inF x ds)) M
  | _ => False
abbrev inD := inG false
abbrev notInD := inG true
def rInT (K : PySem.W.Frag) (neg : Bool) : R2 := fun x y H Q => ∃ d ds, Dp K H x d ∧ Dp K H y (.tuple ds) ∧ SeqAt.shaped d = true ∧ SeqAt.shaped (.tuple ds) = true ∧ Q (.bl (if neg then !(ds.any fun z => PyData.eqv z d) else ds.any fun z => PyData.eqv z d)) H
theorem op_inT (hu : X.A.units + 65 < cLine) : OpR X (compareOp .In) (rInT X.K false) := by
  intro pz s σ H x y v u Q I rx ry h
  obtain ⟨d, ds, hd, he, sd, se, q⟩ := h
  obtain ⟨as, r1⟩ := Dp.reads I d x v hd rx
  obtain ⟨bs, r2⟩ := Dp.reads I (.tuple ds) y u he ry
  exact SeqAt.in_tuple_reads r2 r1 (SeqAt.canLay_of_shaped se) (SeqAt.canLay_of_shaped sd) (room_in_shaped sd hu) ⟨.bl _, H, I, rfl, q⟩
theorem op_notInT (hu : X.A.units + 65 < cLine) : OpR X (compareOp .NotIn) (rInT X.K true) := by
  intro pz s σ H x y v u Q I rx ry h
  obtain ⟨d, ds, hd, he, sd, se, q⟩ := h
  obtain ⟨as, r1⟩ := Dp.reads I d x v hd rx
  obtain ⟨bs, r2⟩ := Dp.reads I (.tuple ds) y u he ry
  exact SeqAt.notIn_tuple_reads r2 r1 (SeqAt.canLay_of_shaped se) (SeqAt.canLay_of_shaped sd) (room_in_shaped sd hu) ⟨.bl _, H, I, rfl, q⟩
theorem one_sV (c : Nat) : sV [c] = ⟨#[c]⟩ := rfl
theorem in_lift {neg : Bool} {K : PySem.W.Frag} {s : R2} (hs : ∀ (c : Nat) (z : Str) H Q, Q (.bl (if neg then !decide (c ∈ z.cps.toList) else decide (c ∈ z.cps.toList))) H → s (.str ⟨#[c]⟩) (.str z) H Q)
    (H : Hp) (M : DM) (x y : V) (dx dy : D) (R : DQ) (Q : VK) (hr : Here Z H M) (rx : RD Z.K H dx x) (ry : RD Z.K H dy y) (g : inG neg dx dy M R) (k : ∀ d M' v H', R d M' → Nx Z H H' M' → RD Z.K H' d v → Q v H') :
    s x y H Q ∨ rIn Z.K neg x y H Q ∨ rInT Z.K neg x y H Q := by
  unfold inG at g
  split at g
  · rename_i z
    split at g
    · rename_i c
      rw [rd_str rx, rd_str ry]
      refine .inl (hs c (sV z) H Q ?_)
      rw [sV_cps]
      exact k _ _ _ _ g hr.stay mk_bl
    · exact g.elim
  · rename_i ds
    obtain ⟨a, vs, rfl, sa, ra⟩ := rd_tp ry
    split at g
    · rename_i hf
      rw [Bool.and_eq_true] at hf
      obtain ⟨i1, i2⟩ := inV_of rx hf.1 ra hf.2
      refine .inr (.inl ⟨a, vs, rfl, .inr sa, flatV_of rx hf.1, i1, ?_⟩)
      rw [i2]
      exact k _ _ _ _ g hr.stay mk_bl
    · obtain ⟨p, q, hp, hq, sp, sq, g⟩ := g
      exact .inr (.inr ⟨p, q, PyOf.dp hr.mm p _ _ hp rx, .tup sa (PyAll.dp hr.mm q _ _ hq ra), sp, sq, k _ _ _ _ g hr.stay mk_bl⟩)
  · obtain ⟨ds, e, f1, f2, g⟩ := g
    obtain ⟨vs, e1, r1⟩ := hr.at_lst e
    obtain ⟨i1, i2⟩ := inV_of rx f1 r1 f2
    rw [rd_ref ry]
    refine .inr (.inl ⟨_, vs, rfl, .inl (SqL.of e1), flatV_of rx f1, i1, ?_⟩)
    rw [i2]
    exact k _ _ _ _ g hr.stay mk_bl
  · exact g.elim
theorem o_in (hK : X.K = Z.K) (hu : X.A.units + 65 < cLine) : OpD Z X (compareOp .In) inD := by
  refine ⟨_, OpR.or op_in_sign (OpR.or op_in_seq (op_inT hu)), fun H M x y dx dy R Q hr rx ry g k => ?_⟩
  rw [hK]
  exact in_lift (neg := false) (K := Z.K) (s := fun x y H Q => ∃ (c : Nat) (z : Str), x = .str ⟨#[c]⟩ ∧ y = .str z ∧ Q (.bl (decide (c ∈ z.cps.toList))) H) (fun c z H Q q => ⟨c, z, rfl, rfl, q⟩) H M x y dx dy R Q hr rx ry g k
theorem o_notIn (hK : X.K = Z.K) (hu : X.A.units + 65 < cLine) : OpD Z X (compareOp .NotIn) notInD := by
  refine ⟨_, OpR.or op_notIn_sign (OpR.or op_notIn_seq (op_notInT hu)), fun H M x y dx dy R Q hr rx ry g k => ?_⟩
  rw [hK]
  exact in_lift (neg := true) (K := Z.K) (s := fun x y H Q => ∃ (c : Nat) (z : Str), x = .str ⟨#[c]⟩ ∧ y = .str z ∧ Q (.bl (!decide (c ∈ z.cps.toList))) H) (fun c z H Q q => ⟨c, z, rfl, rfl, q⟩) H M x y dx dy R Q hr rx ry g k
end
end DL

set_option Elab.async false
set_option linter.all false
set_option maxRecDepth 100000
namespace DL
open PySem PySem.Spec PyProof.Rows L2

def ixD : D → D → DM → DQ → Prop := fun x y M R => match x, y with
  | .tup ds, .int i => (match atI ds i with
    | some d => R d M
    | none => False)
  | .ref a, .int i => ∃ ds d, M a = some (.lst ds) ∧ atI ds i = some d ∧ R d M
  | .str s, .int i => s.length ≤ sizeLine ∧ (match atI s i with
    | some c => R (.str [c]) M
    | none => False)
  | _, _ => False
theorem atI_rd {K : PySem.W.Frag} {H : Hp} {ds : List D} {vs : List V} {i : Int} {d : D} (r : RDs K H ds vs) (e : atI ds i = some d) : ∃ v, atI vs i = some v ∧ RD K H d v := by
  unfold atI at e ⊢
  rw [r.length]
  cases q : ixN ds.length i with
  | none => rw [q] at e; cases e
  | some j =>
    rw [q] at e
    exact r.get e
section
variable {Z : ZP} {G : Hp} {X : Cx} {pos : Pos} {a b : Expr} {ta tb : DE}
theorem qe_ix (hK : X.K = Z.K) (ha : QE Z G X a ta) (hb : QE Z G X b tb) (hs : PlainIx b := by exact fun _ _ => rfl) : QE Z G X (.Subscript a b pos) (dOp ixD ta tb) := by
  refine ⟨fun W tk => pe_of (pe_ix (IxR.or ix_tup (IxR.or ix_list ix_str)) (ha.pe W tk) (hb.pe W tk) hs) (dop_lift (f := fun v u => getItem v u) fun H M x y dx dy R Q hr rx ry g k => ?_)⟩
  unfold ixD at g
  split at g
  · rename_i ds i
    obtain ⟨p, vs, rfl, s, r⟩ := rd_tp rx
    split at g
    · rename_i d e
      obtain ⟨v, e1, rd⟩ := atI_rd r e
      rw [rd_int ry]
      exact .inl ⟨p, vs, i, v, rfl, rfl, hK ▸ s, e1, k _ _ _ _ g hr.stay rd⟩
    · exact g.elim
  · rename_i p i
    obtain ⟨ds, d, e0, e, g⟩ := g
    obtain ⟨vs, h1, r⟩ := hr.at_lst e0
    obtain ⟨v, e1, rd⟩ := atI_rd r e
    rw [rd_int ry, rd_ref rx]
    exact .inr (.inl ⟨p, vs, i, v, rfl, rfl, SqL.of h1, e1, k _ _ _ _ g hr.stay rd⟩)
  · rename_i z i
    obtain ⟨hz, g⟩ := g
    split at g
    · rename_i c e
      rw [rd_int ry, rd_str rx]
      exact .inr (.inr ⟨sV z, i, c, rfl, rfl, by rw [sV_len]; exact hz, by rw [sV_cps]; exact e, k _ _ _ _ g hr.stay mk_str⟩)
    · exact g.elim
  · exact g.elim

def cutL {α : Type} (xs : List α) (lo hi : Option Int) : List α := (xs.drop (HT.sIx xs.length 0 lo)).take (HT.sIx xs.length xs.length hi - HT.sIx xs.length 0 lo)
theorem cutL_whole {α : Type} {xs : List α} {lo hi : Option Int} (h : HT.sIx xs.length 0 lo = 0 ∧ HT.sIx xs.length xs.length hi = xs.length) : cutL xs lo hi = xs := by
  unfold cutL
  rw [h.1, h.2]
  simp
theorem RDs.cut {K : PySem.W.Frag} {H : Hp} {ds : List D} {vs : List V} (r : RDs K H ds vs) (lo hi : Option Int) : RDs K H (cutL ds lo hi) (cutV vs lo hi) := by
  unfold cutL cutV
  rw [r.length]
  exact (r.drop _).take _
abbrev DO := DW → Env → DM → (Option Int → DM → Prop) → Prop
def dNoPart : DO := fun _ _ M R => R none M
def dPart (t : DE) : DO := fun W ρ M R => t W ρ M fun d M1 => match d with
  | .int i => R (some i) M1
  | _ => False
def lO (Z : ZP) (G : Hp) (t : Env → DM → (Option Int → DM → Prop) → Prop) : TO := fun σ H Q => ∃ ρ M R, Rel Z G σ H ρ M ∧ t ρ M R ∧ ∀ o M' H', R o M' → Nx Z H H' M' → Q o H'
structure QO (Z : ZP) (G : Hp) (X : Cx) (e : Option Expr) (t : DO) : Prop where
  po : ∀ W, Takes X (lW Z G W) → PO X e (lO Z G (t W))
theorem po_of {X : Cx} {e : Option Expr} {t t' : TO} (h : PO X e t) (w : ∀ σ H Q, t' σ H Q → t σ H Q) : PO X e t' := ⟨fun pz s σ H Q I q => h.run pz s σ H Q I (w σ H Q q)⟩
theorem qo_none : QO Z G X none dNoPart := ⟨fun W tk => po_of po_none fun σ H Q ⟨ρ, M, R, rl, h, k⟩ => k none M H h rl.stay⟩
theorem qo_some (h : QE Z G X a ta) : QO Z G X (some a) (dPart ta) := ⟨fun W tk => po_of (po_some (h.pe W tk)) fun σ H Q ⟨ρ, M, R, rl, h, k⟩ => ⟨ρ, M, _, rl, h, fun d M1 v H1 h1 n1 r1 => by
  split at h1
  · rename_i i
    exact ⟨i, rd_int r1, k _ _ _ h1 n1⟩
  · exact h1.elim⟩⟩
def slD : D → Option Int → Option Int → DM → DQ → Prop := fun x lo hi M R => match x with
  | .tup ds => R (.tup (cutL ds lo hi)) M
  | .str s => s.length ≤ sizeLine ∧ R (.str (cutL s lo hi)) M
  | .ref a => ∃ ds, M a = some (.lst ds) ∧ ∀ p, M p = none → R (.ref p) (mupd M p (.lst (cutL ds lo hi)))
  | _ => False
def dSl (te : DE) (tl th : DO) : DE := fun W ρ M R => te W ρ M fun x M1 => tl W ρ M1 fun l M2 => th W ρ M2 fun u M3 => slD x l u M3 R
theorem cutS_sV (z : List Nat) (lo hi : Option Int) : cutS (sV z) lo hi = sV (cutL z lo hi) := by
  unfold cutS cutL
  rw [sV_cps, sV_len]
  rfl
theorem qe_slice {lo hi : Option Expr} {p2 : Pos} {tl th : DO} (hK : X.K = Z.K) (he : QE Z G X a ta) (hl : QO Z G X lo tl) (hh : QO Z G X hi th) : QE Z G X (.Subscript a (.Slice lo hi none p2) pos) (dSl ta tl th) := by
  refine ⟨fun W tk => pe_of (pe_slice (SlR.or sl_tupA (SlR.or sl_list sl_str)) (he.pe W tk) (hl.po W tk) (hh.po W tk)) fun σ H Q ⟨ρ, M, R, rl, h, k⟩ => ?_⟩
  refine ⟨ρ, M, _, rl, h, fun x M1 v1 H1 h1 n1 r1 => ⟨ρ, M1, _, rl.nx n1, h1, fun l M2 H2 h2 n2 => ⟨ρ, M2, _, (rl.nx n1).nx n2, h2, fun u M3 H3 h3 n3 => ?_⟩⟩⟩
  have n := (n1.trans n2).trans n3
  have r3 := RD.keep n3.kp _ _ (RD.keep n2.kp _ _ r1)
  have hr := n3.here
  unfold slD at h3
  split at h3
  · rename_i ds
    obtain ⟨p, vs, rfl, s, r⟩ := rd_tp r3
    refine .inl ⟨p, vs, rfl, hK ▸ s, fun e => ?_, fun _ q hq => k _ _ _ _ h3 (n.trans (hr.laid hq)) (rd_tup hq (r.cut l u))⟩
    rw [r.length] at e
    rw [cutL_whole e] at h3
    exact k _ _ _ _ h3 n (mk_tup s r)
  · rename_i z
    obtain ⟨hz, h3⟩ := h3
    rw [rd_str r3]
    refine .inr (.inr ⟨sV z, rfl, by rw [sV_len]; exact hz, ?_⟩)
    rw [cutS_sV]
    exact k _ _ _ _ h3 n mk_str
  · rename_i p
    obtain ⟨ds, e0, h3⟩ := h3
    obtain ⟨vs, e1, r⟩ := hr.at_lst e0
    rw [rd_ref r3]
    exact .inr (.inl ⟨p, vs, rfl, SqL.of e1, fun q hq => k _ _ _ _ (h3 q (hr.free hq)) (n.trans (hr.lst hq (r.cut l u))) mk_ref⟩)
  · exact h3.elim
end

def CallD (Z : ZP) (X : Cx) (f : Value) (g : List D → DM → DQ → Prop) : Prop :=
  ∃ r, CallR X f r ∧ ∀ (H : Hp) (M : DM) (vs : List V) (ds : List D) (R : DQ) (Q : VK), Here Z H M → RDs Z.K H ds vs → g ds M R → (∀ d M' v H', R d M' → Nx Z H H' M' → RD Z.K H' d v → Q v H') → r vs H Q
def dCB (g : List D → DM → DQ → Prop) (ta : DA) : DE := fun W ρ M R => ta W ρ M fun ds M1 => g ds M1 R
section
variable {Z : ZP} {G : Hp} {X : Cx} {pos p : Pos} {e : Expr} {es : List Expr} {ta : DA} {x : Str} {id T : String} {g : List D → DM → DQ → Prop}
theorem dcb_lift {f : Value} {W : DW} {r : List V → Hp → VK → Prop} (hr : ∀ (H : Hp) (M : DM) (vs : List V) (ds : List D) (R : DQ) (Q : VK), Here Z H M → RDs Z.K H ds vs → g ds M R → (∀ d M' v H', R d M' → Nx Z H H' M' → RD Z.K H' d v → Q v H') → r vs H Q)
    (σ : L2.St) (H : Hp) (Q : VK) (h : lE Z G (dCB g ta W) σ H Q) : tCB r (lA Z G (ta W)) σ H Q := by
  obtain ⟨ρ, M, R, rl, h, k⟩ := h
  exact ⟨ρ, M, _, rl, h, fun ds M1 vs H1 h1 n1 r1 => hr H1 M1 vs ds R Q n1.here r1 h1 fun d M' v H' q n rd => k d M' v H' q (n1.trans n) rd⟩
theorem qe_callB (c : CallD Z X (.builtin id) g) (hm : X.mg x = none) (hv : bootBuiltins x = some (.builtin id)) (ha : QA Z G X (e :: es) ta) (hg : Gl X x := by rfl) (hn : x ≠ "__name__" := by decide) (hdb : (x == ("__debug__" : Str)) = false := by decide)
    (he : starEach (e :: es) X.env = (false, eval e X.env) :: starEach es X.env := by rfl) (hpl : (backTo pos (starEach es X.env)).any (·.1) = false := by rfl) : QE Z G X (.Call (.Name x p) (e :: es) [] pos) (dCB g ta) := by
  obtain ⟨r, hc, hr⟩ := c
  exact ⟨fun W tk => pe_of (pe_callB hc hg hm hv (ha.pa W tk) hn hdb he hpl) (dcb_lift (f := .builtin id) hr)⟩
theorem qe_callTy (c : CallD Z X (.type T) g) (hm : X.mg x = none) (hv : bootBuiltins x = some (.type T)) (ha : QA Z G X (e :: es) ta) (hg : Gl X x := by rfl) (hn : x ≠ "__name__" := by decide) (hdb : (x == ("__debug__" : Str)) = false := by decide)
    (he : starEach (e :: es) X.env = (false, eval e X.env) :: starEach es X.env := by rfl) (hpl : (backTo pos (starEach es X.env)).any (·.1) = false := by rfl) : QE Z G X (.Call (.Name x p) (e :: es) [] pos) (dCB g ta) := by
  obtain ⟨r, hc, hr⟩ := c
  exact ⟨fun W tk => pe_of (pe_callTy hc hg hm hv (ha.pa W tk) hn hdb he hpl) (dcb_lift (f := .type T) hr)⟩
theorem rds_one {K : PySem.W.Frag} {H : Hp} {d : D} {vs : List V} (r : RDs K H [d] vs) : ∃ v, vs = [v] ∧ RD K H d v := by
  rw [RDs] at r
  obtain ⟨v, w, rfl, r1, r2⟩ := r
  rw [RDs] at r2
  subst r2
  exact ⟨v, rfl, r1⟩
theorem rds_two {K : PySem.W.Frag} {H : Hp} {d e : D} {vs : List V} (r : RDs K H [d, e] vs) : ∃ v u, vs = [v, u] ∧ RD K H d v ∧ RD K H e u := by
  rw [RDs] at r
  obtain ⟨v, w, rfl, r1, r2⟩ := r
  obtain ⟨u, rfl, r3⟩ := rds_one r2
  exact ⟨v, u, rfl, r1, r3⟩
def lenD : List D → DM → DQ → Prop := fun ds M R => match ds with
  | [.str s] => s.length ≤ sizeLine ∧ R (.int s.length) M
  | [.tup xs] => R (.int xs.length) M
  | [.ref a] => ∃ xs, M a = some (.lst xs) ∧ R (.int xs.length) M
  | _ => False
theorem c_len (hK : X.K = Z.K) : CallD Z X (.builtin "len") lenD := by
  refine ⟨_, call_len, fun H M vs ds R Q hr rd g k => ?_⟩
  unfold lenD at g
  split at g
  · rename_i s
    obtain ⟨v, rfl, r1⟩ := rds_one rd
    rw [rd_str r1]
    refine ⟨_, s.length, rfl, ⟨by rw [sV_len]; exact g.1, (sV_len s)⟩, k _ _ _ _ g.2 hr.stay mk_int⟩
  · rename_i xs
    obtain ⟨v, rfl, r1⟩ := rds_one rd
    obtain ⟨p, vs, rfl, s, r⟩ := rd_tp r1
    exact ⟨_, xs.length, rfl, .inr ⟨vs, hK ▸ s, r.length.symm⟩, k _ _ _ _ g hr.stay mk_int⟩
  · rename_i a
    obtain ⟨v, rfl, r1⟩ := rds_one rd
    obtain ⟨xs, e, g⟩ := g
    obtain ⟨vs, e1, r⟩ := hr.at_lst e
    rw [rd_ref r1]
    exact ⟨_, xs.length, rfl, .inl ⟨vs, SqL.of e1, r.length.symm⟩, k _ _ _ _ g hr.stay mk_int⟩
  · exact g.elim
def minD : List D → DM → DQ → Prop := fun ds M R => match ds with
  | [.int i, .int j] => R (.int (if j < i then j else i)) M
  | _ => False
def maxD : List D → DM → DQ → Prop := fun ds M R => match ds with
  | [.int i, .int j] => R (.int (if j > i then j else i)) M
  | _ => False
def absD : List D → DM → DQ → Prop := fun ds M R => match ds with
  | [.int i] => R (.int (if i < 0 then -i else i)) M
  | _ => False
def intD : List D → DM → DQ → Prop := fun ds M R => match ds with
  | [.int i] => R (.int i) M
  | [.bl b] => R (.int (if b then 1 else 0)) M
  | [.str s] => ∃ n, PySem.intText? (sV s) = some n ∧ s.length ≤ 640 ∧ R (.int n) M
  | _ => False
def strInt (i : Int) : List Nat := (toString i : Str).cps.toList
def strD : List D → DM → DQ → Prop := fun ds M R => match ds with
  | [.int i] => i.natAbs.log2 < 1920 ∧ R (.str (strInt i)) M
  | _ => False
theorem c_min (hc : X.calm = true) : CallD Z X (.builtin "min") minD := by
  refine ⟨_, call_min2 hc, fun H M vs ds R Q hr rd g k => ?_⟩
  unfold minD at g
  split at g
  · obtain ⟨v, u, rfl, r1, r2⟩ := rds_two rd
    rw [rd_int r1, rd_int r2]
    exact ⟨_, _, rfl, k _ _ _ _ g hr.stay mk_int⟩
  · exact g.elim
theorem c_max (hc : X.calm = true) : CallD Z X (.builtin "max") maxD := by
  refine ⟨_, call_max2 hc, fun H M vs ds R Q hr rd g k => ?_⟩
  unfold maxD at g
  split at g
  · obtain ⟨v, u, rfl, r1, r2⟩ := rds_two rd
    rw [rd_int r1, rd_int r2]
    exact ⟨_, _, rfl, k _ _ _ _ g hr.stay mk_int⟩
  · exact g.elim
theorem c_abs : CallD Z X (.builtin "abs") absD := by
  refine ⟨_, call_abs, fun H M vs ds R Q hr rd g k => ?_⟩
  unfold absD at g
  split at g
  · obtain ⟨v, rfl, r1⟩ := rds_one rd
    rw [rd_int r1]
    exact ⟨_, rfl, k _ _ _ _ g hr.stay mk_int⟩
  · exact g.elim
theorem CallR.or {f : Value} {r r' : List V → Hp → VK → Prop} (h : CallR X f r) (h' : CallR X f r') : CallR X f (fun vs H Q => r vs H Q ∨ r' vs H Q) := by
  intro pz s σ H xs uz Q I rs q
  rcases q with q | q
  · exact h pz s σ H xs uz Q I rs q
  · exact h' pz s σ H xs uz Q I rs q
theorem c_int : CallD Z X (.type "int") intD := by
  refine ⟨_, CallR.or call_int1 call_int_str, fun H M vs ds R Q hr rd g k => ?_⟩
  unfold intD at g
  split at g
  · obtain ⟨v, rfl, r1⟩ := rds_one rd
    rw [rd_int r1]
    exact .inl (.inl ⟨_, rfl, k _ _ _ _ g hr.stay mk_int⟩)
  · obtain ⟨v, rfl, r1⟩ := rds_one rd
    rw [rd_bl r1]
    exact .inl (.inr ⟨_, rfl, k _ _ _ _ g hr.stay mk_int⟩)
  · rename_i s
    obtain ⟨v, rfl, r1⟩ := rds_one rd
    obtain ⟨n, e, l, g⟩ := g
    rw [rd_str r1]
    exact .inr ⟨_, n, rfl, e, by rw [sV_len]; exact l, k _ _ _ _ g hr.stay mk_int⟩
  · exact g.elim
theorem sV_back (x : Str) : sV x.cps.toList = x := by cases x; simp [sV]
theorem c_str : CallD Z X (.type "str") strD := by
  refine ⟨_, call_str_int, fun H M vs ds R Q hr rd g k => ?_⟩
  unfold strD at g
  split at g
  · obtain ⟨v, rfl, r1⟩ := rds_one rd
    rw [rd_int r1]
    refine ⟨_, rfl, g.1, k _ _ _ _ g.2 hr.stay ?_⟩
    rw [RD, strInt, sV_back]
  · exact g.elim
def tupleD : List D → DM → DQ → Prop := fun ds M R => match ds with
  | [.tup xs] => R (.tup xs) M
  | [.ref a] => ∃ xs M2, M a = some (.lst xs) ∧ MSub M2 M ∧ R (.tup xs) M2
  | _ => False
theorem c_tuple (hK : X.K = Z.K) : CallD Z X (.type "tuple") tupleD := by
  refine ⟨_, call_tuple_of, fun H M vs ds R Q hr rd g k => ?_⟩
  unfold tupleD at g
  split at g
  · rename_i xs
    obtain ⟨v, rfl, r1⟩ := rds_one rd
    obtain ⟨p, vs, rfl, s, r⟩ := rd_tp r1
    exact ⟨p, vs, rfl, .inr ⟨hK ▸ s, k _ _ _ _ g hr.stay (mk_tup s r)⟩⟩
  · rename_i a
    obtain ⟨v, rfl, r1⟩ := rds_one rd
    obtain ⟨xs, M2, e, sb, g⟩ := g
    obtain ⟨vs, e1, r⟩ := hr.at_lst e
    rw [rd_ref r1]
    exact ⟨a, vs, rfl, .inl ⟨SqL.of e1, fun l hl => k _ _ _ _ g ((hr.laid hl).sub sb) (rd_tup hl r)⟩⟩
  · exact g.elim
def listD : List D → DM → DQ → Prop := fun ds M R => match ds with
  | [.tup xs] => ∀ p, M p = none → R (.ref p) (mupd M p (.lst xs))
  | [.ref a] => ∃ xs, M a = some (.lst xs) ∧ ∀ p, M p = none → R (.ref p) (mupd M p (.lst xs))
  | _ => False
theorem c_list (hK : X.K = Z.K) : CallD Z X (.type "list") listD := by
  refine ⟨_, call_list_of, fun H M vs ds R Q hr rd g k => ?_⟩
  unfold listD at g
  split at g
  · rename_i xs
    obtain ⟨v, rfl, r1⟩ := rds_one rd
    obtain ⟨p, vs, rfl, s, r⟩ := rd_tp r1
    exact ⟨p, vs, rfl, .inr (hK ▸ s), fun l hl => k _ _ _ _ (g l (hr.free hl)) (hr.lst hl r) mk_ref⟩
  · rename_i a
    obtain ⟨v, rfl, r1⟩ := rds_one rd
    obtain ⟨xs, e, g⟩ := g
    obtain ⟨vs, e1, r⟩ := hr.at_lst e
    rw [rd_ref r1]
    exact ⟨a, vs, rfl, .inl (SqL.of e1), fun l hl => k _ _ _ _ (g l (hr.free hl)) (hr.lst hl r) mk_ref⟩
  · exact g.elim
end
end DL

set_option Elab.async false
set_option linter.all false
set_option maxRecDepth 100000
namespace DL
open PySem PySem.Spec PyProof.Rows L2

section
variable {Z : ZP} {G : Hp} {X : Cx} {pos p : Pos} {tg e e2 : Expr} {te : DE} {ta : DA}
def anyM : DM → Prop := fun _ => True
def dIter (te : DE) : DI := fun W ρ M R => te W ρ M fun d M1 => match d with
  | .tup ds => R ds anyM M1
  | .ref a => ∃ ds, M1 a = some (.lst ds) ∧ R ds (fun M => M a = some (.lst ds)) M1
  | .str s => R (s.map fun c => .str [c]) anyM M1
  | _ => False
theorem it_tup {H0 : Hp} {a : Addr} {ds : List D} {vs : List V} (s : SqT Z.K H0 a vs) (r : RDs Z.K H0 ds vs) : ItD Z H0 (Itt Z.K a) ds anyM := fun i H M kp hr _ => by
  have s' := kp _ _ s
  have r' := RDs.keep kp _ _ r
  have hl := r.length
  refine ⟨fun hi => ⟨vs, vs[i], s', by rw [List.getElem?_eq_getElem]⟩, fun hi => ⟨vs, s', by omega⟩, fun x H' _ ⟨eH, hx⟩ => ?_⟩
  subst eH
  have e1 := hx vs s'
  have hi : i < ds.length := by rw [← hl]; exact (List.getElem?_eq_some_iff.mp e1).1
  obtain ⟨v, e2, rd⟩ := r'.get (List.getElem?_eq_getElem hi)
  rw [e1] at e2; cases e2
  exact ⟨_, List.getElem?_eq_getElem hi, hr.stay, rd⟩
theorem it_lst {H0 : Hp} {a : Addr} {ds : List D} : ItD Z H0 (Itl Z.K a) ds (fun M => M a = some (.lst ds)) := fun i H M kp hr g => by
  obtain ⟨vs, e0, r'⟩ := hr.at_lst g
  have s' : SqL Z.K H a vs := SqL.of e0
  have hl := r'.length
  refine ⟨fun hi => ⟨vs, vs[i], s', by rw [List.getElem?_eq_getElem]⟩, fun hi => ⟨vs, s', by omega⟩, fun x H' _ ⟨eH, hx⟩ => ?_⟩
  subst eH
  have e1 := hx vs s'
  have hi : i < ds.length := by rw [← hl]; exact (List.getElem?_eq_some_iff.mp e1).1
  obtain ⟨v, e2, rd⟩ := r'.get (List.getElem?_eq_getElem hi)
  rw [e1] at e2; cases e2
  exact ⟨_, List.getElem?_eq_getElem hi, hr.stay, rd⟩
theorem it_str {H0 : Hp} {s : List Nat} : ItD Z H0 (Its (sV s)) (s.map fun c => .str [c]) anyM := fun i H M kp hr _ => by
  have hz : (sV s).cps.size = s.length := by simp [sV]
  refine ⟨fun hi => ?_, fun hi => ?_, fun x H' _ ⟨eH, c, hc, ex⟩ => ?_⟩
  · show i < (sV s).cps.size
    rw [hz]; simpa using hi
  · show (sV s).cps.size ≤ i
    rw [hz]; simpa using hi
  · subst eH
    have hc' : s[i]? = some c := by simpa [sV] using hc
    exact ⟨.str [c], by rw [List.getElem?_map, hc']; rfl, hr.stay, by rw [RD, ex]; rfl⟩
theorem it_rng {H0 : Hp} {lo : Int} {n : Nat} : ItD Z H0 (Itr lo n) ((List.range n).map fun i => D.int (lo + (i : Nat))) anyM := fun i H M kp hr _ => by
  refine ⟨fun hi => ?_, fun hi => ?_, fun x H' hi ⟨eH, ex⟩ => ?_⟩
  · show i < n
    simpa using hi
  · show n ≤ i
    simpa using hi
  · subst eH
    have hi' : i < n := by simpa using hi
    exact ⟨.int (lo + i), by rw [List.getElem?_map, List.getElem?_range hi']; rfl, hr.stay, by rw [RD]; exact ex⟩
theorem qi_any (hK : X.K = Z.K) (he : QE Z G X e te) : QI Z G X tg e (dIter te) := by
  refine ⟨fun W tk => ⟨fun pz s σ H R I h => ?_⟩⟩
  obtain ⟨ρ, M, Rd, rl, h, k⟩ := h
  refine thn ((he.pe W tk).run pz s σ H (fun v H1 => ∃ d M1, (match d with
    | .tup ds => Rd ds anyM M1
    | .ref a => ∃ ds, M1 a = some (.lst ds) ∧ Rd ds (fun M => M a = some (.lst ds)) M1
    | .str s => Rd (s.map fun c => .str [c]) anyM M1
    | _ => False) ∧ Nx Z H H1 M1 ∧ RD Z.K H1 d v) I ⟨ρ, M, _, rl, h, fun d M1 v H1 h1 n1 r1 => ⟨d, M1, h1, n1, r1⟩⟩) fun v s1 ⟨x, H1, J1, r1, d, M1, h1, n1, rd⟩ => ?_
  split at h1
  · rename_i ds
    obtain ⟨a, vs, rfl, sq, r⟩ := rd_tp rd
    have q := k ds anyM M1 (Itt X.K a) H1 h1 n1 (by rw [hK]; exact it_tup sq r)
    have sq' : SqT X.K H1 a vs := hK ▸ sq
    cases r1
    obtain ⟨iz, rv, p, hz⟩ := J1.tuple sq'
    refine wpAny_pyIter_tuple (show s1.heap.IsTuple a iz.toArray from p) ?_
    refine ⟨s1.heap.objs.size, [s1.heap.objs.size], _, _, H1, rfl, J1.kept (t' := s1.toks) fun b o e => Heap.get?_push_of_some _ e, turn_tuple a _, ⟨_, Heap.get?_push_size _ rfl, rfl, rfl⟩, fun b hb => ?_, q⟩
    have e : b = s1.heap.objs.size := by simpa using hb
    subst e
    exact J1.fpOk (Nat.le_refl _) (J1.hok.fresh (Nat.le_refl _))
  · rename_i a
    obtain ⟨ds, e0, h1⟩ := h1
    obtain ⟨vs, e1, r⟩ := n1.here.at_lst e0
    have q := k ds _ M1 (Itl X.K a) H1 h1 n1 (by rw [hK]; exact it_lst)
    rw [rd_ref rd] at r1
    cases r1
    obtain ⟨iz, rv, p, hz⟩ := J1.list (SqL.of e1)
    refine wpAny_pyIter_list p.isList ?_
    refine ⟨s1.heap.objs.size, [s1.heap.objs.size], _, _, H1, rfl, J1.kept (t' := s1.toks) fun b o e => Heap.get?_push_of_some _ e, turn_list a _, ⟨_, Heap.get?_push_size _ rfl, rfl, rfl⟩, fun b hb => ?_, q⟩
    have e : b = s1.heap.objs.size := by simpa using hb
    subst e
    exact J1.fpOk (Nat.le_refl _) (J1.hok.fresh (Nat.le_refl _))
  · rename_i z
    have q := k _ anyM M1 (Its (sV z)) H1 h1 n1 it_str
    rw [rd_str rd] at r1
    obtain ⟨t, rfl⟩ := r1
    cases ha : (sV z).cps.all (· < 128)
    · exact wpAny_pyIter_wide ha (pi_one (tk := s1.toks) J1 _ (turn_str _ (sV z) t "str_iterator" (.inr rfl)) ⟨_, Heap.get?_push_size _ rfl, rfl, rfl⟩ q)
    · exact wpAny_pyIter_ascii ha (pi_one (tk := s1.toks) J1 _ (turn_str _ (sV z) t "str_ascii_iterator" (.inl rfl)) ⟨_, Heap.get?_push_size _ rfl, rfl, rfl⟩ q)
  · exact h1.elim
def dRng1 (ta : DA) : DI := fun W ρ M R => ta W ρ M fun ds M1 => match ds with
  | [.int j] => (-(2 ^ 62) ≤ j ∧ j < 2 ^ 62) ∧ R ((List.range j.toNat).map fun i => D.int (0 + (i : Nat))) anyM M1
  | _ => False
def dRng2 (ta : DA) : DI := fun W ρ M R => ta W ρ M fun ds M1 => match ds with
  | [.int i, .int j] => (-(2 ^ 62) ≤ i ∧ i < 2 ^ 62 ∧ -(2 ^ 62) ≤ j ∧ j < 2 ^ 62) ∧ R ((List.range (j - i).toNat).map fun k => D.int (i + (k : Nat))) anyM M1
  | _ => False
theorem qi_range1 (hm : X.mg "range" = none) (ha : QA Z G X [e] ta) (hg : Gl X "range" := by rfl) (hs : starEach [e] X.env = [(false, eval e X.env)] := by rfl) : QI Z G X tg (.Call (.Name "range" p) [e] [] pos) (dRng1 ta) := by
  refine ⟨fun W tk => pi_of (pi_range1 hg hm (ha.pa W tk) hs) fun σ H R ⟨ρ, M, Rd, rl, h, k⟩ => ?_⟩
  refine ⟨ρ, M, _, rl, h, fun ds M1 vs H1 h1 n1 r1 => ?_⟩
  split at h1
  · rename_i j
    obtain ⟨v, rfl, rv⟩ := rds_one r1
    rw [rd_int rv]
    exact ⟨j, rfl, h1.1.1, h1.1.2, k _ _ _ _ _ h1.2 n1 it_rng⟩
  · exact h1.elim
theorem qi_range2 (hm : X.mg "range" = none) (ha : QA Z G X [e, e2] ta) (hg : Gl X "range" := by rfl) (hs : starEach [e, e2] X.env = [(false, eval e X.env), (false, eval e2 X.env)] := by rfl) (hs2 : starEach [e2] X.env = [(false, eval e2 X.env)] := by rfl) : QI Z G X tg (.Call (.Name "range" p) [e, e2] [] pos) (dRng2 ta) := by
  refine ⟨fun W tk => pi_of (pi_range2 hg hm (ha.pa W tk) hs hs2) fun σ H R ⟨ρ, M, Rd, rl, h, k⟩ => ?_⟩
  refine ⟨ρ, M, _, rl, h, fun ds M1 vs H1 h1 n1 r1 => ?_⟩
  split at h1
  · rename_i i j
    obtain ⟨v, u, rfl, rv, ru⟩ := rds_two r1
    rw [rd_int rv, rd_int ru]
    exact ⟨i, j, rfl, h1.1, k _ _ _ _ _ h1.2 n1 it_rng⟩
  · exact h1.elim
def zipD (xs ys : List D) : List D := (xs.zip ys).map fun p => .tup [p.1, p.2]
def dZip (ta : DA) : DI := fun W ρ M R => ta W ρ M fun ds M1 => match ds with
  | [.tup xs, .tup ys] => R (zipD xs ys) anyM M1
  | [.ref a, .ref b] => ∃ xs ys, M1 a = some (.lst xs) ∧ M1 b = some (.lst ys) ∧ R (zipD xs ys) (fun M => M a = some (.lst xs) ∧ M b = some (.lst ys)) M1
  | _ => False
theorem zipD_get {xs ys : List D} {i : Nat} {x y : D} (hx : xs[i]? = some x) (hy : ys[i]? = some y) : (zipD xs ys)[i]? = some (.tup [x, y]) := by
  unfold zipD
  rw [List.getElem?_map, List.getElem?_zip_eq_some (z := (x, y)) |>.mpr ⟨hx, hy⟩]
  rfl
theorem zipD_length (xs ys : List D) : (zipD xs ys).length = min xs.length ys.length := by simp [zipD]
theorem it_zip {H0 : Hp} {xs ys : List D} {J : It} {g : DM → Prop} {SA SB : Hp → List V → Prop}
    (hg : ∀ H M, KeepT Z.K H0 H → Here Z H M → g M → ∃ vs uz, SA H vs ∧ SB H uz ∧ RDs Z.K H xs vs ∧ RDs Z.K H ys uz)
    (go : ∀ i H vs uz x y, SA H vs → SB H uz → vs[i]? = some x → uz[i]? = some y → J.go i H) (st : ∀ i H vs uz, SA H vs → SB H uz → (vs.length ≤ i ∨ uz.length ≤ i) → J.stop i H)
    (yl : ∀ i H v H', J.yld i H v H' → ∃ T x y, v = .ref T ∧ H T = none ∧ H' = upd H T (.tup [x, y]) ∧ (∀ xs, SA H xs → xs[i]? = some x) ∧ ∀ ys, SB H ys → ys[i]? = some y) : ItD Z H0 J (zipD xs ys) g := fun i H M kp hr q => by
  obtain ⟨vs, uz, s1, s2, r1, r2⟩ := hg H M kp hr q
  have h1 := r1.length
  have h2 := r2.length
  rw [zipD_length]
  refine ⟨fun hi => ?_, fun hi => st i H vs uz s1 s2 (by omega), fun x H' hi hy => ?_⟩
  · have i1 : i < vs.length := by omega
    have i2 : i < uz.length := by omega
    exact go i H vs uz _ _ s1 s2 (List.getElem?_eq_getElem i1) (List.getElem?_eq_getElem i2)
  · obtain ⟨T, v, u, rfl, hT, rfl, hv, hu⟩ := yl i H x H' hy
    have i1 : i < xs.length := by omega
    have i2 : i < ys.length := by omega
    obtain ⟨v', e1, rd1⟩ := r1.get (List.getElem?_eq_getElem i1)
    obtain ⟨u', e2, rd2⟩ := r2.get (List.getElem?_eq_getElem i2)
    rw [hv vs s1] at e1; cases e1
    rw [hu uz s2] at e2; cases e2
    exact ⟨_, zipD_get (List.getElem?_eq_getElem i1) (List.getElem?_eq_getElem i2), hr.laid hT, rd_tup hT (RDs.cons rd1 (RDs.cons rd2 RDs.nil))⟩
theorem qi_zip {elts : List Expr} {kk : Nat} {tpos : Pos} (hK : X.K = Z.K) (hm : X.mg "zip" = none) (ha : QA Z G X [e, e2] ta) (hg : Gl X "zip" := by rfl)
    (hs : starEach [e, e2] X.env = (false, eval e X.env) :: starEach [e2] X.env := by rfl) (hpl : (backTo pos (starEach [e2] X.env)).any (·.1) = false := by rfl) : QI Z G X (.Tuple elts kk tpos) (.Call (.Name "zip" p) [e, e2] [] pos) (dZip ta) := by
  refine ⟨fun W tk => pi_of (RZ.pi_zipA hg hm (ha.pa W tk) hs hpl) fun σ H R ⟨ρ, M, Rd, rl, h, k⟩ => ?_⟩
  refine ⟨ρ, M, _, rl, h, fun ds M1 vs H1 h1 n1 r1 => ?_⟩
  split at h1
  · rename_i xs ys
    obtain ⟨v, u, rfl, rv, ru⟩ := rds_two r1
    obtain ⟨a, ws, rfl, s1, q1⟩ := rd_tp rv
    obtain ⟨b, zs, rfl, s2, q2⟩ := rd_tp ru
    refine ⟨a, b, ws, zs, rfl, .inr ⟨hK ▸ s1, hK ▸ s2, k _ anyM M1 _ _ h1 n1 ?_⟩⟩
    rw [hK]
    refine it_zip (SA := fun H vs => SqT Z.K H a vs) (SB := fun H vs => SqT Z.K H b vs) (fun H M kp hr _ => ⟨ws, zs, kp _ _ s1, kp _ _ s2, RDs.keep kp _ _ q1, RDs.keep kp _ _ q2⟩) (fun i H vs uz x y g1 g2 g3 g4 => ⟨vs, uz, x, y, g1, g2, g3, g4⟩) (fun i H vs uz g1 g2 g3 => ⟨vs, uz, g1, g2, g3⟩) (fun i H v H' q => q)
  · rename_i a b
    obtain ⟨v, u, rfl, rv, ru⟩ := rds_two r1
    obtain ⟨xs, ys, e1, e2, h1⟩ := h1
    obtain ⟨ws, f1, q1⟩ := n1.here.at_lst e1
    obtain ⟨zs, f2, q2⟩ := n1.here.at_lst e2
    rw [rd_ref rv, rd_ref ru]
    refine ⟨a, b, ws, zs, rfl, .inl ⟨SqL.of f1, SqL.of f2, k _ _ M1 _ _ h1 n1 ?_⟩⟩
    refine it_zip (SA := fun H vs => SqL X.K H a vs) (SB := fun H vs => SqL X.K H b vs) (fun H M kp hr g => ?_) (fun i H vs uz x y g1 g2 g3 g4 => ⟨vs, uz, x, y, g1, g2, g3, g4⟩) (fun i H vs uz g1 g2 g3 => ⟨vs, uz, g1, g2, g3⟩) (fun i H v H' q => q)
    obtain ⟨vs, f3, q3⟩ := hr.at_lst g.1
    obtain ⟨uz, f4, q4⟩ := hr.at_lst g.2
    exact ⟨vs, uz, SqL.of f3, SqL.of f4, q3, q4⟩
  · exact h1.elim
end
end DL

set_option Elab.async false
set_option linter.all false
set_option maxRecDepth 100000
namespace DL
open PySem PySem.Spec PyProof.Rows L2

def wipeD (ρ : Env) : List Nat → Env
  | [] => ρ
  | v :: vs => (wipeD ρ vs).set v none
theorem wipe_get {σ : L2.St} {j : Nat} : ∀ {vs : List Nat}, (wipe σ vs)[j]? = if j ∈ vs ∧ j < σ.length then some none else σ[j]?
  | [] => by simp [wipe]
  | v :: vs => by
    unfold wipe
    have ih := wipe_get (σ := σ) (j := j) (vs := vs)
    by_cases hv : v = j
    · subst hv
      by_cases hl : v < σ.length
      · rw [List.getElem?_set_self (by rw [wipe_length]; exact hl), if_pos ⟨List.mem_cons_self, hl⟩]
      · rw [List.getElem?_eq_none (by rw [List.length_set, wipe_length]; omega), if_neg (fun h => hl h.2), List.getElem?_eq_none (by omega)]
    · rw [List.getElem?_set_ne hv, ih]
      have e : (j ∈ v :: vs) ↔ j ∈ vs := by simp [Ne.symm hv]
      by_cases h : j ∈ vs ∧ j < σ.length
      · rw [if_pos h, if_pos ⟨e.mpr h.1, h.2⟩]
      · rw [if_neg h, if_neg (fun q => h ⟨e.mp q.1, q.2⟩)]
theorem wipe_wipe {σ : L2.St} {vs : List Nat} : wipe (wipe σ vs) vs = wipe σ vs := by
  apply List.ext_getElem?
  intro j
  rw [wipe_get, wipe_length]
  by_cases h : j ∈ vs ∧ j < σ.length
  · rw [if_pos h, wipe_get, if_pos h]
  · rw [if_neg h]
theorem wipe_set {σ : L2.St} {vs : List Nat} {i : Nat} {x : Option V} (h : i ∈ vs) : wipe (σ.set i x) vs = wipe σ vs := by
  apply List.ext_getElem?
  intro j
  rw [wipe_get, wipe_get, List.length_set]
  by_cases hj : j ∈ vs ∧ j < σ.length
  · rw [if_pos hj, if_pos hj]
  · rw [if_neg hj, if_neg hj]
    by_cases e : i = j
    · subst e
      have : ¬ i < σ.length := fun q => hj ⟨h, q⟩
      rw [List.getElem?_eq_none (by rw [List.length_set]; omega), List.getElem?_eq_none (by omega)]
    · rw [List.getElem?_set_ne e]
section
variable {K : PySem.W.Frag} {H : Hp}
theorem RSt.wipe {σ : L2.St} {ρ : Env} (h : RSt K H σ ρ) : ∀ vs, RSt K H (L2.wipe σ vs) (wipeD ρ vs)
  | [] => h
  | v :: vs => by
    have ih := RSt.wipe h vs
    refine ⟨by unfold L2.wipe wipeD; rw [List.length_set, List.length_set]; exact ih.1, fun i d e => ?_⟩
    unfold wipeD at e
    unfold L2.wipe
    by_cases hv : v = i
    · subst hv
      by_cases hl : v < (wipeD ρ vs).length
      · rw [List.getElem?_set_self hl] at e; cases e
      · rw [List.getElem?_eq_none (by rw [List.length_set]; omega)] at e; cases e
    · rw [List.getElem?_set_ne hv] at e ⊢
      exact ih.2 i d e
end
def CGok (Z : ZP) (vs : List Nat) (g : TG) (gd : DG) : Prop := ∀ (σ : L2.St) (H : Hp) (ρ : Env) (M : DM) (v : V) (d : D) (R : Env → DM → Prop) (Q : L2.St → Hp → Prop), wipe σ vs = σ → RSt Z.K H σ ρ → RD Z.K H d v → gd d ρ M R →
  (∀ σ2 ρ2, wipe σ2 vs = σ → RSt Z.K H σ2 ρ2 → R ρ2 M → Q σ2 H) → g v σ H Q
theorem cg_name {Z : ZP} {i : Nat} : CGok Z [i] (gName i) (gN i) := fun σ H ρ M v d R Q hw hs rd h k => by
  refine k _ _ ?_ (hs.set rd) h
  rw [wipe_set (by simp), hw]
def gAll : List Nat → TGs
  | [] => gNil
  | i :: is => gCons (gName i) (gAll is)
def gdAll : List Nat → DGs
  | [] => gsNil
  | i :: is => gsCons (gN i) (gdAll is)
theorem cg_all {Z : ZP} {vs0 : List Nat} : ∀ (is : List Nat), (∀ i ∈ is, i ∈ vs0) → ∀ (σ0 σ : L2.St) (H : Hp) (ρ : Env) (M : DM) (vs : List V) (ds : List D) (R : Env → DM → Prop) (Q : L2.St → Hp → Prop), wipe σ vs0 = σ0 → RSt Z.K H σ ρ → RDs Z.K H ds vs → gdAll is ds ρ M R →
    (∀ σ2 ρ2, wipe σ2 vs0 = σ0 → RSt Z.K H σ2 ρ2 → R ρ2 M → Q σ2 H) → gAll is vs σ H Q
  | [], _, σ0, σ, H, ρ, M, vs, ds, R, Q, hw, hs, rd, h, k => by
    cases ds with
    | nil => rw [RDs] at rd; exact ⟨rd, k σ ρ hw hs h⟩
    | cons d r => exact h.elim
  | i :: is, hi, σ0, σ, H, ρ, M, vs, ds, R, Q, hw, hs, rd, h, k => by
    cases ds with
    | nil => exact h.elim
    | cons d r =>
      rw [RDs] at rd
      obtain ⟨v, w, rfl, r1, r2⟩ := rd
      exact ⟨v, w, rfl, cg_all is (fun j hj => hi j (List.mem_cons_of_mem _ hj)) σ0 _ H _ M w r R Q (by rw [wipe_set (hi i List.mem_cons_self)]; exact hw) (hs.set r1) r2 h k⟩
theorem cg_tup {Z : ZP} {n : Nat} {is : List Nat} : CGok Z is (gTup Z.K n (gAll is)) (gTp n (gdAll is)) := fun σ H ρ M v d R Q hw hs rd h k => by
  cases d with
  | tup ds =>
    obtain ⟨a, vs, rfl, s, r⟩ := rd_tp rd
    exact ⟨a, vs, rfl, s, by rw [r.length]; exact h.1, cg_all is (fun i hi => hi) σ σ H ρ M vs ds R Q hw hs r h.2 k⟩
  | _ => exact h.elim
abbrev noW : DW := fun _ _ _ _ => False
theorem takes_no {Z : ZP} {G : Hp} {X : Cx} : Takes X (lW Z G noW) := fun _ _ x => by
  obtain ⟨_, _, _, _, _, _, _, _, _, _, _, _, _, _, _, _, _, _, _, _, _, _, _, z⟩ := x
  exact z.elim
structure QTs (Z : ZP) (G : Hp) (X : Cx) (ifs : List Expr) (t : DT) : Prop where
  pts : PTs X ifs (lT Z G (t noW))
def dYes : DT := fun _ _ M R => R true M
theorem qts_nil {Z : ZP} {G : Hp} {X : Cx} : QTs Z G X [] dYes := ⟨⟨fun pins s σ H Q I ⟨ρ, M, R, rl, h, k⟩ => wpAny_tests_nil ⟨H, I, k true M H h rl.stay⟩⟩⟩
theorem qts_one {Z : ZP} {G : Hp} {X : Cx} {c : Expr} {t : DT} (h : QT Z G X c t) : QTs Z G X [c] t := ⟨pts_one (h.pt noW takes_no)⟩
def lcF (g : DG) (tt : DT) (te : DE) (gd : DM → Prop) (D0 : Addr) (ρ : Env) (K : DM → Prop) : List D → DM → Prop
  | [], M => gd M ∧ K M
  | x :: r, M => gd M ∧ g x ρ M fun ρ1 M1 => tt noW ρ1 M1 fun b M2 => match b with
    | true => te noW ρ1 M2 fun d M3 => ∃ acc, M3 D0 = some (.lst acc) ∧ acc.length < sizeLine ∧ lcF g tt te gd D0 ρ K r (mupd M3 D0 (.lst (acc ++ [d])))
    | false => lcF g tt te gd D0 ρ K r M2
def dLc (ti : DI) (g : DG) (tt : DT) (te : DE) (vs : List Nat) : DE := fun W ρ M R => ti W ρ M fun xs gd M1 => ∀ D0, M1 D0 = none → lcF g tt te gd D0 (wipeD ρ vs) (fun M2 => R (.ref D0) M2) xs (mupd M1 D0 (.lst []))
section
variable {Z : ZP} {G : Hp} {X : Cx} {pos : Pos} {elt tg iter : Expr} {ifs : List Expr} {scope : Scope} {own : List (Str × Nat)} {ti : DI} {gd : DG} {g : TG} {tt : DT} {te : DE}
theorem lc_lift {W : DW} {vs : List Nat} (cg : CGok Z vs g gd) (σ : L2.St) (H : Hp) (Q : VK) (h : lE Z G (dLc ti gd tt te vs W) σ H Q) : tLc (lI Z G (ti W)) g (lT Z G (tt noW)) (lE Z G (te noW)) vs σ H Q := by
  obtain ⟨ρ, M, R, rl, h, k⟩ := h
  refine ⟨ρ, M, _, rl, h, fun xs gg M1 J H1 h1 n1 it D0 hD => ?_⟩
  have h2 := h1 D0 (n1.here.free hD)
  have nD := n1.here.lst hD (RDs.nil (K := Z.K) (H := H1))
  have r1 := (rl.nx n1).nx nD
  refine ⟨fun i m H' => ∃ M', m = xs.length - i ∧ i ≤ xs.length ∧ KeepT Z.K H1 H' ∧ Rel Z G (wipe σ vs) H' (wipeD ρ vs) M' ∧ lcF gd tt te gg D0 (wipeD ρ vs) (fun M2 => R (.ref D0) M2) (xs.drop i) M', ⟨xs.length, _, by simp, Nat.zero_le _, nD.kp, ⟨r1.kp, r1.st.wipe vs, r1.mm, r1.tb⟩, by simpa using h2⟩, ?_⟩
  rintro i m H' ⟨M', rfl, hi', kp, r', hl⟩
  by_cases hlt : i < xs.length
  · rw [List.drop_eq_getElem_cons hlt] at hl
    obtain ⟨gd', hl⟩ := hl
    obtain ⟨i1, i2, i3⟩ := it i H' M' kp r'.here gd'
    refine .inr ⟨i1 hlt, fun H2 => ∃ M2, KeepT Z.K H1 H2 ∧ Rel Z G (wipe σ vs) H2 (wipeD ρ vs) M2 ∧ lcF gd tt te gg D0 (wipeD ρ vs) (fun M2 => R (.ref D0) M2) (xs.drop (i + 1)) M2, fun H2 ⟨M2, kp2, r2, l2⟩ => ⟨xs.length - (i + 1), by omega, M2, rfl, hlt, kp2, r2, l2⟩, fun x Hx hx => ?_⟩
    obtain ⟨d, e1, n2, rd⟩ := i3 x Hx hlt hx
    have e2 : xs[i] = d := by rw [List.getElem?_eq_getElem hlt] at e1; exact Option.some.inj e1
    subst e2
    have rx := r'.nx n2
    refine cg (wipe σ vs) Hx (wipeD ρ vs) M' x _ _ _ wipe_wipe rx.st rd hl fun σ2 ρ2 hw hs hq => ⟨hw, ?_⟩
    have kpx := kp.trans n2.kp
    refine ⟨ρ2, M', _, ⟨rx.kp, hs, rx.mm, rx.tb⟩, hq, fun b M2 H2 h2 nx2 => ?_⟩
    cases b with
    | true =>
      rw [if_pos rfl]
      refine ⟨ρ2, M2, _, ⟨rx.kp.trans nx2.kp, hs.keep nx2.kp, nx2.mm, nx2.tb⟩, h2, fun d M3 v H3 h3 n3 rd3 => ?_⟩
      obtain ⟨acc, e3, hz, l3⟩ := h3
      obtain ⟨ws, e4, r4⟩ := n3.here.at_lst e3
      have k3 : KeepT Z.K H3 (L2.upd H3 D0 (.lst (ws ++ [v]))) := keepT_mut e4 rfl
      have n4 := n3.here.mut (u := .lst (ws ++ [v])) (m := .lst (acc ++ [d])) e4 rfl ⟨_, rfl, RDs.keep k3 _ _ (r4.append (RDs.cons rd3 RDs.nil))⟩
      refine ⟨ws, e4, by rw [r4.length]; exact hz, _, ((kpx.trans nx2.kp).trans n3.kp).trans n4.kp, ?_, l3⟩
      exact ⟨((rx.kp.trans nx2.kp).trans n3.kp).trans n4.kp, ((rx.st.keep nx2.kp).keep n3.kp).keep n4.kp, n4.mm, n4.tb⟩
    | false =>
      rw [if_neg Bool.false_ne_true]
      exact ⟨M2, kpx.trans nx2.kp, rx.nx nx2, h2⟩
  · have e : i = xs.length := by omega
    subst e
    rw [List.drop_length] at hl
    obtain ⟨gd', hl⟩ := hl
    exact .inl ⟨(it _ H' M' kp r'.here gd').2.1 (Nat.le_refl _), k _ _ _ _ hl ⟨n1.kp.trans kp, r'.mm, r'.tb⟩ mk_ref⟩
theorem qe_lc (hc : X.calm = true) (hN : X.N.Nodup) (hi : QI Z G X tg iter ti) (ok : BlkOk X.N X.env.scope scope own) (cg : CGok Z (own.map (·.2)) g gd)
    (hg : ∀ (s : Shared) (H : Hp) (C : Addr) (cl : List (Str × Addr)) (fp : List Addr), PG (X.blk s H scope (compEnvC scope cl C X.env) fp) tg g) (ht : ∀ (s : Shared) (H : Hp) (C : Addr) (cl : List (Str × Addr)) (fp : List Addr), QTs Z G (X.blk s H scope (compEnvC scope cl C X.env) fp) ifs tt)
    (he : ∀ (s : Shared) (H : Hp) (C : Addr) (cl : List (Str × Addr)) (fp : List Addr), QE Z G (X.blk s H scope (compEnvC scope cl C X.env) fp) elt te) (hs : ∀ x, foldedSetIterable iter X.env x = pure x := by intro _; rfl) :
    QE Z G X (.ListComp elt [⟨tg, iter, ifs, 0⟩] scope pos) (dLc ti gd tt te (own.map (·.2))) :=
  ⟨fun W tk => pe_of (pe_lc hc hN (hi.pi W tk) ok hg (fun s H C cl fp => (ht s H C cl fp).pts) (fun s H C cl fp => (he s H C cl fp).pe noW takes_no) hs) (lc_lift cg)⟩
theorem qs_setLc {i : Nat} {y : Str} {py spos : Pos} (hc : X.calm = true) (hN : X.N.Nodup) (hy : X.N[i]? = some y) (hyl : X.env.scope.names.lookup y = some .local)
    (hsw : swapsWith (.ListComp elt [⟨tg, iter, ifs, 0⟩] scope pos) (some (.Name y py)) spos.line X.env = pure true) (hi : QI Z G X tg iter ti) (ok : BlkOk X.N X.env.scope scope own) (cg : CGok Z (own.map (·.2)) g gd)
    (hg : ∀ (s : Shared) (H : Hp) (C : Addr) (cl : List (Str × Addr)) (fp : List Addr), PG (X.blk s H scope (compEnvC scope cl C X.env) fp) tg g) (ht : ∀ (s : Shared) (H : Hp) (C : Addr) (cl : List (Str × Addr)) (fp : List Addr), QTs Z G (X.blk s H scope (compEnvC scope cl C X.env) fp) ifs tt)
    (he : ∀ (s : Shared) (H : Hp) (C : Addr) (cl : List (Str × Addr)) (fp : List Addr), QE Z G (X.blk s H scope (compEnvC scope cl C X.env) fp) elt te) (hs : ∀ x, foldedSetIterable iter X.env x = pure x := by intro _; rfl) :
    QS Z G X (.Assign [.Name y py] (.ListComp elt [⟨tg, iter, ifs, 0⟩] scope pos) spos) (dSet i (dLc ti gd tt te (own.map (·.2)))) := by
  refine ⟨fun W tk => ps_of (ps_setLc hc hN hy hyl hsw (hi.pi W tk) ok hg (fun s H C cl fp => (ht s H C cl fp).pts) (fun s H C cl fp => (he s H C cl fp).pe noW takes_no) hs) fun D σ H ⟨ρ, M, E, rl, h, k1, k2, k3, k4⟩ => ?_⟩
  exact lc_lift cg σ H _ ⟨ρ, M, _, rl, h, fun d M' v H' q n r => k1 _ _ _ _ q n.kp ⟨rl.kp.trans n.kp, (rl.st.keep n.kp).set r, n.mm, n.tb⟩⟩
end
theorem lcF_pure {g : DG} {tt : DT} {te : DE} {gd : DM → Prop} {D0 : Addr} {ρ : Env} {K : DM → Prop} {f : D → D} {M : DM} : ∀ (xs acc : List D), acc.length + xs.length < sizeLine → (∀ acc, gd (mupd M D0 (.lst acc))) →
    (∀ x ∈ xs, ∀ acc R, R (f x) (mupd M D0 (.lst acc)) → g x ρ (mupd M D0 (.lst acc)) fun ρ1 M1 => tt noW ρ1 M1 fun b M2 => match b with
      | true => te noW ρ1 M2 R
      | false => False) → K (mupd M D0 (.lst (acc ++ xs.map f))) → (∀ x (ρ ρ' : Env) M (P Q : Env → DM → Prop), (∀ ρ1 M1, P ρ1 M1 → Q ρ1 M1) → g x ρ M P → g x ρ M Q) → (∀ (ρ : Env) M (P Q : Bool → DM → Prop), (∀ b M1, P b M1 → Q b M1) → tt noW ρ M P → tt noW ρ M Q) →
    lcF g tt te gd D0 ρ K xs (mupd M D0 (.lst acc))
  | [], acc, hz, hg, hf, hk, m1, m2 => ⟨hg _, by simpa using hk⟩
  | x :: r, acc, hz, hg, hf, hk, m1, m2 => by
    refine ⟨hg _, ?_⟩
    have ih := lcF_pure (g := g) (tt := tt) (te := te) (gd := gd) (D0 := D0) (ρ := ρ) (K := K) (f := f) (M := M) r (acc ++ [f x]) (by simp at hz ⊢; omega) hg (fun y hy => hf y (List.mem_cons_of_mem _ hy)) (by simpa using hk) m1 m2
    refine m1 x ρ ρ _ _ _ (fun ρ1 M1 h => m2 ρ1 M1 _ _ (fun b M2 h2 => ?_) h) (hf x List.mem_cons_self acc (fun d M3 => ∃ acc', M3 D0 = some (.lst acc') ∧ acc'.length < sizeLine ∧ lcF g tt te gd D0 ρ K r (mupd M3 D0 (.lst (acc' ++ [d])))) ⟨acc, mupd_same, by simp at hz; omega, by rw [mupd_upd]; exact ih⟩)
    cases b with
    | true => exact h2
    | false => exact h2.elim
end DL

set_option Elab.async false
set_option linter.all false
set_option maxRecDepth 100000
namespace DL
open PySem PySem.Spec PyProof.Rows L2

section
variable {Z : ZP} {G : Hp} {X : Cx} {pos p : Pos} {e : Expr} {es : List Expr} {te : DE} {ta : DA}
def allD : List D → DM → DQ → Prop := fun ds M R => match ds with
  | [.ref a] => ∃ (bs : List Bool) (M2 : DM), M a = some (.lst (bs.map D.bl)) ∧ MSub M2 M ∧ R (.bl (bs.all id)) M2
  | _ => False
def anyD : List D → DM → DQ → Prop := fun ds M R => match ds with
  | [.ref a] => ∃ (bs : List Bool) (M2 : DM), M a = some (.lst (bs.map D.bl)) ∧ MSub M2 M ∧ R (.bl (bs.any id)) M2
  | _ => False
theorem rds_bls {K : PySem.W.Frag} {H : Hp} : ∀ {bs : List Bool} {vs : List V}, RDs K H (bs.map D.bl) vs → vs = bs.map V.bl
  | [], vs, r => by rw [List.map_nil, RDs] at r; exact r
  | b :: bs, vs, r => by
    rw [List.map_cons, RDs] at r
    obtain ⟨v, w, rfl, r1, r2⟩ := r
    rw [rd_bl r1, rds_bls r2]
    rfl
theorem c_all (hc : X.calm = true) : CallD Z X (.builtin "all") allD := by
  refine ⟨_, cr_all hc, fun H M vs ds R Q hr rd g k => ?_⟩
  unfold allD at g
  split at g
  · rename_i a
    obtain ⟨v, rfl, r1⟩ := rds_one rd
    obtain ⟨bs, M2, e, sb, g⟩ := g
    obtain ⟨ws, e1, r⟩ := hr.at_lst e
    rw [rd_ref r1]
    rw [rds_bls r] at e1
    exact ⟨a, bs, rfl, SqL.of e1, k _ _ _ _ g (hr.stay.sub sb) mk_bl⟩
  · exact g.elim
theorem c_any (hc : X.calm = true) : CallD Z X (.builtin "any") anyD := by
  refine ⟨_, cr_any hc, fun H M vs ds R Q hr rd g k => ?_⟩
  unfold anyD at g
  split at g
  · rename_i a
    obtain ⟨v, rfl, r1⟩ := rds_one rd
    obtain ⟨bs, M2, e, sb, g⟩ := g
    obtain ⟨ws, e1, r⟩ := hr.at_lst e
    rw [rd_ref r1]
    rw [rds_bls r] at e1
    exact ⟨a, bs, rfl, SqL.of e1, k _ _ _ _ g (hr.stay.sub sb) mk_bl⟩
  · exact g.elim

def tyD (T : String) (x : D) (M : DM) : Prop := match x with
  | .str _ => T = "str"
  | .ref a => (T = "list" ∧ ∃ xs, M a = some (.lst xs)) ∨ (T = "dict" ∧ ∃ kvs, M a = some (.dcK kvs))
  | _ => False
theorem tyV_of {H : Hp} {M : DM} {x : D} {v : V} {T : String} (hr : Here Z H M) (rd : RD Z.K H x v) (t : tyD T x M) : tyV Z.K T v H := by
  unfold tyD at t
  split at t
  · rw [rd_str rd]; exact t
  · rename_i a
    rw [rd_ref rd]
    rcases t with ⟨e, xs, h⟩ | ⟨e, kvs, h⟩
    · obtain ⟨vs, e1, _⟩ := hr.at_lst h
      exact .inl ⟨e, vs, SqL.of e1⟩
    · obtain ⟨vs, e1, _⟩ := hr.mm _ _ h
      exact .inr (.inr (.inl ⟨e, .inl ⟨_, e1⟩⟩))
  · exact t.elim
def MtD (Z : ZP) (X : Cx) (id : String) (g : D → List D → DM → DQ → Prop) : Prop :=
  ∃ r, MtR X id r ∧ ∀ (H : Hp) (M : DM) (v : V) (x : D) (vs : List V) (ds : List D) (R : DQ) (Q : VK), Here Z H M → RD Z.K H x v → RDs Z.K H ds vs → g x ds M R → (∀ d M' v H', R d M' → Nx Z H H' M' → RD Z.K H' d v → Q v H') → r v vs H Q
def dMt (T : String) (g : D → List D → DM → DQ → Prop) (te : DE) (ta : DA) : DE := fun W ρ M R => te W ρ M fun x M1 => tyD T x M1 ∧ ta W ρ M1 fun ds M2 => g x ds M2 R
def dMt0 (T : String) (g : D → List D → DM → DQ → Prop) (te : DE) : DE := fun W ρ M R => te W ρ M fun x M1 => tyD T x M1 ∧ g x [] M1 R
section
variable {o : Expr} {name : Str} {apos cpos : Pos} {T id : String} {g : D → List D → DM → DQ → Prop}
theorem qe_bm (hK : X.K = Z.K) (pa : PlainAttrs T) (slot : Slot T name id) (hty : typeOf (.builtin id) = pure (.type "method_descriptor")) (hm : MtD Z X id g) (ho : QE Z G X o te) (ha : QA Z G X (e :: es) ta)
    (hbase : attributeBase o name X.env (eval o X.env) = eval o X.env := by rfl)
    (hfew : ((backTo cpos (starEach (e :: es) X.env)).all (fun x => !x.1) && (backToKw cpos (keywordEach [] X.env)).all (fun x => x.1.isSome)
      && decide ((e :: es).length + ([] : List Keyword).length + (if ([] : List Keyword).isEmpty then 0 else 1) < 30)) = true := by rfl)
    (hline : (apos.endLine == cpos.line) = true := by rfl) (hs : starEach (e :: es) X.env = (false, eval e X.env) :: starEach es X.env := by rfl) (hplain : (backTo cpos (starEach es X.env)).any (·.1) = false := by rfl) :
    QE Z G X (.Call (.Attribute o name apos) (e :: es) [] cpos) (dMt T g te ta) := by
  obtain ⟨r, hr, hg⟩ := hm
  refine ⟨fun W tk => pe_of (pe_bm pa slot hty hr (ho.pe W tk) (ha.pa W tk) hbase hfew hline hs hplain) fun σ H Q ⟨ρ, M, R, rl, h, k⟩ => ?_⟩
  refine ⟨ρ, M, _, rl, h, fun x M1 v1 H1 h1 n1 r1 => ⟨by rw [hK]; exact tyV_of n1.here r1 h1.1, ρ, M1, _, rl.nx n1, h1.2, fun ds M2 vs H2 h2 n2 r2 => ?_⟩⟩
  exact hg H2 M2 v1 x vs ds R Q n2.here (RD.keep n2.kp _ _ r1) r2 h2 fun d M' v H' q n rd => k d M' v H' q ((n1.trans n2).trans n) rd
theorem qe_bm0 (hK : X.K = Z.K) (pa : PlainAttrs T) (slot : Slot T name id) (hty : typeOf (.builtin id) = pure (.type "method_descriptor")) (hm : MtD Z X id g) (ho : QE Z G X o te)
    (hbase : attributeBase o name X.env (eval o X.env) = eval o X.env := by rfl) (hline : (apos.endLine == cpos.line) = true := by rfl) :
    QE Z G X (.Call (.Attribute o name apos) [] [] cpos) (dMt0 T g te) := by
  obtain ⟨r, hr, hg⟩ := hm
  refine ⟨fun W tk => pe_of (pe_bm0 pa slot hty hr (ho.pe W tk) hbase hline) fun σ H Q ⟨ρ, M, R, rl, h, k⟩ => ?_⟩
  refine ⟨ρ, M, _, rl, h, fun x M1 v1 H1 h1 n1 r1 => ⟨by rw [hK]; exact tyV_of n1.here r1 h1.1, ?_⟩⟩
  exact hg H1 M1 v1 x [] [] R Q n1.here r1 RDs.nil h1.2 fun d M' v H' q n rd => k d M' v H' q (n1.trans n) rd
end
def appendD : D → List D → DM → DQ → Prop := fun x ds M R => match x, ds with
  | .ref a, [d] => ∃ xs, M a = some (.lst xs) ∧ xs.length < sizeLine ∧ R .non (mupd M a (.lst (xs ++ [d])))
  | _, _ => False
def popD : D → List D → DM → DQ → Prop := fun x ds M R => match x, ds with
  | .ref a, [] => ∃ xs d, M a = some (.lst (xs ++ [d])) ∧ R d (mupd M a (.lst xs))
  | _, _ => False
theorem m_append : MtD Z X "list.append" appendD := by
  refine ⟨_, mt_append, fun H M v x vs ds R Q hr rx rd g k => ?_⟩
  unfold appendD at g
  split at g
  · rename_i a d
    obtain ⟨xs, e, hz, g⟩ := g
    obtain ⟨u, rfl, r1⟩ := rds_one rd
    obtain ⟨ws, e1, r⟩ := hr.at_lst e
    rw [rd_ref rx]
    have k3 : KeepT Z.K H (L2.upd H a (.lst (ws ++ [u]))) := keepT_mut e1 rfl
    exact ⟨a, ws, u, rfl, rfl, e1, by rw [r.length]; exact hz, k _ _ _ _ g (hr.mut e1 rfl ⟨_, rfl, RDs.keep k3 _ _ (r.append (RDs.cons r1 RDs.nil))⟩) mk_non⟩
  · exact g.elim
theorem m_pop : MtD Z X "list.pop" popD := by
  refine ⟨_, mt_pop, fun H M v x vs ds R Q hr rx rd g k => ?_⟩
  unfold popD at g
  split at g
  · rename_i a
    obtain ⟨xs, d, e, g⟩ := g
    rw [RDs] at rd
    subst rd
    obtain ⟨ws, e1, r⟩ := hr.at_lst e
    rw [rd_ref rx]
    have hl := r.length
    rw [List.length_append, List.length_singleton] at hl
    obtain ⟨u, e2, r2⟩ := r.get (i := xs.length) (d := d) (by simp)
    have e3 : ws[ws.length - 1]? = some u := by rw [hl]; exact e2
    have e4 : ws.dropLast = ws.take xs.length := by rw [List.dropLast_eq_take, hl]; rfl
    have r4 : RDs Z.K H xs (ws.take xs.length) := by
      have := r.take xs.length
      rwa [List.take_left] at this
    have k3 : KeepT Z.K H (L2.upd H a (.lst ws.dropLast)) := keepT_mut e1 rfl
    exact ⟨a, ws, u, rfl, rfl, e1, e3, k _ _ _ _ g (hr.mut e1 rfl ⟨_, rfl, RDs.keep k3 _ _ (e4 ▸ r4)⟩) (RD.keep k3 _ _ r2)⟩
  · exact g.elim

inductive Tn where
  | non | bool | int | str | tuple | list
  deriving DecidableEq
def Tn.nm : Tn → String
  | .non => "NoneType" | .bool => "bool" | .int => "int" | .str => "str" | .tuple => "tuple" | .list => "list"
def tnD (M : DM) : D → Option Tn
  | .non => some .non | .bl _ => some .bool | .int _ => some .int | .str _ => some .str | .tup _ => some .tuple
  | .ref a => match M a with
    | some (.lst _) => some .list
    | _ => none
def isiT (t T : Tn) : Bool := decide (t = T) || (decide (t = .bool) && decide (T = .int))
theorem kit_tn : ∀ t T : Tn, T ≠ .non → kitB t.nm T.nm = some (isiT t T) := by
  intro t T h
  cases T with
  | non => exact absurd rfl h
  | _ => cases t <;> decide +kernel
theorem tyX_of {H : Hp} {M : DM} {d : D} {v : V} {t : Tn} (hr : Here Z H M) (rd : RD Z.K H d v) (e : tnD M d = some t) : TyX Z.K H v (.type t.nm) := by
  cases d with
  | non => cases e; rw [rd_non rd]; exact .base .non
  | bl b => cases e; rw [rd_bl rd]; exact .base (.bl b)
  | int b => cases e; rw [rd_int rd]; exact .base (.int b)
  | str b => cases e; rw [rd_str rd]; exact .base (.str _)
  | tup ds =>
    cases e
    obtain ⟨a, vs, rfl, s, _⟩ := rd_tp rd
    rcases s with (s | ⟨o, s⟩) | ⟨o, iz, n, s, c, _⟩
    · exact .base (.tup s)
    · exact .fTuple s
    · exact .kTuple s c
  | ref a =>
    unfold tnD at e
    simp only at e
    split at e
    · rename_i xs q
      cases e
      obtain ⟨vs, e1, _⟩ := hr.at_lst q
      rw [rd_ref rd]
      exact .base (.lst e1)
    · cases e
def dIsi (T : Tn) (te : DE) : DE := fun W ρ M R => te W ρ M fun d M1 => match tnD M1 d with
  | some t => R (.bl (isiT t T)) M1
  | none => False
theorem qe_isi {x : Str} {pT : Pos} (T : Tn) (hK : X.K = Z.K) (hT : T ≠ .non) (he : QE Z G X e te) (hm : X.mg "isinstance" = none) (hmT : X.mg x = none) (hv : bootBuiltins x = some (.type T.nm)) (hg : Gl X "isinstance" := by rfl) (hgT : Gl X x := by rfl)
    (hn : x ≠ "__name__" := by decide) (hdb : (x == ("__debug__" : Str)) = false := by decide)
    (hs : starEach [e, .Name x pT] X.env = (false, eval e X.env) :: starEach [.Name x pT] X.env := by rfl) (hs2 : starEach [.Name x pT] X.env = (false, eval (.Name x pT) X.env) :: starEach [] X.env := by rfl) (hpl : (backTo pos (starEach [.Name x pT] X.env)).any (·.1) = false := by rfl) :
    QE Z G X (.Call (.Name "isinstance" p) [e, .Name x pT] [] pos) (dIsi T te) := by
  refine ⟨fun W tk => pe_of (pe_callB call_isi hg hm PyProof.Rows.boot_isinstance (pa_cons (he.pe W tk) (pa_cons (pe_bltn hgT hmT hv (v := .ty T.nm) rfl hn hdb) pa_nil hs2) hs) (by decide) (by decide) hs hpl) fun σ H Q ⟨ρ, M, R, rl, h, k⟩ => ?_⟩
  refine ⟨ρ, M, _, rl, h, fun d M1 v H1 h1 n1 r1 => ?_⟩
  split at h1
  · rename_i t e1
    exact ⟨v, .ty T.nm, .type t.nm, .type T.nm, isiT t T, rfl, .ty _, by rw [hK]; exact tyX_of n1.here r1 e1, kit_ty (kit_tn t T hT), k _ _ _ _ h1 n1 mk_bl⟩
  · exact h1.elim

def setL (o i v : D) (M : DM) (Q : DM → Prop) : Prop := match o, i with
  | .ref a, .int i => ∃ ds j, M a = some (.lst ds) ∧ ixN ds.length i = some j ∧ Q (mupd M a (.lst (ds.set j v)))
  | _, _ => False
def gSb (to ti : DE) : DG := fun v ρ M Q => to noW ρ M fun o M1 => ti noW ρ M1 fun i M2 => setL o i v M2 fun M3 => Q ρ M3
theorem qg_sub {o i : Expr} {to ti : DE} (ho : QE Z G X o to) (hi : QE Z G X i ti) (ha : ∀ v, assign (.Subscript o i pos) X.env v = (do
      let ov ← holding [v] (eval o X.env)
      let iv ← holding [v, ov] (eval i X.env)
      standAt pos
      holding [v, ov, iv] (setItem ov iv v)
      release [v, ov, iv] []) := by intro _; rfl) : QG Z G X (.Subscript o i pos) (gSb to ti) := by
  refine ⟨pg_of (pg_sub (ho.pe noW takes_no) (hi.pe noW takes_no) set_list ha) fun v σ H Q ⟨d, ρ, M, R, rl, rd, h, k⟩ => ?_⟩
  refine ⟨ρ, M, _, rl, h, fun ov M1 v1 H1 h1 n1 r1 => ⟨ρ, M1, _, rl.nx n1, h1, fun iv M2 v2 H2 h2 n2 r2 => ?_⟩⟩
  have n := n1.trans n2
  have r1' := RD.keep n2.kp _ _ r1
  have rd' := RD.keep n.kp _ _ rd
  unfold setL at h2
  split at h2
  · rename_i a ix
    obtain ⟨ds, j, e, hj, h2⟩ := h2
    obtain ⟨ws, e1, r⟩ := n2.here.at_lst e
    have k3 : KeepT Z.K H2 (L2.upd H2 a (.lst (ws.set j v))) := keepT_mut e1 rfl
    have n3 := n2.here.mut (u := .lst (ws.set j v)) (m := .lst (ds.set j d)) e1 rfl ⟨_, rfl, RDs.keep k3 _ _ (r.set j rd')⟩
    rw [rd_ref r1', rd_int r2]
    exact ⟨a, ws, ix, j, rfl, rfl, e1, by rw [r.length]; exact hj, k _ _ _ _ h2 (n.trans n3).kp (((rl.nx n1).nx n2).nx n3)⟩
  · exact h2.elim
end
end DL

set_option Elab.async false
set_option linter.all false
set_option maxRecDepth 100000
namespace DL
open PySem PySem.Spec PyProof.Rows L2

theorem lookup_zip {f : Str} : ∀ {ns : List Str} {vs : List V} {j : Nat} {v : V}, ns.Nodup → ns[j]? = some f → vs[j]? = some v → (ns.zip vs).lookup f = some v
  | [], _, j, v, _, e, _ => by simp at e
  | n :: ns, [], j, v, _, _, e => by simp at e
  | n :: ns, w :: vs, 0, v, nd, e1, e2 => by
    simp at e1 e2
    subst e1; subst e2
    simp [List.lookup]
  | n :: ns, w :: vs, j + 1, v, nd, e1, e2 => by
    rw [List.nodup_cons] at nd
    have hm : f ∈ ns := List.mem_of_getElem? (by simpa using e1)
    have hn : (f == n) = false := beq_eq_false_iff_ne.mpr fun z => nd.1 (z ▸ hm)
    rw [List.zip_cons_cons, List.lookup, hn]
    exact lookup_zip nd.2 (by simpa using e1) (by simpa using e2)
theorem lookup_zip_none {f : Str} : ∀ {ns : List Str} {vs : List V}, f ∉ ns → (ns.zip vs).lookup f = none
  | [], _, _ => rfl
  | n :: ns, [], _ => rfl
  | n :: ns, w :: vs, h => by
    have hn : (f == n) = false := beq_eq_false_iff_ne.mpr fun z => h (z ▸ List.mem_cons_self)
    rw [List.zip_cons_cons, List.lookup, hn]
    exact lookup_zip_none fun q => h (List.mem_cons_of_mem _ q)
theorem putF_zip {f : Str} {y : V} : ∀ {ns : List Str} {vs : List V} {j : Nat}, ns.Nodup → ns[j]? = some f → vs.length = ns.length → putF f y (ns.zip vs) = ns.zip (vs.set j y)
  | [], _, j, _, e, _ => by simp at e
  | n :: ns, [], j, _, _, e => by simp at e
  | n :: ns, w :: vs, 0, nd, e1, e2 => by
    simp at e1
    subst e1
    simp [putF]
  | n :: ns, w :: vs, j + 1, nd, e1, e2 => by
    rw [List.nodup_cons] at nd
    have hm : f ∈ ns := List.mem_of_getElem? (by simpa using e1)
    have hn : ¬ n = f := fun z => nd.1 (z ▸ hm)
    rw [List.zip_cons_cons, putF, if_neg hn, putF_zip nd.2 (by simpa using e1) (by simpa using e2)]
    rfl
theorem putF_zip_new {f : Str} {y : V} : ∀ {ns : List Str} {vs : List V}, f ∉ ns → vs.length = ns.length → putF f y (ns.zip vs) = (ns ++ [f]).zip (vs ++ [y])
  | [], [], _, _ => rfl
  | [], _ :: _, _, e => by simp at e
  | n :: ns, [], _, e => by simp at e
  | n :: ns, w :: vs, h, e => by
    have hn : ¬ n = f := fun z => h (z ▸ List.mem_cons_self)
    rw [List.zip_cons_cons, putF, if_neg hn, putF_zip_new (fun q => h (List.mem_cons_of_mem _ q)) (by simpa using e)]
    rfl

def dFld (C : Addr) (f : Str) (te : DE) : DE := fun W ρ M R => te W ρ M fun x M1 => ∃ (a dx : Addr) (ns : List Str) (ds : List D) (j : Nat) (d : D), x = .ref a ∧ M1 a = some (.ins C dx ns ds) ∧ ns[j]? = some f ∧ ds[j]? = some d ∧ R d M1
def dFldSet (C : Addr) (f : Str) (to te : DE) : DS := fun W E ρ M => te W ρ M fun y M1 => to W ρ M1 fun x M2 => ∃ a dx ns ds, x = .ref a ∧ M2 a = some (.ins C dx ns ds) ∧ ds.length < 1000 ∧
  ((∃ j, ns[j]? = some f ∧ E.nx ρ (mupd M2 a (.ins C dx ns (ds.set j y)))) ∨ (f ∉ ns ∧ E.nx ρ (mupd M2 a (.ins C dx (ns ++ [f]) (ds ++ [y])))))
section
variable {Z : ZP} {G : Hp} {X : Cx} {pos pos' : Pos} {e o value : Expr} {te to : DE} {f : Str} {C : Addr}
theorem qe_fld (cl : Cls X.K C) (na : NoAttr X.K C f) (he : QE Z G X e te) (hb : attributeBase e f X.env (eval e X.env) = eval e X.env := by rfl) : QE Z G X (.Attribute e f pos) (dFld C f te) := by
  refine ⟨fun W tk => pe_of (pe_fld (he.pe W tk) hb) fun σ H Q ⟨ρ, M, R, rl, h, k⟩ => ?_⟩
  refine ⟨ρ, M, _, rl, h, fun x M1 v1 H1 h1 n1 r1 => ?_⟩
  obtain ⟨a, dx, ns, ds, j, d, rfl, e1, e2, e3, q⟩ := h1
  obtain ⟨vs, e4, r, hl, nd⟩ := n1.here.at_ins e1
  obtain ⟨v, e5, rd⟩ := r.get e3
  exact ⟨a, C, dx, _, v, rd_ref r1, e4, cl, na, lookup_zip nd e2 e5, k _ _ _ _ q n1 rd⟩
theorem qs_fld (cl : Cls X.K C) (na : NoAttr X.K C f) (ho : QE Z G X o to) (hv : QE Z G X value te) (hs : swapsWith value (some (.Attribute o f pos')) pos.line X.env = pure false := by rfl) : QS Z G X (.Assign [.Attribute o f pos'] value pos) (dFldSet C f to te) := by
  refine ⟨fun W tk => ps_of (ps_fld (ho.pe W tk) (hv.pe W tk) hs) fun D σ H ⟨ρ, M, E, rl, h, k1, k2, k3, k4⟩ => ?_⟩
  refine ⟨ρ, M, _, rl, h, fun y M1 v1 H1 h1 n1 r1 => ⟨ρ, M1, _, rl.nx n1, h1, fun x M2 v2 H2 h2 n2 r2 => ?_⟩⟩
  obtain ⟨a, dx, ns, ds, rfl, e1, hz, h2⟩ := h2
  obtain ⟨vs, e4, r, hl, nd⟩ := n2.here.at_ins e1
  have n := n1.trans n2
  have r1' := RD.keep n2.kp _ _ r1
  have hl' : vs.length = ns.length := r.length.trans hl.symm
  refine ⟨a, C, dx, _, rd_ref r2, e4, cl, na, by rw [List.length_zip, hl', Nat.min_self, hl]; exact hz, ?_⟩
  rcases h2 with ⟨j, e2, q⟩ | ⟨hn, q⟩
  · rw [putF_zip nd e2 hl']
    have k3 : KeepT Z.K H2 (L2.upd H2 a (.ins C dx (ns.zip (vs.set j v1)))) := keepT_mut e4 rfl
    have n3 := n2.here.mut (u := .ins C dx (ns.zip (vs.set j v1))) (m := .ins C dx ns (ds.set j y)) e4 rfl ⟨_, rfl, RDs.keep k3 _ _ (r.set j r1'), by simpa using hl, nd⟩
    exact k1 _ _ _ _ q (n.trans n3).kp (((rl.nx n1).nx n2).nx n3)
  · rw [putF_zip_new hn hl']
    have k3 : KeepT Z.K H2 (L2.upd H2 a (.ins C dx ((ns ++ [f]).zip (vs ++ [v1])))) := keepT_mut e4 rfl
    have n3 := n2.here.mut (u := .ins C dx ((ns ++ [f]).zip (vs ++ [v1]))) (m := .ins C dx (ns ++ [f]) (ds ++ [y])) e4 rfl ⟨_, rfl, RDs.keep k3 _ _ (r.append (RDs.cons r1' RDs.nil)), by simpa using hl, List.nodup_append.mpr ⟨nd, by simp, fun x hx z hz' => by simp at hz'; subst hz'; exact fun q => hn (q ▸ hx)⟩⟩
    exact k1 _ _ _ _ q (n.trans n3).kp (((rl.nx n1).nx n2).nx n3)
end

section
variable {X : Cx} {CX : CXT} {k : Nat} {f C : Addr} {fd : FuncData} {ps : List Str} {sp : Sp} {E : L2.St → XK} {x m : Str} {p pos apos : Pos} {e o : Expr} {es : List Expr} {ta : TE} {t : TA}
def tMethS (C : Addr) (m : Str) (sp : Sp) (E : L2.St → XK) (ta : TE) (t : TA) : TE := fun σ H Q => ta σ H fun x H1 => ∃ a dx fs, x = .ref a ∧ H1 a = some (.ins C dx fs) ∧ fs.lookup m = none ∧
  t σ H1 fun vs H2 => sp (x :: vs) H2 Q (E σ)
theorem pe_methS {pl : Sem Bool} (he : PE X o ta) (c : Cls X.K C) (hm : Meth X.K C m f) (F : FnOk X.prog X.w X.K X.mg X.base CX k f fd ps sp) (hr : Room k X.A) (hb : Binds X.K fd ps []) (hx : ∀ σ, PassesAt CX X σ (E σ)) (ha : PA X (e :: es) t)
    (hst : starEach (e :: es) X.env = (false, eval e X.env) :: starEach es X.env := by rfl) (hpl : (backTo pos (starEach es X.env)).any (·.1) = false := by rfl)
    (ht : eval (.Call (.Attribute o m apos) (e :: es) [] pos) X.env = (do
      let ov ← eval o X.env
      standAt apos.atName
      let (f, first) ← holding [ov] (getMethod ov m pl)
      callWith pos f first (backTo pos (starEach (e :: es) X.env)) (backToKw pos (keywordEach [] X.env))) := by rfl) :
    PE X (.Call (.Attribute o m apos) (e :: es) [] pos) (tMethS C m sp E ta t) := by
  refine ⟨fun pz s σ H Q I h => ?_⟩
  refine PySem.W.methodCall_KW (pl := pl) (thn (he.run pz s σ H _ I h) fun u s1 ⟨x, H1, J1, rx, a, dx, fs, ex, ea, l, q⟩ => ?_) ht
  subst ex
  obtain rfl : u = Value.ref a := rx
  refine getmeth_ok J1 ea c hm l ?_
  refine PySem.W.callWith_K (first := [.ref a]) (h₀ := X.base) I.ok.mod.kin hm.kp (thn (ha.run pos pz s1 σ H1 _ J1 q) fun uz s2 ⟨vs, H2, J2, r, q2⟩ => ⟨J2.kIn, ?_⟩) hst hpl
  exact run_fnS (us := .ref a :: uz) (vs := .ref a :: vs) F hr hb (hx σ) J2 (.cons rfl r) q2
theorem pe_methS0 {pl : Sem Bool} (he : PE X o ta) (c : Cls X.K C) (hm : Meth X.K C m f) (F : FnOk X.prog X.w X.K X.mg X.base CX k f fd ps sp) (hr : Room k X.A) (hb : Binds X.K fd ps []) (hx : ∀ σ, PassesAt CX X σ (E σ))
    (ht : eval (.Call (.Attribute o m apos) [] [] pos) X.env = (do
      let ov ← eval o X.env
      standAt apos.atName
      let (f, first) ← holding [ov] (getMethod ov m pl)
      callWith pos f first (backTo pos (starEach [] X.env)) (backToKw pos (keywordEach [] X.env))) := by rfl) :
    PE X (.Call (.Attribute o m apos) [] [] pos) (tMethS C m sp E ta tNil) := by
  refine ⟨fun pz s σ H Q I h => ?_⟩
  refine PySem.W.methodCall_KW (pl := pl) (thn (he.run pz s σ H _ I h) fun u s1 ⟨x, H1, J1, rx, a, dx, fs, ex, ea, l, q⟩ => ?_) ht
  subst ex
  obtain rfl : u = Value.ref a := rx
  refine getmeth_ok J1 ea c hm l ?_
  exact PySem.W.callWith_K0 (first := [.ref a]) J1.kIn hm.kp (run_fnS (us := [.ref a]) (vs := [.ref a]) F hr hb (hx σ) J1 (.cons rfl .nil) q)
def tMakeS (C : Addr) (sp : Sp) (E : L2.St → XK) (t : TA) : TE := fun σ H Q => t σ H fun vs H1 => ∀ x dx, H1 x = none → H1 dx = none → dx ≠ x →
  sp (.ref x :: vs) (upd (upd H1 dx (.own x)) x (.ins C dx [])) (fun v H2 => v = .non ∧ Q (.ref x) H2) (E σ)
theorem run_makeS {pz : List (Addr × Obj)} {σ : L2.St} {H : Hp} {s : Shared} {Q : VK} {uz : List Value} {vs : List V} (M : Mk X.K C f) (F : FnOk X.prog X.w X.K X.mg X.base CX k f fd ps sp) (hr : Room (k + 1) X.A) (hb : Binds X.K fd ps [])
    (hx : PassesAt CX X σ (E σ)) (I : Inv X pz σ H s) (r : Vals vs uz)
    (h : ∀ x dx, H x = none → H dx = none → dx ≠ x → sp (.ref x :: vs) (upd (upd H dx (.own x)) x (.ins C dx [])) (fun v H2 => v = .non ∧ Q (.ref x) H2) (E σ)) :
    wpAny (model X.prog X.w) X.A (call (.ref C) uz) (EP X pz σ Q) X.xe s := by
  have hq := h (s.heap.objs.size + 1) s.heap.objs.size (I.hok.fresh (Nat.le_succ _)) (I.hok.fresh (Nat.le_refl _)) (Nat.ne_of_lt (Nat.lt_succ_self _))
  have J2 := Inv.made (C := C) I
  have r2 : Vals (V.ref (s.heap.objs.size + 1) :: vs) (Value.ref (s.heap.objs.size + 1) :: uz) := .cons rfl r
  have hl : (Value.ref (s.heap.objs.size + 1) :: uz).length = ps.length := by
    have e := r2.length
    rw [F.len _ _ _ _ hq] at e
    exact e.symm
  have b := hb _ (Value.ref (s.heap.objs.size + 1) :: uz) J2.kIn (by rw [List.append_nil]; exact hl)
  rw [List.append_nil] at b
  refine wpAny_call (make_map (f := f) I.kIn M.makes M.init (beq_iff_eq.mp M.fn) (codeAny_mono (F.run _ X.stack _ _ ⟨Value.ref (s.heap.objs.size + 1) :: uz, []⟩ (Value.ref (s.heap.objs.size + 1) :: uz) _ _ (E σ) (hr.make C uz [])
    (J2.env0.make C uz []) b r2 hq) fun r s' hw9 => ?_))
  cases r with
  | error e => exact hx pz _ _ e s' J2 hw9
  | ok fl =>
    cases fl with
    | ret u =>
      obtain ⟨v, H', J3, rv, ev, q3⟩ := J2.after hw9
      subst ev
      exact ⟨rv, ⟨V.ref (s.heap.objs.size + 1), H', J3, rfl, q3⟩⟩
    | next => exact False.elim hw9
    | brk => exact False.elim hw9
    | cont => exact False.elim hw9
theorem pe_makeS (M : Mk X.K C f) (F : FnOk X.prog X.w X.K X.mg X.base CX k f fd ps sp) (hr : Room (k + 1) X.A) (hg : Gl X x) (hm : X.mg x = some (.ref C)) (hb : Binds X.K fd ps []) (hx : ∀ σ, PassesAt CX X σ (E σ))
    (ha : PA X (e :: es) t) (hdb : (x == ("__debug__" : Str)) = false := by decide) (he : starEach (e :: es) X.env = (false, eval e X.env) :: starEach es X.env := by rfl) (hpl : (backTo pos (starEach es X.env)).any (·.1) = false := by rfl) :
    PE X (.Call (.Name x p) (e :: es) [] pos) (tMakeS C sp E t) := by
  refine ⟨fun pz s σ H Q I h => ?_⟩
  refine wpAny_Call_Name_kw (ld_glob I hg hm ?_ hdb)
  refine PySem.W.callWith_K (h₀ := X.base) I.ok.mod.kin M.kp (thn (ha.run pos pz s σ H _ I h) fun uz s1 ⟨vs, H1, J1, r, q⟩ => ⟨J1.kIn, ?_⟩) he hpl
  exact run_makeS M F hr hb (hx σ) J1 r q
end
def dMeth (C : Addr) (m : Str) (sp : DSp) (te : DE) (ta : DA) : DE := fun W ρ M R => te W ρ M fun x M1 => ∃ a dx ns ds, x = .ref a ∧ M1 a = some (.ins C dx ns ds) ∧ m ∉ ns ∧ ta W ρ M1 fun args M2 => sp (x :: args) M2 R fun C fs M3 => W C fs ρ M3
def dMake (C : Addr) (sp : DSp) (ta : DA) : DE := fun W ρ M R => ta W ρ M fun args M1 => ∀ x dx, M1 x = none → M1 dx = none → dx ≠ x → sp (.ref x :: args) (mupd M1 x (.ins C dx [] [])) (fun v M2 => v = .non ∧ R (.ref x) M2) fun C fs M2 => W C fs ρ M2
section
variable {Z : ZP} {G : Hp} {X : Cx} {k : Nat} {f C : Addr} {fd : FuncData} {ps : List Str} {sp : DSp} {x m : Str} {p pos apos : Pos} {e o : Expr} {es : List Expr} {te : DE} {ta : DA}
theorem qe_meth {pl : Sem Bool} (c : Cls X.K C) (hm : Meth X.K C m f) (F : FnOk X.prog X.w X.K X.mg X.base (L2.CX X.prog X.w) k f fd ps (lSp Z sp)) (hr : Room k X.A) (hb : Binds X.K fd ps []) (he : QE Z G X o te) (ha : QA Z G X (e :: es) ta)
    (hst : starEach (e :: es) X.env = (false, eval e X.env) :: starEach es X.env := by rfl) (hpl : (backTo pos (starEach es X.env)).any (·.1) = false := by rfl)
    (ht : eval (.Call (.Attribute o m apos) (e :: es) [] pos) X.env = (do
      let ov ← eval o X.env
      standAt apos.atName
      let (f, first) ← holding [ov] (getMethod ov m pl)
      callWith pos f first (backTo pos (starEach (e :: es) X.env)) (backToKw pos (keywordEach [] X.env))) := by rfl) :
    QE Z G X (.Call (.Attribute o m apos) (e :: es) [] pos) (dMeth C m sp te ta) := by
  refine ⟨fun W tk => pe_of (pe_methS (he.pe W tk) c hm F hr hb (fun σ => passAt tk σ) (ha.pa W tk) hst hpl ht) fun σ H Q ⟨ρ, M, R, rl, h, k⟩ => ?_⟩
  refine ⟨ρ, M, _, rl, h, fun x M1 v1 H1 h1 n1 r1 => ?_⟩
  obtain ⟨a, dx, ns, ds, rfl, e1, hn, q⟩ := h1
  obtain ⟨vs, e4, r, hl, nd⟩ := n1.here.at_ins e1
  refine ⟨a, dx, _, rd_ref r1, e4, lookup_zip_none hn, ρ, M1, _, rl.nx n1, q, fun args M2 ws H2 h2 n2 r2 => ?_⟩
  have n := n1.trans n2
  exact sp_lift ((rl.nx n1).nx n2) (RDs.cons (RD.keep n2.kp _ _ r1) r2) h2 fun d M' v H' q n' r => k d M' v H' q (n.trans n') r
theorem qe_meth0 {pl : Sem Bool} (c : Cls X.K C) (hm : Meth X.K C m f) (F : FnOk X.prog X.w X.K X.mg X.base (L2.CX X.prog X.w) k f fd ps (lSp Z sp)) (hr : Room k X.A) (hb : Binds X.K fd ps []) (he : QE Z G X o te)
    (ht : eval (.Call (.Attribute o m apos) [] [] pos) X.env = (do
      let ov ← eval o X.env
      standAt apos.atName
      let (f, first) ← holding [ov] (getMethod ov m pl)
      callWith pos f first (backTo pos (starEach [] X.env)) (backToKw pos (keywordEach [] X.env))) := by rfl) :
    QE Z G X (.Call (.Attribute o m apos) [] [] pos) (dMeth C m sp te dNil) := by
  refine ⟨fun W tk => pe_of (pe_methS0 (he.pe W tk) c hm F hr hb (fun σ => passAt tk σ) ht) fun σ H Q ⟨ρ, M, R, rl, h, k⟩ => ?_⟩
  refine ⟨ρ, M, _, rl, h, fun x M1 v1 H1 h1 n1 r1 => ?_⟩
  obtain ⟨a, dx, ns, ds, rfl, e1, hn, q⟩ := h1
  obtain ⟨vs, e4, r, hl, nd⟩ := n1.here.at_ins e1
  refine ⟨a, dx, _, rd_ref r1, e4, lookup_zip_none hn, ?_⟩
  exact sp_lift (rl.nx n1) (RDs.cons r1 RDs.nil) q fun d M' v H' q n' r => k d M' v H' q (n1.trans n') r
theorem qe_make (Mk0 : Mk X.K C f) (F : FnOk X.prog X.w X.K X.mg X.base (L2.CX X.prog X.w) k f fd ps (lSp Z sp)) (hr : Room (k + 1) X.A) (hm : X.mg x = some (.ref C)) (hb : Binds X.K fd ps []) (ha : QA Z G X (e :: es) ta)
    (hg : Gl X x := by rfl) (hdb : (x == ("__debug__" : Str)) = false := by decide) (he : starEach (e :: es) X.env = (false, eval e X.env) :: starEach es X.env := by rfl) (hpl : (backTo pos (starEach es X.env)).any (·.1) = false := by rfl) :
    QE Z G X (.Call (.Name x p) (e :: es) [] pos) (dMake C sp ta) := by
  refine ⟨fun W tk => pe_of (pe_makeS Mk0 F hr hg hm hb (fun σ => passAt tk σ) (ha.pa W tk) hdb he hpl) fun σ H Q ⟨ρ, M, R, rl, h, k⟩ => ?_⟩
  refine ⟨ρ, M, _, rl, h, fun args M1 vs H1 h1 n1 r1 y dx hy hdx hne => ?_⟩
  have hy' : (L2.upd H1 dx (.own y)) y = none := by rw [upd_ne (Ne.symm hne)]; exact hy
  have nA := n1.here.laid (o := .own y) hdx
  have k2 : KeepT Z.K (L2.upd H1 dx (.own y)) (L2.upd (L2.upd H1 dx (.own y)) y (.ins C dx [])) := keepT_new hy'
  have nB : Nx Z (L2.upd H1 dx (.own y)) (L2.upd (L2.upd H1 dx (.own y)) y (.ins C dx [])) (mupd M1 y (.ins C dx [] [])) := ⟨k2, nA.mm.upd k2 ⟨[], rfl, RDs.nil, rfl, List.nodup_nil⟩, tabs_new nA.tb hy'⟩
  have n := n1.trans (nA.trans nB)
  have h2 := h1 y dx (n1.here.free hy) (n1.here.free hdx) hne
  refine ⟨_, _, _, _, RDs.cons (mk_ref (a := y)) (RDs.keep (nA.trans nB).kp _ _ r1), nB.mm, nB.tb, h2, fun d M' v H' ⟨ed, q⟩ n' r => ?_, fun C' fs M' d H' q n' rx => ⟨C', fs, ρ, M', rfl, rx, (rl.nx n).nx n', q⟩⟩
  subst ed
  exact ⟨rd_non r, k _ _ _ _ q (n.trans n') mk_ref⟩
end

def spInitX (C : Addr) (f : Str) : Sp := fun vs H Q _ => ∃ a y, vs = [.ref a, y] ∧ H a = some (exo a C none) ∧ ∀ dx, H dx = none → dx ≠ a → Q .non (upd (upd H dx (exd dx [(f, y)])) a (exo a C (some dx)))
structure ExcF (K : PySem.W.Frag) (mg : Str → Option Value) (x : Str) (C fI : Addr) (f : Str) : Prop where
  g : mg x = some (.ref C)
  o : OexC K C
  i : PySem.W.findIn K (.ref C) "__init__" = some (some (.ref fI))
  t : PySem.W.typeIn K (.ref fI) = some (.type "function")
  n : PySem.W.findIn K (.ref C) f = some none
section
variable {P : Program} {w : World} {mg : Str → Option Value} {base : Heap} {K : PySem.W.Frag}
theorem ok_initX {x qual f : Str} {st : Stmt} {fI C : Addr} {fd : FuncData} {p1 p2 p3 p4 : Pos} (F : Fun K "__init__" qual st fI fd) (S : FnScope ["self", f] ["self", f] (defScope st)) (c : ExcF K mg x C fI f)
    (hb : defBody st = [.Assign [.Attribute (.Name "self" p1) f p2] (.Name f p3) p4]) (hv : (defScope st).names.lookup ("self" : Str) = some NameKind.local) (hf : (defScope st).names.lookup f = some NameKind.local) (hd : (f == ("__debug__" : Str)) = false) (hcd : (f == ("__classdict__" : Str)) = false)
    (hsw : ∀ env : PySem.Env, env.scope = defScope st → swapsWith (.Name f p3) (some (.Attribute (.Name "self" p1) f p2)) p4.line env = pure false) : FnOk P w K mg base (L2.CX P w) 1 fI fd ["self", f] (spInitX C f) := by
  refine F.okX S (fun vs H Q E h => ?_) (fun cdv A outer s H vs Q E hr h => ?_)
  · obtain ⟨a, y, rfl, _⟩ := h
    rfl
  · obtain ⟨a, y, rfl, ha, k⟩ := h
    refine ⟨_, by rw [hb]; exact pss_one (ps_ost (pe_var (i := 0) rfl (.inl hv)) (pe_var (i := 1) rfl (.inl hf) hd hcd) (hsw _ rfl)), ?_⟩
    exact ⟨y, rfl, .ref a, rfl, a, C, rfl, c.o, c.n, .inl ⟨ha, fun dx h1 h2 => k dx h1 h2⟩⟩
end
section
variable {Z : ZP} {G : Hp} {X : Cx} {k : Nat} {fI C : Addr} {fd : FuncData} {f x : Str} {p pos pos' : Pos} {e : Expr} {te : DE}
theorem qs_raiseF (hc : X.calm = true) (c : ExcF X.K X.mg x C fI f) (F : FnOk X.prog X.w X.K X.mg X.base (L2.CX X.prog X.w) 1 fI fd ["self", f] (spInitX C f)) (hr : Room 2 X.A) (hb : Binds X.K fd ["self", f] []) (he : QE Z G X e te)
    (hg : Gl X x := by rfl) (hdb : (x == ("__debug__" : Str)) = false := by decide) (hs : starEach (e :: []) X.env = (false, eval e X.env) :: starEach [] X.env := by rfl) (hpl : (backTo pos (starEach [] X.env)).any (·.1) = false := by rfl) :
    QS Z G X (.Raise (some (.Call (.Name x p) [e] [] pos)) none pos') (dRaiseF C f te) := by
  refine ⟨fun W tk => ps_of (ps_raise hc tk (pmk_oex c.o c.i c.t F hr hb .nil passL hg c.g (pa_cons (he.pe W tk) pa_nil hs) hdb hs hpl)) fun D σ H ⟨ρ, M, E, rl, h, _⟩ => ?_⟩
  refine ⟨ρ, M, _, rl, h, fun d M1 v H1 h1 n1 r1 => ⟨by show 1 ≤ 1000; decide, fun a ha => ?_⟩⟩
  refine ⟨a, v, rfl, upd_same, fun dx hdx hne => ⟨rfl, dx, [(f, v)], upd_same, by rw [upd_ne hne, upd_same], by rw [upd_ne hne] at hdx; exact hdx, ?_⟩⟩
  rw [upd_ne hne] at hdx
  have eH : upd (del (upd (upd (upd H1 a (exo a C none)) dx (exd dx [(f, v)])) a (exo a C (some dx))) a) dx (.xd [(f, v)]) = upd H1 dx (.xd [(f, v)]) := by
    funext b
    by_cases hb1 : b = dx
    · subst hb1; rw [upd_same, upd_same]
    · rw [upd_ne hb1, upd_ne hb1]
      by_cases hb2 : b = a
      · subst hb2; rw [del_same, ha]
      · rw [del_ne hb2, upd_ne hb2, upd_ne hb1, upd_ne hb2]
  rw [eH]
  have n2 : Nx Z H1 (L2.upd H1 dx (.xd [(f, v)])) (mupd M1 dx (.xd f d)) := ⟨keepT_new hdx, n1.mm.upd (keepT_new hdx) ⟨v, rfl, RD.keep (keepT_new hdx) _ _ r1⟩, tabs_new n1.tb hdx⟩
  exact ⟨C, [.ref dx], ρ, _, rfl, .inr ⟨dx, rfl, rfl⟩, (rl.nx n1).nx n2, h1 dx (n1.here.free hdx)⟩
end

def dClause (K : PySem.W.Frag) (c : Value) (ts : Addr → List D → DS) (W : DW) (E : DEnds) : DW := fun C fs ρ M =>
  ∃ b, PySem.W.exmOne K (.ref C) c = some b ∧ (b = true → ts C fs noW E ρ M) ∧ (b = false → W C fs ρ M)
def dTry (K : PySem.W.Frag) (c : Value) (tb : DS) (ts : Addr → List D → DS) : DS := fun W E ρ M => tb (dClause K c ts W E) E ρ M
section
variable {Z : ZP} {G : Hp} {X : Cx} {x : Str} {c : Value} {body suite : List Stmt} {b₀ : Stmt} {np pos pos' : Pos} {tb : DS} {ts : Addr → List D → DS}
theorem qs_try_only (hK : X.K = Z.K) (hs : X.stack = X.env :: X.outer) (hf : X.env.frame = some X.env.locals) (hc : Names X x c)
    (hb : ∀ (G : Hp) (pn : List (Addr × Obj)) (xe : Value → Shared → Prop), PassesOwn (model X.prog X.w) X.A X.env xe → QSs Z G (X.tr pn xe) body tb)
    (hsu : ∀ (C : Addr) (fs : List D) (a : Addr) (oe : Obj) (pn : List (Addr × Obj)), QSs Z G (X.suite a ((a, oe) :: pn)) (b₀ :: suite) (ts C fs)) :
    QS Z G X (.Try body [.ExceptHandler (some (.Name x np)) none (b₀ :: suite) pos'] [] [] pos) (dTry Z.K c tb ts) := by
  refine ⟨fun W tk => ⟨fun pz s σ H D I ⟨ρ, M, E, rl, h, k1, k2, k3, k4⟩ => ?_⟩⟩
  let tsH : Addr → Value → Option Addr → TS := fun a cls d D σ H => ∃ C fs, lS Z G (ts C fs noW) D σ H
  have hsu' : ∀ (a : Addr) (oe : Obj) (cls : Value) (d : Option Addr) (pn : List (Addr × Obj)), Zc cls d oe → (∃ vs, oe.data = .fields vs) → PSs (X.suite a ((a, oe) :: pn)) (b₀ :: suite) (tsH a cls d) := fun a oe cls d pn _ _ =>
    ⟨fun pz s σ H D I ⟨C, fs, q⟩ => ((hsu C fs a oe pn).pss noW takes_no).run pz s σ H D I q⟩
  let tbH : WX → TS := fun WW D σ H => ∃ W', (∀ c d σ' H', lW Z H W' c d σ' H' → WW c d σ' H') ∧ lS Z H (tb W') D σ H
  have hb' : ∀ (WW : WX) (pn : List (Addr × Obj)) (xe : Value → Shared → Prop), Takes (X.tr pn xe) WW → PassesOwn (model X.prog X.w) X.A X.env xe → PSs (X.tr pn xe) body (tbH WW) := fun WW pn xe tk' po =>
    ⟨fun pz s σ H D I ⟨W', hw, q⟩ => ((hb H pn xe po).pss W' (tk'.imp hw)).run pz s σ H D I q⟩
  refine (ps_try_only hs hf hc tk hb' hsu').run pz s σ H D I ⟨dClause Z.K c ts W E, fun cls d σ' H' ⟨C, fs, ρ', M', ec, rx, rl', h'⟩ => ?_, ?_⟩
  · subst ec
    obtain ⟨b, e, h1, h2⟩ := h'
    have rg : Rel Z G σ' H' ρ' M' := ⟨rl.kp.trans rl'.kp, rl'.st, rl'.mm, rl'.tb⟩
    refine ⟨b, by rw [hK]; exact e, fun hb a _ => ⟨C, fs, lS_go rg rl'.kp (h1 hb) k1 k2 k3 k4⟩, fun hb => ⟨C, fs, ρ', M', rfl, rx, rg, h2 hb⟩⟩
  · have up : ∀ {σ' : L2.St} {H' : Hp} {ρ' : Env} {M' : DM}, Rel Z H σ' H' ρ' M' → Rel Z G σ' H' ρ' M' := fun r => ⟨rl.kp.trans r.kp, r.st, r.mm, r.tb⟩
    exact ⟨ρ, M, E, ⟨KeepT.refl, rl.st, rl.mm, rl.tb⟩, h, fun _ _ _ _ q kp r => k1 _ _ _ _ q kp (up r), k2, fun _ _ _ _ q kp r => k3 _ _ _ _ q kp (up r), fun _ _ _ _ q kp r => k4 _ _ _ _ q kp (up r)⟩
def dClauseA (K : PySem.W.Frag) (c : Value) (i : Nat) (ts : Addr → List D → Addr → DS) (W : DW) (E : DEnds) : DW := fun C fs ρ M =>
  ∃ b, PySem.W.exmOne K (.ref C) c = some b ∧ (b = true → ∀ a, M a = none → ts C fs a noW { nx := fun ρ' M' => E.nx (ρ'.set i none) M', rt := E.rt, bk := fun ρ' M' => E.bk (ρ'.set i none) M', ct := fun ρ' M' => E.ct (ρ'.set i none) M' } (ρ.set i (some (.ref a))) M) ∧ (b = false → W C fs ρ M)
def dTryA (K : PySem.W.Frag) (c : Value) (i : Nat) (tb : DS) (ts : Addr → List D → Addr → DS) : DS := fun W E ρ M => tb (dClauseA K c i ts W E) E ρ M
theorem RSt.none {K : PySem.W.Frag} {H : Hp} {σ : L2.St} {ρ : Env} {i : Nat} (h : RSt K H σ ρ) : RSt K H (σ.set i none) (ρ.set i none) := by
  refine ⟨by simpa using h.1, fun (j : Nat) d e => ?_⟩
  by_cases hj : i = j
  · subst hj
    by_cases hl : i < ρ.length
    · rw [List.getElem?_set_self hl] at e; cases e
    · rw [List.getElem?_eq_none (by rw [List.length_set]; omega)] at e; cases e
  · rw [List.getElem?_set_ne hj] at e ⊢
    exact h.2 j d e
theorem qs_try_as {i : Nat} {n : Str} {tsa : Addr → List D → Addr → DS} (hK : X.K = Z.K) (hs : X.stack = X.env :: X.outer) (hf : X.env.frame = some X.env.locals) (hN : X.N.Nodup) (hi : X.N[i]? = some n) (hln : X.env.kindOf n = some .local) (hc : Names X x c)
    (hb : ∀ (G : Hp) (pn : List (Addr × Obj)) (xe : Value → Shared → Prop), PassesOwn (model X.prog X.w) X.A X.env xe → QSs Z G (X.tr pn xe) body tb)
    (hsu : ∀ (C : Addr) (fs : List D) (a : Addr) (oe : Obj) (pn : List (Addr × Obj)) (d : Option Addr), Zc (.ref C) d oe → (∃ vs, oe.data = .fields vs) → RX d fs → QSs Z G (X.suite a ((a, oe) :: pn)) (b₀ :: suite) (tsa C fs a)) :
    QS Z G X (.Try body [.ExceptHandler (some (.Name x np)) (some n) (b₀ :: suite) pos'] [] [] pos) (dTryA Z.K c i tb tsa) := by
  refine ⟨fun W tk => ⟨fun pz s σ H D I ⟨ρ, M, E, rl, h, k1, k2, k3, k4⟩ => ?_⟩⟩
  let tsH : Addr → Value → Option Addr → TS := fun a cls d D σ H => ∃ C fs, cls = .ref C ∧ RX d fs ∧ lS Z G (tsa C fs a noW) D σ H
  have hsu' : ∀ (a : Addr) (oe : Obj) (cls : Value) (d : Option Addr) (pn : List (Addr × Obj)), Zc cls d oe → (∃ vs, oe.data = .fields vs) → PSs (X.suite a ((a, oe) :: pn)) (b₀ :: suite) (tsH a cls d) := fun a oe cls d pn hz hv =>
    ⟨fun pz s σ H D I ⟨C, fs, ec, rx, q⟩ => by subst ec; exact ((hsu C fs a oe pn d hz hv rx).pss noW takes_no).run pz s σ H D I q⟩
  let tbH : WX → TS := fun WW D σ H => ∃ W', (∀ c d σ' H', lW Z H W' c d σ' H' → WW c d σ' H') ∧ lS Z H (tb W') D σ H
  have hb' : ∀ (WW : WX) (pn : List (Addr × Obj)) (xe : Value → Shared → Prop), Takes (X.tr pn xe) WW → PassesOwn (model X.prog X.w) X.A X.env xe → PSs (X.tr pn xe) body (tbH WW) := fun WW pn xe tk' po =>
    ⟨fun pz s σ H D I ⟨W', hw, q⟩ => ((hb H pn xe po).pss W' (tk'.imp hw)).run pz s σ H D I q⟩
  refine (ps_try_as (i := i) hs hf hN hi hln hc tk hb' hsu').run pz s σ H D I ⟨dClauseA Z.K c i tsa W E, fun cls d σ' H' ⟨C, fs, ρ', M', ec, rx, rl', h'⟩ => ?_, ?_⟩
  · subst ec
    obtain ⟨b, e, h1, h2⟩ := h'
    have rg : Rel Z G σ' H' ρ' M' := ⟨rl.kp.trans rl'.kp, rl'.st, rl'.mm, rl'.tb⟩
    refine ⟨b, by rw [hK]; exact e, fun hb a ha => ⟨C, fs, rfl, rx, ρ'.set i (some (.ref a)), M', _, ⟨rg.kp, rg.st.set mk_ref, rg.mm, rg.tb⟩, h1 hb a (rg.here.free ha), ?_, ?_, ?_, ?_⟩, fun hb => ⟨C, fs, ρ', M', rfl, rx, rg, h2 hb⟩⟩
    · exact fun _ _ _ _ q kp r => k1 _ _ _ _ q (rl'.kp.trans kp) ⟨r.kp, r.st.none, r.mm, r.tb⟩
    · exact fun _ _ _ _ q n r => k2 _ _ _ _ q ⟨rl'.kp.trans n.kp, n.mm, n.tb⟩ r
    · exact fun _ _ _ _ q kp r => k3 _ _ _ _ q (rl'.kp.trans kp) ⟨r.kp, r.st.none, r.mm, r.tb⟩
    · exact fun _ _ _ _ q kp r => k4 _ _ _ _ q (rl'.kp.trans kp) ⟨r.kp, r.st.none, r.mm, r.tb⟩
  · have up : ∀ {σ' : L2.St} {H' : Hp} {ρ' : Env} {M' : DM}, Rel Z H σ' H' ρ' M' → Rel Z G σ' H' ρ' M' := fun r => ⟨rl.kp.trans r.kp, r.st, r.mm, r.tb⟩
    exact ⟨ρ, M, E, ⟨KeepT.refl, rl.st, rl.mm, rl.tb⟩, h, fun _ _ _ _ q kp r => k1 _ _ _ _ q kp (up r), k2, fun _ _ _ _ q kp r => k3 _ _ _ _ q kp (up r), fun _ _ _ _ q kp r => k4 _ _ _ _ q kp (up r)⟩
def dXf (i : Nat) (a : Addr) (C0 C : Addr) (fs : List D) (f : Str) : DE := fun _ ρ M R => ρ[i]? = some (some (.ref a)) ∧ C0 = C ∧ ∃ dx d, fs = [.ref dx] ∧ M dx = some (.xd f d) ∧ R d M
theorem qe_xf {i : Nat} {n f : Str} {a C C0 : Addr} {oe : Obj} {d : Option Addr} {pn : List (Addr × Obj)} {fs : List D} {p : Pos} (T : XfC X.K C) (hno : PySem.W.findIn X.K (.ref C) f = some none) (hz : Zc (.ref C0) d oe) (hv : ∃ vs, oe.data = .fields vs) (rx : RX d fs)
    (hN : X.N[i]? = some n := by rfl) (hl : Vis X.env.scope n := by first | exact Or.inl rfl | exact Or.inr (Or.inl rfl)) (hd : (n == ("__debug__" : Str)) = false := by decide) (hcd : (n == ("__classdict__" : Str)) = false := by decide)
    (hb : attributeBase (.Name n p) f X.env (eval (.Name n p) X.env) = eval (.Name n p) X.env := by rfl) :
    QE Z G (X.suite a ((a, oe) :: pn)) (.Attribute (.Name n p) f pos) (dXf i a C0 C fs f) := by
  refine ⟨fun W tk => pe_of (pe_xf T hno hz hv (pe_var (X := X.suite a ((a, oe) :: pn)) hN hl hd hcd) hb) fun σ H Q ⟨ρ, M, R, rl, h, k⟩ => ?_⟩
  obtain ⟨e1, ec, dx, d0, ef, e2, q⟩ := h
  obtain ⟨v, e3, rd⟩ := rl.st.2 i _ e1
  obtain ⟨v0, e4, rd0⟩ := rl.mm _ _ e2
  subst ec
  rcases rx with ⟨_, r2⟩ | ⟨dx', r1, r2⟩
  · rw [r2] at ef; cases ef
  · rw [r2] at ef; cases ef
    exact ⟨v, e3, rd_ref rd, rfl, dx, _, v0, r1, e4, by simp [List.lookup], k _ _ _ _ q rl.stay rd0⟩
end
end DL

set_option Elab.async false
set_option linter.all false
set_option maxRecDepth 100000
namespace DL
open PySem PySem.Spec PyProof.Rows L2 TL

section
variable {Z : ZP} {G : Hp} {X : Cx} {pos p : Pos} {a b c e : Expr} {es : List Expr} {ta tb tc te : DE} {tA : DA}
def dNeg (t : DE) : DE := fun W ρ M R => t W ρ M fun d M1 => match d with
  | .int i => R (.int (-i)) M1
  | _ => False
theorem qe_neg (ha : QE Z G X a ta) : QE Z G X (.UnaryOp .USub a pos) (dNeg ta) := by
  refine ⟨fun W tk => pe_of (pe_un un_neg (ha.pe W tk)) fun σ H Q ⟨ρ, M, R, rl, h, k⟩ => ⟨ρ, M, _, rl, h, fun d M1 v H1 h1 n1 r1 => ?_⟩⟩
  split at h1
  · rename_i i
    exact ⟨i, rd_int r1, k _ _ _ _ h1 n1 mk_int⟩
  · exact h1.elim
theorem qt_chain {op op' : CmpOp} {g g'} (o : OpD Z X (compareOp op) g) (o' : OpD Z X (compareOp op') g') (ha : QE Z G X a ta) (hb : QE Z G X b tb) (hc : QE Z G X c tc)
    (hm : lastMarks [op, op'] [b, c] = false := by rfl) : QT Z G X (.Compare a [op, op'] [b, c] pos) (dTest (dChain g g' ta tb tc)) := by
  obtain ⟨r, ho, hr⟩ := o
  obtain ⟨r', ho', hr'⟩ := o'
  exact ⟨fun W tk => pt_of (pt_chain ho ho' (ha.pe W tk) (hb.pe W tk) (hc.pe W tk) hm) (lT_test (chain_lift hr hr'))⟩
def truD (d : D) (M : DM) (Q : Bool → DM → Prop) : Prop := match d with
  | .non => Q false M
  | .bl b => Q b M
  | .int i => Q (i != 0) M
  | .str s => s.length ≤ sizeLine ∧ Q (!s.isEmpty) M
  | .tup ds => Q (!ds.isEmpty) M
  | .ref a => ∃ ds, M a = some (.lst ds) ∧ Q (!ds.isEmpty) M
def dTru (t : DE) : DT := fun W ρ M R => t W ρ M fun d M1 => truD d M1 R
theorem isEmpty_rds {K : PySem.W.Frag} {H : Hp} {ds : List D} {vs : List V} (r : RDs K H ds vs) : (!vs.isEmpty) = !ds.isEmpty := by
  have := r.length
  cases ds <;> cases vs <;> simp_all
theorem qt_tru (hK : X.K = Z.K) (ha : QE Z G X a ta) (he : ∀ whole, isTrue a X.env whole = (do let v ← whole; standAt a.pos; holding [v] (truthy v)) := by intro _; rfl) : QT Z G X a (dTru ta) := by
  refine ⟨fun W tk => pt_of (pt_truth (ha.pe W tk) he) fun σ H Q ⟨ρ, M, R, rl, h, k⟩ => ⟨ρ, M, _, rl, h, fun d M1 v H1 h1 n1 r1 => ?_⟩⟩
  cases d with
  | non => rw [rd_non r1]; exact ⟨false, rfl, k _ _ _ h1 n1⟩
  | bl b => rw [rd_bl r1]; exact ⟨b, rfl, k _ _ _ h1 n1⟩
  | int i => rw [rd_int r1]; exact ⟨_, rfl, k _ _ _ h1 n1⟩
  | str s =>
    rw [rd_str r1]
    refine ⟨_, ⟨by rw [sV_len]; exact h1.1, ?_⟩, k _ _ _ h1.2 n1⟩
    rw [sV_len]
    cases s with
    | nil => rfl
    | cons x r => simp; omega
  | tup ds =>
    obtain ⟨q, vs, rfl, s, r⟩ := rd_tp r1
    exact ⟨_, .inr (.inl ⟨vs, hK ▸ s, (isEmpty_rds r).symm⟩), k _ _ _ h1 n1⟩
  | ref q =>
    obtain ⟨ds, e1, h1⟩ := h1
    obtain ⟨vs, e2, r⟩ := n1.here.at_lst e1
    rw [rd_ref r1]
    exact ⟨_, .inl ⟨vs, SqL.of e2, (isEmpty_rds r).symm⟩, k _ _ _ h1 n1⟩
def dPar (i j : Nat) (ta : DA) : DS := fun W E ρ M => ta W ρ M fun ds M1 => match ds with
  | [d, e] => E.nx ((ρ.set i (some d)).set j (some e)) M1
  | _ => False
theorem qs_par {i j : Nat} {x y : Str} {px py pt : Pos} {kt k2 pt2} (hc : X.calm = true) (hN : X.N.Nodup) (hi : X.N[i]? = some x) (hj : X.N[j]? = some y) (hij : i ≠ j)
    (hx : X.env.scope.names.lookup x = some .local) (hy : X.env.scope.names.lookup y = some .local) (ha : QA Z G X [a, b] tA)
    (hw : swappedStores [.Tuple [.Name x px, .Name y py] kt pt] (.Tuple [a, b] k2 pt2) X.env = pure (some [x, y]))
    (hs : swapsWithSole [.Tuple [.Name x px, .Name y py] kt pt] (.Tuple [a, b] k2 pt2) pos.line X.env = pure false := by rfl) :
    QS Z G X (.Assign [.Tuple [.Name x px, .Name y py] kt pt] (.Tuple [a, b] k2 pt2) pos) (dPar i j tA) := by
  refine ⟨fun W tk => ps_of (ps_par hc hN hi hj hij hx hy (ha.pa W tk) hw hs) fun D σ H ⟨ρ, M, E, rl, h, k1, k2, k3, k4⟩ => ⟨ρ, M, _, rl, h, fun ds M1 vs H1 h1 n1 r1 => ?_⟩⟩
  split at h1
  · rename_i d e
    obtain ⟨v, u, rfl, rv, ru⟩ := rds_two r1
    exact ⟨v, u, rfl, k1 _ _ _ _ h1 n1.kp ⟨rl.kp.trans n1.kp, ((rl.st.keep n1.kp).set rv).set ru, n1.mm, n1.tb⟩⟩
  · exact h1.elim
def augAdd : D → D → DM → DQ → Prop := fun x y M R => match x, y with
  | .int i, .int j => R (.int (i + j)) M
  | _, _ => False
def dAug (i : Nat) (g : D → D → DM → DQ → Prop) (te : DE) : DS := fun W E ρ M => match ρ[i]? with
  | some (some x) => te W ρ M fun y M1 => g x y M1 fun z M2 => E.nx (ρ.set i (some z)) M2
  | _ => False
def IpD (Z : ZP) (X : Cx) (op : Operator) (g : D → D → DM → DQ → Prop) : Prop :=
  ∃ r, PIp X op r ∧ ∀ (H : Hp) (M : DM) (x y : V) (dx dy : D) (R : DQ) (Q : VK), Here Z H M → RD Z.K H dx x → RD Z.K H dy y → g dx dy M R → (∀ d M' v H', R d M' → Nx Z H H' M' → RD Z.K H' d v → Q v H') → r x y H Q
theorem a_add : IpD Z X .Add augAdd := by
  refine ⟨_, ip_add, fun H M x y dx dy R Q hr rx ry g k => ?_⟩
  cases dx <;> cases dy <;> first | exact g.elim | skip
  rw [rd_int rx, rd_int ry]
  exact ⟨_, _, rfl, rfl, k _ _ _ _ g hr.stay mk_int⟩
theorem qs_aug {i : Nat} {x : Str} {op : Operator} {g} {pos' : Pos} (hN : X.N.Nodup) (o : IpD Z X op g) (he : QE Z G X e te) (hi : X.N[i]? = some x := by rfl) (hx : Loc X.env.scope x := by first | exact Or.inl rfl | exact Or.inr rfl)
    (hf : X.fn x = true ∨ X.env.scope.names.lookup x = some .local := by first | exact .inl rfl | exact .inr rfl | assumption) : QS Z G X (.AugAssign (.Name x pos') op e pos) (dAug i g te) := by
  obtain ⟨r, ho, hr⟩ := o
  refine ⟨fun W tk => ps_of (ps_aug hN hi hx (he.pe W tk) ho hf) fun D σ H ⟨ρ, M, E, rl, h, k1, k2, k3, k4⟩ => ?_⟩
  unfold dAug at h
  split at h
  · rename_i d e0
    obtain ⟨v, e1, rd⟩ := rl.st.2 i d e0
    refine ⟨v, e1, ρ, M, _, rl, h, fun y M1 v1 H1 h1 n1 r1 => ?_⟩
    exact hr H1 M1 v v1 d y _ _ n1.here (RD.keep n1.kp _ _ rd) r1 h1 fun z M2 v2 H2 q n2 r2 => k1 _ _ _ _ q (n1.trans n2).kp ⟨rl.kp.trans (n1.trans n2).kp, (rl.st.keep (n1.trans n2).kp).set r2, n2.mm, n2.tb⟩
  · exact h.elim
def dFldAug (C : Addr) (f : Str) (to te : DE) : DS := fun W E ρ M => to W ρ M fun x M1 => ∃ (a dx : Addr) (ns : List Str) (ds : List D) (j : Nat) (i : Int), x = .ref a ∧ M1 a = some (.ins C dx ns ds) ∧ ns[j]? = some f ∧ ds[j]? = some (.int i) ∧
  te W ρ M1 fun y M2 => ∃ (n : Int) (dx' : Addr) (ds' : List D), y = .int n ∧ M2 a = some (.ins C dx' ns ds') ∧ ds'.length < 1000 ∧ E.nx ρ (mupd M2 a (.ins C dx' ns (ds'.set j (.int (i + n)))))
theorem qs_fldaug {o : Expr} {to : DE} {f : Str} {C : Addr} {tpos : Pos} (cl : Cls X.K C) (na : NoAttr X.K C f) (ho : QE Z G X o to) (hv : QE Z G X e te) : QS Z G X (.AugAssign (.Attribute o f tpos) .Add e pos) (dFldAug C f to te) := by
  refine ⟨fun W tk => ps_of (ps_fldaug (ho.pe W tk) (hv.pe W tk) in_add) fun D σ H ⟨ρ, M, E, rl, h, k1, k2, k3, k4⟩ => ⟨ρ, M, _, rl, h, fun x M1 v1 H1 h1 n1 r1 => ?_⟩⟩
  obtain ⟨a, dx, ns, ds, j, i, rfl, e1, e2, e3, h1⟩ := h1
  obtain ⟨vs, e4, r, hl, nd⟩ := n1.here.at_ins e1
  obtain ⟨v, e5, rd⟩ := r.get e3
  refine ⟨a, C, dx, _, v, rd_ref r1, e4, cl, na, lookup_zip nd e2 e5, ρ, M1, _, rl.nx n1, h1, fun y M2 v2 H2 h2 n2 r2 => ?_⟩
  obtain ⟨n, dx', ds', rfl, e6, hz, q⟩ := h2
  obtain ⟨ws, e7, r', hl', nd'⟩ := n2.here.at_ins e6
  have hw : ws.length = ns.length := r'.length.trans hl'.symm
  have k3' : KeepT Z.K H2 (L2.upd H2 a (.ins C dx' (ns.zip (ws.set j (.int (i + n)))))) := keepT_mut e7 rfl
  have n3 := n2.here.mut (u := .ins C dx' (ns.zip (ws.set j (.int (i + n))))) (m := .ins C dx' ns (ds'.set j (.int (i + n)))) e7 rfl ⟨_, rfl, RDs.keep k3' _ _ (r'.set j mk_int), by simpa using hl', nd'⟩
  refine ⟨i, n, rd_int rd, rd_int r2, dx', ns.zip ws, e7, by rw [List.length_zip, hw, Nat.min_self, hl']; exact hz, ?_⟩
  rw [putF_zip nd' e2 hw]
  exact k1 _ _ _ _ q ((n1.trans n2).trans n3).kp (((rl.nx n1).nx n2).nx n3)

def cntL (c : Nat) (s : List Nat) : Nat := (s.filter fun x => x == c).length
theorem cnt_cntL (c : Nat) : ∀ s : List Nat, cnt c s = (cntL c s : Nat)
  | [] => rfl
  | n :: r => by
    rw [cnt_cons, cnt_cntL c r]
    unfold cntL
    rw [List.filter_cons]
    by_cases h : n = c
    · subst h; simp; omega
    · simp [h]
def countD : D → List D → DM → DQ → Prop := fun x ds M R => match x, ds with
  | .str s, [.str [c]] => R (.int (cntL c s)) M
  | _, _ => False
theorem m_count : MtD Z X "str.count" countD := by
  refine ⟨_, mt_count, fun H M v x vs ds R Q hr rx rd g k => ?_⟩
  unfold countD at g
  split at g
  · rename_i s c
    obtain ⟨u, rfl, r1⟩ := rds_one rd
    rw [rd_str rx, rd_str r1]
    refine ⟨_, _, rfl, rfl, ?_⟩
    rw [one_sV, count_cnt, sV_cps, cnt_cntL]
    exact k _ _ _ _ g hr.stay mk_int
  · exact g.elim
def joinL (s : List Nat) : List (List Nat) → List Nat
  | [] => []
  | [x] => x
  | x :: y :: r => x ++ (s ++ joinL s (y :: r))
theorem strs_rds {K : PySem.W.Frag} {H : Hp} : ∀ {ys : List (List Nat)} {vs : List V}, RDs K H (ys.map D.str) vs → vs = (ys.map sV).map V.str
  | [], vs, r => by rw [List.map_nil, RDs] at r; exact r
  | y :: ys, vs, r => by
    rw [List.map_cons, RDs] at r
    obtain ⟨v, w, rfl, r1, r2⟩ := r
    rw [rd_str r1, strs_rds r2]
    rfl
theorem join_sV (s : List Nat) : ∀ ys : List (List Nat), Str.join (sV s) (ys.map sV) = sV (joinL s ys)
  | [] => rfl
  | [x] => rfl
  | x :: y :: r => by
    have ih := join_sV s (y :: r)
    show sV x ++ sV s ++ Str.join (sV s) ((y :: r).map sV) = _
    rw [ih, sV_app, sV_app, joinL, List.append_assoc]
def joinD : D → List D → DM → DQ → Prop := fun x ds M R => match x, ds with
  | .str s, [.ref a] => ∃ ys M2, M a = some (.lst (ys.map D.str)) ∧ MSub M2 M ∧ (ys.map (·.length)).sum + ys.length * s.length ≤ 16777216 ∧ R (.str (joinL s ys)) M2
  | .str s, [.tup ts] => ∃ ys, ts = ys.map D.str ∧ (ys.map (·.length)).sum + ys.length * s.length ≤ 16777216 ∧ R (.str (joinL s ys)) M
  | _, _ => False
theorem lens_sV (ys : List (List Nat)) : ((ys.map sV).map (·.length)) = ys.map (·.length) := by
  rw [List.map_map]
  exact List.map_congr_left fun x _ => sV_len x
theorem m_join (hK : X.K = Z.K) : MtD Z X "str.join" joinD := by
  refine ⟨_, mt_join, fun H M v x vs ds R Q hr rx rd g k => ?_⟩
  unfold joinD at g
  split at g
  · rename_i s a
    obtain ⟨ys, M2, e, sb, hz, g⟩ := g
    obtain ⟨u, rfl, r1⟩ := rds_one rd
    obtain ⟨ws, e1, r⟩ := hr.at_lst e
    rw [rd_str rx, rd_ref r1]
    refine ⟨sV s, a, ys.map sV, rfl, rfl, .inl (SqL.of (by rw [e1, strs_rds r])), by rw [lens_sV, sV_len, List.length_map]; exact hz, ?_⟩
    rw [join_eq, join_sV]
    exact k _ _ _ _ g (hr.stay.sub sb) mk_str
  · rename_i s ts
    obtain ⟨ys, rfl, hz, g⟩ := g
    obtain ⟨u, rfl, r1⟩ := rds_one rd
    obtain ⟨p, ws, rfl, sq, r⟩ := rd_tp r1
    rw [rd_str rx]
    refine ⟨sV s, p, ys.map sV, rfl, rfl, .inr (by rw [← strs_rds r]; exact hK ▸ sq), by rw [lens_sV, sV_len, List.length_map]; exact hz, ?_⟩
    rw [join_eq, join_sV]
    exact k _ _ _ _ g hr.stay mk_str
  · exact g.elim
def splL (c : Nat) : List Nat → List Nat → List (List Nat)
  | acc, [] => [acc]
  | acc, x :: r => if x = c then acc :: splL c [] r else splL c (acc ++ [x]) r
theorem tl_sV (x : List Nat) : tl (sV x) = x := sV_cps x
theorem spl_splL (c : Nat) : ∀ (l acc : List Nat), spl [c] 0 acc l = splL c acc l
  | [], acc => by simp [spl, splL]
  | x :: r, acc => by
    rw [spl, splL]
    have e : pre [c] (x :: r) = decide (x = c) := by
      unfold pre
      simp
      by_cases h : x = c <;> simp [h]
    by_cases h : x = c
    · rw [e, if_pos (by simpa using h), if_pos h]
      show acc :: spl [c] 0 [] r = _
      rw [spl_splL c r []]
    · rw [e, if_neg (by simpa using h), if_neg h, spl_splL c r]
theorem split_sV {s : List Nat} {c : Nat} (hc : c < 256) : Txt.split (sV s) (sV [c]) = (splL c [] s).map sV := by
  have h := split_spl (sV s) (sV [c]) (by rw [tl_sV]; simp) (kind_ok (by simp [sV]; exact hc))
  rw [tl_sV, tl_sV, spl_splL] at h
  rw [← h, List.map_map]
  conv => lhs; rw [← List.map_id (Txt.split (sV s) (sV [c]))]
  exact List.map_congr_left fun x _ => (sV_back x).symm
def splitD : D → List D → DM → DQ → Prop := fun x ds M R => match x, ds with
  | .str s, [.str [c]] => c < 256 ∧ s.length + 2 ≤ sizeLine ∧ ∀ p, M p = none → R (.ref p) (mupd M p (.lst ((splL c [] s).map D.str)))
  | _, _ => False
theorem rds_strs {K : PySem.W.Frag} {H : Hp} : ∀ (ys : List (List Nat)), RDs K H (ys.map D.str) ((ys.map sV).map V.str)
  | [] => RDs.nil
  | y :: ys => RDs.cons mk_str (rds_strs ys)
theorem m_split : MtD Z X "str.split" splitD := by
  refine ⟨_, mt_split, fun H M v x vs ds R Q hr rx rd g k => ?_⟩
  unfold splitD at g
  split at g
  · rename_i s c
    obtain ⟨hc, hz, g⟩ := g
    obtain ⟨u, rfl, r1⟩ := rds_one rd
    rw [rd_str rx, rd_str r1]
    refine ⟨_, _, rfl, rfl, by rw [sV_len]; rfl, by rw [sV_len]; exact hz, fun p hp => ?_⟩
    rw [split_sV hc]
    exact k _ _ _ _ (g p (hr.free hp)) (hr.lst hp (rds_strs _)) mk_ref
  · exact g.elim
end
end DL

set_option Elab.async false
set_option linter.all false
set_option maxRecDepth 100000
namespace DL
open PySem PySem.Spec PyProof.Rows L2
open PySem.AutoSeq1 (wpAny_loadPart')
abbrev titO (a : Addr) : Obj := { cls := .type "tuple_iterator", data := .fields #[.ref a, .int 0 0] }
abbrev enuO (it : Addr) : Obj := { cls := .type "enumerate", data := .fields #[.none, .bool false, .ref it, rawInt 0, .none, .none] }
abbrev pairO (i : Int) (t : Tok) (x : Value) : Obj := { cls := .type "tuple", data := .seq #[.int i t, x] }
set_option maxHeartbeats 1000000 in
theorem new_enumT (a : Addr) (vs : Array Value) (n : Nat) (dd : Option Addr) (sl : Array (Option Value)) : Meets (Builtin.«enumerate.__new__» ⟨[.type "enumerate", .ref a], []⟩) (fun _ R s =>
    s.heap.get? a = some { cls := .type "tuple", dict := dd, data := .seq vs n, slots := sl } ∧ R (.ok (.ret (.ref (s.heap.push (titO a)).objs.size))) { s with heap := (s.heap.push (titO a)).push (enuO s.heap.objs.size) }) :=
  .of_wp fun prog w A R s hh => by
    obtain ⟨q, gg, dr, tt, os⟩ := s
    obtain ⟨ha, hh⟩ := hh
    have sub0 := sub_enumerate
    have tpl : Heap.IsTuple (Shared.heap ⟨q, gg, dr, tt, os⟩) a vs := ⟨_, ha, rfl, n, rfl⟩
    wp_walk using wpAny_loadPart' ha
    refine wpAny_stack_any fun _ => wpAny_pure ?_
    split
    · rename_i c _ _ _ _ _
      cases (c == Value.type "enumerate")
      all_goals (wp_walk using wpAny_loadPart' ha, wpAny_pyIter_tuple tpl; exact ⟨_, rfl, hh⟩)
    · wp_walk using wpAny_loadPart' ha, wpAny_pyIter_tuple tpl
      exact ⟨_, rfl, hh⟩
section
variable {prog : Program} {w : World} {A : Around} {E : Value → Shared → Prop} {s : Shared}
theorem call_enumT {a : Addr} {vs : Array Value} {Q : Value → Shared → Prop} (tpl : s.heap.IsTuple a vs) (k : ∀ g, IsEnum g (s.heap.objs.size + 1) s.heap.objs.size 0 .none → g.IsTupleIter s.heap.objs.size a 0 → g.objs.size = s.heap.objs.size + 2 → (∀ b o, s.heap.get? b = some o → g.get? b = some o) → Q (.ref (s.heap.objs.size + 1)) { s with heap := g }) :
    wpAny (model prog w) A (call (.type "enumerate") [.ref a]) Q E s := by
  obtain ⟨⟨c, dd, dt, sl⟩, ha, e1, n, e2⟩ := tpl
  have e1' : c = .type "tuple" := e1
  have e2' : dt = .seq vs n := e2
  subst e1' e2'
  refine callType_new F.called_enumerate (by decide) (F.typeCall_enumerate_1 _) (F.newCall_enumerate_1 _) (fun ob => F.args_object_init_2 ob _) F.entry_enumerate_new (new_enumT a vs n dd sl) ⟨ha, ?_⟩
  have sz : (s.heap.push (titO a)).objs.size = s.heap.objs.size + 1 := Heap.size_push ..
  show _ ∧ _
  rw [sz]
  have en : IsEnum ((s.heap.push (titO a)).push (enuO s.heap.objs.size)) (s.heap.objs.size + 1) s.heap.objs.size 0 .none := by
    have z := Heap.get?_push_size (s.heap.push (titO a)) (o := enuO s.heap.objs.size) rfl
    rwa [sz] at z
  exact ⟨⟨_, en, rfl⟩, k _ en ⟨_, Heap.get?_push_of_some _ (Heap.get?_push_size _ rfl), rfl, rfl⟩ (by rw [Heap.size_push, sz]) fun b o x => Heap.get?_push_of_some _ (Heap.get?_push_of_some _ x)⟩
theorem enumT_next {e it a : Addr} {i : Nat} {vs : Array Value} {x old : Value} {Q : Value → Shared → Prop} (en : IsEnum s.heap e it i old) (ti : s.heap.IsTupleIter it a i) (tpl : s.heap.IsTuple a vs) (hx : vs[i]? = some x) (ne : e ≠ it)
    (k : ∀ g, IsEnumOut g e it ((i : Int) + 1) x s.heap.objs.size → g.IsTupleIter it a (i + 1) → g.get? s.heap.objs.size = some (pairO i s.toks x) → g.objs.size = s.heap.objs.size + 1 →
      (∀ b o, b ≠ e → b ≠ it → s.heap.get? b = some o → g.get? b = some o) → Q (.ref s.heap.objs.size) { s with heap := g, toks := s.toks + 1 }) :
    wpAny (model prog w) A (Builtin.«enumerate.__next__» ⟨[.ref e], []⟩) (fun fin s' => ∃ v, fin = .done (.ret v) ∧ Q v s') E s := by
  obtain ⟨q0, gg, dr, tt, os⟩ := s
  show wpAny _ _ (field (.ref e) 2 >>= _) _ _ _
  refine wpAny_bind (wpAny_field en rfl (x := .ref it) rfl (wpAny_bind (RZ.nextOf_tuple_item ti tpl hx fun q1 ti1 s1 => ?_)))
  have s1' : Heap.SameBut it q0 q1 := s1
  have en1 : IsEnum q1 e it i old := (s1'.2 e ne).trans en
  show wpAny _ _ (field (.ref e) 3 >>= _) _ _ ⟨q1, gg, dr, tt, os⟩
  refine wpAny_bind (wpAny_field en1 rfl (x := rawInt i) rfl ?_)
  show wpAny _ _ (field (.ref e) 4 >>= _) _ _ ⟨q1, gg, dr, tt, os⟩
  refine wpAny_bind (wpAny_field en1 rfl (x := .none) rfl ?_)
  show wpAny _ _ (mkInt i >>= _) _ _ ⟨q1, gg, dr, tt, os⟩
  refine wpAny_bind (wpAny_mkInt ?_)
  show wpAny _ _ (setField (.ref e) 3 (rawInt ((i : Int) + 1)) >>= _) _ _ ⟨q1, gg, dr, tt + 1, os⟩
  refine wpAny_bind (wpAny_setField_rec en1 (by simp) fun q2 en2 s2 => ?_)
  have s2' : Heap.SameBut e q1 q2 := s2
  have en2' : IsEnum q2 e it ((i : Int) + 1) old := en2
  show wpAny _ _ (setField (.ref e) 4 .none >>= _) _ _ ⟨q2, gg, dr, tt + 1, os⟩
  refine wpAny_bind (wpAny_setField_rec en2' (by simp) fun q3 en3 s3 => ?_)
  have s3' : Heap.SameBut e q2 q3 := s3
  have en3' : IsEnum q3 e it ((i : Int) + 1) old := en3
  show wpAny _ _ (newTuple [.int i tt, x] >>= _) _ _ ⟨q3, gg, dr, tt + 1, os⟩
  refine wpAny_bind (wpAny_newTuple ?_)
  have en4 : IsEnum (q3.push (pairO i tt x)) e it ((i : Int) + 1) old := Heap.get?_push_of_some _ en3'
  have z3 : q3.objs.size = q0.objs.size := by rw [s3'.1, s2'.1, s1'.1]
  have le : e < q0.objs.size := Heap.lt_size en
  have tp4 : (q3.push (pairO i tt x)).get? q0.objs.size = some (pairO i tt x) := by rw [← z3]; exact Heap.get?_push_size _ rfl
  have z4 : (q3.push (pairO i tt x)).objs.size = q0.objs.size + 1 := by rw [Heap.size_push, z3]
  have k4 : ∀ b o, b ≠ e → b ≠ it → q0.get? b = some o → (q3.push (pairO i tt x)).get? b = some o := fun b o b1 b2 hb =>
    Heap.get?_push_of_some _ (s3'.extBut b o b1 (s2'.extBut b o b1 (s1'.extBut b o b2 hb)))
  have ti4 : (q3.push (pairO i tt x)).IsTupleIter it a (i + 1) := by
    obtain ⟨o, ho, r⟩ := ti1
    exact ⟨o, Heap.get?_push_of_some _ (s3'.extBut it o (Ne.symm ne) (s2'.extBut it o (Ne.symm ne) ho)), r⟩
  show wpAny _ _ (Builtin.SmallTypes.ownedTupleIsFree (.ref e) >>= _) _ _ ⟨q3.push (pairO i tt x), gg, dr, tt + 1, os⟩
  generalize q3.push (pairO i tt x) = q4 at en4 tp4 z4 k4 ti4 ⊢
  rw [z3]
  refine wpAny_bind ?_
  unfold Builtin.SmallTypes.ownedTupleIsFree
  refine wpAny_bind (wpAny_field en4 rfl (x := .none) rfl (wpAny_pure ?_))
  simp only [if_true]
  refine wpAny_bind (wpAny_rule (wpAny_bind (wpAny_field en4 rfl (x := old) rfl (wpAny_bind (wpAny_setField_rec en4 (by simp) fun q5 en5 s5 => ?_)))))
  have s5' : Heap.SameBut e q4 q5 := s5
  have en5' : IsEnum q5 e it ((i : Int) + 1) x := en5
  show wpAny _ _ (Builtin.SmallTypes.ownedTupleHandOut (.ref e) (.ref q0.objs.size) >>= _) _ _ ⟨q5, gg, dr, tt + 1, os⟩
  refine wpAny_bind ?_
  unfold Builtin.SmallTypes.ownedTupleHandOut
  refine wpAny_bind (wpAny_setField_rec en5' (by simp) fun q6 en6 s6 => ?_)
  have s6' : Heap.SameBut e q5 q6 := s6
  have en6' : IsEnumOut q6 e it ((i : Int) + 1) x q0.objs.size := en6
  refine wpAny_setField_rec en6' (by simp) fun q7 en7 s7 => ?_
  have s7' : Heap.SameBut e q6 q7 := s7
  have en7' : IsEnumOut q7 e it ((i : Int) + 1) x q0.objs.size := en7
  have up : ∀ b o, b ≠ e → q4.get? b = some o → q7.get? b = some o := fun b o hb ho => s7'.extBut b o hb (s6'.extBut b o hb (s5'.extBut b o hb ho))
  refine wpAny_bind (wpAny_letGo (wpAny_pure ⟨_, rfl, k q7 en7' ?_ (up _ _ (Nat.ne_of_gt le) tp4) (by rw [s7'.1, s6'.1, s5'.1, z4]) fun b o b1 b2 hb => up b o b1 (k4 b o b1 b2 hb)⟩))
  obtain ⟨o, ho, r⟩ := ti4
  exact ⟨o, up _ _ (Ne.symm ne) ho, r⟩
theorem enumT_item {e it a : Addr} {i : Nat} {vs : Array Value} {x old : Value} {Q : Option Value → Shared → Prop} (en : IsEnum s.heap e it i old) (ti : s.heap.IsTupleIter it a i) (tpl : s.heap.IsTuple a vs) (hx : vs[i]? = some x) (ne : e ≠ it)
    (k : ∀ g, IsEnumOut g e it ((i : Int) + 1) x s.heap.objs.size → g.IsTupleIter it a (i + 1) → g.get? s.heap.objs.size = some (pairO i s.toks x) → g.objs.size = s.heap.objs.size + 1 →
      (∀ b o, b ≠ e → b ≠ it → s.heap.get? b = some o → g.get? b = some o) → Q (some (.ref s.heap.objs.size)) { s with heap := g, toks := s.toks + 1 }) : wpAny (model prog w) A (pyNext (.ref e)) Q E s := by
  have ty : s.TypeIs (.ref e) "enumerate" := ⟨_, en, rfl⟩
  unfold pyNext
  refine wpAny_bind (wpAny_attempt (wpAny_callSpecial?_slot (name := Str.ofString "__next__") ty F.slot_enumerate_next ?_))
  exact wpAny_call_entry F.slot_enumerate_next ty F.entry_enumerate_next (enumT_next en ti tpl hx ne fun g h1 h2 h3 h4 h5 => wpAny_pure (k g h1 h2 h3 h4 h5)) (F.args_enumerate_next_1 _)
theorem enumT_end {e it a : Addr} {i : Nat} {vs : Array Value} {old : Value} {Q : Option Value → Shared → Prop} (hh : A.handled = none) (en : IsEnum s.heap e it i old) (ti : s.heap.IsTupleIter it a i) (tpl : s.heap.IsTuple a vs) (hx : vs[i]? = none)
    (k : ∀ g, Heap.ExtBut it s.heap g → Q none { s with heap := g }) : wpAny (model prog w) A (pyNext (.ref e)) Q E s := by
  have ty : s.TypeIs (.ref e) "enumerate" := ⟨_, en, rfl⟩
  unfold pyNext
  refine wpAny_bind (wpAny_attempt (wpAny_callSpecial?_slot (name := Str.ofString "__next__") ty F.slot_enumerate_next (wpAny_call_entry F.slot_enumerate_next ty F.entry_enumerate_next ?_ (F.args_enumerate_next_1 _))))
  show wpAny _ _ (field (.ref e) 2 >>= _) _ _ _
  refine wpAny_bind (wpAny_field en rfl (x := .ref it) rfl (wpAny_bind (RZ.nextOf_tuple_end hh ti tpl hx fun g x kk ⟨o, ho, hc⟩ => ?_)))
  exact wpAny_bind (wpAny_isInstance (T := "StopIteration") (b := true) ⟨o, ho, hc⟩ isSubtype_stop (wpAny_pure (k _ kk)))
end
def IteT (K : PySem.W.Frag) (a : Addr) : It :=
  ⟨fun i H => ∃ (xs : List V) (x : V), SqT K H a xs ∧ xs[i]? = some x, fun i H v H' => ∃ T x, v = .ref T ∧ H T = none ∧ H' = upd H T (.tup [.int (i : Nat), x]) ∧ ∀ xs, SqT K H a xs → xs[i]? = some x, fun i H => ∃ xs : List V, SqT K H a xs ∧ xs.length ≤ i⟩
theorem turn_enumT {P : Program} {w : World} {K : PySem.W.Frag} {elts : List Expr} {kk : Nat} {tpos : Pos} (a e it : Addr) :
    Turn P w K (.Tuple elts kk tpos) (IteT K a) [e, it] e (fun i h => (∃ old, IsEnum h e it ((i : Nat) : Int) old) ∧ h.IsTupleIter it a i ∧ e ≠ it) where
  mem := List.mem_cons_self
  obj := fun i h ⟨⟨old, he⟩, ⟨o, ho, hc, hd⟩, _⟩ b hb => by
    rcases List.mem_cons.mp hb with z | z
    · exact ⟨_, z ▸ he, fun v q => by cases q⟩
    · have z' : b = it := by simpa using z
      exact ⟨o, z' ▸ ho, fun v q => by rw [hd] at q; cases q⟩
  keep := fun i h h' ⟨⟨old, he⟩, ⟨o, ho, r⟩, hne⟩ k => ⟨⟨old, k e (by simp) _ he⟩, ⟨o, k it (by simp) o ho, r⟩, hne⟩
  item := by
    intro X hP hw hK hc i pz s σ H E I hf ⟨⟨old, he⟩, hit, hne⟩ hg
    subst hP hw hK
    obtain ⟨xs, x, hq, hx⟩ := hg
    obtain ⟨iz, rv, p, hz⟩ := I.tuple hq
    obtain ⟨u, hu, ru⟩ := rv.get hx
    have le : e < s.heap.objs.size := Heap.lt_size he
    have li : it < s.heap.objs.size := let ⟨_, q, _⟩ := hit; Heap.lt_size q
    refine enumT_item he hit p (x := u) (by simpa using hu) hne fun g ho ti' hT hsz hk => ⟨_, rfl, wpAny_letOwnedTupleGo_enum (s := { s with heap := g, toks := s.toks + 1 }) ho fun g2 he' sb => ?_⟩
    have tp2 : g2.get? s.heap.objs.size = some (pairO i s.toks u) := (sb.2 _ (Nat.ne_of_gt le)).trans hT
    have new : ObjOk X.prog X.w (upd H s.heap.objs.size (.tup [.int (i : Nat), x])) g2 s.heap.objs.size (.tup [.int (i : Nat), x]) := ⟨by show 2 ≤ sizeLine; decide, [.int i s.toks, u], .cons ⟨_, rfl⟩ (.cons ru .nil), ⟨_, tp2, rfl, _, rfl⟩⟩
    have keep : ∀ b ob, b ∉ [e, it] → s.heap.get? b = some ob → g2.get? b = some ob := fun b ob hb q =>
      (sb.2 b (fun z => hb (by simp [z]))).trans (hk b ob (fun z => hb (by simp [z])) (fun z => hb (by simp [z])) q)
    have J1 : Inv X pz σ (upd H s.heap.objs.size (.tup [.int (i : Nat), x])) { s with heap := g2, toks := s.toks + 1 } := I.turnedNew (ch := [e, it]) keep hf (Nat.le_refl _) new
    obtain ⟨o3, ho3, r3⟩ := ti'
    refine ⟨.ref s.heap.objs.size, _, J1, rfl, ⟨_, x, rfl, I.hok.fresh (Nat.le_refl _), rfl, fun ys hy => (I.tuple_inj hy hq) ▸ hx⟩, ⟨⟨u, by rw [show ((i + 1 : Nat) : Int) = (i : Int) + 1 from by omega]; exact he'⟩, ⟨o3, (sb.2 it (Ne.symm hne)).trans ho3, r3⟩, hne⟩, fun b hb => ?_⟩
    have lb : b < s.heap.objs.size := by
      rcases List.mem_cons.mp hb with z | z
      · exact z ▸ le
      · exact (show b = it by simpa using z) ▸ li
    rw [upd_ne (Nat.ne_of_lt lb)]
    exact (hf b hb).1
  done := by
    intro X hP hw hK hc i pz s σ H E I hf ⟨⟨old, he⟩, hit, hne⟩ ⟨xs, hq, hx⟩
    subst hP hw hK
    obtain ⟨iz, rv, p, hz⟩ := I.tuple hq
    obtain ⟨f0, f1, f2, f3, f4, f5⟩ := hf it (by simp)
    have hl := rv.length
    exact enumT_end (I.ok.hd hc) he hit p (by simp; omega) fun g eb => ⟨rfl, I.turned (t' := s.toks) (fun b o hb q => eb b o hb q) f0 f1 f3 f4 f5⟩
  self := fun A i s Q E ⟨⟨_, he⟩, _⟩ h => wpAny_pyIter_enum he h
def enumF (ds : List D) : List D := (List.range ds.length).zip ds |>.map fun p => .tup [.int (p.1 : Nat), p.2]
def dEnum (ta : DA) : DI := fun W ρ M R => ta W ρ M fun ds M1 => match ds with
  | [.tup xs] => R (enumF xs) anyM M1
  | _ => False
theorem enumF_get {ds : List D} {i : Nat} {d : D} (h : ds[i]? = some d) : (enumF ds)[i]? = some (.tup [.int (i : Nat), d]) := by
  have hi : i < ds.length := (List.getElem?_eq_some_iff.mp h).1
  unfold enumF
  rw [List.getElem?_map, List.getElem?_zip_eq_some (z := (i, d)) |>.mpr ⟨List.getElem?_range hi, h⟩]
  rfl
theorem enumF_length (ds : List D) : (enumF ds).length = ds.length := by simp [enumF]
section
variable {Z : ZP} {G : Hp} {X : Cx} {pos p : Pos} {e : Expr} {ta : DA}
theorem it_enum {H0 : Hp} {a : Addr} {ds : List D} {vs : List V} (s : SqT Z.K H0 a vs) (r : RDs Z.K H0 ds vs) : ItD Z H0 (IteT Z.K a) (enumF ds) anyM := fun i H M kp hr _ => by
  have s' := kp _ _ s
  have r' := RDs.keep kp _ _ r
  have hl := r.length
  rw [enumF_length]
  refine ⟨fun hi => ⟨vs, vs[i], s', by rw [List.getElem?_eq_getElem]⟩, fun hi => ⟨vs, s', by omega⟩, fun x H' hi ⟨T, y, ex, hT, eH, hy⟩ => ?_⟩
  subst ex eH
  have e1 := hy vs s'
  obtain ⟨v, e2, rd⟩ := r'.get (List.getElem?_eq_getElem hi)
  rw [e1] at e2; cases e2
  exact ⟨_, enumF_get (List.getElem?_eq_getElem hi), hr.laid hT, rd_tup hT (RDs.cons mk_int (RDs.cons rd RDs.nil))⟩
theorem qi_enum {elts : List Expr} {kk : Nat} {tpos : Pos} (hK : X.K = Z.K) (hm : X.mg "enumerate" = none) (ha : QA Z G X [e] ta) (hg : Gl X "enumerate" := by rfl) (hs : starEach [e] X.env = [(false, eval e X.env)] := by rfl) : QI Z G X (.Tuple elts kk tpos) (.Call (.Name "enumerate" p) [e] [] pos) (dEnum ta) := by
  refine ⟨fun W tk => ⟨fun pz s σ H R I ⟨ρ, M, Rd, rl, h, k⟩ => ?_⟩⟩
  refine Call_ (ld_blt I hg hm boot_enumerate (PyProof.Rows.callWith_type1 (thn ((ha.pa W tk).run pos pz s σ H (fun vs H1 => ∃ ds M1, (match ds with | [.tup xs] => Rd (enumF xs) anyM M1 | _ => False) ∧ Nx Z H H1 M1 ∧ RDs Z.K H1 ds vs) I ⟨ρ, M, _, rl, h, fun ds M1 vs H1 h1 n1 r1 => ⟨ds, M1, h1, n1, r1⟩⟩) fun uz s1 ⟨vs, H1, J1, r1, ds, M1, h1, n1, rd⟩ => ?_) hs rfl))
  split at h1
  · rename_i xs
    obtain ⟨v, rfl, rv⟩ := rds_one rd
    obtain ⟨a, ws, rfl, sq, rw0⟩ := rd_tp rv
    have q := k _ anyM M1 (IteT X.K a) H1 h1 n1 (by rw [hK]; exact it_enum sq rw0)
    cases r1 with
    | cons r rr =>
      cases rr
      cases r
      obtain ⟨iz, rv', p', hz⟩ := J1.tuple (show SqT X.K H1 a ws from hK ▸ sq)
      refine call_enumT p' fun g he hit hsz hk => wpAny_pyIter_enum he ?_
      have J2 : Inv X pz σ H1 { s1 with heap := g } := J1.kept (t' := s1.toks) hk
      refine ⟨s1.heap.objs.size + 1, [s1.heap.objs.size + 1, s1.heap.objs.size], _, _, H1, rfl, J2, turn_enumT a (s1.heap.objs.size + 1) s1.heap.objs.size, ⟨⟨.none, he⟩, hit, Nat.succ_ne_self _⟩, fun b hb => ?_, q⟩
      have lb : s1.heap.objs.size ≤ b := by
        rcases List.mem_cons.mp hb with z | z
        · rw [z]; exact Nat.le_succ _
        · rw [show b = s1.heap.objs.size by simpa using z]; exact Nat.le_refl _
      exact J1.fpOk lb (J1.hok.fresh lb)
  · exact h1.elim
end
end DL

set_option Elab.async false
set_option linter.all false
set_option maxRecDepth 100000
set_option maxHeartbeats 2000000
namespace DL
open PySem PySem.Spec PyProof.Rows L2
section
variable {Z : ZP} {G : Hp} {X : Cx} {pos p : Pos} {e : Expr} {te : DE}
structure IsCl (K : PySem.W.Frag) (C : Addr) : Prop where
  cl : Cls K C
  ha : PySem.W.findIn K (.ref C) "__class__" = some (some (.builtin "object.__class__"))
  hn : PySem.W.specialIn K (.builtin "object.__class__") "__get__" = some (some (.builtin "getset_descriptor.__get__"))
  ht : PySem.W.takesIn K (.builtin "object.__class__") = some true
  hm : PySem.W.mroIn K C (.type "object") = some true
  kt : PySem.W.kitOne K (.ref C) (.ref C) = some true
def dIsC (C : Addr) (te : DE) : DE := fun W ρ M R => te W ρ M fun d M1 => ∃ a dx ns ds, d = .ref a ∧ M1 a = some (.ins C dx ns ds) ∧ R (.bl true) M1
theorem qe_isC {x : Str} {pT : Pos} {C : Addr} (I : IsCl X.K C) (he : QE Z G X e te) (hm : X.mg "isinstance" = none) (hmT : X.mg x = some (.ref C)) (hg : Gl X "isinstance" := by rfl) (hgT : Gl X x := by rfl)
    (hdb : (x == ("__debug__" : Str)) = false := by decide)
    (hs : starEach [e, .Name x pT] X.env = (false, eval e X.env) :: starEach [.Name x pT] X.env := by rfl) (hs2 : starEach [.Name x pT] X.env = (false, eval (.Name x pT) X.env) :: starEach [] X.env := by rfl) (hpl : (backTo pos (starEach [.Name x pT] X.env)).any (·.1) = false := by rfl) :
    QE Z G X (.Call (.Name "isinstance" p) [e, .Name x pT] [] pos) (dIsC C te) := by
  refine ⟨fun W tk => pe_of (pe_callB call_isi hg hm PyProof.Rows.boot_isinstance (pa_cons (he.pe W tk) (pa_cons (pe_glob hgT hmT (v := .ref C) rfl hdb) pa_nil hs2) hs) (by decide) (by decide) hs hpl) fun σ H Q ⟨ρ, M, R, rl, h, k⟩ => ?_⟩
  refine ⟨ρ, M, _, rl, h, fun d M1 v H1 ⟨a, dx, ns, ds, ed, ea, h1⟩ n1 r1 => ?_⟩
  subst ed
  obtain ⟨vs, e1, _, _, _⟩ := n1.here.at_ins ea
  have ev := rd_ref r1
  subst ev
  exact ⟨.ref a, .ref C, .ref C, .ref C, true, rfl, .own C, .base (.ins e1 I.cl I.ha I.hn I.ht I.hm), I.kt, k _ _ _ _ h1 n1 mk_bl⟩
end
section
variable {X : Cx} {k : Nat} {f C : Addr} {fd : FuncData} {ps : List Str}
theorem op_own {sp : Sp} (F : FnOk X.prog X.w X.K X.mg X.base (L2.CX X.prog X.w) k f fd ps sp) (hr : Room k X.A) (hs : PySem.W.findIn X.K (.ref C) "__eq__" = some (some (.ref f))) (hf : PySem.W.isFn X.K (.ref f) = true) (hb : Binds X.K fd ps []) :
    OpR X (compareOp .Eq) (fun x y H Q => ∃ a b dx dy fs gs, x = .ref a ∧ y = .ref b ∧ H a = some (.ins C dx fs) ∧ H b = some (.ins C dy gs) ∧ sp [x, y] H (fun v H' => ∃ t, v = .bl t ∧ Q v H') fun _ _ _ => False) := fun pins s σ H x y v u Q I rx ry ⟨a, b, dx, dy, fs, gs, ex, ey, ha, hb2, hsp⟩ => by
  subst ex ey
  cases rx
  cases ry
  have ⟨_, J1, _⟩ := ins_get I.hok ha
  have ⟨_, J2, _⟩ := ins_get I.hok hb2
  have ⟨_, J1, _⟩ := J1.look
  have ⟨_, J2, _⟩ := J2.look
  have ⟨_, hF⟩ := I.fr
  have few : ([.ref a, .ref b] : List Value).length = ps.length := F.len _ _ _ _ hsp
  have bind := hb s [.ref a, .ref b] I.kIn (by simpa using few)
  have both : Vals [V.ref a, V.ref b] [Value.ref a, Value.ref b] := .cons (by show Value.ref a = .ref a; rfl) (.cons (by show Value.ref b = .ref b; rfl) .nil)
  show wpAny (model X.prog X.w) X.A (richCompare .Eq (.ref a) (.ref b)) (EP X pins σ Q) X.xe s
  refine PySem.W.cmp_K (op := .Eq) (tb := .ref C) (by have := hr.un; omega) hF I.ok.mod.kin J1 J2.type (by simp [PySem.W.notFirst]) hs hf (wpAny_call (codeAny_mono (F.run X.A X.stack s H ⟨[.ref a, .ref b], []⟩ _ _ _ _ hr I.env0 (by simpa using bind) both hsp) fun r s' z => ?_))
  match r, z with
  | .error er, z => exact passL pins σ H s er s' I z
  | .ok (.ret w), z =>
    obtain ⟨v, H', I', rv, ⟨t, ev, q⟩⟩ := I.after z
    subst ev
    cases rv
    exact ⟨.bl t, H', I', rfl, q⟩
end
def eqP (C : Addr) (sp : DSp) : D → D → DM → DQ → Prop := fun x y M R => ∃ a b dx dy ns ds ms es, x = .ref a ∧ y = .ref b ∧ M a = some (.ins C dx ns ds) ∧ M b = some (.ins C dy ms es) ∧ sp [x, y] M (fun d M' => ∃ t, d = .bl t ∧ R d M') fun _ _ _ => False
theorem o_own {Z : ZP} {X : Cx} {k : Nat} {f C : Addr} {fd : FuncData} {ps : List Str} {sp : DSp} (F : FnOk X.prog X.w X.K X.mg X.base (L2.CX X.prog X.w) k f fd ps (lSp Z sp)) (hr : Room k X.A) (hs : PySem.W.findIn X.K (.ref C) "__eq__" = some (some (.ref f))) (hf : PySem.W.isFn X.K (.ref f) = true)
    (hb : Binds X.K fd ps []) : OpD Z X (compareOp .Eq) (eqP C sp) := by
  refine ⟨_, op_own F hr hs hf hb, fun H M x y dx dy R Q hh rx ry g k => ?_⟩
  obtain ⟨a, b, ax, bx, ns, ds, ms, es, ex, ey, ea, eb, h⟩ := g
  subst ex ey
  obtain ⟨vs, e1, _, _, _⟩ := hh.at_ins ea
  obtain ⟨us, e2, _, _, _⟩ := hh.at_ins eb
  have q1 := rd_ref rx
  have q2 := rd_ref ry
  subst q1 q2
  refine ⟨a, b, ax, bx, _, _, rfl, rfl, e1, e2, [.ref a, .ref b], M, _, _, .cons mk_ref (.cons mk_ref .nil), hh.mm, hh.tb, h, fun d M' v H' ⟨t, ed, q⟩ n r => ?_, fun _ _ _ _ _ q => q.elim⟩
  subst ed
  have ev := rd_bl r
  subst ev
  exact ⟨t, rfl, k _ _ _ _ q n mk_bl⟩
def pairs2 (k1 k2 : List Nat) (i j : Int) : List (Key × V) := [(.inr (sV k1), .int i), (.inr (sV k2), .int j)]
def pairD (k1 k2 : List Nat) (i j : Int) : MO := .dcK [(.inr (sV k1), .int i), (.inr (sV k2), .int j)]
def dDep (k1 k2 : List Nat) (i j z : Int) (te : DE) : DE := fun W ρ M R => ∀ p, M p = none → te W ρ (mupd M p (pairD k1 k2 i j)) fun d M1 => M1 p = some (pairD k1 k2 i j) ∧ match d with
  | .str s => R (.int (if s = k1 then i else if s = k2 then j else z)) M1
  | _ => False
section
variable {Z : ZP} {G : Hp} {X : Cx} {p1 p2 p3 p4 p5 p6 p7 apos cpos : Pos} {c1 c2 c3 c4 c5 : Nat} {e : Expr} {te : DE} {k1 k2 : List Nat} {i j z : Int}
theorem qe_dep (hk : k1 ≠ k2) (hu : X.A.units + 1 < cLine) (he : QE Z G X e te) (m : M2 X (.Dict [some (.Constant (.str (sV k1)) c1 p1), some (.Constant (.str (sV k2)) c2 p2)] [.Constant (.int i) c3 p3, .UnaryOp .USub (.Constant (.int j) c4 p4) p5] p6) "get" apos e (.Constant (.int z) c5 p7) cpos) :
    QE Z G X (.Call (.Attribute (.Dict [some (.Constant (.str (sV k1)) c1 p1), some (.Constant (.str (sV k2)) c2 p2)] [.Constant (.int i) c3 p3, .UnaryOp .USub (.Constant (.int j) c4 p4) p5] p6) "get" apos) [e, .Constant (.int z) c5 p7] [] cpos) (dDep k1 k2 i (-j) z te) := by
  refine ⟨fun W tk => pe_of (pe_dget2 hu (pe_disp (pps_cons pe_str pe_int (pps_cons pe_str (pe_un un_neg pe_int) pps_nil)) rfl rfl (by simp) (by show 2 ≤ 15; decide)) (he.pe W tk) pe_int m) fun σ H Q ⟨ρ, M, R, rl, h, k⟩ => ?_⟩
  intro p hp
  have hN : M p = none := rl.here.free hp
  refine ⟨j, rfl, upd_same, pairs2 k1 k2 i (-j), rfl, (by show 2 ≤ 15; decide), ?_⟩
  have em : mergeK [] (pairs2 k1 k2 i (-j)) = pairs2 k1 k2 i (-j) := by
    have ne : ¬ (Sum.inr (sV k1) : Key) = Sum.inr (sV k2) := fun q => hk (sV_inj (Sum.inr.inj q))
    unfold pairs2 mergeK
    simp only [List.foldl_cons, List.foldl_nil]
    unfold putK
    simp [ne]
  have eu : upd (upd H p (.dK [])) p (.dK (mergeK [] (pairs2 k1 k2 i (-j)))) = upd H p (.dK (pairs2 k1 k2 i (-j))) := by
    rw [em]
    funext b
    by_cases q : b = p
    · subst q; rw [upd_same, upd_same]
    · rw [upd_ne q, upd_ne q, upd_ne q]
  rw [eu]
  have rp : RO Z (upd H p (.dK (pairs2 k1 k2 i (-j)))) p (some (.dK (pairs2 k1 k2 i (-j)))) (pairD k1 k2 i (-j)) := ⟨[.int i, .int (-j)], rfl, .cons mk_int (.cons mk_int .nil)⟩
  have n : Nx Z H (upd H p (.dK (pairs2 k1 k2 i (-j)))) (mupd M p (pairD k1 k2 i (-j))) := ⟨keepT_new hp, rl.mm.upd (keepT_new hp) rp, tabs_new rl.tb hp⟩
  refine ⟨p, rfl, .inl ⟨_, .inl upd_same⟩, ρ, _, _, rl.nx n, h p hN, fun d M1 v H1 h1 n1 r1 => ?_⟩
  obtain ⟨ep, h1⟩ := h1
  obtain ⟨vs, e1, r2⟩ := n1.mm p _ ep
  split at h1
  · rename_i s
    have ev := rd_str r1
    subst ev
    have e3 : vs = [.int i, .int (-j)] := by
      obtain ⟨x, r, e4, q1, q2⟩ := r2
      obtain ⟨y, r', e5, q3, q4⟩ := q2
      have z1 := rd_int q1
      have z2 := rd_int q3
      have z3 : r' = [] := q4
      rw [e4, e5, z1, z2, z3]
    subst e3
    refine ⟨_, DGet.k (k := .inr (sV s)) e1, ?_⟩
    have fin : (valV (pairs2 k1 k2 i (-j)) (.inr (sV s))).getD (.int z) = .int (if s = k1 then i else if s = k2 then -j else z) := by
      unfold pairs2
      by_cases q1 : s = k1
      · rw [if_pos q1, valV_pos (by rw [q1])]; rfl
      · rw [if_neg q1, valV_neg (fun q => q1 (sV_inj (Sum.inr.inj q)).symm)]
        by_cases q2 : s = k2
        · rw [if_pos q2, valV_pos (by rw [q2])]; rfl
        · rw [if_neg q2, valV_neg (fun q => q2 (sV_inj (Sum.inr.inj q)).symm)]; rfl
    show Q ((valV (pairs2 k1 k2 i (-j)) (.inr (sV s))).getD (.int z)) H1
    rw [fin]
    exact k _ _ _ _ h1 (n.trans n1) mk_int
  · exact h1.elim
end
end DL

set_option Elab.async false
set_option linter.all false
set_option maxRecDepth 100000
set_option maxHeartbeats 1000000
namespace DL
open PySem PySem.Spec PyProof.Rows L2

section
variable {X : Cx} {pz : List (Addr × Obj)} {σ : L2.St} {H : Hp} {s : Shared}
mutual
theorem key_at (I : Inv X pz σ H s) : ∀ (d : D) (v : V) (u : Value), kdB d = true → RD X.K H d v → RelV v u → NestedIs s.heap (nk d) u
  | .non, v, u, _, r, q => by rw [rd_non r] at q; cases q; rw [nk]; exact .none
  | .bl b, v, u, _, r, q => by rw [rd_bl r] at q; cases q; rw [nk]; exact .bool (by cases b <;> rfl)
  | .int i, v, u, _, r, q => by rw [rd_int r] at q; obtain ⟨t, rfl⟩ := q; rw [nk]; exact .int _ _
  | .str x, v, u, _, r, q => by rw [rd_str r] at q; obtain ⟨t, rfl⟩ := q; rw [nk]; exact .text _ _
  | .ref a, v, u, k, r, q => by rw [kdB] at k; cases k
  | .tup ds, v, u, k, r, q => by
    rw [kdB] at k
    obtain ⟨a, vs, rfl, st, rs⟩ := rd_tp r
    cases q
    obtain ⟨its, rv, ⟨o, h1, h2, n, h3⟩, _⟩ := I.tuple st
    rw [nk]
    exact .tup h1 h2 h3 (by simpa using keys_at I ds vs its k rs rv)
theorem keys_at (I : Inv X pz σ H s) : ∀ (ds : List D) (vs : List V) (us : List Value), kdsB ds = true → RDs X.K H ds vs → Vals vs us → NestedAll s.heap (nks ds) us
  | [], vs, us, _, r, q => by rw [RDs] at r; subst r; cases q; rw [nks]; exact .nil
  | d :: ds, vs, us, k, r, q => by
    rw [kdsB, Bool.and_eq_true] at k
    rw [RDs] at r
    obtain ⟨v, w, rfl, r1, r2⟩ := r
    cases q with
    | cons q1 q2 =>
      rw [nks]
      exact .cons (key_at I d v _ k.1 r1 q1) (keys_at I ds w _ k.2 r2 q2)
end
end
def isK (x : D) : Prop := kdB x = true ∧ (nk x).depth ≤ 8 ∧ ∃ ds, x = .tup ds
theorem rd_tupref {K : PySem.W.Frag} {H : Hp} {x : D} {v : V} (k : isK x) (r : RD K H x v) : ∃ b, v = .ref b := by
  obtain ⟨_, _, ds, rfl⟩ := k
  obtain ⟨a, _, e, _⟩ := rd_tp r
  exact ⟨a, e⟩
abbrev DEn := Paired fun (p : NestedKey × Addr × V) (q : NestedKey × Addr × Value) => p.1 = q.1 ∧ p.2.1 = q.2.1 ∧ RelV p.2.2 q.2.2
theorem DEn.keys : ∀ {xs : List (NestedKey × Addr × V)} {ys : List (NestedKey × Addr × Value)}, DEn xs ys → ys.map (·.1) = xs.map (·.1) ∧ ys.map (fun y => V.ref y.2.1) = xs.map (fun x => V.ref x.2.1) ∧ ys.length = xs.length
  | _, _, .nil => ⟨rfl, rfl, rfl⟩
  | _, _, .cons r t => by
    obtain ⟨h1, h2, h3⟩ := DEn.keys t
    rw [List.map_cons, List.map_cons, List.map_cons, List.map_cons, List.length_cons, List.length_cons, h1, h2, h3, r.1, r.2.1]
    exact ⟨rfl, rfl, rfl⟩
theorem atKey_some {ys : List (NestedKey × Addr × Value)} {k : NestedKey} : (atKey ys k).isSome = (ys.map (·.1)).any fun x => decide (x = k) := by
  unfold atKey
  rw [Option.isSome_map, List.any_map]
  induction ys with
  | nil => rfl
  | cons y r ih =>
    rw [List.find?_cons, List.any_cons]
    cases e : decide (y.1 = k) with
    | true => simp [e]
    | false => simp only [Function.comp, e, Bool.false_or]; exact ih
structure DnAt (P : Program) (w : World) (h : Heap) (a : Addr) (xs : List (NestedKey × Addr × V)) (ys : List (NestedKey × Addr × Value)) : Prop where
  z : xs.length ≤ sizeLine
  lo : (a == sysModules) = false
  en : DEn xs ys
  d : h.DictOfH (nestedKind P w) a ys
section
variable {X : Cx} {pz : List (Addr × Obj)} {σ : L2.St} {H : Hp} {s : Shared}
theorem keyrefs (I : Inv X pz σ H s) : ∀ (kvs : List (D × D)) (xs : List (NestedKey × Addr × V)), (∀ p ∈ kvs, kdB p.1 = true ∧ (nk p.1).depth ≤ 8) → xs.map (·.1) = kvs.map (fun p => nk p.1) → RDs X.K H (kvs.map (·.1)) (xs.map fun x => V.ref x.2.1) → ∀ x ∈ xs, NestedIs s.heap x.1 (.ref x.2.1) ∧ x.1.depth ≤ 8
  | [], [], _, _, _, x, hx => by cases hx
  | [], _ :: _, _, e, _, _, _ => by cases e
  | _ :: _, [], _, e, _, _, _ => by cases e
  | p :: kvs, y :: xs, hk, e, r, x, hx => by
    rw [List.map_cons, List.map_cons, List.cons.injEq] at e
    rw [List.map_cons, List.map_cons, RDs] at r
    obtain ⟨v, w, e2, r1, r2⟩ := r
    cases e2
    rcases List.mem_cons.mp hx with h | h
    · subst h
      obtain ⟨k1, k2⟩ := hk p (by simp)
      rw [e.1]
      exact ⟨key_at I p.1 _ _ k1 r1 rfl, k2⟩
    · exact keyrefs I kvs xs (fun q hq => hk q (by simp [hq])) e.2 r2 x h
theorem dn_at {kvs : List (D × D)} {xs : List (NestedKey × Addr × V)} {a : Addr} (I : Inv X pz σ H s) (e : H a = some (DNo X.prog X.w a xs)) (hk : ∀ p ∈ kvs, kdB p.1 = true ∧ (nk p.1).depth ≤ 8) (e1 : xs.map (·.1) = kvs.map (fun p => nk p.1)) (r : RDs X.K H (kvs.map (·.1)) (xs.map fun x => V.ref x.2.1)) :
    ∃ ys, DnAt X.prog X.w s.heap a xs ys := by
  obtain ⟨⟨z, lo, ys, en, o, es, ep, h1, h2, h3, h4, h5⟩, _, _⟩ := I.hok a _ e
  refine ⟨ys, z, lo, en, o, es, ep, h1, h2, h3, h4, fun y hy => ?_, h5⟩
  have all := keyrefs I kvs xs hk e1 r
  have : ∀ {xs : List (NestedKey × Addr × V)} {ys : List (NestedKey × Addr × Value)}, DEn xs ys → (∀ x ∈ xs, NestedIs s.heap x.1 (.ref x.2.1) ∧ x.1.depth ≤ 8) → ∀ y ∈ ys, NestedIs s.heap y.1 (.ref y.2.1) ∧ y.1.depth ≤ 8 := by
    intro xs ys en
    induction en with
    | nil => intro _ y hy; cases hy
    | @cons p q ps qs hq t ih =>
      intro h y hy
      rcases List.mem_cons.mp hy with e | e
      · subst e
        have := h p (by simp)
        rw [hq.1, hq.2.1] at this
        exact this
      · exact ih (fun x hx => h x (by simp [hx])) y e
  exact this en all y hy
end

def hasN (kvs : List (D × D)) (x : D) : Bool := kvs.any fun p => decide (nk p.1 = nk x)
def inN (neg : Bool) : D → D → DM → DQ → Prop := fun x y M R => match y with
  | .ref a => ∃ kvs, M a = some (.dcN kvs) ∧ isK x ∧ R (.bl (if neg then !hasN kvs x else hasN kvs x)) M
  | _ => False
theorem hasN_eq {kvs : List (D × D)} {xs : List (NestedKey × Addr × V)} {ys : List (NestedKey × Addr × Value)} {x : D} (en : DEn xs ys) (e : xs.map (·.1) = kvs.map (fun p => nk p.1)) : (atKey ys (nk x)).isSome = hasN kvs x := by
  rw [atKey_some, en.keys.1, e, List.any_map]
  rfl
theorem o_inN {Z : ZP} {X : Cx} (hK : X.K = Z.K) (hP : X.prog = Z.P) (hw : X.w = Z.w) (hu : X.A.units + 65 < cLine) : OpD Z X (compareOp .In) (inN false) := by
  refine ⟨fun x y H Q => ∃ (a b : Addr) (d : D) (kvs : List (D × D)) (xs : List (NestedKey × Addr × V)), x = .ref b ∧ y = .ref a ∧ RD X.K H d (.ref b) ∧ isK d ∧ H a = some (DNo X.prog X.w a xs) ∧ (∀ p ∈ kvs, kdB p.1 = true ∧ (nk p.1).depth ≤ 8) ∧ xs.map (·.1) = kvs.map (fun p => nk p.1) ∧ RDs X.K H (kvs.map (·.1)) (xs.map fun x => V.ref x.2.1) ∧ Q (.bl (hasN kvs d)) H, ?_, ?_⟩
  · intro pz s σ H x y v u Q I rx ry h
    obtain ⟨a, b, d, kvs, xs, rfl, rfl, rd, ik, e, hk, e1, r, q⟩ := h
    cases rx
    cases ry
    obtain ⟨ys, hz, lo, en, dd⟩ := dn_at I e hk e1 r
    refine wpAny_in_heap (knd := nestedKind X.prog X.w) (show X.A.in1.units + 8 < cLine by have : X.A.in1.units = X.A.units + 1 := Around.in1_units _; omega) ⟨key_at I d _ _ ik.1 rd rfl, ik.2.1⟩ lo dd ?_
    rw [hasN_eq en e1]
    exact ⟨.bl _, H, I.tok _, rfl, q⟩
  · intro H M x y dx dy R Q hr rx ry g k
    unfold inN at g
    split at g
    · rename_i a
      obtain ⟨kvs, e, ik, g⟩ := g
      obtain ⟨xs, h1, h2, h3, h4, h5⟩ := hr.mm _ _ e
      obtain ⟨b, rfl⟩ := rd_tupref ik rx
      rw [rd_ref ry]
      refine ⟨a, b, dx, kvs, xs, rfl, rfl, hK ▸ rx, ik, hP ▸ hw ▸ h1, h5, h2, hK ▸ h3, k _ _ _ _ g hr.stay mk_bl⟩
    · exact g.elim
theorem o_notInN {Z : ZP} {X : Cx} (hK : X.K = Z.K) (hP : X.prog = Z.P) (hw : X.w = Z.w) (hu : X.A.units + 65 < cLine) : OpD Z X (compareOp .NotIn) (inN true) := by
  refine ⟨fun x y H Q => ∃ (a b : Addr) (d : D) (kvs : List (D × D)) (xs : List (NestedKey × Addr × V)), x = .ref b ∧ y = .ref a ∧ RD X.K H d (.ref b) ∧ isK d ∧ H a = some (DNo X.prog X.w a xs) ∧ (∀ p ∈ kvs, kdB p.1 = true ∧ (nk p.1).depth ≤ 8) ∧ xs.map (·.1) = kvs.map (fun p => nk p.1) ∧ RDs X.K H (kvs.map (·.1)) (xs.map fun x => V.ref x.2.1) ∧ Q (.bl (!hasN kvs d)) H, ?_, ?_⟩
  · intro pz s σ H x y v u Q I rx ry h
    obtain ⟨a, b, d, kvs, xs, rfl, rfl, rd, ik, e, hk, e1, r, q⟩ := h
    cases rx
    cases ry
    obtain ⟨ys, hz, lo, en, dd⟩ := dn_at I e hk e1 r
    refine notIn_keyed (knd := nestedKind X.prog X.w) (show X.A.in1.units + 8 < cLine by have : X.A.in1.units = X.A.units + 1 := Around.in1_units _; omega) ⟨key_at I d _ _ ik.1 rd rfl, ik.2.1⟩ lo ⟨ys, dd, rfl⟩ ?_
    rw [valueAt_pairsH, Option.isSome_map, hasN_eq en e1]
    exact ⟨.bl _, H, I.tok _, rfl, q⟩
  · intro H M x y dx dy R Q hr rx ry g k
    unfold inN at g
    split at g
    · rename_i a
      obtain ⟨kvs, e, ik, g⟩ := g
      obtain ⟨xs, h1, h2, h3, h4, h5⟩ := hr.mm _ _ e
      obtain ⟨b, rfl⟩ := rd_tupref ik rx
      rw [rd_ref ry]
      refine ⟨a, b, dx, kvs, xs, rfl, rfl, hK ▸ rx, ik, hP ▸ hw ▸ h1, h5, h2, hK ▸ h3, k _ _ _ _ g hr.stay mk_bl⟩
    · exact g.elim

def setN (o i v : D) (M : DM) (Q : DM → Prop) : Prop := match o with
  | .ref a => ∃ kvs, M a = some (.dcN kvs) ∧ isK i ∧ hasN kvs i = false ∧ kvs.length < sizeLine ∧ Q (mupd M a (.dcN (kvs ++ [(i, v)])))
  | _ => False
def gSbN (to ti : DE) : DG := fun v ρ M Q => to noW ρ M fun o M1 => ti noW ρ M1 fun i M2 => setN o i v M2 fun M3 => Q ρ M3
theorem isMut_dno {P : Program} {w : World} {a : Addr} {xs : List (NestedKey × Addr × V)} : (∀ ys, DNo P w a xs ≠ .tup ys) ∧ (∀ b u, DNo P w a xs ≠ .frz b u) ∧ (∀ ps, DNo P w a xs ≠ .tbl ps) := ⟨fun _ z => (by unfold DNo at z; cases z), fun _ _ z => (by unfold DNo at z; cases z), fun _ z => (by unfold DNo at z; cases z)⟩
theorem keepT_dno {K : PySem.W.Frag} {H : Hp} {P : Program} {w : World} {p a : Addr} {xs : List (NestedKey × Addr × V)} {u : HO} (e : H p = some (DNo P w a xs)) : KeepT K H (upd H p u) := fun b ys q =>
  sqt_ne (o := DNo P w a xs) (.inr e) isMut_dno.1 isMut_dno.2.1 u b ys q
theorem dno_code {P : Program} {w : World} {a c : Addr} {xs : List (NestedKey × Addr × V)} {q : Str} : DNo P w a xs ≠ LamX.CodeO a q := fun z => by
  unfold DNo LamX.CodeO at z
  have z2 := HO.ext.inj z
  let ob : Obj := { cls := .none, data := .fields #[.none, .str q 0] }
  let h : Heap := { objs := Array.replicate (a + 1) ob }
  have hg : h.get? a = some ob := by
    unfold Heap.get?
    have : h.objs[a]? = some ob := by
      show (Array.replicate (a + 1) ob)[a]? = some ob
      rw [Array.getElem?_replicate, if_pos (Nat.lt_succ_self a)]
    rw [this]
  have hc : ∃ (oc : Obj) (vs : Array Value) (t : Tok), h.get? a = some oc ∧ oc.data = .fields vs ∧ vs[1]? = some (.str q t) := ⟨ob, _, 0, hg, rfl, rfl⟩
  have hd := (congrFun z2 h).symm ▸ hc
  obtain ⟨_, _, ys, _, o, es, ep, h1, _, h3, _⟩ := hd
  rw [hg] at h1
  cases h1
  cases h3
theorem tabs_dno {T : List NdefX.NTab} {H : Hp} {P : Program} {w : World} {p : Addr} {xs : List (NestedKey × Addr × V)} {u : HO} (t : NdefX.TabsN T H) (e : H p = some (DNo P w p xs)) : NdefX.TabsN T (upd H p u) := fun x hx => by
  obtain ⟨ps, h1, h2, h3⟩ := t x hx
  have n1 : x.1 ≠ p := fun z => by rw [z, e] at h1; exact isMut_dno.2.2 _ (Option.some.inj h1)
  refine ⟨ps, by rw [upd_ne n1]; exact h1, h2, fun pos cv hc => ?_⟩
  obtain ⟨c, k1, k2⟩ := h3 pos cv hc
  have n2 : c ≠ p := fun z => by
    rw [z, e] at k2
    exact dno_code (c := c) (Option.some.inj k2)
  exact ⟨c, k1, by rw [upd_ne n2]; exact k2⟩
def rSetN (K : PySem.W.Frag) (P : Program) (w : World) (x y v : V) (H : Hp) (Q : Hp → Prop) : Prop := ∃ (a b : Addr) (d : D) (kvs : List (D × D)) (xs : List (NestedKey × Addr × V)), x = .ref a ∧ y = .ref b ∧ RD K H d (.ref b) ∧ isK d ∧ H a = some (DNo P w a xs) ∧ (∀ p ∈ kvs, kdB p.1 = true ∧ (nk p.1).depth ≤ 8) ∧ xs.map (·.1) = kvs.map (fun p => nk p.1) ∧
  RDs K H (kvs.map (·.1)) (xs.map fun x => V.ref x.2.1) ∧ hasN kvs d = false ∧ xs.length < sizeLine ∧ Q (upd H a (DNo P w a (xs ++ [(nk d, b, v)])))
theorem DEn.snoc : ∀ {xs : List (NestedKey × Addr × V)} {ys : List (NestedKey × Addr × Value)} {k : NestedKey} {b : Addr} {v : V} {u : Value}, DEn xs ys → RelV v u → DEn (xs ++ [(k, b, v)]) (ys ++ [(k, b, u)])
  | _, _, _, _, _, _, .nil, r => .cons ⟨rfl, rfl, r⟩ .nil
  | _, _, _, _, _, _, .cons h t, r => .cons h (DEn.snoc t r)
theorem dno_new {P : Program} {w : World} {H : Hp} {h : Heap} {a : Addr} {xs : List (NestedKey × Addr × V)} {ys : List (NestedKey × Addr × Value)} (z : xs.length ≤ sizeLine) (lo : (a == sysModules) = false) (en : DEn xs ys) (d : h.DictOfH (nestedKind P w) a ys) : ObjOk P w H h a (DNo P w a xs) := by
  obtain ⟨o, es, ep, h1, h2, h3, h4, _, h5⟩ := d
  exact ⟨⟨z, lo, ys, en, o, es, ep, h1, h2, h3, h4, h5⟩, ⟨o, h1⟩, fun g1 g2 ⟨z, lo, ys, en, o, es, ep, k1, k2, k3, k4, k5⟩ st => ⟨z, lo, ys, en, o, es, ep, st o k1, k2, k3, k4, k5⟩⟩
theorem set_N {X : Cx} (hu : X.A.units + 65 < cLine) : PSet X (rSetN X.K X.prog X.w) := by
  intro pz s σ H x y v xv yv u Q I rx ry rv h
  obtain ⟨a, b, d, kvs, xs, rfl, rfl, rd, ik, e, hk, e1, r, hn, hz, q⟩ := h
  cases rx
  cases ry
  obtain ⟨ys, ⟨z, lo, en, dd⟩⟩ := dn_at I e hk e1 r
  have ly : ys.length = xs.length := en.keys.2.2
  refine wpAny_setItem_heap (knd := nestedKind X.prog X.w) (hsz := by rw [ly]; exact z) (show X.A.in1.units + 8 < cLine by have : X.A.in1.units = X.A.units + 1 := Around.in1_units _; omega) ⟨key_at I d _ _ ik.1 rd rfl, ik.2.1⟩ dd fun h' dd' hs => ?_
  have e3 : atKey ys (nk d) = none := by
    have := hasN_eq (x := d) en e1
    rw [hn] at this
    cases q0 : atKey ys (nk d) with
    | none => rfl
    | some p => rw [q0] at this; cases this
  rw [storedH_new e3] at dd'
  have he : ∃ o, h'.get? a = some o := let ⟨o, _, _, h1, _⟩ := dd'; ⟨o, h1⟩
  refine ⟨_, I.write (e := a) (t' := s.toks + (nestedKind X.prog X.w).draws (nk d)) (by rw [e]; exact True.intro) (.inl rfl) (fun c w hc hw => (hs.2 c hc).trans hw) he (dno_new (by rw [List.length_append, List.length_singleton]; omega) lo (en.snoc rv) dd'), q⟩
section
variable {Z : ZP} {G : Hp} {X : Cx} {pos : Pos}
theorem map_len {kvs : List (D × D)} {xs : List (NestedKey × Addr × V)} (e : xs.map (·.1) = kvs.map (fun p => nk p.1)) : xs.length = kvs.length := by
  have := congrArg List.length e
  simpa using this
theorem qg_subN {o i : Expr} {to ti : DE} (hK : X.K = Z.K) (hP : X.prog = Z.P) (hw : X.w = Z.w) (hu : X.A.units + 65 < cLine) (ho : QE Z G X o to) (hi : QE Z G X i ti) (ha : ∀ v, assign (.Subscript o i pos) X.env v = (do
      let ov ← holding [v] (eval o X.env)
      let iv ← holding [v, ov] (eval i X.env)
      standAt pos
      holding [v, ov, iv] (setItem ov iv v)
      release [v, ov, iv] []) := by intro _; rfl) : QG Z G X (.Subscript o i pos) (gSbN to ti) := by
  refine ⟨pg_of (pg_sub (ho.pe noW takes_no) (hi.pe noW takes_no) (set_N hu) ha) fun v σ H Q ⟨d, ρ, M, R, rl, rd, h, k⟩ => ?_⟩
  refine ⟨ρ, M, _, rl, h, fun ov M1 v1 H1 h1 n1 r1 => ⟨ρ, M1, _, rl.nx n1, h1, fun iv M2 v2 H2 h2 n2 r2 => ?_⟩⟩
  have n := n1.trans n2
  have r1' := RD.keep n2.kp _ _ r1
  have rd' := RD.keep n.kp _ _ rd
  unfold setN at h2
  split at h2
  · rename_i a
    obtain ⟨kvs, e, ik, hn, hz, h2⟩ := h2
    obtain ⟨xs, k1, k2, k3, k4, k5⟩ := n2.here.mm _ _ e
    obtain ⟨b, rfl⟩ := rd_tupref ik r2
    have hl : xs.length = kvs.length := map_len k2
    have kt : KeepT Z.K H2 (upd H2 a (DNo Z.P Z.w a (xs ++ [(nk iv, b, v)]))) := keepT_dno k1
    have ro : RO Z (upd H2 a (DNo Z.P Z.w a (xs ++ [(nk iv, b, v)]))) a (some (DNo Z.P Z.w a (xs ++ [(nk iv, b, v)]))) (.dcN (kvs ++ [(iv, d)])) := by
      refine ⟨_, rfl, by simp [k2], ?_, ?_, fun p hp => ?_⟩
      · rw [List.map_append, List.map_append]
        exact (RDs.keep kt _ _ k3).append (.cons (RD.keep kt _ _ r2) .nil)
      · rw [List.map_append, List.map_append]
        exact (RDs.keep kt _ _ k4).append (.cons (RD.keep kt _ _ rd') .nil)
      · rcases List.mem_append.mp hp with h | h
        · exact k5 p h
        · rw [List.mem_singleton.mp h]; exact ⟨ik.1, ik.2.1⟩
    have n3 : Nx Z H2 (upd H2 a (DNo Z.P Z.w a (xs ++ [(nk iv, b, v)]))) (mupd M2 a (.dcN (kvs ++ [(iv, d)]))) := ⟨kt, n2.here.mm.upd kt ro, tabs_dno n2.here.tb k1⟩
    rw [rd_ref r1']
    refine ⟨a, b, iv, kvs, xs, rfl, rfl, hK ▸ r2, ik, hP ▸ hw ▸ k1, k5, k2, hK ▸ k3, hn, by rw [hl]; exact hz, ?_⟩
    rw [hP, hw]
    exact k _ _ _ _ h2 (n.trans n3).kp (((rl.nx n1).nx n2).nx n3)
  · exact h2.elim
def dNewN : DE := fun _ _ M R => ∀ p, M p = none → R (.ref p) (mupd M p (.dcN []))
theorem dno_empty {P : Program} {w : World} {H : Hp} (h : Heap) (hb : sysModules < h.objs.size) : ObjOk P w H (h.push { cls := .type "dict", data := .dict #[] }) h.objs.size (DNo P w h.objs.size []) :=
  dno_new (Nat.zero_le _) (beq_eq_false_iff_ne.mpr (Ne.symm (Nat.ne_of_lt hb))) .nil (Heap.DictOfH.new h)
theorem Here.dn0 {H : Hp} {M : DM} {p : Addr} (h : Here Z H M) (hp : H p = none) : Nx Z H (upd H p (DNo Z.P Z.w p [])) (mupd M p (.dcN [])) :=
  ⟨keepT_new hp, h.mm.upd (keepT_new hp) ⟨[], rfl, rfl, .nil, .nil, fun p hp => by cases hp⟩, tabs_new h.tb hp⟩
theorem qe_newN (hP : X.prog = Z.P) (hw : X.w = Z.w) : QE Z G X (.Dict [] [] pos) dNewN := by
  refine ⟨fun W tk => ⟨fun pz s σ H Q I ⟨ρ, M, R, rl, h, k⟩ => wpAny_Dict_empty ?_⟩⟩
  have hn := I.hok.fresh (Nat.le_refl s.heap.objs.size)
  refine ⟨.ref s.heap.objs.size, _, I.laid (a := s.heap.objs.size) (o := DNo X.prog X.w s.heap.objs.size []) (t' := s.toks) (fun _ _ q => Heap.get?_push_of_some _ q) (Nat.le_refl _) (dno_empty s.heap I.big), rfl, ?_⟩
  rw [hP, hw]
  exact k _ _ _ _ (h _ (rl.here.free hn)) (rl.here.dn0 hn) mk_ref
end
end DL

set_option Elab.async false
set_option linter.all false
set_option maxRecDepth 100000
set_option maxHeartbeats 1000000
namespace DL
open PySem PySem.Spec PyProof.Rows L2 TL

def stripL (c : Nat) (s : List Nat) : List Nat := ((s.dropWhile fun x => decide (x = c)).reverse.dropWhile fun x => decide (x = c)).reverse
theorem drop_tw {α : Type} (p : α → Bool) : ∀ l : List α, l.drop (l.takeWhile p).length = l.dropWhile p
  | [] => rfl
  | x :: r => by
    rw [List.takeWhile_cons, List.dropWhile_cons]
    by_cases h : p x = true
    · rw [if_pos h, List.length_cons, List.drop_succ_cons, drop_tw p r, h, if_pos rfl]
    · rw [if_neg h]
      cases e : p x with
      | true => exact absurd e h
      | false => rfl
theorem take_rev {α : Type} (p : α → Bool) (D : List α) : D.take (D.length - (D.reverse.takeWhile p).length) = (D.reverse.dropWhile p).reverse := by
  have e : D = (D.reverse.dropWhile p).reverse ++ (D.reverse.takeWhile p).reverse := by
    rw [← List.reverse_append, List.takeWhile_append_dropWhile, List.reverse_reverse]
  have l : D.length = (D.reverse.dropWhile p).length + (D.reverse.takeWhile p).length := by
    have := congrArg List.length e
    simpa using this
  conv => lhs; rw [e]
  rw [List.take_left' (by rw [← e, List.length_reverse]; omega)]
theorem strip_sV (c : Nat) (s : List Nat) : Txt.stripChars (sV s) (sV [c]) = sV (stripL c s) := by
  have hg : ((sV [c]).cps.contains : Nat → Bool) = fun x => decide (x = c) := by
    funext x
    simp [sV]
  unfold Txt.stripChars
  rw [hg, stripBy_eq]
  unfold stripLo stripHi
  simp only [if_true]
  rw [sV_cps, sV_len, strSub_mk, sV_cps]
  have hl : (s.takeWhile fun x => decide (x = c)).length ≤ s.length := (List.takeWhile_prefix _).length_le
  rw [drop_tw]
  have h2 : (s.dropWhile fun x => decide (x = c)).length = s.length - (s.takeWhile fun x => decide (x = c)).length := by rw [← drop_tw, List.length_drop]
  rw [show s.length - ((s.dropWhile fun x => decide (x = c)).reverse.takeWhile fun x => decide (x = c)).length - (s.takeWhile fun x => decide (x = c)).length = (s.dropWhile fun x => decide (x = c)).length - ((s.dropWhile fun x => decide (x = c)).reverse.takeWhile fun x => decide (x = c)).length from by rw [h2]; omega, take_rev]
  rfl
def stripD : D → List D → DM → DQ → Prop := fun x ds M R => match x, ds with
  | .str s, [.str [c]] => s.length ≤ sizeLine ∧ R (.str (stripL c s)) M
  | _, _ => False
theorem m_strip {Z : ZP} {X : Cx} : MtD Z X "str.strip" stripD := by
  refine ⟨_, mt_stripChars, fun H M v x vs ds R Q hr rx rd g k => ?_⟩
  unfold stripD at g
  split at g
  · rename_i s c
    obtain ⟨u, rfl, r1⟩ := rds_one rd
    rw [rd_str rx, rd_str r1]
    refine ⟨_, _, rfl, rfl, by rw [sV_len]; exact g.1, ?_⟩
    rw [strip_sV]
    exact k _ _ _ _ g.2 hr.stay mk_str
  · exact g.elim

def idxL (c : Nat) (s : List Nat) : Nat := (s.takeWhile fun x => !decide (x = c)).length
theorem occ_first (s sub : Str) (hi : Nat) : ∀ (l : List Nat) (f : Nat), (∀ i ∈ l, f ≤ i) → (forIn l ((#[] : Array Nat), f) (StrLaws.occBody s sub hi 1)).run.fst.toList = match l.find? (fun i => decide (i + sub.length ≤ hi) && Builtin.Str.subAt s sub i) with
    | some i => [i]
    | none => []
  | [], f, _ => rfl
  | a :: l, f, hf => by
    rw [List.forIn_cons, List.find?_cons]
    unfold StrLaws.occBody
    have ha : f ≤ a := hf a (by simp)
    by_cases h1 : a + sub.length ≤ hi
    · cases h2 : Builtin.Str.subAt s sub a with
      | true =>
        rw [if_pos ⟨⟨⟨by simp, ha⟩, h1⟩, rfl⟩]
        simp only [h1, decide_true, Bool.and_self]
        have full : ∀ (l : List Nat) (st : Array Nat × Nat), st.fst.size = 1 → (forIn l st (StrLaws.occBody s sub hi 1)).run.fst = st.fst := by
          intro l
          induction l with
          | nil => intro st _; rfl
          | cons b r ih =>
            intro st hs
            rw [List.forIn_cons]
            unfold StrLaws.occBody
            rw [if_neg (fun z => by omega)]
            exact ih (st.fst, st.snd) hs
        have := full l ((#[] : Array Nat).push a, a + sub.length) rfl
        show (forIn l ((#[] : Array Nat).push a, a + sub.length) (StrLaws.occBody s sub hi 1)).run.fst.toList = _
        rw [this]
        rfl
      | false =>
        rw [if_neg (fun z => Bool.noConfusion z.2)]
        simp only [Bool.and_false]
        exact occ_first s sub hi l f fun i hi' => hf i (by simp [hi'])
    · rw [if_neg (fun z => h1 z.1.2)]
      simp only [h1, decide_false, Bool.false_and]
      exact occ_first s sub hi l f fun i hi' => hf i (by simp [hi'])
theorem idx_find (c : Nat) (s : List Nat) (h : c ∈ s) : ∀ (pre : List Nat) (n : Nat), n = s.length + 1 → (List.range' pre.length n).find? (fun i => decide ((pre ++ s)[i]? = some c)) = some (pre.length + idxL c s) := by
  induction s with
  | nil => cases h
  | cons x r ih =>
    intro pre n hn
    subst hn
    rw [List.length_cons, List.range'_succ, List.find?_cons]
    have e : (pre ++ x :: r)[pre.length]? = some x := by simp
    rw [e]
    by_cases q : x = c
    · subst q
      simp [idxL]
    · simp only [Option.some.injEq, q, decide_false]
      have hm : c ∈ r := by
        rcases List.mem_cons.mp h with e | e
        · exact absurd e.symm q
        · exact e
      have := ih hm (pre ++ [x]) (r.length + 1) rfl
      simp only [List.length_append, List.length_singleton, List.append_assoc, List.singleton_append] at this
      rw [this]
      unfold idxL
      rw [List.takeWhile_cons, if_pos (by simp [q])]
      simp; omega
theorem index_sV {c : Nat} {s : List Nat} (h : c ∈ s) : Builtin.Str.occurrences (sV s) (sV [c]) 0 (sV s).length 1 = [idxL c s] := by
  rw [StrLaws.occ_eq, occ_first _ _ _ _ 0 (fun _ _ => Nat.zero_le _)]
  have e : (fun i => decide (i + (sV [c]).length ≤ (sV s).length) && Builtin.Str.subAt (sV s) (sV [c]) i) = fun i => decide (([] ++ s)[i]? = some c) := by
    funext i
    rw [Bool.eq_iff_iff, Bool.and_eq_true, decide_eq_true_eq, decide_eq_true_eq]
    have := StrLaws.subAt_one (sV s) c i
    rw [sV_cps] at this
    exact this
  rw [e, sV_len]
  have := idx_find c s h [] (s.length + 1) rfl
  simp only [List.length_nil, Nat.zero_add] at this
  rw [Nat.sub_zero, this]
def indexD : D → List D → DM → DQ → Prop := fun x ds M R => match x, ds with
  | .str s, [.str [c]] => c ∈ s ∧ R (.int (idxL c s : Nat)) M
  | _, _ => False
theorem m_index {Z : ZP} {X : Cx} : MtD Z X "str.index" indexD := by
  refine ⟨_, mt_sindex, fun H M v x vs ds R Q hr rx rd g k => ?_⟩
  unfold indexD at g
  split at g
  · rename_i s c
    obtain ⟨u, rfl, r1⟩ := rds_one rd
    rw [rd_str rx, rd_str r1]
    exact ⟨_, _, _, _, rfl, rfl, index_sV g.1, k _ _ _ _ g.2 hr.stay mk_int⟩
  · exact g.elim

theorem join0_splL (c : Nat) : ∀ (s acc : List Nat), joinL [] (splL c acc s) = acc ++ s.filter fun x => !decide (x = c)
  | [], acc => by unfold splL; simp [joinL]
  | x :: r, acc => by
    unfold splL
    by_cases q : x = c
    · rw [if_pos q]
      have ih := join0_splL c r []
      have ne : ∃ y ys, splL c [] r = y :: ys := by
        have go : ∀ (l acc : List Nat), ∃ y ys, splL c acc l = y :: ys := by
          intro l
          induction l with
          | nil => intro acc; exact ⟨acc, [], rfl⟩
          | cons z l ihl =>
            intro acc
            unfold splL
            by_cases qz : z = c
            · rw [if_pos qz]; exact ⟨_, _, rfl⟩
            · rw [if_neg qz]; exact ihl _
        exact go r []
      obtain ⟨y, ys, e⟩ := ne
      rw [e] at ih ⊢
      show acc ++ ([] ++ joinL [] (y :: ys)) = _
      rw [ih]
      simp [q]
    · rw [if_neg q, join0_splL c r (acc ++ [x])]
      simp [q]
theorem replace_sV {c : Nat} (s : List Nat) (hc : c < 256) : Txt.replace (sV s) (sV [c]) (sV []) = sV (s.filter fun x => !decide (x = c)) := by
  have h := split_sV (s := s) (c := c) hc
  have j : Str.join (sV []) ((splL c [] s).map sV) = sV (s.filter fun x => !decide (x = c)) := by
    rw [join_sV, join0_splL]; rfl
  rw [← h, ← join_eq] at j
  rw [← j]
  unfold Txt.replace Txt.join Txt.split
  have k1 : ¬ Builtin.Str.strKind (sV s) < Builtin.Str.strKind (sV [c]) := kind_ok (by simp [sV]; exact hc)
  have one : ∀ y : Str, Builtin.Str.glued (sV []) [y] = y := fun y => by
    unfold Builtin.Str.glued
    cases y; rfl
  have z1 : ((sV [c]).length == 0) = false := rfl
  rw [z1, Bool.false_and, Bool.or_false]
  by_cases q : (decide ((sV s).length < (sV [c]).length) || decide (Builtin.Str.strKind (sV s) < Builtin.Str.strKind (sV [c]))) = true
  · rw [if_pos q, one]
    have e : s = [] := by
      rw [Bool.or_eq_true, decide_eq_true_eq, decide_eq_true_eq] at q
      rcases q with q | q
      · rw [sV_len, sV_len] at q
        exact List.eq_nil_of_length_eq_zero (by simp at q; simp [q])
      · exact absurd q k1
    subst e
    have f := StrLaws.found_one (sV []) c
    have g : (Builtin.Str.occurrences (sV []) (sV [c]) 0 (sV []).length 1).isEmpty = true := by
      cases e : (Builtin.Str.occurrences (sV []) (sV [c]) 0 (sV []).length 1).isEmpty with
      | true => rfl
      | false =>
        rw [show (⟨#[c]⟩ : Str) = sV [c] from rfl, e] at f
        cases f
    exact if_pos g
  · rw [if_neg q]
    by_cases q2 : (Builtin.Str.occurrences (sV s) (sV [c]) 0 (sV s).length ((sV s).length + 1)).isEmpty = true
    · rw [if_pos q2, if_pos q2, one]
    · rw [if_neg q2, if_neg q2]
def wv (c : Nat) : Option Int := if c = 48 then some 0 else if c = 49 then some 1 else if c = 56 then some 8 else if c = 116 then some 3 else none
def KDW (K : PySem.W.Frag) (w : World) (mg : Str → Option Value) : Prop := ∃ p, mg "WORTHS" = some (.ref p) ∧ ∀ c v, wv c = some v → KDct K w p (sV [c]) (.int v)
def dWorth (t : DE) : DE := fun W ρ M R => t W ρ M fun d M1 => match d with
  | .str [c] => ∃ v, wv c = some v ∧ R (.int v) M1
  | _ => False
theorem qe_worth {Z : ZP} {G : Hp} {X : Cx} {b : Expr} {t : DE} {p pos : Pos} (h : KDW X.K X.w X.mg) (hb : QE Z G X b t) (hg : Gl X "WORTHS" := by rfl) (hs : PlainIx b := by exact fun _ _ => rfl) : QE Z G X (.Subscript (.Name "WORTHS" p) b pos) (dWorth t) := by
  obtain ⟨a, hm, hk⟩ := h
  refine ⟨fun W tk => pe_of (pe_ix (r := rIxD X.K X.w) ix_kdict (pe_glob (v := .ref a) hg hm rfl (by decide)) (hb.pe W tk) hs) fun σ H Q ⟨ρ, M, R, rl, h, k⟩ => ?_⟩
  refine ⟨ρ, M, _, rl, h, fun d M1 v H1 h1 n1 r1 => ?_⟩
  split at h1
  · rename_i c
    obtain ⟨n, e, h1⟩ := h1
    rw [rd_str r1]
    exact ⟨a, _, .int n, rfl, rfl, hk c n e, k _ _ _ _ h1 n1 mk_int⟩
  · exact h1.elim
end DL

set_option Elab.async false
set_option linter.all false
set_option maxRecDepth 100000
set_option maxHeartbeats 1000000
namespace DL
open PySem PySem.Spec PyProof.Rows L2
structure QET (Z : ZP) (G : Hp) (X : Cx) (e : Expr) (t : DE) : Prop where
  pe : ∀ W, Takes X (lW Z G W) → PET X e (lE Z G (t W))
structure QST (Z : ZP) (G : Hp) (X : Cx) (s : Stmt) (t : DS) : Prop where
  ps : ∀ W, Takes X (lW Z G W) → PST X s (lS Z G (t W))
structure QSsT (Z : ZP) (G : Hp) (X : Cx) (s : List Stmt) (t : DS) : Prop where
  pss : ∀ W, Takes X (lW Z G W) → PSsT X s (lS Z G (t W))
section
variable {Z : ZP} {G : Hp} {X : Cx} {pos : Pos} {e o : Expr} {es : List Expr} {st : Stmt} {rest : List Stmt} {te : DE} {ta : DA} {t u : DS}
theorem QET.of (h : QE Z G X e te) : QET Z G X e te := ⟨fun W tk => CwR.PET.of (h.pe W tk)⟩
theorem QST.of (h : QS Z G X st t) : QST Z G X st t := ⟨fun W tk => PST.of (h.ps W tk)⟩
theorem QSsT.of (h : QSs Z G X rest t) : QSsT Z G X rest t := ⟨fun W tk => PSsT.of (h.pss W tk)⟩
theorem pet_w {e : Expr} {t t' : TE} (h : PET X e t) (w : ∀ σ H Q, t' σ H Q → t σ H Q) : PET X e t' := fun pz s σ H Q h0 I q => h pz s σ H Q h0 I (w σ H Q q)
theorem pst_w {e : Stmt} {t t' : TS} (h : PST X e t) (w : ∀ D σ H, t' D σ H → t D σ H) : PST X e t' := fun pz s σ H D h0 I q => h pz s σ H D h0 I (w D σ H q)
theorem psst_w {e : List Stmt} {t t' : TS} (h : PSsT X e t) (w : ∀ D σ H, t' D σ H → t D σ H) : PSsT X e t' := fun pz s σ H D h0 I q => h pz s σ H D h0 I (w D σ H q)
theorem qsst_cons (h1 : QST Z G X st t) (h2 : QSsT Z G X rest u) : QSsT Z G X (st :: rest) (dSeq t u) := by
  refine ⟨fun W tk => psst_w (psst_cons (h1.ps W tk) (h2.pss W tk)) fun D σ H ⟨ρ, M, E, rl, h, k1, k2, k3, k4⟩ => ?_⟩
  refine ⟨ρ, M, _, rl, h, fun ρ' M' σ' H' q kp r => ?_, k2, k3, k4⟩
  exact ⟨ρ', M', E, r, q, fun _ _ _ _ q' kp' r' => k1 _ _ _ _ q' (kp.trans kp') r', fun _ _ _ _ q' n' r' => k2 _ _ _ _ q' ⟨kp.trans n'.kp, n'.mm, n'.tb⟩ r', fun _ _ _ _ q' kp' r' => k3 _ _ _ _ q' (kp.trans kp') r', fun _ _ _ _ q' kp' r' => k4 _ _ _ _ q' (kp.trans kp') r'⟩
def dRepl (c : Nat) (te : DE) : DE := fun W ρ M R => te W ρ M fun x M1 => match x with
  | .str s => s.length ≤ sizeLine ∧ R (.str (s.filter fun y => !decide (y = c))) M1
  | _ => False
theorem qet_repl {c : Nat} {j k : Nat} {c0 c1 apos : Pos} {y z : Str} (ey : y = sV [c]) (ez : z = sV []) (hc : c < 256) (ho : QE Z G X o te)
    (hst : starEach [.Constant (.str y) j c0, .Constant (.str z) k c1] X.env = [(false, eval (.Constant (.str y) j c0) X.env), (false, eval (.Constant (.str z) k c1) X.env)] := by rfl)
    (hbase : attributeBase o "replace" X.env (eval o X.env) = eval o X.env := by rfl) (hline : (apos.endLine == pos.line) = true := by rfl) : QET Z G X (.Call (.Attribute o "replace" apos) [.Constant (.str y) j c0, .Constant (.str z) k c1] [] pos) (dRepl c te) := by
  subst ey
  subst ez
  have hyz : (sV [c] == sV []) = false := by
    refine beq_eq_false_iff_ne.mpr fun e => ?_
    have := sV_inj e
    cases this
  refine ⟨fun W tk => pet_w (CwR.pet_replC (ho.pe W tk) hyz hst hbase hline) fun σ H Q ⟨ρ, M, R, rl, h, kq⟩ => ?_⟩
  refine ⟨ρ, M, _, rl, h, fun d M1 v H1 h1 n1 r1 => ?_⟩
  cases d with
  | str s =>
    rw [rd_str r1]
    refine ⟨_, rfl, ?_, ?_⟩
    · have z1 : sizeLine = 16777216 := sizeLine_eq
      have h0 : (sV []).length = 0 := rfl
      have h2 : s.length ≤ sizeLine := h1.1
      rw [sV_len, h0, Nat.mul_zero, Nat.add_zero]
      omega
    · rw [replace_sV s hc]
      exact kq _ _ _ _ h1.2 n1 mk_str
  | _ => exact h1.elim
theorem pet_bm {name : Str} {apos cpos : Pos} {T id : String} {r : V → List V → Hp → VK → Prop} {to : TE} {t : TA} (pa : PlainAttrs T) (slot : Slot T name id) (hty : typeOf (.builtin id) = pure (.type "method_descriptor")) (hm : MtR X id r) (ho : PET X o to) (ha : PA X (e :: es) t)
    (hbase : attributeBase o name X.env (eval o X.env) = eval o X.env := by rfl)
    (hfew : ((backTo cpos (starEach (e :: es) X.env)).all (fun x => !x.1) && (backToKw cpos (keywordEach [] X.env)).all (fun x => x.1.isSome) && decide ((e :: es).length + ([] : List Keyword).length + (if ([] : List Keyword).isEmpty then 0 else 1) < 30)) = true := by rfl)
    (hline : (apos.endLine == cpos.line) = true := by rfl) (hs : starEach (e :: es) X.env = (false, eval e X.env) :: starEach es X.env := by rfl) (hplain : (backTo cpos (starEach es X.env)).any (·.1) = false := by rfl) : PET X (.Call (.Attribute o name apos) (e :: es) [] cpos) (tBM X.K T r to t) := by
  intro pz s σ H Q h0 I h
  refine wpAny_Call_method_late hbase hfew hline rfl (thn (ho pz s σ H _ h0 I h) fun v s1 ⟨x, H1, J1, r1, ty, q1⟩ => ?_)
  obtain ⟨k1, k2⟩ := tyV_is J1 r1 ty
  refine ⟨T, id, pa, slot, hty, k1, k2, ?_⟩
  have hA := ha.run cpos pz s1 σ H1 _ J1 q1
  rw [hs] at hA ⊢
  refine Calls.callWith_builtin (by show (false || (backTo cpos (starEach es X.env)).any (·.1)) = false; rw [hplain]; rfl) (Calls.evalArgs_plain ?_)
  exact thn hA fun uz s2 ⟨vs, H2, J2, r2, q2⟩ => hm pz s2 σ H2 x vs v uz Q J2 r1 r2 q2
theorem qet_bm {name : Str} {apos cpos : Pos} {T id : String} {g : D → List D → DM → DQ → Prop} (hK : X.K = Z.K) (pa : PlainAttrs T) (slot : Slot T name id) (hty : typeOf (.builtin id) = pure (.type "method_descriptor")) (hm : MtD Z X id g) (ho : QET Z G X o te) (ha : QA Z G X (e :: es) ta)
    (hbase : attributeBase o name X.env (eval o X.env) = eval o X.env := by rfl)
    (hfew : ((backTo cpos (starEach (e :: es) X.env)).all (fun x => !x.1) && (backToKw cpos (keywordEach [] X.env)).all (fun x => x.1.isSome) && decide ((e :: es).length + ([] : List Keyword).length + (if ([] : List Keyword).isEmpty then 0 else 1) < 30)) = true := by rfl)
    (hline : (apos.endLine == cpos.line) = true := by rfl) (hs : starEach (e :: es) X.env = (false, eval e X.env) :: starEach es X.env := by rfl) (hplain : (backTo cpos (starEach es X.env)).any (·.1) = false := by rfl) : QET Z G X (.Call (.Attribute o name apos) (e :: es) [] cpos) (dMt T g te ta) := by
  obtain ⟨r, hr, hg⟩ := hm
  refine ⟨fun W tk => pet_w (pet_bm pa slot hty hr (ho.pe W tk) (ha.pa W tk) hbase hfew hline hs hplain) fun σ H Q ⟨ρ, M, R, rl, h, k⟩ => ?_⟩
  refine ⟨ρ, M, _, rl, h, fun x M1 v1 H1 h1 n1 r1 => ⟨by rw [hK]; exact tyV_of n1.here r1 h1.1, ρ, M1, _, rl.nx n1, h1.2, fun ds M2 vs H2 h2 n2 r2 => ?_⟩⟩
  exact hg H2 M2 v1 x vs ds R Q n2.here (RD.keep n2.kp _ _ r1) r2 h2 fun d M' v H' q n rd => k d M' v H' q ((n1.trans n2).trans n) rd
theorem qst_set {i : Nat} {x : Str} {pos' : Pos} (hN : X.N.Nodup) (he : QET Z G X e te) (hi : X.N[i]? = some x := by rfl) (hx : Loc X.env.scope x := by first | exact Or.inl rfl | exact Or.inr rfl)
    (hs : swapsWith e (some (.Name x pos')) pos.line X.env = pure false := by rfl) (hf : X.fn x = true ∨ X.env.scope.names.lookup x = some .local := by first | exact .inl rfl | exact .inr rfl | assumption) : QST Z G X (.Assign [.Name x pos'] e pos) (dSet i te) := by
  have base : ∀ {t : TE}, PET X e t → PST X (.Assign [.Name x pos'] e pos) (tAsg t (gName i)) := fun {t} h => by
    intro pz s σ H D h0 I q
    refine wpAny_Assign_Name (thn (h pz s σ H _ h0 I q) fun v s1 ⟨y, H1, J1, r1, q1⟩ => ?_) hs
    exact store_ok J1 hN hi hx r1 (fun s2 J2 => ⟨_, H1, J2, q1⟩) hf
  refine ⟨fun W tk => pst_w (base (he.pe W tk)) fun D σ H ⟨ρ, M, E, rl, h, k1, k2, k3, k4⟩ => ?_⟩
  exact ⟨ρ, M, _, rl, h, fun d M' v H' q n r => k1 _ _ _ _ q n.kp ⟨rl.kp.trans n.kp, (rl.st.keep n.kp).set r, n.mm, n.tb⟩⟩
end
section
variable {mg : Str → Option Value} {base : Heap} {Z : ZP}
theorem fn_okT {x qual : Str} {st : Stmt} {f : Addr} {fd : FuncData} {N ps : List Str} {k : Nat} {sp : DSp} {t : DS} (F : Fun Z.K x qual st f fd) (S : FnScope N ps (defScope st)) (hnc : ∀ y ∈ (defScope st).names, y.2 ≠ .cell) (hps : 1 ≤ ps.length) (len : ∀ ds M R EX, sp ds M R EX → ds.length = ps.length)
    (hb : ∀ (cdv : Value) (A : Around) (outer : List PySem.Env) (s : Shared) (H : Hp) (E : XK), Room k (A.deeper (envOfC qual (defScope st) s.heap.objs.size f cdv)) → QSsT Z H (cxOf (L2.CX Z.P Z.w) Z.P Z.w Z.K mg base N qual (defScope st) f cdv A outer s H E) (defBody st) t)
    (pure : ∀ ds M R EX, sp ds M R EX → t (fun C fs _ M' => WkX EX C fs M') (endsOf R) (startD N ds) M) : FnOk Z.P Z.w Z.K mg base (L2.CX Z.P Z.w) (k + 1) f fd ps (lSp Z sp) := by
  obtain ⟨oc, od, kV, doc, pm, an, cdv, ct, osl, rfl, lk, hcd⟩ := F.ex
  refine fn_ofT lk hcd S hnc hps (fun vs H Q E ⟨ds, M, R, EX, rd, _, _, hs, _, _⟩ => by rw [rd.length]; exact len _ _ _ _ hs) fun A outer s H vs Q E hr ⟨ds, M, R, EX, rd, mm, tb, hs, kq, kx⟩ => ?_
  have tk : Takes (cxOf (L2.CX Z.P Z.w) Z.P Z.w Z.K mg base N qual (defScope st) f cdv A outer s H E) (lW Z H fun C fs _ M' => WkX EX C fs M') := by
    refine Takes.imp (takes_of rfl rfl rfl rfl) fun c d σ H' ⟨C, fs, ρ, M', ec, rx, rl, M2, sb, h⟩ => ?_
    subst ec
    exact kx C fs M2 d H' h ⟨rl.kp, rl.mm.sub sb, rl.tb⟩ rx
  refine ⟨_, (hb cdv A outer s H E hr).pss _ tk, startD N ds, M, endsOf R, ⟨KeepT.refl, rst_start rd, mm, tb⟩, pure ds M R EX hs, fun ρ' M' σ' H' ⟨M2, sb, h⟩ kp r => ?_, fun d M' v H' ⟨M2, sb, h⟩ n r => ?_, fun _ _ _ _ h => h.elim, fun _ _ _ _ h => h.elim⟩
  · exact kq .non M2 .non H' h ⟨kp, r.mm.sub sb, r.tb⟩ (by rw [RD])
  · exact kq d M2 v H' h (n.sub sb) r
end
end DL

set_option Elab.async false
set_option linter.all false
set_option maxRecDepth 100000
namespace DL
open PySem L2
structure Ad where
  cPr : Addr
  cSc : Addr
  cRd : Addr
  cFE : Addr
  cBT : Addr
  cBC : Addr
  cNU : Addr
  cBR : Addr
  cBL : Addr
def cs (s : String) : List Nat := s.toList.map Char.toNat
def c_SIGNS : D := .str [32, 43, 45, 46, 48, 49, 56, 95, 116]
def c_SMALL : D := .str [97, 98, 99, 100, 101, 102, 103, 104, 105, 106, 107, 108, 109, 110, 111, 112, 113, 114, 115, 116, 117, 118, 119, 120, 121, 122]
def c_PLAIN : D := .tup [.str [115, 105, 103, 110, 115], .str [98, 101, 103, 105, 110, 115], .str [101, 110, 100, 115]]
theorem wk_upd {R : DQ} {d : D} {M M' : DM} {a : Addr} {o : MO} (h : R d (mupd M a o)) (e : M' a = some o) (k : ∀ b o', b ≠ a → M b = some o' → M' b = some o') : Wk R d M' := by
  refine ⟨_, fun b o' hb => ?_, h⟩
  by_cases q : b = a
  · subst q; rw [mupd_same] at hb; cases hb; exact e
  · rw [mupd_ne q] at hb; exact k b o' q hb
theorem mupd_idem {M : DM} {a : Addr} {o o' : MO} : mupd (mupd M a o) a o' = mupd M a o' := by
  funext b
  by_cases q : b = a
  · subst q; rw [mupd_same, mupd_same]
  · rw [mupd_ne q, mupd_ne q, mupd_ne q]
theorem mupd_self {M : DM} {a : Addr} {o : MO} (h : M a = some o) : mupd M a o = M := by
  funext b
  by_cases q : b = a
  · subst q; rw [mupd_same, h]
  · rw [mupd_ne q]
def look (L : List Nat) (i : Nat) : List Nat := (L.drop i).take 1
theorem cutL_nat (L : List Nat) (i j : Nat) (h : i ≤ j) : cutL L (some (i : Int)) (some (j : Int)) = (L.drop i).take (j - i) := by
  have e : ∀ (k : Nat) (d : Nat), HT.sIx L.length d (some (k : Int)) = min k L.length := fun k d => by
    unfold HT.sIx
    simp
    omega
  unfold cutL
  rw [e, e]
  by_cases q : i ≤ L.length
  · rw [Nat.min_eq_left q]
    by_cases q2 : j ≤ L.length
    · rw [Nat.min_eq_left q2]
    · rw [Nat.min_eq_right (by omega), List.take_of_length_le (by simp), List.take_of_length_le (by simp; omega)]
  · rw [List.drop_eq_nil_of_le (by omega), List.drop_eq_nil_of_le (by omega)]
    simp
end DL

set_option Elab.async false
set_option linter.all false
set_option maxRecDepth 100000
set_option maxHeartbeats 1000000
namespace DL
open PySem L2
def rdO (A : Ad) (dx : Addr) (L : List Nat) (i : Nat) : MO := .ins A.cRd dx ["line", "at"] [.str L, .int (i : Nat)]
def Rdg (A : Ad) (M : DM) (a dx : Addr) (L : List Nat) (i : Nat) : Prop := M a = some (rdO A dx L i) ∧ L.length ≤ 100000
def sp_Reading_init (A : Ad) : DSp := fun ds M Q _ => ∃ a dx L, ds = [.ref a, .str L] ∧ M a = some (.ins A.cRd dx [] []) ∧ Q .non (mupd M a (rdO A dx L 0))
def sp_Reading_look (A : Ad) : DSp := fun ds M Q _ => ∃ a dx L i, ds = [.ref a] ∧ Rdg A M a dx L i ∧ Q (.str (look L i)) M
def sk (L : List Nat) (i c : Nat) : Bool := decide (look L i = [c])
def skj (L : List Nat) (i c : Nat) : Nat := if look L i = [c] then i + 1 else i
def sp_Reading_skip (A : Ad) : DSp := fun ds M Q _ => ∃ a dx L i c, ds = [.ref a, .str [c]] ∧ Rdg A M a dx L i ∧ Q (.bl (sk L i c)) (mupd M a (rdO A dx L (skj L i c)))
def t_Reading_init (A : Ad) : DS := dSeq (dFldSet A.cRd "line" (dVar 0) (dVar 1)) (dFldSet A.cRd "at" (dVar 0) (dC (.int 0)))
abbrev n_Reading_init : List Str := ["self", "line"]
def t_Reading_look (A : Ad) : DS := dRet (dSl (dFld A.cRd "line" (dVar 0)) (dPart (dFld A.cRd "at" (dVar 0))) (dPart (dOp addD (dFld A.cRd "at" (dVar 0)) (dC (.int 1)))))
abbrev n_Reading_look : List Str := ["self"]
def t_Reading_skip (A : Ad) : DS := dSeq (dSet 2 (dOp eqD (dMeth A.cRd "look" (sp_Reading_look A) (dVar 0) (dNil)) (dVar 1))) (dSeq (dIfS (dTest (dVar 2)) (dFldAug A.cRd "at" (dVar 0) (dC (.int 1))) (dNext)) (dRet (dVar 2)))
abbrev n_Reading_skip : List Str := ["self", "sign", "good"]
theorem Rdg.upd {A : Ad} {M : DM} {a dx : Addr} {L : List Nat} {i j : Nat} (h : Rdg A M a dx L i) : Rdg A (mupd M a (rdO A dx L j)) a dx L j := ⟨mupd_same, h.2⟩
theorem pure_Reading_init {A : Ad} (ds M R EX) (h : sp_Reading_init A ds M R EX) : t_Reading_init A (fun C fs _ M' => WkX EX C fs M') (endsOf R) (startD n_Reading_init ds) M := by
  obtain ⟨a, dx, L, rfl, e, k⟩ := h
  unfold t_Reading_init
  simp only [dVar, dC, dOp, dTest, dChain, dAnd, dOr, dNot, dAndV, dOrV, dNotV, dIfE, dNil, dCons, dTup, dLst, dNext, dSeq, dIfS, dRet, dRetN, dExpr, dBrk, dCnt, dSet, dNever, gN, gTp, gLs, gsNil, gsCons, dAsg, dCall, dRaise, dRaiseF, ixD, dSl, slD, dPart, dNoPart, dCB, lenD, minD, maxD, absD, intD, strD, tupleD, listD, dMt, dMt0, tyD, appendD, popD, joinD, splitD, countD, dIsi, tnD, isiT, gSb, setL, dFld, dFldSet, dMeth, dMake, dFldAug, dAug, dPar, dTru, dNeg, augAdd, intI, cmpI, startD, endsOf, List.map_cons, List.map_nil, List.length_cons, List.length_nil, List.replicate, List.getElem?_cons_zero, List.getElem?_cons_succ, List.cons_append, List.nil_append, List.set_cons_zero, List.set_cons_succ, Nat.reduceAdd, Nat.reduceSub]
  refine ⟨a, dx, [], [], rfl, e, (by decide), .inr ⟨(by simp), a, dx, _, _, rfl, mupd_same, (by show 1 < 1000; decide), .inr ⟨(by decide +kernel), Wk.self ?_⟩⟩⟩
  rw [mupd_idem]
  exact k
theorem pure_Reading_look {A : Ad} (ds M R EX) (h : sp_Reading_look A ds M R EX) : t_Reading_look A (fun C fs _ M' => WkX EX C fs M') (endsOf R) (startD n_Reading_look ds) M := by
  obtain ⟨a, dx, L, i, rfl, ⟨e, hL⟩, k⟩ := h
  unfold t_Reading_look
  simp only [dVar, dC, dOp, dTest, dChain, dAnd, dOr, dNot, dAndV, dOrV, dNotV, dIfE, dNil, dCons, dTup, dLst, dNext, dSeq, dIfS, dRet, dRetN, dExpr, dBrk, dCnt, dSet, dNever, gN, gTp, gLs, gsNil, gsCons, dAsg, dCall, dRaise, dRaiseF, ixD, dSl, slD, dPart, dNoPart, dCB, lenD, minD, maxD, absD, intD, strD, tupleD, listD, dMt, dMt0, tyD, appendD, popD, joinD, splitD, countD, dIsi, tnD, isiT, gSb, setL, dFld, dFldSet, dMeth, dMake, dFldAug, dAug, dPar, dTru, dNeg, augAdd, intI, cmpI, startD, endsOf, List.map_cons, List.map_nil, List.length_cons, List.length_nil, List.replicate, List.getElem?_cons_zero, List.getElem?_cons_succ, List.cons_append, List.nil_append, List.set_cons_zero, List.set_cons_succ, Nat.reduceAdd, Nat.reduceSub]
  refine ⟨a, dx, _, _, 0, _, rfl, e, rfl, rfl, a, dx, _, _, 1, _, rfl, e, rfl, rfl, ?_⟩
  refine ⟨a, dx, _, _, 1, _, rfl, e, rfl, rfl, (by have : sizeLine = 16777216 := sizeLine_eq; show L.length ≤ sizeLine; omega), Wk.self ?_⟩
  have z := cutL_nat L i (i + 1) (by omega)
  rw [Nat.add_sub_cancel_left] at z
  show R (.str (cutL L (some (i : Int)) (some ((i : Int) + 1)))) M
  rw [show ((i : Int) + 1) = ((i + 1 : Nat) : Int) from by push_cast; rfl, z]
  exact k
theorem pure_Reading_skip {A : Ad} (ds M R EX) (h : sp_Reading_skip A ds M R EX) : t_Reading_skip A (fun C fs _ M' => WkX EX C fs M') (endsOf R) (startD n_Reading_skip ds) M := by
  obtain ⟨a, dx, L, i, c, rfl, hr, k⟩ := h
  unfold t_Reading_skip
  simp only [dVar, dC, dOp, dTest, dChain, dAnd, dOr, dNot, dAndV, dOrV, dNotV, dIfE, dNil, dCons, dTup, dLst, dNext, dSeq, dIfS, dRet, dRetN, dExpr, dBrk, dCnt, dSet, dNever, gN, gTp, gLs, gsNil, gsCons, dAsg, dCall, dRaise, dRaiseF, ixD, dSl, slD, dPart, dNoPart, dCB, lenD, minD, maxD, absD, intD, strD, tupleD, listD, dMt, dMt0, tyD, appendD, popD, joinD, splitD, countD, dIsi, tnD, isiT, gSb, setL, dFld, dFldSet, dMeth, dMake, dFldAug, dAug, dPar, dTru, dNeg, augAdd, intI, cmpI, startD, endsOf, List.map_cons, List.map_nil, List.length_cons, List.length_nil, List.replicate, List.getElem?_cons_zero, List.getElem?_cons_succ, List.cons_append, List.nil_append, List.set_cons_zero, List.set_cons_succ, Nat.reduceAdd, Nat.reduceSub]
  refine ⟨a, dx, _, _, rfl, hr.1, (by decide +kernel), a, dx, L, i, rfl, hr, ?_⟩
  show (match decide (look L i = [c]) with | true => _ | false => _)
  unfold sk skj at k
  by_cases q : look L i = [c]
  · rw [decide_eq_true q] at k ⊢
    rw [if_pos q] at k
    exact ⟨a, dx, _, _, 1, _, rfl, hr.1, rfl, rfl, _, dx, _, rfl, hr.1, (by show 2 < 1000; decide), Wk.self k⟩
  · rw [decide_eq_false q] at k ⊢
    rw [if_neg q, mupd_self hr.1] at k
    exact Wk.self k
end DL

set_option Elab.async false
set_option linter.all false
set_option maxRecDepth 100000
set_option maxHeartbeats 1000000
namespace DL
open PySem L2
def SMc : List Nat := [97, 98, 99, 100, 101, 102, 103, 104, 105, 106, 107, 108, 109, 110, 111, 112, 113, 114, 115, 116, 117, 118, 119, 120, 121, 122]
def SGc : List Nat := [32, 43, 45, 46, 48, 49, 56, 95, 116]
def tw (S L : List Nat) (i : Nat) : List Nat := (L.drop i).takeWhile fun c => decide (c ∈ S)
theorem tw_step {S L : List Nat} {i c : Nat} (h : look L i = [c]) : tw S L i = if c ∈ S then c :: tw S L (i + 1) else [] := by
  unfold look at h
  unfold tw
  cases e : L.drop i with
  | nil => rw [e] at h; cases h
  | cons x r =>
    rw [e] at h
    have hx : x = c := by simpa using h
    subst hx
    have hr : L.drop (i + 1) = r := by rw [← List.drop_drop, e]; rfl
    rw [hr, List.takeWhile_cons]
    by_cases q : x ∈ S
    · simp [q]
    · simp [q]
theorem tw_end {S L : List Nat} {i : Nat} (h : look L i = []) : tw S L i = [] := by
  unfold look at h
  unfold tw
  cases e : L.drop i with
  | nil => rfl
  | cons x r => rw [e] at h; cases h
theorem look_cases (L : List Nat) (i : Nat) : look L i = [] ∨ ∃ c, look L i = [c] := by
  unfold look
  cases L.drop i with
  | nil => exact .inl rfl
  | cons x r => exact .inr ⟨x, rfl⟩
theorem tw_len (S L : List Nat) (i : Nat) : (tw S L i).length ≤ L.length := by
  unfold tw
  exact Nat.le_trans (List.takeWhile_prefix _).length_le (by simp)
theorem tw_cut (S L : List Nat) (i : Nat) : cutL L (some (i : Int)) (some ((i + (tw S L i).length : Nat) : Int)) = tw S L i := by
  rw [cutL_nat _ _ _ (by omega), Nat.add_sub_cancel_left]
  unfold tw
  exact (List.prefix_iff_eq_take.mp (List.takeWhile_prefix _)).symm
theorem mlook {A : Ad} {M : DM} {a dx : Addr} {L : List Nat} {i : Nat} {R : DQ} {E : DX} (h : Rdg A M a dx L i) (k : R (.str (look L i)) M)  : ∃ (a_1 dx : Addr) (ns : List Str) (ds : List D), D.ref a = .ref a_1 ∧ M a_1 = some (.ins A.cRd dx ns ds) ∧ ¬ (Str.ofString "look") ∈ ns ∧ sp_Reading_look A [.ref a] M R E :=
  ⟨a, dx, _, _, rfl, h.1, by decide +kernel, a, dx, L, i, rfl, h, k⟩
theorem mskip {A : Ad} {M : DM} {a dx : Addr} {L : List Nat} {i c : Nat} {R : DQ} {E : DX} (h : Rdg A M a dx L i) (k : R (.bl (sk L i c)) (mupd M a (rdO A dx L (skj L i c))))  : ∃ (a_1 dx : Addr) (ns : List Str) (ds : List D), D.ref a = .ref a_1 ∧ M a_1 = some (.ins A.cRd dx ns ds) ∧ ¬ (Str.ofString "skip") ∈ ns ∧ sp_Reading_skip A [.ref a, .str [c]] M R E :=
  ⟨a, dx, _, _, rfl, h.1, by decide +kernel, a, dx, L, i, c, rfl, h, k⟩
theorem fat {A : Ad} {M : DM} {a dx : Addr} {L : List Nat} {i : Nat} {P : D → Prop} (h : Rdg A M a dx L i) (k : P (.int (i : Nat))) : ∃ (a_1 dx : Addr) (ns : List Str) (ds : List D) (j : Nat) (d : D), D.ref a = .ref a_1 ∧ M a_1 = some (.ins A.cRd dx ns ds) ∧ ns[j]? = some (Str.ofString "at") ∧ ds[j]? = some d ∧ P d :=
  ⟨a, dx, _, _, 1, _, rfl, h.1, rfl, rfl, k⟩
theorem fline {A : Ad} {M : DM} {a dx : Addr} {L : List Nat} {i : Nat} {P : D → Prop} (h : Rdg A M a dx L i) (k : P (.str L)) : ∃ (a_1 dx : Addr) (ns : List Str) (ds : List D) (j : Nat) (d : D), D.ref a = .ref a_1 ∧ M a_1 = some (.ins A.cRd dx ns ds) ∧ ns[j]? = some (Str.ofString "line") ∧ ds[j]? = some d ∧ P d :=
  ⟨a, dx, _, _, 0, _, rfl, h.1, rfl, rfl, k⟩
theorem scan_loop {A : Ad} {M : DM} {a dx : Addr} {S L : List Nat} {i : Nat} {W : DW} {E : DEnds} {ρ : Env} (h : Rdg A M a dx L i) (h0 : ρ[0]? = some (some (.ref a))) (k : E.nx ρ (mupd M a (rdO A dx L (i + (tw S L i).length)))) :
    dWhile (dAnd (dTest (dOp neD (dMeth A.cRd "look" (sp_Reading_look A) (dVar 0) dNil) (dC (.str [])))) (dTest (dOp inD (dMeth A.cRd "look" (sp_Reading_look A) (dVar 0) dNil) (dC (.str S))))) (dFldAug A.cRd "at" (dVar 0) (dC (.int 1))) W E ρ M := by
  refine ⟨fun n ρ' M' => ∃ j, ρ' = ρ ∧ M' = mupd M a (rdO A dx L j) ∧ n = (tw S L j).length ∧ j + (tw S L j).length = i + (tw S L i).length, ⟨_, i, rfl, (mupd_self h.1).symm, rfl, rfl⟩, ?_⟩
  rintro n ρ' M' ⟨j, rfl, rfl, rfl, hj⟩
  have hr : Rdg A (mupd M a (rdO A dx L j)) a dx L j := h.upd
  simp only [dVar, dC, dOp, dTest, dChain, dAnd, dOr, dNot, dAndV, dOrV, dNotV, dIfE, dNil, dCons, dTup, dLst, dNext, dSeq, dIfS, dRet, dRetN, dExpr, dBrk, dCnt, dSet, dNever, gN, gTp, gLs, gsNil, gsCons, dAsg, dCall, dRaise, dRaiseF, ixD, dSl, slD, dPart, dNoPart, dCB, lenD, minD, maxD, absD, intD, strD, tupleD, listD, dMt, dMt0, tyD, appendD, popD, joinD, splitD, countD, dIsi, tnD, isiT, gSb, setL, dFld, dFldSet, dMeth, dMake, dFldAug, dAug, dPar, dTru, dNeg, augAdd, intI, cmpI, startD, endsOf, List.map_cons, List.map_nil, List.length_cons, List.length_nil, List.replicate, List.getElem?_cons_zero, List.getElem?_cons_succ, List.cons_append, List.nil_append, List.set_cons_zero, List.set_cons_succ, Nat.reduceAdd, Nat.reduceSub]
  rw [h0]
  refine mlook hr ?_
  show (match (!decide (look L j = [])) with | true => _ | false => _)
  rcases look_cases L j with e | ⟨c, e⟩
  · rw [decide_eq_true e]
    have t := tw_end (S := S) e
    rw [t, List.length_nil, Nat.add_zero] at hj
    subst hj
    exact k
  · rw [decide_eq_false (by rw [e]; simp)]
    refine mlook hr ?_
    rw [e]
    show (match decide (c ∈ S) with | true => _ | false => _)
    have t := tw_step (S := S) e
    by_cases q : c ∈ S
    · rw [decide_eq_true q]
      rw [if_pos q] at t
      refine ⟨a, dx, _, _, 1, _, rfl, hr.1, rfl, rfl, _, dx, _, rfl, hr.1, by show 2 < 1000; decide, _, ?_, j + 1, trivial, mupd_idem, rfl, ?_⟩
      · rw [t]; exact Nat.lt_succ_self _
      · rw [t, List.length_cons] at hj; omega
    · rw [decide_eq_false q]
      rw [if_neg q] at t
      rw [t, List.length_nil, Nat.add_zero] at hj
      subst hj
      exact k
def sp_Reading_word (A : Ad) : DSp := fun ds M Q _ => ∃ a dx L i, ds = [.ref a] ∧ Rdg A M a dx L i ∧ Q (.str (tw SMc L i)) (mupd M a (rdO A dx L (i + (tw SMc L i).length)))
def t_Reading_word (A : Ad) : DS := dSeq (dSet 1 (dFld A.cRd "at" (dVar 0))) (dSeq (dWhile (dAnd (dTest (dOp neD (dMeth A.cRd "look" (sp_Reading_look A) (dVar 0) (dNil)) (dC (.str [])))) (dTest (dOp inD (dMeth A.cRd "look" (sp_Reading_look A) (dVar 0) (dNil)) (dC c_SMALL)))) (dFldAug A.cRd "at" (dVar 0) (dC (.int 1)))) (dRet (dSl (dFld A.cRd "line" (dVar 0)) (dPart (dVar 1)) (dPart (dFld A.cRd "at" (dVar 0))))))
abbrev n_Reading_word : List Str := ["self", "begin"]
theorem pure_Reading_word {A : Ad} (ds M R EX) (h : sp_Reading_word A ds M R EX) : t_Reading_word A (fun C fs _ M' => WkX EX C fs M') (endsOf R) (startD n_Reading_word ds) M := by
  obtain ⟨a, dx, L, i, rfl, hr, k⟩ := h
  unfold t_Reading_word
  simp only [dVar, dC, dOp, dTest, dChain, dAnd, dOr, dNot, dAndV, dOrV, dNotV, dIfE, dNil, dCons, dTup, dLst, dNext, dSeq, dIfS, dRet, dRetN, dExpr, dBrk, dCnt, dSet, dNever, gN, gTp, gLs, gsNil, gsCons, dAsg, dCall, dRaise, dRaiseF, ixD, dSl, slD, dPart, dNoPart, dCB, lenD, minD, maxD, absD, intD, strD, tupleD, listD, dMt, dMt0, tyD, appendD, popD, joinD, splitD, countD, dIsi, tnD, isiT, gSb, setL, dFld, dFldSet, dMeth, dMake, dFldAug, dAug, dPar, dTru, dNeg, augAdd, intI, cmpI, startD, endsOf, List.map_cons, List.map_nil, List.length_cons, List.length_nil, List.replicate, List.getElem?_cons_zero, List.getElem?_cons_succ, List.cons_append, List.nil_append, List.set_cons_zero, List.set_cons_succ, Nat.reduceAdd, Nat.reduceSub]
  refine fat hr ?_
  refine scan_loop (A := A) (ρ := [some (.ref a), some (.int (i : Nat))]) (S := SMc) hr rfl ?_
  have h2 : Rdg A (mupd M a (rdO A dx L (i + (tw SMc L i).length))) a dx L (i + (tw SMc L i).length) := hr.upd
  refine fline h2 ?_
  refine fat h2 ?_
  refine ⟨by have : sizeLine = 16777216 := sizeLine_eq; have := hr.2; omega, Wk.self ?_⟩
  rw [tw_cut]
  exact k
def pL (L : List Nat) (i : Nat) : D × Nat :=
  if look L i = [39] then (if look L (i + 1 + (tw SGc L (i + 1)).length) = [39] then (.str (tw SGc L (i + 1)), i + 1 + (tw SGc L (i + 1)).length + 1) else (.non, i + 1 + (tw SGc L (i + 1)).length)) else (.non, i)
def sp_Reading_letters (A : Ad) : DSp := fun ds M Q _ => ∃ a dx L i, ds = [.ref a] ∧ Rdg A M a dx L i ∧ Q (pL L i).1 (mupd M a (rdO A dx L (pL L i).2))
def t_Reading_letters (A : Ad) : DS := dSeq (dIfS (dNot (dTest (dMeth A.cRd "skip" (sp_Reading_skip A) (dVar 0) (dCons (dC (.str [39])) (dNil))))) (dRet (dC .non)) (dNext)) (dSeq (dSet 1 (dFld A.cRd "at" (dVar 0))) (dSeq (dWhile (dAnd (dTest (dOp neD (dMeth A.cRd "look" (sp_Reading_look A) (dVar 0) (dNil)) (dC (.str [])))) (dTest (dOp inD (dMeth A.cRd "look" (sp_Reading_look A) (dVar 0) (dNil)) (dC c_SIGNS)))) (dFldAug A.cRd "at" (dVar 0) (dC (.int 1)))) (dSeq (dSet 2 (dSl (dFld A.cRd "line" (dVar 0)) (dPart (dVar 1)) (dPart (dFld A.cRd "at" (dVar 0))))) (dRet (dIfE (dTest (dMeth A.cRd "skip" (sp_Reading_skip A) (dVar 0) (dCons (dC (.str [39])) (dNil)))) (dVar 2) (dC .non))))))
abbrev n_Reading_letters : List Str := ["self", "begin", "found"]
theorem pure_Reading_letters {A : Ad} (ds M R EX) (h : sp_Reading_letters A ds M R EX) : t_Reading_letters A (fun C fs _ M' => WkX EX C fs M') (endsOf R) (startD n_Reading_letters ds) M := by
  obtain ⟨a, dx, L, i, rfl, hr, k⟩ := h
  unfold t_Reading_letters
  simp only [dVar, dC, dOp, dTest, dChain, dAnd, dOr, dNot, dAndV, dOrV, dNotV, dIfE, dNil, dCons, dTup, dLst, dNext, dSeq, dIfS, dRet, dRetN, dExpr, dBrk, dCnt, dSet, dNever, gN, gTp, gLs, gsNil, gsCons, dAsg, dCall, dRaise, dRaiseF, ixD, dSl, slD, dPart, dNoPart, dCB, lenD, minD, maxD, absD, intD, strD, tupleD, listD, dMt, dMt0, tyD, appendD, popD, joinD, splitD, countD, dIsi, tnD, isiT, gSb, setL, dFld, dFldSet, dMeth, dMake, dFldAug, dAug, dPar, dTru, dNeg, augAdd, intI, cmpI, startD, endsOf, List.map_cons, List.map_nil, List.length_cons, List.length_nil, List.replicate, List.getElem?_cons_zero, List.getElem?_cons_succ, List.cons_append, List.nil_append, List.set_cons_zero, List.set_cons_succ, Nat.reduceAdd, Nat.reduceSub]
  refine mskip hr ?_
  unfold pL at k
  unfold sk skj
  by_cases q : look L i = [39]
  · rw [if_pos q] at k ⊢
    rw [decide_eq_true q]
    have h1 : Rdg A (mupd M a (rdO A dx L (i + 1))) a dx L (i + 1) := hr.upd
    refine fat h1 ?_
    refine scan_loop (A := A) (ρ := [some (.ref a), some (.int (i + 1 : Nat)), none]) (S := SGc) h1 rfl ?_
    rw [mupd_idem]
    have h2 : Rdg A (mupd M a (rdO A dx L (i + 1 + (tw SGc L (i + 1)).length))) a dx L (i + 1 + (tw SGc L (i + 1)).length) := hr.upd
    refine fline h2 ?_
    refine fat h2 ?_
    refine ⟨by have : sizeLine = 16777216 := sizeLine_eq; have := hr.2; omega, ?_⟩
    rw [tw_cut]
    refine mskip h2 ?_
    unfold sk skj
    rw [mupd_idem]
    by_cases q2 : look L (i + 1 + (tw SGc L (i + 1)).length) = [39]
    · rw [if_pos q2] at k ⊢
      rw [decide_eq_true q2]
      exact Wk.self k
    · rw [if_neg q2] at k ⊢
      rw [decide_eq_false q2]
      exact Wk.self k
  · rw [if_neg q] at k ⊢
    rw [decide_eq_false q]
    exact Wk.self k
end DL

set_option Elab.async false
set_option linter.all false
set_option maxRecDepth 100000
set_option maxHeartbeats 1000000
namespace DL
open PySem L2
theorem msub_new {M : DM} {p : Addr} {o : MO} (h : M p = none) : MSub M (mupd M p o) := fun b o' e => by
  by_cases q : b = p
  · subst q; rw [h] at e; cases e
  · rw [mupd_ne q]; exact e
theorem mupd_comm {M : DM} {a p : Addr} {o o' : MO} (h : a ≠ p) : mupd (mupd M a o) p o' = mupd (mupd M p o') a o := by
  funext b
  by_cases q : b = p
  · subst q; rw [mupd_same, mupd_ne (Ne.symm h), mupd_same]
  · rw [mupd_ne q]
    by_cases q2 : b = a
    · subst q2; rw [mupd_same, mupd_same]
    · rw [mupd_ne q2, mupd_ne q2, mupd_ne q]
theorem mcall {A : Ad} {M : DM} {a dx : Addr} {L : List Nat} {i : Nat} {P : Prop} {m : Str} (h : Rdg A M a dx L i) (k : P) (hm : ¬ m ∈ (["line", "at"] : List Str) := by decide +kernel) : ∃ (a_1 dx : Addr) (ns : List Str) (ds : List D), D.ref a = .ref a_1 ∧ M a_1 = some (.ins A.cRd dx ns ds) ∧ ¬ m ∈ ns ∧ P :=
  ⟨a, dx, _, _, rfl, h.1, hm, k⟩
theorem flat_strs (ys : List (List Nat)) : (ys.map D.str).all flatD = true := by
  induction ys with
  | nil => rfl
  | cons y r ih => rw [List.map_cons, List.all_cons, ih]; rfl
theorem inF_strs (x : List Nat) (ys : List (List Nat)) : inF (.str x) (ys.map D.str) = decide (x ∈ ys) := by
  unfold inF
  induction ys with
  | nil => rfl
  | cons y r ih =>
    rw [List.map_cons, List.any_cons, ih]
    show ((y == x) || decide (x ∈ r)) = _
    by_cases q : y = x
    · subst q; simp
    · have : ¬ x = y := fun z => q z.symm
      simp [q, this]
theorem in_strs {x : List Nat} {ys : List (List Nat)} {M : DM} {R : DQ} (h : R (.bl (decide (x ∈ ys))) M) : inD (.str x) (.tup (ys.map D.str)) M R := by
  unfold inD inG
  simp only [flat_strs, inF_strs]
  exact h
theorem notIn_strs {x : List Nat} {ys : List (List Nat)} {M : DM} {R : DQ} (h : R (.bl (!decide (x ∈ ys))) M) : notInD (.str x) (.tup (ys.map D.str)) M R := by
  unfold notInD inG
  simp only [flat_strs, inF_strs]
  exact h
def BDc : List (List Nat) := [[48], [49], [50], [51], [52], [53], [54], [55], [56], [57], [45]]
def c_BOUNDS : D := .tup (BDc.map D.str)
def bnd (f : List Nat) : D := if f = [45] then .non else .int ((f.headD 48 : Nat) - 48 : Nat)
theorem bnd_run {f : List Nat} (h : f ∈ BDc) {M : DM} {R : DQ} (k : R (bnd f) M) : match decide (f = [45]) with
    | true => R .non M
    | false => ∃ n, intText? (sV f) = some n ∧ f.length ≤ 640 ∧ R (.int n) M := by
  unfold BDc at h
  simp only [List.mem_cons, List.not_mem_nil, or_false] at h
  rcases h with rfl | rfl | rfl | rfl | rfl | rfl | rfl | rfl | rfl | rfl | rfl
  all_goals first
    | exact ⟨_, by decide +kernel, by decide, k⟩
    | exact k
def pB (L : List Nat) (i : Nat) : D × Nat :=
  (if look L (i + 1) = [44] ∧ look L i ∈ BDc ∧ look L (skj L (i + 1) 44) ∈ BDc then .tup [bnd (look L i), bnd (look L (skj L (i + 1) 44))] else .non, skj L (i + 1) 44 + 1)
def sp_Reading_bounds (A : Ad) : DSp := fun ds M Q _ => ∃ a dx L i, ds = [.ref a] ∧ Rdg A M a dx L i ∧ Q (pB L i).1 (mupd M a (rdO A dx L (pB L i).2))
def t_Reading_bounds (A : Ad) : DS := dSeq (dSet 1 (dMeth A.cRd "look" (sp_Reading_look A) (dVar 0) (dNil))) (dSeq (dFldAug A.cRd "at" (dVar 0) (dC (.int 1))) (dSeq (dSet 2 (dMeth A.cRd "skip" (sp_Reading_skip A) (dVar 0) (dCons (dC (.str [44])) (dNil)))) (dSeq (dSet 3 (dMeth A.cRd "look" (sp_Reading_look A) (dVar 0) (dNil))) (dSeq (dFldAug A.cRd "at" (dVar 0) (dC (.int 1))) (dSeq (dIfS (dOr (dNot (dTest (dVar 2))) (dOr (dTest (dOp notInD (dVar 1) (dC c_BOUNDS))) (dTest (dOp notInD (dVar 3) (dC c_BOUNDS))))) (dRet (dC .non)) (dNext)) (dRet (dCB tupleD (dCons (dLc (dIter (dTup (dCons (dVar 1) (dCons (dVar 3) (dNil))))) (gN 4) (dYes) (dIfE (dTest (dOp eqD (dVar 4) (dC (.str [45])))) (dC .non) (dCB intD (dCons (dVar 4) (dNil)))) [4]) (dNil)))))))))
abbrev n_Reading_bounds : List Str := ["self", "first", "good", "second", "one"]
theorem pure_Reading_bounds {A : Ad} (ds M R EX) (h : sp_Reading_bounds A ds M R EX) : t_Reading_bounds A (fun C fs _ M' => WkX EX C fs M') (endsOf R) (startD n_Reading_bounds ds) M := by
  obtain ⟨a, dx, L, i, rfl, hr, k⟩ := h
  unfold t_Reading_bounds
  simp only [dVar, dC, dOp, dTest, dChain, dAnd, dOr, dNot, dAndV, dOrV, dNotV, dIfE, dNil, dCons, dTup, dLst, dNext, dSeq, dIfS, dRet, dRetN, dExpr, dBrk, dCnt, dSet, dNever, gN, gTp, gLs, gsNil, gsCons, dAsg, dCall, dRaise, dRaiseF, ixD, dSl, slD, dPart, dNoPart, dCB, lenD, minD, maxD, absD, intD, strD, tupleD, listD, dMt, dMt0, tyD, appendD, popD, joinD, splitD, countD, dIsi, tnD, isiT, gSb, setL, dFld, dFldSet, dMeth, dMake, dFldAug, dAug, dPar, dTru, dNeg, augAdd, intI, cmpI, startD, endsOf, List.map_cons, List.map_nil, List.length_cons, List.length_nil, List.replicate, List.getElem?_cons_zero, List.getElem?_cons_succ, List.cons_append, List.nil_append, List.set_cons_zero, List.set_cons_succ, Nat.reduceAdd, Nat.reduceSub]
  refine mlook hr ?_
  refine ⟨a, dx, _, _, 1, _, rfl, hr.1, rfl, rfl, _, dx, _, rfl, hr.1, by show 2 < 1000; decide, ?_⟩
  have h1 : Rdg A (mupd M a (rdO A dx L (i + 1))) a dx L (i + 1) := hr.upd
  refine mskip h1 ?_
  rw [mupd_idem]
  have h2 : Rdg A (mupd M a (rdO A dx L (skj L (i + 1) 44))) a dx L (skj L (i + 1) 44) := hr.upd
  refine mlook h2 ?_
  refine ⟨a, dx, _, _, 1, _, rfl, h2.1, rfl, rfl, _, dx, _, rfl, h2.1, by show 2 < 1000; decide, ?_⟩
  show (match (!sk L (i + 1) 44) with | true => _ | false => _)
  rw [show mupd (mupd M a (rdO A dx L (skj L (i + 1) 44))) a (MO.ins A.cRd dx ["line", "at"] ([D.str L, D.int ↑(skj L (i + 1) 44)].set 1 (D.int (↑(skj L (i + 1) 44) + 1)))) = mupd M a (rdO A dx L (skj L (i + 1) 44 + 1)) from mupd_idem]
  unfold pB at k
  by_cases q : look L (i + 1) = [44]
  · rw [show sk L (i + 1) 44 = true from decide_eq_true q]
    refine notIn_strs ?_
    by_cases q1 : look L i ∈ BDc
    · rw [decide_eq_true q1]
      refine notIn_strs ?_
      by_cases q2 : look L (skj L (i + 1) 44) ∈ BDc
      · rw [decide_eq_true q2]
        rw [if_pos ⟨q, q1, q2⟩] at k
        refine ⟨by show 2 ≤ sizeLine; decide, fun p hp => ?_⟩
        refine lcF_pure (f := fun x => match x with | .str f => bnd f | _ => .non) _ [] (by show 0 + 2 < sizeLine; decide) (fun _ => trivial) (fun x hx acc R' hR => ?_) ?_ (fun x ρ ρ' M P Q h k => h _ _ k) (fun ρ M P Q h k => h _ _ k)
        · simp only [List.mem_cons, List.not_mem_nil, or_false] at hx
          rcases hx with rfl | rfl
          · exact bnd_run q1 hR
          · exact bnd_run q2 hR
        · exact ⟨_, _, mupd_same, msub_new hp, Wk.self k⟩
      · rw [decide_eq_false q2]
        rw [if_neg (fun z => q2 z.2.2)] at k
        exact Wk.self k
    · rw [decide_eq_false q1]
      rw [if_neg (fun z => q1 z.2.1)] at k
      exact Wk.self k
  · rw [show sk L (i + 1) 44 = false from decide_eq_false q]
    rw [if_neg (fun z => q z.1)] at k
    exact Wk.self k
end DL

set_option Elab.async false
set_option linter.all false
set_option maxRecDepth 100000
set_option maxHeartbeats 1000000
namespace DL
open PySem L2
def tupsOf : D → List D
  | .tup ds => ds
  | _ => []
def pP (L : List Nat) (i : Nat) : D × Nat :=
  if isN (pL L i).1 = true ∨ look L (pL L i).2 ≠ [44] then (.non, (pL L i).2)
  else (if isN (pB L ((pL L i).2 + 1)).1 then .non else .tup ((pL L i).1 :: tupsOf (pB L ((pL L i).2 + 1)).1), (pB L ((pL L i).2 + 1)).2)
theorem pB_form (L : List Nat) (i : Nat) : (pB L i).1 = .non ∨ ∃ x y, (pB L i).1 = .tup [x, y] := by
  unfold pB
  split
  · exact .inr ⟨_, _, rfl⟩
  · exact .inl rfl
theorem pL_form (L : List Nat) (i : Nat) : (pL L i).1 = .non ∨ ∃ s, (pL L i).1 = .str s := by
  unfold pL
  split
  · split
    · exact .inr ⟨_, rfl⟩
    · exact .inl rfl
  · exact .inl rfl
theorem mlet {A : Ad} {M : DM} {a dx : Addr} {L : List Nat} {i : Nat} {R : DQ} {E : DX} (h : Rdg A M a dx L i) (k : R (pL L i).1 (mupd M a (rdO A dx L (pL L i).2))) : sp_Reading_letters A [.ref a] M R E := ⟨a, dx, L, i, rfl, h, k⟩
def sp_Reading_part (A : Ad) : DSp := fun ds M Q _ => ∃ a dx L i, ds = [.ref a] ∧ Rdg A M a dx L i ∧ Q (pP L i).1 (mupd M a (rdO A dx L (pP L i).2))
def t_Reading_part (A : Ad) : DS := dSeq (dSet 1 (dMeth A.cRd "letters" (sp_Reading_letters A) (dVar 0) (dNil))) (dSeq (dIfS (dOr (dTest (dOp isD (dVar 1) (dC .non))) (dNot (dTest (dMeth A.cRd "skip" (sp_Reading_skip A) (dVar 0) (dCons (dC (.str [44])) (dNil)))))) (dRet (dC .non)) (dNext)) (dSeq (dSet 2 (dMeth A.cRd "bounds" (sp_Reading_bounds A) (dVar 0) (dNil))) (dRet (dIfE (dTest (dOp isD (dVar 2) (dC .non))) (dC .non) (dOp addD (dTup (dCons (dVar 1) (dNil))) (dVar 2))))))
abbrev n_Reading_part : List Str := ["self", "found", "rest"]
theorem pure_Reading_part {A : Ad} (ds M R EX) (h : sp_Reading_part A ds M R EX) : t_Reading_part A (fun C fs _ M' => WkX EX C fs M') (endsOf R) (startD n_Reading_part ds) M := by
  obtain ⟨a, dx, L, i, rfl, hr, k⟩ := h
  unfold t_Reading_part
  simp only [dVar, dC, dOp, dTest, dChain, dAnd, dOr, dNot, dAndV, dOrV, dNotV, dIfE, dNil, dCons, dTup, dLst, dNext, dSeq, dIfS, dRet, dRetN, dExpr, dBrk, dCnt, dSet, dNever, gN, gTp, gLs, gsNil, gsCons, dAsg, dCall, dRaise, dRaiseF, ixD, dSl, slD, dPart, dNoPart, dCB, lenD, minD, maxD, absD, intD, strD, tupleD, listD, dMt, dMt0, tyD, appendD, popD, joinD, splitD, countD, dIsi, tnD, isiT, gSb, setL, dFld, dFldSet, dMeth, dMake, dFldAug, dAug, dPar, dTru, dNeg, augAdd, intI, cmpI, startD, endsOf, List.map_cons, List.map_nil, List.length_cons, List.length_nil, List.replicate, List.getElem?_cons_zero, List.getElem?_cons_succ, List.cons_append, List.nil_append, List.set_cons_zero, List.set_cons_succ, Nat.reduceAdd, Nat.reduceSub]
  refine mcall hr (mlet hr ?_)
  show (match isN (pL L i).1 with | true => _ | false => _)
  have h1 : Rdg A (mupd M a (rdO A dx L (pL L i).2)) a dx L (pL L i).2 := hr.upd
  unfold pP at k
  rcases pL_form L i with e | ⟨s, e⟩
  · rw [if_pos (.inl (by rw [e]; rfl))] at k
    rw [e]
    exact Wk.self k
  · rw [e]
    rw [e] at k
    refine mskip h1 ?_
    rw [mupd_idem]
    unfold sk skj
    by_cases q : look L (pL L i).2 = [44]
    · rw [if_pos q, decide_eq_true q]
      rw [if_neg (by intro z; rcases z with z | z; exact Bool.noConfusion (show false = true from z); exact z q)] at k
      have h2 : Rdg A (mupd M a (rdO A dx L ((pL L i).2 + 1))) a dx L ((pL L i).2 + 1) := hr.upd
      refine mcall h2 ⟨a, dx, L, _, rfl, h2, ?_⟩
      rw [mupd_idem]
      rcases pB_form L ((pL L i).2 + 1) with e2 | ⟨x, y, e2⟩
      · rw [e2] at k ⊢
        exact Wk.self k
      · rw [e2] at k ⊢
        exact ⟨by show 1 ≤ sizeLine; decide, by show 1 + 2 ≤ sizeLine; decide, Wk.self k⟩
    · rw [if_neg q, decide_eq_false q]
      rw [if_pos (.inr q)] at k
      exact Wk.self k
inductive PTail (P : Nat → D → Nat → Prop) (L : List Nat) : D → Nat → List D → Nat → Prop
  | stop {d : D} {j : Nat} : (isN d = true ∨ look L j ≠ [59]) → PTail P L d j [] j
  | more {d d' : D} {j j' k : Nat} {ds : List D} : isN d = false → look L j = [59] → P (j + 1) d' j' → PTail P L d' j' ds k → PTail P L d j (d' :: ds) k
def PSep (P : Nat → D → Nat → Prop) (L : List Nat) (i : Nat) (ds : List D) (k : Nat) : Prop := ∃ d j r, P i d j ∧ PTail P L d j r k ∧ ds = d :: r
def lastN : List D → Bool
  | [] => true
  | [d] => isN d
  | _ :: d :: r => lastN (d :: r)
def resD (ds : List D) : D := if lastN ds then .non else .tup ds
theorem look_lt {L : List Nat} {j c : Nat} (h : look L j = [c]) : j < L.length := by
  unfold look at h
  refine Nat.lt_of_not_le fun q => ?_
  rw [List.drop_eq_nil_of_le q] at h
  cases h
theorem PTail.len {P : Nat → D → Nat → Prop} {L : List Nat} (mono : ∀ i d j, P i d j → i ≤ j) {d : D} {j k : Nat} {ds : List D} (h : PTail P L d j ds k) : ds.length ≤ L.length - j ∧ j ≤ k := by
  induction h with
  | stop _ => exact ⟨Nat.zero_le _, Nat.le_refl _⟩
  | more _ e p _ ih =>
    have h1 := look_lt e
    have h2 := mono _ _ _ p
    rw [List.length_cons]
    omega
def HP (A : Ad) (M : DM) (a p dx : Addr) (L : List Nat) (j : Nat) (ds : List D) : DM := mupd (mupd M a (rdO A dx L j)) p (.lst ds)
section
variable {A : Ad} {M : DM} {a p dx : Addr} {L : List Nat} {j j' : Nat} {ds ds' : List D}
theorem HP.rdg (h : a ≠ p) (hl : L.length ≤ 100000) : Rdg A (HP A M a p dx L j ds) a dx L j := ⟨by unfold HP; rw [mupd_ne h, mupd_same], hl⟩
theorem HP.step (h : a ≠ p) : mupd (HP A M a p dx L j ds) a (rdO A dx L j') = HP A M a p dx L j' ds := by
  unfold HP
  rw [← mupd_comm h, mupd_idem]
theorem HP.put : mupd (HP A M a p dx L j ds) p (.lst ds') = HP A M a p dx L j ds' := mupd_idem
theorem HP.at : HP A M a p dx L j ds p = some (.lst ds) := mupd_same
end
theorem atI_last (xs : List D) (d : D) : atI (xs ++ [d]) (-1) = some d := by
  unfold atI ixN
  rw [if_neg (by decide), if_pos (by simp; omega)]
  simp only [List.length_append, List.length_cons, List.length_nil, Option.bind_some]
  rw [show (-1 + ((xs.length + (0 + 1) : Nat) : Int)).toNat = xs.length from by omega]
  simp
theorem lastN_app (xs : List D) (d : D) : lastN (xs ++ [d]) = isN d := by
  induction xs with
  | nil => rfl
  | cons x r ih =>
    cases r with
    | nil => rfl
    | cons y r => exact ih
theorem sep_loop {A : Ad} {P : Nat → D → Nat → Prop} {m : Str} {sp : DSp} {L : List Nat} {M : DM} {a p dx : Addr} {W : DW} {E : DEnds} {ρ : Env} {d : D} {j k : Nat} {r : List D}
    (hsp : ∀ M i d j R EX, Rdg A M a dx L i → P i d j → R d (mupd M a (rdO A dx L j)) → sp [.ref a] M R EX) (hm : ¬ m ∈ (["line", "at"] : List Str)) (mono : ∀ i d j, P i d j → i ≤ j) (hne : a ≠ p) (hL : L.length ≤ 100000)
    (h0 : ρ[0]? = some (some (.ref a))) (h1 : ρ[1]? = some (some (.ref p))) (h : PTail P L d j r k) (fin : E.nx ρ (HP A M a p dx L k (d :: r))) :
    dWhile (dAnd (dTest (dOp isNotD (dOp ixD (dVar 1) (dNeg (dC (.int 1)))) (dC .non))) (dTest (dMeth A.cRd "skip" (sp_Reading_skip A) (dVar 0) (dCons (dC (.str [59])) dNil)))) (dExpr (dMt "list" appendD (dVar 1) (dCons (dMeth A.cRd m sp (dVar 0) dNil) dNil))) W E ρ (HP A M a p dx L j [d]) := by
  have hlen := (h.len mono).1
  refine ⟨fun n ρ' M' => ∃ acc d' j' r', ρ' = ρ ∧ M' = HP A M a p dx L j' (acc ++ [d']) ∧ PTail P L d' j' r' k ∧ acc ++ d' :: r' = d :: r ∧ n = r'.length, ⟨_, [], d, j, r, rfl, rfl, h, rfl, rfl⟩, ?_⟩
  rintro n ρ' M' ⟨acc, d', j', r', rfl, rfl, ht, he, rfl⟩
  have hr : Rdg A (HP A M a p dx L j' (acc ++ [d'])) a dx L j' := HP.rdg hne hL
  simp only [dVar, dC, dOp, dTest, dChain, dAnd, dOr, dNot, dAndV, dOrV, dNotV, dIfE, dNil, dCons, dTup, dLst, dNext, dSeq, dIfS, dRet, dRetN, dExpr, dBrk, dCnt, dSet, dNever, gN, gTp, gLs, gsNil, gsCons, dAsg, dCall, dRaise, dRaiseF, ixD, dSl, slD, dPart, dNoPart, dCB, lenD, minD, maxD, absD, intD, strD, tupleD, listD, dMt, dMt0, tyD, appendD, popD, joinD, splitD, countD, dIsi, tnD, isiT, gSb, setL, dFld, dFldSet, dMeth, dMake, dFldAug, dAug, dPar, dTru, dNeg, augAdd, intI, cmpI, startD, endsOf, List.map_cons, List.map_nil, List.length_cons, List.length_nil, List.replicate, List.getElem?_cons_zero, List.getElem?_cons_succ, List.cons_append, List.nil_append, List.set_cons_zero, List.set_cons_succ, Nat.reduceAdd, Nat.reduceSub]
  rw [h1]
  refine ⟨_, _, HP.at, atI_last _ _, ?_⟩
  show (match (!isN d') with | true => _ | false => _)
  rw [h0]
  cases ht with
  | stop q =>
    cases e : isN d' with
    | true =>
      rw [← he] at fin
      exact fin
    | false =>
      have q2 := q.resolve_left (by rw [e]; decide)
      refine mskip hr ?_
      unfold sk skj
      rw [if_neg q2, decide_eq_false q2, HP.step hne]
      rw [← he] at fin
      exact fin
  | more e1 e2 hp ht =>
    rename_i d2 j2 ds2
    rw [e1]
    refine mskip hr ?_
    unfold sk skj
    rw [if_pos e2, decide_eq_true e2, HP.step hne]
    refine ⟨.inl ⟨trivial, _, HP.at⟩, mcall (HP.rdg hne hL) (hsp _ _ _ _ _ _ (HP.rdg hne hL) hp ?_) hm⟩
    rw [HP.step hne]
    refine ⟨_, HP.at, ?_, ?_⟩
    · have : (d :: r).length = acc.length + (ds2.length + 2) := by rw [← he]; simp
      have z : sizeLine = 16777216 := sizeLine_eq
      rw [List.length_cons] at this
      rw [List.length_append, List.length_cons, List.length_nil]
      omega
    · rw [HP.put]
      exact ⟨_, Nat.lt_succ_self _, acc ++ [d'], d2, j2, ds2, trivial, rfl, ht, by rw [← he]; simp, rfl⟩
end DL

set_option Elab.async false
set_option linter.all false
set_option maxRecDepth 100000
set_option maxHeartbeats 1000000
namespace DL
open PySem L2
def isP (L : List Nat) (i : Nat) (d : D) (j : Nat) : Prop := pP L i = (d, j)
theorem pL_mono (L : List Nat) (i : Nat) : i ≤ (pL L i).2 := by
  unfold pL
  split
  · split <;> (simp only; omega)
  · exact Nat.le_refl _
theorem pB_mono (L : List Nat) (i : Nat) : i ≤ (pB L i).2 := by
  unfold pB skj
  simp only
  split <;> omega
theorem pP_mono (L : List Nat) (i : Nat) : i ≤ (pP L i).2 := by
  have h1 := pL_mono L i
  have h2 := pB_mono L ((pL L i).2 + 1)
  unfold pP
  split
  · exact h1
  · simp only; omega
theorem isP_mono {L : List Nat} : ∀ i d j, isP L i d j → i ≤ j := fun i d j h => by
  have := pP_mono L i
  rw [show pP L i = (d, j) from h] at this
  exact this
theorem ret_res {R : DQ} {A : Ad} {M : DM} {a p dx : Addr} {L : List Nat} {k : Nat} {d : D} {r : List D} (hp : mupd M a (rdO A dx L k) p = none) (h : R (resD (d :: r)) (mupd M a (rdO A dx L k))) :
    ∃ ds x, HP A M a p dx L k (d :: r) p = some (.lst ds) ∧ atI ds (-1) = some x ∧ match isN x with
      | true => Wk R .non (HP A M a p dx L k (d :: r))
      | false => ∃ xs M2, HP A M a p dx L k (d :: r) p = some (.lst xs) ∧ MSub M2 (HP A M a p dx L k (d :: r)) ∧ Wk R (.tup xs) M2 := by
  obtain ⟨xs, x, e⟩ : ∃ xs x, d :: r = xs ++ [x] := ⟨(d :: r).dropLast, (d :: r).getLast (by simp), (List.dropLast_concat_getLast (by simp)).symm⟩
  rw [e] at h ⊢
  refine ⟨_, x, HP.at, atI_last _ _, ?_⟩
  unfold resD at h
  rw [lastN_app] at h
  cases q : isN x with
  | true => rw [q] at h; exact ⟨_, msub_new hp, h⟩
  | false => rw [q] at h; exact ⟨_, _, HP.at, msub_new hp, Wk.self h⟩
def sp_Reading_parts (A : Ad) : DSp := fun ds M Q _ => ∃ a dx L i xs k, ds = [.ref a] ∧ Rdg A M a dx L i ∧ PSep (isP L) L i xs k ∧ Q (resD xs) (mupd M a (rdO A dx L k))
def t_Reading_parts (A : Ad) : DS := dSeq (dSet 1 (dLst (dCons (dMeth A.cRd "part" (sp_Reading_part A) (dVar 0) (dNil)) (dNil)))) (dSeq (dWhile (dAnd (dTest (dOp isNotD (dOp ixD (dVar 1) (dNeg (dC (.int 1)))) (dC .non))) (dTest (dMeth A.cRd "skip" (sp_Reading_skip A) (dVar 0) (dCons (dC (.str [59])) (dNil))))) (dExpr (dMt "list" appendD (dVar 1) (dCons (dMeth A.cRd "part" (sp_Reading_part A) (dVar 0) (dNil)) (dNil))))) (dRet (dIfE (dTest (dOp isD (dOp ixD (dVar 1) (dNeg (dC (.int 1)))) (dC .non))) (dC .non) (dCB tupleD (dCons (dVar 1) (dNil))))))
abbrev n_Reading_parts : List Str := ["self", "found"]
theorem gone {A : Ad} {M : DM} {a p dx : Addr} {L : List Nat} {j k : Nat} {o : MO} (h : mupd M a (rdO A dx L j) p = none) : a ≠ p ∧ mupd M a (rdO A dx L k) p = none := by
  have h1 : a ≠ p := fun z => by subst z; rw [mupd_same] at h; cases h
  refine ⟨h1, ?_⟩
  rw [mupd_ne h1.symm] at h ⊢
  exact h
theorem pure_Reading_parts {A : Ad} (ds M R EX) (h : sp_Reading_parts A ds M R EX) : t_Reading_parts A (fun C fs _ M' => WkX EX C fs M') (endsOf R) (startD n_Reading_parts ds) M := by
  obtain ⟨a, dx, L, i, xs, k, rfl, hr, ⟨d, j, r, hd, ht, rfl⟩, hk⟩ := h
  unfold t_Reading_parts
  simp only [dVar, dC, dOp, dTest, dChain, dAnd, dOr, dNot, dAndV, dOrV, dNotV, dIfE, dNil, dCons, dTup, dLst, dNext, dSeq, dIfS, dRet, dRetN, dExpr, dBrk, dCnt, dSet, dNever, gN, gTp, gLs, gsNil, gsCons, dAsg, dCall, dRaise, dRaiseF, ixD, dSl, slD, dPart, dNoPart, dCB, lenD, minD, maxD, absD, intD, strD, tupleD, listD, dMt, dMt0, tyD, appendD, popD, joinD, splitD, countD, dIsi, tnD, isiT, gSb, setL, dFld, dFldSet, dMeth, dMake, dFldAug, dAug, dPar, dTru, dNeg, augAdd, intI, cmpI, startD, endsOf, List.map_cons, List.map_nil, List.length_cons, List.length_nil, List.replicate, List.getElem?_cons_zero, List.getElem?_cons_succ, List.cons_append, List.nil_append, List.set_cons_zero, List.set_cons_succ, Nat.reduceAdd, Nat.reduceSub]
  have hd' : pP L i = (d, j) := hd
  refine mcall hr ⟨a, dx, L, i, rfl, hr, ?_⟩
  rw [hd']
  refine ⟨by show 1 ≤ sizeLine; decide, fun p hp => ?_⟩
  obtain ⟨hne, hp2⟩ := gone (k := k) (o := .lst []) hp
  refine sep_loop (P := isP L) (m := "part") (sp := sp_Reading_part A) (ρ := [some (.ref a), some (.ref p)]) (k := k) (fun M i d j R EX hr hp hR => ⟨a, dx, L, i, rfl, hr, by rw [show pP L i = (d, j) from hp]; exact hR⟩) (by decide +kernel) isP_mono hne hr.2 rfl rfl ht ?_
  exact ret_res hp2 hk
inductive POpt (L : List Nat) : Nat → List (List Nat) → Nat → Prop
  | one {i : Nat} : look L (i + (tw SMc L i).length) ≠ [44] → POpt L i [tw SMc L i] (i + (tw SMc L i).length)
  | more {i k : Nat} {ws : List (List Nat)} : look L (i + (tw SMc L i).length) = [44] → POpt L (i + (tw SMc L i).length + 1) ws k → POpt L i (tw SMc L i :: ws) k
theorem POpt.len {L : List Nat} {i k : Nat} {ws : List (List Nat)} (h : POpt L i ws k) : ws.length ≤ L.length - i + 1 ∧ i ≤ k := by
  induction h with
  | one _ => exact ⟨by simp, by omega⟩
  | more e _ ih =>
    have := look_lt e
    rw [List.length_cons]
    omega
def sp_Reading_options (A : Ad) : DSp := fun ds M Q _ => ∃ a dx L i ws k, ds = [.ref a] ∧ Rdg A M a dx L i ∧ POpt L i ws k ∧ Q (.tup (ws.map D.str)) (mupd M a (rdO A dx L k))
def t_Reading_options (A : Ad) : DS := dSeq (dSet 1 (dLst (dCons (dMeth A.cRd "word" (sp_Reading_word A) (dVar 0) (dNil)) (dNil)))) (dSeq (dWhile (dTest (dMeth A.cRd "skip" (sp_Reading_skip A) (dVar 0) (dCons (dC (.str [44])) (dNil)))) (dExpr (dMt "list" appendD (dVar 1) (dCons (dMeth A.cRd "word" (sp_Reading_word A) (dVar 0) (dNil)) (dNil))))) (dRet (dCB tupleD (dCons (dVar 1) (dNil)))))
abbrev n_Reading_options : List Str := ["self", "found"]
theorem pure_Reading_options {A : Ad} (ds M R EX) (h : sp_Reading_options A ds M R EX) : t_Reading_options A (fun C fs _ M' => WkX EX C fs M') (endsOf R) (startD n_Reading_options ds) M := by
  obtain ⟨a, dx, L, i, ws, k, rfl, hr, ho, hk⟩ := h
  have hlen := ho.len.1
  unfold t_Reading_options
  simp only [dVar, dC, dOp, dTest, dChain, dAnd, dOr, dNot, dAndV, dOrV, dNotV, dIfE, dNil, dCons, dTup, dLst, dNext, dSeq, dIfS, dRet, dRetN, dExpr, dBrk, dCnt, dSet, dNever, gN, gTp, gLs, gsNil, gsCons, dAsg, dCall, dRaise, dRaiseF, ixD, dSl, slD, dPart, dNoPart, dCB, lenD, minD, maxD, absD, intD, strD, tupleD, listD, dMt, dMt0, tyD, appendD, popD, joinD, splitD, countD, dIsi, tnD, isiT, gSb, setL, dFld, dFldSet, dMeth, dMake, dFldAug, dAug, dPar, dTru, dNeg, augAdd, intI, cmpI, startD, endsOf, List.map_cons, List.map_nil, List.length_cons, List.length_nil, List.replicate, List.getElem?_cons_zero, List.getElem?_cons_succ, List.cons_append, List.nil_append, List.set_cons_zero, List.set_cons_succ, Nat.reduceAdd, Nat.reduceSub]
  refine mcall hr ⟨a, dx, L, i, rfl, hr, ?_⟩
  refine ⟨by show 1 ≤ sizeLine; decide, fun p hp => ?_⟩
  obtain ⟨hne, hp2⟩ := gone (k := k) (o := .lst []) hp
  have hL := hr.2
  refine ⟨fun n ρ' M' => ∃ acc w j' r', ρ' = [some (.ref a), some (.ref p)] ∧ M' = HP A M a p dx L j' ((acc ++ [w]).map D.str) ∧ ((r' = [] ∧ look L j' ≠ [44] ∧ j' = k) ∨ (look L j' = [44] ∧ POpt L (j' + 1) r' k)) ∧ acc ++ w :: r' = ws ∧ n = r'.length, ?_, ?_⟩
  · cases ho with
    | one q => exact ⟨_, [], _, _, [], rfl, rfl, .inl ⟨rfl, q, rfl⟩, rfl, rfl⟩
    | more q h2 => exact ⟨_, [], _, _, _, rfl, rfl, .inr ⟨q, h2⟩, rfl, rfl⟩
  · rintro n ρ' M' ⟨acc, w, j', r', rfl, rfl, hh, he, rfl⟩
    have hr2 : Rdg A (HP A M a p dx L j' ((acc ++ [w]).map D.str)) a dx L j' := HP.rdg hne hL
    simp only [dVar, dC, dOp, dTest, dChain, dAnd, dOr, dNot, dAndV, dOrV, dNotV, dIfE, dNil, dCons, dTup, dLst, dNext, dSeq, dIfS, dRet, dRetN, dExpr, dBrk, dCnt, dSet, dNever, gN, gTp, gLs, gsNil, gsCons, dAsg, dCall, dRaise, dRaiseF, ixD, dSl, slD, dPart, dNoPart, dCB, lenD, minD, maxD, absD, intD, strD, tupleD, listD, dMt, dMt0, tyD, appendD, popD, joinD, splitD, countD, dIsi, tnD, isiT, gSb, setL, dFld, dFldSet, dMeth, dMake, dFldAug, dAug, dPar, dTru, dNeg, augAdd, intI, cmpI, startD, endsOf, List.map_cons, List.map_nil, List.length_cons, List.length_nil, List.replicate, List.getElem?_cons_zero, List.getElem?_cons_succ, List.cons_append, List.nil_append, List.set_cons_zero, List.set_cons_succ, Nat.reduceAdd, Nat.reduceSub]
    refine mskip hr2 ?_
    unfold sk skj
    rw [HP.step hne]
    rcases hh with ⟨rfl, q, rfl⟩ | ⟨q, h2⟩
    · rw [if_neg q, decide_eq_false q]
      rw [← he] at hk
      exact ⟨_, _, HP.at, msub_new hp2, Wk.self hk⟩
    · rw [if_pos q, decide_eq_true q]
      refine ⟨.inl ⟨trivial, _, HP.at⟩, mcall (HP.rdg hne hL) ⟨a, dx, L, _, rfl, HP.rdg hne hL, ?_⟩⟩
      rw [HP.step hne]
      refine ⟨_, HP.at, ?_, ?_⟩
      · have : ws.length = acc.length + (r'.length + 1) := by rw [← he]; simp
        have z : sizeLine = 16777216 := sizeLine_eq
        rw [List.length_map, List.length_append, List.length_cons, List.length_nil]
        omega
      · rw [HP.put]
        cases h2 with
        | one q2 => exact ⟨0, by simp, acc ++ [w], tw SMc L (j' + 1), _, [], trivial, by simp, .inl ⟨rfl, q2, rfl⟩, by rw [← he]; simp, rfl⟩
        | more q2 h3 => exact ⟨_, by simp, acc ++ [w], tw SMc L (j' + 1), _, _, trivial, by simp, .inr ⟨q2, h3⟩, by rw [← he]; simp, rfl⟩
end DL

set_option Elab.async false
set_option linter.all false
set_option maxRecDepth 100000
set_option maxHeartbeats 1000000
namespace DL
open PySem L2
abbrev PR := Nat → D → Nat → Prop
def w_long : List Nat := [108, 111, 110, 103]
def w_shape : List Nat := [115, 104, 97, 112, 101]
def w_tries : List Nat := [116, 114, 105, 101, 115]
def w_no : List Nat := [110, 111]
def w_all : List Nat := [97, 108, 108]
def w_some : List Nat := [115, 111, 109, 101]
def PLc : List (List Nat) := [[115, 105, 103, 110, 115], [98, 101, 103, 105, 110, 115], [101, 110, 100, 115]]
def WDc : List (List Nat) := PLc ++ [w_long, w_shape, w_tries, w_no, w_all, w_some]
def c_WORDS : D := .tup (WDc.map D.str)
def wrapD (d : D) : D := if isN d then .non else .tup [d]
def PKs (rec : PR) (L : List Nat) (i : Nat) (d : D) (k : Nat) : Prop :=
  (look L i = [41] ∧ d = .tup [] ∧ k = i) ∨ (look L i ≠ [41] ∧ ∃ ds, PSep rec L i ds k ∧ d = resD ds)
def PI (rec : PR) (w L : List Nat) (i : Nat) (d : D) (k : Nat) : Prop :=
  if w = w_long then pB L i = (d, k) else
  ∃ f, d = wrapD f ∧ (if w ∈ PLc then pL L i = (f, k) else if w = w_shape then ∃ ds, PSep (isP L) L i ds k ∧ f = resD ds
    else if w = w_tries then ∃ ws, POpt L i ws k ∧ f = .tup (ws.map D.str) else if w = w_no then rec i f k else PKs rec L i f k)
def PCof (rec : PR) (L : List Nat) (i : Nat) (d : D) (k : Nat) : Prop :=
  if tw SMc L i ∈ WDc ∧ look L (i + (tw SMc L i).length) = [40] then
    ∃ x j, PI rec (tw SMc L i) L (i + (tw SMc L i).length + 1) x j ∧
      (if isN x = true ∨ look L j ≠ [41] then d = .non ∧ k = j else ∃ xs, x = .tup xs ∧ xs.length ≤ 2 ∧ d = .tup (.str (tw SMc L i) :: xs) ∧ k = j + 1)
  else d = .non ∧ k = i + (tw SMc L i).length
def PC (L : List Nat) : Nat → PR
  | 0 => PCof (fun _ _ _ => False) L
  | n + 1 => PCof (PC L n) L
def spO (A : Ad) (rec : List Nat → PR) : DSp := fun ds M Q _ => ∃ a dx L i d k, ds = [.ref a] ∧ Rdg A M a dx L i ∧ rec L i d k ∧ Q d (mupd M a (rdO A dx L k))
abbrev Mono (rec : List Nat → PR) : Prop := ∀ L i d j, rec L i d j → i ≤ j
def sp_Reading_checks (A : Ad) (rec : List Nat → PR) : DSp := spO A fun L => PKs (rec L) L
def sp_Reading_inner (A : Ad) (rec : List Nat → PR) : DSp := fun ds M Q _ => ∃ a dx L i w d k, ds = [.ref a, .str w] ∧ Rdg A M a dx L i ∧ PI (rec L) w L i d k ∧ Q d (mupd M a (rdO A dx L k))
def t_Reading_checks (A : Ad) (rec : List Nat → PR) : DS := dSeq (dIfS (dTest (dOp eqD (dMeth A.cRd "look" (sp_Reading_look A) (dVar 0) (dNil)) (dC (.str [41])))) (dRet (dTup (dNil))) (dNext)) (dSeq (dSet 1 (dLst (dCons (dMeth A.cRd "one_check" (spO A rec) (dVar 0) (dNil)) (dNil)))) (dSeq (dWhile (dAnd (dTest (dOp isNotD (dOp ixD (dVar 1) (dNeg (dC (.int 1)))) (dC .non))) (dTest (dMeth A.cRd "skip" (sp_Reading_skip A) (dVar 0) (dCons (dC (.str [59])) (dNil))))) (dExpr (dMt "list" appendD (dVar 1) (dCons (dMeth A.cRd "one_check" (spO A rec) (dVar 0) (dNil)) (dNil))))) (dRet (dIfE (dTest (dOp isD (dOp ixD (dVar 1) (dNeg (dC (.int 1)))) (dC .non))) (dC .non) (dCB tupleD (dCons (dVar 1) (dNil)))))))
abbrev n_Reading_checks : List Str := ["self", "found"]
def t_Reading_inner (A : Ad) (rec : List Nat → PR) : DS := dSeq (dIfS (dTest (dOp eqD (dVar 1) (dC (.str [108, 111, 110, 103])))) (dRet (dMeth A.cRd "bounds" (sp_Reading_bounds A) (dVar 0) (dNil))) (dNext)) (dSeq (dIfS (dTest (dOp inD (dVar 1) (dC c_PLAIN))) (dSet 2 (dMeth A.cRd "letters" (sp_Reading_letters A) (dVar 0) (dNil))) (dIfS (dTest (dOp eqD (dVar 1) (dC (.str [115, 104, 97, 112, 101])))) (dSet 2 (dMeth A.cRd "parts" (sp_Reading_parts A) (dVar 0) (dNil))) (dIfS (dTest (dOp eqD (dVar 1) (dC (.str [116, 114, 105, 101, 115])))) (dSet 2 (dMeth A.cRd "options" (sp_Reading_options A) (dVar 0) (dNil))) (dIfS (dTest (dOp eqD (dVar 1) (dC (.str [110, 111])))) (dSet 2 (dMeth A.cRd "one_check" (spO A rec) (dVar 0) (dNil))) (dSet 2 (dMeth A.cRd "checks" (sp_Reading_checks A rec) (dVar 0) (dNil))))))) (dRet (dIfE (dTest (dOp isD (dVar 2) (dC .non))) (dC .non) (dTup (dCons (dVar 2) (dNil))))))
abbrev n_Reading_inner : List Str := ["self", "word", "found"]
def t_Reading_one_check (A : Ad) (rec : List Nat → PR) : DS := dSeq (dSet 1 (dMeth A.cRd "word" (sp_Reading_word A) (dVar 0) (dNil))) (dSeq (dIfS (dOr (dTest (dOp notInD (dVar 1) (dC c_WORDS))) (dNot (dTest (dMeth A.cRd "skip" (sp_Reading_skip A) (dVar 0) (dCons (dC (.str [40])) (dNil)))))) (dRet (dC .non)) (dNext)) (dSeq (dSet 2 (dMeth A.cRd "inner" (sp_Reading_inner A rec) (dVar 0) (dCons (dVar 1) (dNil)))) (dSeq (dIfS (dOr (dTest (dOp isD (dVar 2) (dC .non))) (dNot (dTest (dMeth A.cRd "skip" (sp_Reading_skip A) (dVar 0) (dCons (dC (.str [41])) (dNil)))))) (dRet (dC .non)) (dNext)) (dRet (dOp addD (dTup (dCons (dVar 1) (dNil))) (dVar 2))))))
abbrev n_Reading_one_check : List Str := ["self", "word", "found"]
theorem pure_Reading_checks {A : Ad} {rec : List Nat → PR} (mono : Mono rec) (ds M R EX) (h : sp_Reading_checks A rec ds M R EX) : t_Reading_checks A rec (fun C fs _ M' => WkX EX C fs M') (endsOf R) (startD n_Reading_checks ds) M := by
  obtain ⟨a, dx, L, i, d, k, rfl, hr, hk, hR⟩ := h
  unfold t_Reading_checks
  simp only [dVar, dC, dOp, dTest, dChain, dAnd, dOr, dNot, dAndV, dOrV, dNotV, dIfE, dNil, dCons, dTup, dLst, dNext, dSeq, dIfS, dRet, dRetN, dExpr, dBrk, dCnt, dSet, dNever, gN, gTp, gLs, gsNil, gsCons, dAsg, dCall, dRaise, dRaiseF, ixD, dSl, slD, dPart, dNoPart, dCB, lenD, minD, maxD, absD, intD, strD, tupleD, listD, dMt, dMt0, tyD, appendD, popD, joinD, splitD, countD, dIsi, tnD, isiT, gSb, setL, dFld, dFldSet, dMeth, dMake, dFldAug, dAug, dPar, dTru, dNeg, augAdd, intI, cmpI, startD, endsOf, List.map_cons, List.map_nil, List.length_cons, List.length_nil, List.replicate, List.getElem?_cons_zero, List.getElem?_cons_succ, List.cons_append, List.nil_append, List.set_cons_zero, List.set_cons_succ, Nat.reduceAdd, Nat.reduceSub]
  refine mlook hr ?_
  show (match decide (look L i = [41]) with | true => _ | false => _)
  rcases hk with ⟨q, rfl, rfl⟩ | ⟨q, ds, ⟨d, j, r, hd, ht, rfl⟩, rfl⟩
  · rw [decide_eq_true q]
    rw [mupd_self hr.1] at hR
    exact ⟨by decide, Wk.self hR⟩
  · rw [decide_eq_false q]
    refine mcall hr ⟨a, dx, L, i, d, j, rfl, hr, hd, ?_⟩
    refine ⟨by show 1 ≤ sizeLine; decide, fun p hp => ?_⟩
    obtain ⟨hne, hp2⟩ := gone (k := k) (o := .lst []) hp
    refine sep_loop (P := rec L) (m := "one_check") (sp := spO A rec) (ρ := [some (.ref a), some (.ref p)]) (k := k) (fun M i d j R EX hr hp hR => ⟨a, dx, L, i, d, j, rfl, hr, hp, hR⟩) (by decide +kernel) (mono L) hne hr.2 rfl rfl ht ?_
    exact ret_res hp2 hR
theorem wrap_ret {R : DQ} {f : D} {M : DM} (h : R (wrapD f) M) : match isN f with
    | true => Wk R .non M
    | false => [f].length ≤ sizeLine ∧ Wk R (.tup [f]) M := by
  unfold wrapD at h
  cases q : isN f with
  | true => rw [q] at h; exact Wk.self h
  | false => rw [q] at h; exact ⟨by show 1 ≤ sizeLine; decide, Wk.self h⟩
theorem pure_Reading_inner {A : Ad} {rec : List Nat → PR} (ds M R EX) (h : sp_Reading_inner A rec ds M R EX) : t_Reading_inner A rec (fun C fs _ M' => WkX EX C fs M') (endsOf R) (startD n_Reading_inner ds) M := by
  obtain ⟨a, dx, L, i, w, d, k, rfl, hr, hk, hR⟩ := h
  unfold t_Reading_inner
  simp only [dVar, dC, dOp, dTest, dChain, dAnd, dOr, dNot, dAndV, dOrV, dNotV, dIfE, dNil, dCons, dTup, dLst, dNext, dSeq, dIfS, dRet, dRetN, dExpr, dBrk, dCnt, dSet, dNever, gN, gTp, gLs, gsNil, gsCons, dAsg, dCall, dRaise, dRaiseF, ixD, dSl, slD, dPart, dNoPart, dCB, lenD, minD, maxD, absD, intD, strD, tupleD, listD, dMt, dMt0, tyD, appendD, popD, joinD, splitD, countD, dIsi, tnD, isiT, gSb, setL, dFld, dFldSet, dMeth, dMake, dFldAug, dAug, dPar, dTru, dNeg, augAdd, intI, cmpI, startD, endsOf, List.map_cons, List.map_nil, List.length_cons, List.length_nil, List.replicate, List.getElem?_cons_zero, List.getElem?_cons_succ, List.cons_append, List.nil_append, List.set_cons_zero, List.set_cons_succ, Nat.reduceAdd, Nat.reduceSub]
  show (match decide (w = w_long) with | true => _ | false => _)
  unfold PI at hk
  by_cases q1 : w = w_long
  · rw [decide_eq_true q1]
    rw [if_pos q1] at hk
    refine mcall hr ⟨a, dx, L, i, rfl, hr, ?_⟩
    rw [hk]
    exact Wk.self hR
  rw [decide_eq_false q1]
  rw [if_neg q1] at hk
  obtain ⟨f, rfl, hk⟩ := hk
  refine in_strs (ys := PLc) ?_
  by_cases q2 : w ∈ PLc
  · rw [decide_eq_true q2]
    rw [if_pos q2] at hk
    refine mcall hr (mlet hr ?_)
    rw [hk]
    exact wrap_ret hR
  rw [decide_eq_false q2]
  rw [if_neg q2] at hk
  show (match decide (w = w_shape) with | true => _ | false => _)
  by_cases q3 : w = w_shape
  · rw [decide_eq_true q3]
    rw [if_pos q3] at hk
    obtain ⟨ds, h1, rfl⟩ := hk
    exact mcall hr ⟨a, dx, L, i, ds, k, rfl, hr, h1, wrap_ret hR⟩
  rw [decide_eq_false q3]
  rw [if_neg q3] at hk
  show (match decide (w = w_tries) with | true => _ | false => _)
  by_cases q4 : w = w_tries
  · rw [decide_eq_true q4]
    rw [if_pos q4] at hk
    obtain ⟨ws, h1, rfl⟩ := hk
    exact mcall hr ⟨a, dx, L, i, ws, k, rfl, hr, h1, wrap_ret hR⟩
  rw [decide_eq_false q4]
  rw [if_neg q4] at hk
  show (match decide (w = w_no) with | true => _ | false => _)
  by_cases q5 : w = w_no
  · rw [decide_eq_true q5]
    rw [if_pos q5] at hk
    exact mcall hr ⟨a, dx, L, i, f, k, rfl, hr, hk, wrap_ret hR⟩
  · rw [decide_eq_false q5]
    rw [if_neg q5] at hk
    exact mcall hr ⟨a, dx, L, i, f, k, rfl, hr, hk, wrap_ret hR⟩
theorem pure_Reading_one_check {A : Ad} {rec : List Nat → PR} (ds M R EX) (h : spO A (fun L => PCof (rec L) L) ds M R EX) : t_Reading_one_check A rec (fun C fs _ M' => WkX EX C fs M') (endsOf R) (startD n_Reading_one_check ds) M := by
  obtain ⟨a, dx, L, i, d, k, rfl, hr, hk, hR⟩ := h
  unfold t_Reading_one_check
  simp only [dVar, dC, dOp, dTest, dChain, dAnd, dOr, dNot, dAndV, dOrV, dNotV, dIfE, dNil, dCons, dTup, dLst, dNext, dSeq, dIfS, dRet, dRetN, dExpr, dBrk, dCnt, dSet, dNever, gN, gTp, gLs, gsNil, gsCons, dAsg, dCall, dRaise, dRaiseF, ixD, dSl, slD, dPart, dNoPart, dCB, lenD, minD, maxD, absD, intD, strD, tupleD, listD, dMt, dMt0, tyD, appendD, popD, joinD, splitD, countD, dIsi, tnD, isiT, gSb, setL, dFld, dFldSet, dMeth, dMake, dFldAug, dAug, dPar, dTru, dNeg, augAdd, intI, cmpI, startD, endsOf, List.map_cons, List.map_nil, List.length_cons, List.length_nil, List.replicate, List.getElem?_cons_zero, List.getElem?_cons_succ, List.cons_append, List.nil_append, List.set_cons_zero, List.set_cons_succ, Nat.reduceAdd, Nat.reduceSub]
  refine mcall hr ⟨a, dx, L, i, rfl, hr, ?_⟩
  refine notIn_strs (ys := WDc) ?_
  unfold PCof at hk
  have h1 : Rdg A (mupd M a (rdO A dx L (i + (tw SMc L i).length))) a dx L (i + (tw SMc L i).length) := hr.upd
  by_cases q1 : tw SMc L i ∈ WDc
  · rw [decide_eq_true q1]
    refine mskip h1 ?_
    unfold sk skj
    rw [mupd_idem]
    by_cases q2 : look L (i + (tw SMc L i).length) = [40]
    · rw [decide_eq_true q2, if_pos q2]
      rw [if_pos ⟨q1, q2⟩] at hk
      obtain ⟨x, j, hx, hk⟩ := hk
      have h2 : Rdg A (mupd M a (rdO A dx L (i + (tw SMc L i).length + 1))) a dx L (i + (tw SMc L i).length + 1) := hr.upd
      refine mcall h2 ⟨a, dx, L, _, _, x, j, rfl, h2, hx, ?_⟩
      rw [mupd_idem]
      show (match isN x with | true => _ | false => _)
      cases q : isN x with
      | true =>
        rw [if_pos (.inl q)] at hk
        obtain ⟨rfl, rfl⟩ := hk
        exact Wk.self hR
      | false =>
        have h3 : Rdg A (mupd M a (rdO A dx L j)) a dx L j := hr.upd
        refine mskip h3 ?_
        unfold sk skj
        rw [mupd_idem]
        by_cases q3 : look L j = [41]
        · rw [decide_eq_true q3, if_pos q3]
          rw [if_neg (by rw [q]; intro z; rcases z with z | z; exact Bool.noConfusion z; exact z q3)] at hk
          obtain ⟨xs, rfl, hl, rfl, rfl⟩ := hk
          refine ⟨by show 1 ≤ sizeLine; decide, ?_, Wk.self hR⟩
          have z : sizeLine = 16777216 := sizeLine_eq
          rw [List.length_cons, List.length_nil]
          omega
        · rw [decide_eq_false q3, if_neg q3]
          rw [if_pos (.inr q3)] at hk
          obtain ⟨rfl, rfl⟩ := hk
          exact Wk.self hR
    · rw [decide_eq_false q2, if_neg q2]
      rw [if_neg (fun z => q2 z.2)] at hk
      obtain ⟨rfl, rfl⟩ := hk
      exact Wk.self hR
  · rw [decide_eq_false q1]
    rw [if_neg (fun z => q1 z.1)] at hk
    obtain ⟨rfl, rfl⟩ := hk
    exact Wk.self hR
end DL

set_option Elab.async false
set_option linter.all false
set_option maxRecDepth 100000
set_option maxHeartbeats 1000000
namespace DL
open PySem L2
inductive GD (M : DM) : D → Prop
  | non : GD M .non
  | bl (b : Bool) : GD M (.bl b)
  | int (i : Int) : GD M (.int i)
  | str (s : List Nat) : s.length ≤ 100000 → GD M (.str s)
  | tup {ds : List D} : (∀ d ∈ ds, GD M d) → GD M (.tup ds)
  | lst {a : Addr} {ds : List D} : M a = some (.lst ds) → GD M (.ref a)
theorem GD.mono {M M' : DM} (h : MSub M M') {d : D} (g : GD M d) : GD M' d := by
  induction g with
  | non => exact .non
  | bl b => exact .bl b
  | int i => exact .int i
  | str s h => exact .str s h
  | tup _ ih => exact .tup ih
  | lst e => exact .lst (h _ _ e)
def tnB : D → Tn
  | .non => .non | .bl _ => .bool | .int _ => .int | .str _ => .str | .tup _ => .tuple | .ref _ => .list
theorem tn_ok {M : DM} {d : D} (g : GD M d) : tnD M d = some (tnB d) := by
  cases g with
  | lst e => unfold tnD; simp only [e]; rfl
  | _ => rfl
def MX5 : Nat := 5
def c_MOST_PARTS : D := .int 5
def c_MOST_CHECKS : D := .int 4
def c_DEEPEST : D := .int 2
theorem all_lc {g : DG} {te : DE} {gd : DM → Prop} {D0 : Addr} {ρ : Env} {p : D → Bool} {xs : List D} {M : DM} {R : DQ} (hD : M D0 = none) (hz : xs.length < sizeLine) (hg : ∀ acc, gd (mupd M D0 (.lst acc)))
    (hf : ∀ x ∈ xs, ∀ acc R, R (.bl (p x)) (mupd M D0 (.lst acc)) → g x ρ (mupd M D0 (.lst acc)) fun ρ1 M1 => te noW ρ1 M1 R) (hm : ∀ x (ρ ρ' : Env) M (P Q : Env → DM → Prop), (∀ ρ1 M1, P ρ1 M1 → Q ρ1 M1) → g x ρ M P → g x ρ M Q) (k : R (.bl (xs.all p)) M) :
    lcF g dYes te gd D0 ρ (fun M2 => allD [.ref D0] M2 R) xs (mupd M D0 (.lst [])) := by
  refine lcF_pure (f := fun x => .bl (p x)) xs [] (by simpa using hz) hg (fun x hx acc R' h => hf x hx acc R' h) ?_ hm fun _ _ _ _ h k => h _ _ k
  refine ⟨xs.map p, M, ?_, msub_new hD, ?_⟩
  · rw [mupd_same, List.nil_append, List.map_map]; rfl
  · rw [List.all_map]; exact k
def okL : D → Bool
  | .str s => decide (1 ≤ s.length) && decide (s.length ≤ 9) && s.all fun c => decide (c ∈ SGc) && decide (cntL c s = 1)
  | _ => false
def sp_are_letters (_ : Ad) : DSp := fun ds M Q _ => ∃ d, ds = [d] ∧ GD M d ∧ Q (.bl (okL d)) M
def t_are_letters (A : Ad) : DS := dSeq (dIfS (dOr (dNot (dTest (dIsi Tn.str (dVar 0)))) (dNot (dTest (dChain leD leD (dC (.int 1)) (dCB lenD (dCons (dVar 0) (dNil))) (dC (.int 9)))))) (dRet (dC (.bl false))) (dNext)) (dRet (dCB allD (dCons (dLc (dIter (dVar 0)) (gN 1) (dYes) (dAndV (dOp inD (dVar 1) (dC c_SIGNS)) (dOp eqD (dMt "str" countD (dVar 0) (dCons (dVar 1) (dNil))) (dC (.int 1)))) [1]) (dNil))))
abbrev n_are_letters : List Str := ["value", "sign"]
theorem pure_are_letters {A : Ad} (ds M R EX) (h : sp_are_letters A ds M R EX) : t_are_letters A (fun C fs _ M' => WkX EX C fs M') (endsOf R) (startD n_are_letters ds) M := by
  obtain ⟨d, rfl, g, k⟩ := h
  unfold t_are_letters
  simp only [dVar, dC, dOp, dTest, dChain, dAnd, dOr, dNot, dAndV, dOrV, dNotV, dIfE, dNil, dCons, dTup, dLst, dNext, dSeq, dIfS, dRet, dRetN, dExpr, dBrk, dCnt, dSet, dNever, gN, gTp, gLs, gsNil, gsCons, dAsg, dCall, dRaise, dRaiseF, ixD, dSl, slD, dPart, dNoPart, dCB, lenD, minD, maxD, absD, intD, strD, tupleD, listD, dMt, dMt0, tyD, appendD, popD, joinD, splitD, countD, dIsi, gSb, setL, dFld, dFldSet, dMeth, dMake, dFldAug, dAug, dPar, dTru, dNeg, augAdd, intI, cmpI, startD, endsOf, List.map_cons, List.map_nil, List.length_cons, List.length_nil, List.replicate, List.getElem?_cons_zero, List.getElem?_cons_succ, List.cons_append, List.nil_append, List.set_cons_zero, List.set_cons_succ, Nat.reduceAdd, Nat.reduceSub]
  cases g with
  | str s hs =>
    have z : sizeLine = 16777216 := sizeLine_eq
    refine ⟨by omega, ?_⟩
    simp only [okL] at k
    by_cases q1 : 1 ≤ s.length
    · rw [decide_eq_true (show (1 : Int) ≤ (s.length : Int) by omega)]
      by_cases q2 : s.length ≤ 9
      · rw [decide_eq_true q1, decide_eq_true q2] at k
        show (match !decide ((s.length : Int) ≤ 9) with | true => _ | false => _)
        rw [decide_eq_true (show (s.length : Int) ≤ 9 by omega)]
        intro D0 hD
        refine all_lc (p := fun x => match x with | .str [c] => decide (c ∈ SGc) && decide (cntL c s = 1) | _ => false) hD (by rw [List.length_map]; omega) (fun _ => trivial) (fun x hx acc R' hR => ?_) (fun x ρ ρ' M P Q h k => h _ _ k) ?_
        · rw [List.mem_map] at hx
          obtain ⟨c, _, rfl⟩ := hx
          show (match (D.bl (decide (c ∈ SGc))) with | .bl true => _ | .bl false => _ | _ => False)
          by_cases q3 : c ∈ SGc
          · simp only [decide_eq_true q3, Bool.true_and] at hR
            rw [decide_eq_true q3]
            refine ⟨rfl, ?_⟩
            show R' (.bl (decide ((cntL c s : Int) = 1))) _
            rw [show decide ((cntL c s : Int) = 1) = decide (cntL c s = 1) from decide_eq_decide.mpr (by omega)]
            exact hR
          · simp only [decide_eq_false q3, Bool.false_and] at hR
            rw [decide_eq_false q3]
            exact hR
        · rw [List.all_map]
          exact Wk.self k
      · rw [decide_eq_false q2, Bool.and_false, Bool.false_and] at k
        show (match !decide ((s.length : Int) ≤ 9) with | true => _ | false => _)
        rw [decide_eq_false (show ¬ (s.length : Int) ≤ 9 by omega)]
        exact Wk.self k
    · rw [decide_eq_false (show ¬ (1 : Int) ≤ (s.length : Int) by omega)]
      rw [decide_eq_false q1, Bool.false_and, Bool.false_and] at k
      exact Wk.self k
  | lst e => rw [tn_ok (.lst e)]; exact Wk.self k
  | _ => exact Wk.self k
def okB (d : D) (a : Int) : Bool := match d with
  | .int i => decide (a ≤ i) && decide (i ≤ 9)
  | _ => false
def sp_is_bound (_ : Ad) : DSp := fun ds M Q _ => ∃ d a, ds = [d, .int a] ∧ GD M d ∧ Q (.bl (okB d a)) M
def t_is_bound (A : Ad) : DS := dRet (dAndV (dIsi Tn.int (dVar 0)) (dAndV (dNotV (dIsi Tn.bool (dVar 0))) (dChain leD leD (dVar 1) (dVar 0) (dC (.int 9)))))
abbrev n_is_bound : List Str := ["value", "least"]
theorem pure_is_bound {A : Ad} (ds M R EX) (h : sp_is_bound A ds M R EX) : t_is_bound A (fun C fs _ M' => WkX EX C fs M') (endsOf R) (startD n_is_bound ds) M := by
  obtain ⟨d, a, rfl, g, k⟩ := h
  unfold t_is_bound
  simp only [dVar, dC, dOp, dTest, dChain, dAnd, dOr, dNot, dAndV, dOrV, dNotV, dIfE, dNil, dCons, dTup, dLst, dNext, dSeq, dIfS, dRet, dRetN, dExpr, dBrk, dCnt, dSet, dNever, gN, gTp, gLs, gsNil, gsCons, dAsg, dCall, dRaise, dRaiseF, ixD, dSl, slD, dPart, dNoPart, dCB, lenD, minD, maxD, absD, intD, strD, tupleD, listD, dMt, dMt0, tyD, appendD, popD, joinD, splitD, countD, dIsi, gSb, setL, dFld, dFldSet, dMeth, dMake, dFldAug, dAug, dPar, dTru, dNeg, augAdd, intI, cmpI, startD, endsOf, List.map_cons, List.map_nil, List.length_cons, List.length_nil, List.replicate, List.getElem?_cons_zero, List.getElem?_cons_succ, List.cons_append, List.nil_append, List.set_cons_zero, List.set_cons_succ, Nat.reduceAdd, Nat.reduceSub]
  cases g with
  | int i =>
    simp only [okB] at k
    show (match D.bl (decide (a ≤ i)) with | .bl true => leD _ _ _ _ | .bl false => _ | _ => False)
    by_cases q1 : a ≤ i
    · rw [decide_eq_true q1] at k ⊢
      rw [Bool.true_and] at k
      exact Wk.self k
    · rw [decide_eq_false q1] at k ⊢
      exact Wk.self k
  | lst e => rw [tn_ok (.lst e)]; exact Wk.self k
  | _ => exact Wk.self k
def okBs (a b : D) : Bool := okB a 0 && (isN b || match a with | .int i => okB b i | _ => false)
def sp_are_bounds (_ : Ad) : DSp := fun ds M Q _ => ∃ a b, ds = [a, b] ∧ GD M a ∧ GD M b ∧ Q (.bl (okBs a b)) M
def t_are_bounds (A : Ad) : DS := dRet (dAndV (dCall (sp_is_bound A) (dCons (dVar 0) (dCons (dC (.int 0)) (dNil)))) (dOrV (dOp isD (dVar 1) (dC .non)) (dCall (sp_is_bound A) (dCons (dVar 1) (dCons (dVar 0) (dNil))))))
abbrev n_are_bounds : List Str := ["a", "b"]
theorem pure_are_bounds {A : Ad} (ds M R EX) (h : sp_are_bounds A ds M R EX) : t_are_bounds A (fun C fs _ M' => WkX EX C fs M') (endsOf R) (startD n_are_bounds ds) M := by
  obtain ⟨a, b, rfl, ga, gb, k⟩ := h
  unfold t_are_bounds
  simp only [dVar, dC, dOp, dTest, dChain, dAnd, dOr, dNot, dAndV, dOrV, dNotV, dIfE, dNil, dCons, dTup, dLst, dNext, dSeq, dIfS, dRet, dRetN, dExpr, dBrk, dCnt, dSet, dNever, gN, gTp, gLs, gsNil, gsCons, dAsg, dCall, dRaise, dRaiseF, ixD, dSl, slD, dPart, dNoPart, dCB, lenD, minD, maxD, absD, intD, strD, tupleD, listD, dMt, dMt0, tyD, appendD, popD, joinD, splitD, countD, dIsi, gSb, setL, dFld, dFldSet, dMeth, dMake, dFldAug, dAug, dPar, dTru, dNeg, augAdd, intI, cmpI, startD, endsOf, List.map_cons, List.map_nil, List.length_cons, List.length_nil, List.replicate, List.getElem?_cons_zero, List.getElem?_cons_succ, List.cons_append, List.nil_append, List.set_cons_zero, List.set_cons_succ, Nat.reduceAdd, Nat.reduceSub]
  refine ⟨_, _, rfl, ga, ?_⟩
  unfold okBs at k
  cases q1 : okB a 0 with
  | false => rw [q1] at k; exact Wk.self k
  | true =>
    rw [q1, Bool.true_and] at k
    show (match D.bl (isN b) with | .bl true => _ | .bl false => _ | _ => False)
    cases q2 : isN b with
    | true => rw [q2] at k; exact Wk.self k
    | false =>
      rw [q2, Bool.false_or] at k
      cases a with
      | int i => exact ⟨_, _, rfl, gb, Wk.self k⟩
      | _ => exact Bool.noConfusion (show false = true from q1)
def okP : D → Bool
  | .tup [l, a, b] => okL l && okBs a b
  | _ => false
def sp_is_part (_ : Ad) : DSp := fun ds M Q _ => ∃ d, ds = [d] ∧ GD M d ∧ Q (.bl (okP d)) M
def t_is_part (A : Ad) : DS := dRet (dAndV (dIsi Tn.tuple (dVar 0)) (dAndV (dOp eqD (dCB lenD (dCons (dVar 0) (dNil))) (dC (.int 3))) (dAndV (dCall (sp_are_letters A) (dCons (dOp ixD (dVar 0) (dC (.int 0))) (dNil))) (dCall (sp_are_bounds A) (dCons (dOp ixD (dVar 0) (dC (.int 1))) (dCons (dOp ixD (dVar 0) (dC (.int 2))) (dNil)))))))
abbrev n_is_part : List Str := ["value"]
theorem pure_is_part {A : Ad} (ds M R EX) (h : sp_is_part A ds M R EX) : t_is_part A (fun C fs _ M' => WkX EX C fs M') (endsOf R) (startD n_is_part ds) M := by
  obtain ⟨d, rfl, g, k⟩ := h
  unfold t_is_part
  simp only [dVar, dC, dOp, dTest, dChain, dAnd, dOr, dNot, dAndV, dOrV, dNotV, dIfE, dNil, dCons, dTup, dLst, dNext, dSeq, dIfS, dRet, dRetN, dExpr, dBrk, dCnt, dSet, dNever, gN, gTp, gLs, gsNil, gsCons, dAsg, dCall, dRaise, dRaiseF, ixD, dSl, slD, dPart, dNoPart, dCB, lenD, minD, maxD, absD, intD, strD, tupleD, listD, dMt, dMt0, tyD, appendD, popD, joinD, splitD, countD, dIsi, gSb, setL, dFld, dFldSet, dMeth, dMake, dFldAug, dAug, dPar, dTru, dNeg, augAdd, intI, cmpI, startD, endsOf, List.map_cons, List.map_nil, List.length_cons, List.length_nil, List.replicate, List.getElem?_cons_zero, List.getElem?_cons_succ, List.cons_append, List.nil_append, List.set_cons_zero, List.set_cons_succ, Nat.reduceAdd, Nat.reduceSub]
  cases g with
  | tup gs =>
    rename_i ds
    match ds, gs, k with
    | [l, a, b], gs, k =>
      have g1 : GD M l := gs _ (by simp)
      have g2 : GD M a := gs _ (by simp)
      have g3 : GD M b := gs _ (by simp)
      refine ⟨l, rfl, g1, ?_⟩
      simp only [okP] at k
      cases q : okL l with
      | false => rw [q] at k; exact Wk.self k
      | true => rw [q, Bool.true_and] at k; exact ⟨a, b, rfl, g2, g3, Wk.self k⟩
    | [], gs, k => exact Wk.self k
    | [_], gs, k => exact Wk.self k
    | [_, _], gs, k => exact Wk.self k
    | a :: b :: c :: d :: r, gs, k =>
      have e : decide (((a :: b :: c :: d :: r).length : Int) = 3) = false := decide_eq_false (by simp only [List.length_cons]; omega)
      simp only [tnD, isiT, eqD, eqS, e]
      exact Wk.self k
  | lst e => rw [tn_ok (.lst e)]; exact Wk.self k
  | _ => exact Wk.self k
def okPs : D → Bool
  | .tup ps => decide (1 ≤ ps.length) && decide (ps.length ≤ 5) && ps.all okP
  | _ => false
def sp_are_parts (_ : Ad) : DSp := fun ds M Q _ => ∃ d, ds = [d] ∧ GD M d ∧ Q (.bl (okPs d)) M
def t_are_parts (A : Ad) : DS := dRet (dAndV (dIsi Tn.tuple (dVar 0)) (dAndV (dChain leD leD (dC (.int 1)) (dCB lenD (dCons (dVar 0) (dNil))) (dC c_MOST_PARTS)) (dCB allD (dCons (dLc (dIter (dVar 0)) (gN 1) (dYes) (dCall (sp_is_part A) (dCons (dVar 1) (dNil))) [1]) (dNil)))))
abbrev n_are_parts : List Str := ["value", "part"]
theorem pure_are_parts {A : Ad} (ds M R EX) (h : sp_are_parts A ds M R EX) : t_are_parts A (fun C fs _ M' => WkX EX C fs M') (endsOf R) (startD n_are_parts ds) M := by
  obtain ⟨d, rfl, g, k⟩ := h
  unfold t_are_parts
  simp only [dVar, dC, dOp, dTest, dChain, dAnd, dOr, dNot, dAndV, dOrV, dNotV, dIfE, dNil, dCons, dTup, dLst, dNext, dSeq, dIfS, dRet, dRetN, dExpr, dBrk, dCnt, dSet, dNever, gN, gTp, gLs, gsNil, gsCons, dAsg, dCall, dRaise, dRaiseF, ixD, dSl, slD, dPart, dNoPart, dCB, lenD, minD, maxD, absD, intD, strD, tupleD, listD, dMt, dMt0, tyD, appendD, popD, joinD, splitD, countD, dIsi, gSb, setL, dFld, dFldSet, dMeth, dMake, dFldAug, dAug, dPar, dTru, dNeg, augAdd, intI, cmpI, startD, endsOf, List.map_cons, List.map_nil, List.length_cons, List.length_nil, List.replicate, List.getElem?_cons_zero, List.getElem?_cons_succ, List.cons_append, List.nil_append, List.set_cons_zero, List.set_cons_succ, Nat.reduceAdd, Nat.reduceSub]
  cases g with
  | tup gs =>
    rename_i ps
    simp only [okPs] at k
    show (match D.bl (decide ((1 : Int) ≤ (ps.length : Int))) with | .bl true => _ | .bl false => _ | _ => False)
    by_cases q1 : 1 ≤ ps.length
    · rw [decide_eq_true (show (1 : Int) ≤ (ps.length : Int) by omega)]
      show (match D.bl (decide ((ps.length : Int) ≤ 5)) with | .bl true => _ | .bl false => _ | _ => False)
      by_cases q2 : ps.length ≤ 5
      · rw [decide_eq_true q1, decide_eq_true q2] at k
        rw [decide_eq_true (show (ps.length : Int) ≤ 5 by omega)]
        intro D0 hD
        have z : sizeLine = 16777216 := sizeLine_eq
        refine all_lc (p := okP) hD (by omega) (fun _ => trivial) (fun x hx acc R' hR => ?_) (fun x ρ ρ' M P Q h k => h _ _ k) (Wk.self k)
        exact ⟨x, rfl, (gs x hx).mono (msub_new hD), hR⟩
      · rw [decide_eq_false q2, Bool.and_false, Bool.false_and] at k
        rw [decide_eq_false (show ¬ (ps.length : Int) ≤ 5 by omega)]
        exact Wk.self k
    · rw [decide_eq_false (show ¬ (1 : Int) ≤ (ps.length : Int) by omega)]
      rw [decide_eq_false q1, Bool.false_and, Bool.false_and] at k
      exact Wk.self k
  | lst e => rw [tn_ok (.lst e)]; exact Wk.self k
  | _ => exact Wk.self k
end DL

set_option Elab.async false
set_option linter.all false
set_option maxRecDepth 100000
set_option maxHeartbeats 1000000
namespace DL
open PySem L2
def o_none : List Nat := [110, 111, 110, 101]
def o_eight : List Nat := [101, 105, 103, 104, 116]
def o_rows : List Nat := [114, 111, 119, 115]
def OPc : List (List (List Nat)) := [[o_none, [101, 110, 100, 115]], [o_none, [109, 105, 110, 117, 115], [98, 111, 116, 104]], [o_none, [102, 114, 101, 101], o_eight], [o_none, [115, 105, 110, 103, 108, 101], [102, 114, 101, 101]],
  [o_none, [112, 97, 114, 116], [108, 111, 111, 115, 101], o_rows], [[112, 108, 97, 105, 110], [97, 108, 108]]]
def c_OPTIONS : D := .tup (OPc.map fun o => .tup (o.map D.str))
def okO (d : D) (o : List (List Nat)) : Bool := match d with
  | .str s => decide (s ∈ o)
  | _ => false
def bad1 : Nat → List D → List (List (List Nat)) → Option Nat
  | i, d :: ds, o :: os => if okO d o then bad1 (i + 1) ds os else some i
  | _, _, _ => none
def rf : D → Option Nat
  | .tup [a, b, c, d, e, f] => match bad1 0 [a, b, c, d, e, f] OPc with
    | some i => some i
    | none => match c, d, e with
      | .str c, .str d, .str e => if c = o_eight ∧ e ≠ o_none then some 2 else if e = o_rows ∧ d ≠ o_none then some 3 else none
      | _, _, _ => none
  | _ => some 6
def rfD (o : Option Nat) : D := match o with
  | none => .non
  | some i => .int (i : Nat)
def sp_reader_fault (_ : Ad) : DSp := fun ds M Q _ => ∃ d, ds = [d] ∧ GD M d ∧ Q (rfD (rf d)) M
def t_reader_fault (A : Ad) : DS := dSeq (dIfS (dOr (dNot (dTest (dIsi Tn.tuple (dVar 0)))) (dTest (dOp neD (dCB lenD (dCons (dVar 0) (dNil))) (dCB lenD (dCons (dC c_OPTIONS) (dNil)))))) (dRet (dCB lenD (dCons (dC c_OPTIONS) (dNil)))) (dNext)) (dSeq (dFor (dEnum (dCons (dVar 0) (dNil))) (gTp 2 (gsCons (gN 1) (gsCons (gN 2) (gsNil)))) (dIfS (dOr (dNot (dTest (dIsi Tn.str (dVar 2)))) (dTest (dOp notInD (dVar 2) (dOp ixD (dC c_OPTIONS) (dVar 1))))) (dRet (dVar 1)) (dNext))) (dSeq (dIfS (dAnd (dTest (dOp eqD (dOp ixD (dVar 0) (dC (.int 2))) (dC (.str [101, 105, 103, 104, 116])))) (dTest (dOp neD (dOp ixD (dVar 0) (dC (.int 4))) (dC (.str [110, 111, 110, 101]))))) (dRet (dC (.int 2))) (dNext)) (dSeq (dIfS (dAnd (dTest (dOp eqD (dOp ixD (dVar 0) (dC (.int 4))) (dC (.str [114, 111, 119, 115])))) (dTest (dOp neD (dOp ixD (dVar 0) (dC (.int 3))) (dC (.str [110, 111, 110, 101]))))) (dRet (dC (.int 3))) (dNext)) (dRet (dC .non)))))
abbrev n_reader_fault : List Str := ["value", "index", "option"]
def itemsFrom : Nat → List D → List D
  | _, [] => []
  | i, d :: ds => .tup [.int (i : Nat), d] :: itemsFrom (i + 1) ds
abbrev rfBody : DS := dIfS (dOr (dNot (dTest (dIsi Tn.str (dVar 2)))) (dTest (dOp notInD (dVar 2) (dOp ixD (dC c_OPTIONS) (dVar 1))))) (dRet (dVar 1)) (dNext)
theorem rf_loop {W : DW} {E : DEnds} {M : DM} {v : D} : ∀ (i : Nat) (ds : List D) (os : List (List (List Nat))) (x y : Option D), OPc.drop i = os → ds.length = os.length → (∀ d ∈ ds, GD M d) →
    (match bad1 i ds os with
      | some j => E.rt (.int (j : Nat)) M
      | none => ∀ x y, E.nx [some v, x, y] M) →
    dLoop (gTp 2 (gsCons (gN 1) (gsCons (gN 2) (gsNil)))) (rfBody W) anyM (itemsFrom i ds) E [some v, x, y] M := by
  intro i ds
  induction ds generalizing i with
  | nil => intro os x y _ _ _ h; exact ⟨trivial, h x y⟩
  | cons d ds ih =>
    intro os x y ho hl hg h
    cases os with
    | nil => cases hl
    | cons o os =>
      have ho2 : OPc.drop (i + 1) = os := by rw [← List.drop_drop, ho]; rfl
      have hat : atI (OPc.map fun o => D.tup (o.map D.str)) (i : Int) = some (.tup (o.map D.str)) := by
        have e : OPc[i]? = some o := by
          have := congrArg (fun l => l[0]?) ho
          simpa using this
        have hlt : i < OPc.length := (List.getElem?_eq_some_iff.mp e).1
        unfold atI ixN
        rw [if_pos (by omega), if_pos (by rw [List.length_map]; omega)]
        simp [e]
      refine ⟨trivial, ?_⟩
      have gd := hg d (by simp)
      simp only [dVar, dC, dOp, dTest, dChain, dAnd, dOr, dNot, dAndV, dOrV, dNotV, dIfE, dNil, dCons, dTup, dLst, dNext, dSeq, dIfS, dRet, dRetN, dExpr, dBrk, dCnt, dSet, dNever, gN, gTp, gLs, gsNil, gsCons, dAsg, dCall, dRaise, dRaiseF, ixD, dSl, slD, dPart, dNoPart, dCB, lenD, minD, maxD, absD, intD, strD, tupleD, listD, dMt, dMt0, tyD, appendD, popD, joinD, splitD, countD, dIsi, gSb, setL, dFld, dFldSet, dMeth, dMake, dFldAug, dAug, dPar, dTru, dNeg, augAdd, intI, cmpI, startD, endsOf, List.map_cons, List.map_nil, List.length_cons, List.length_nil, List.replicate, List.getElem?_cons_zero, List.getElem?_cons_succ, List.cons_append, List.nil_append, List.set_cons_zero, List.set_cons_succ, Nat.reduceAdd, Nat.reduceSub]
      refine ⟨trivial, ?_⟩
      rw [tn_ok gd]
      simp only [bad1] at h
      cases d with
      | str s =>
        show (match atI (OPc.map fun o => D.tup (o.map D.str)) (i : Int) with | some d => _ | none => False)
        rw [hat]
        refine notIn_strs ?_
        by_cases q : s ∈ o
        · rw [if_pos (show okO (.str s) o = true from decide_eq_true q)] at h
          rw [decide_eq_true q]
          exact ih (i + 1) os _ _ ho2 (by simpa using hl) (fun d hd => hg d (by simp [hd])) h
        · rw [if_neg (show ¬ okO (.str s) o = true from fun z => q (of_decide_eq_true z))] at h
          rw [decide_eq_false q]
          exact h
      | _ => exact h
theorem bad1_none : ∀ (i : Nat) (ds : List D) (os : List (List (List Nat))), bad1 i ds os = none → ds.length = os.length → ∃ ss : List (List Nat), ds = ss.map D.str ∧ ss.length = os.length
  | _, [], [], _, _ => ⟨[], rfl, rfl⟩
  | _, [], _ :: _, _, h => by cases h
  | _, _ :: _, [], _, h => by cases h
  | i, d :: ds, o :: os, h, hl => by
    simp only [bad1] at h
    cases q : okO d o with
    | false => rw [q] at h; cases h
    | true =>
      rw [q] at h
      obtain ⟨ss, rfl, e⟩ := bad1_none (i + 1) ds os h (by simpa using hl)
      cases d with
      | str s => exact ⟨s :: ss, rfl, by simp [e]⟩
      | _ => exact Bool.noConfusion (show false = true from q)
theorem pure_reader_fault {A : Ad} (ds M R EX) (h : sp_reader_fault A ds M R EX) : t_reader_fault A (fun C fs _ M' => WkX EX C fs M') (endsOf R) (startD n_reader_fault ds) M := by
  obtain ⟨d, rfl, g, k⟩ := h
  unfold t_reader_fault
  simp only [dVar, dC, dOp, dTest, dChain, dAnd, dOr, dNot, dAndV, dOrV, dNotV, dIfE, dNil, dCons, dTup, dLst, dNext, dSeq, dIfS, dRet, dRetN, dExpr, dBrk, dCnt, dSet, dNever, gN, gTp, gLs, gsNil, gsCons, dAsg, dCall, dRaise, dRaiseF, ixD, dSl, slD, dPart, dNoPart, dCB, lenD, minD, maxD, absD, intD, strD, tupleD, listD, dMt, dMt0, tyD, appendD, popD, joinD, splitD, countD, dIsi, gSb, setL, dFld, dFldSet, dMeth, dMake, dFldAug, dAug, dPar, dTru, dNeg, augAdd, intI, cmpI, startD, endsOf, List.map_cons, List.map_nil, List.length_cons, List.length_nil, List.replicate, List.getElem?_cons_zero, List.getElem?_cons_succ, List.cons_append, List.nil_append, List.set_cons_zero, List.set_cons_succ, Nat.reduceAdd, Nat.reduceSub]
  cases g with
  | tup gs =>
    rename_i ds
    match ds, gs, k with
    | [a, b, c, d, e, f], gs, k =>
      refine rf_loop (v := .tup [a, b, c, d, e, f]) 0 [a, b, c, d, e, f] OPc none none rfl rfl gs ?_
      simp only [rf] at k
      cases q : bad1 0 [a, b, c, d, e, f] OPc with
      | some j => rw [q] at k; exact Wk.self k
      | none =>
        rw [q] at k
        intro x y
        obtain ⟨ss, e1, e2⟩ := bad1_none _ _ _ q rfl
        match ss, e1, e2 with
        | [a', b', c', d', e', f'], e1, _ =>
          simp only [List.map_cons, List.map_nil, List.cons.injEq, and_true] at e1
          obtain ⟨rfl, rfl, rfl, rfl, rfl, rfl⟩ := e1
          simp only at k
          show (match decide (c' = o_eight) with | true => _ | false => _)
          by_cases q1 : c' = o_eight
          · rw [decide_eq_true q1]
            show (match !decide (e' = o_none) with | true => _ | false => _)
            by_cases q2 : e' = o_none
            · rw [decide_eq_true q2]
              rw [if_neg (fun z => z.2 q2), if_neg (fun z => by rw [q2] at z; exact absurd z.1 (by decide))] at k
              subst q2
              exact Wk.self k
            · rw [decide_eq_false q2]
              rw [if_pos ⟨q1, q2⟩] at k
              exact Wk.self k
          · rw [decide_eq_false q1]
            rw [if_neg (fun z => q1 z.1)] at k
            show (match decide (e' = o_rows) with | true => _ | false => _)
            by_cases q2 : e' = o_rows
            · rw [decide_eq_true q2]
              show (match !decide (d' = o_none) with | true => _ | false => _)
              by_cases q3 : d' = o_none
              · rw [decide_eq_true q3]
                rw [if_neg (fun z => z.2 q3)] at k
                exact Wk.self k
              · rw [decide_eq_false q3]
                rw [if_pos ⟨q2, q3⟩] at k
                exact Wk.self k
            · rw [decide_eq_false q2]
              rw [if_neg (fun z => q2 z.1)] at k
              exact Wk.self k
    | [], gs, k => exact Wk.self k
    | [_], gs, k => exact Wk.self k
    | [_, _], gs, k => exact Wk.self k
    | [_, _, _], gs, k => exact Wk.self k
    | [_, _, _, _], gs, k => exact Wk.self k
    | [_, _, _, _, _], gs, k => exact Wk.self k
    | a :: b :: c :: d :: e :: f :: x :: r, gs, k =>
      have e : decide (((a :: b :: c :: d :: e :: f :: x :: r).length : Int) = ((OPc.map fun o => D.tup (o.map D.str)).length : Nat)) = false := decide_eq_false (by simp only [List.length_cons, List.length_map]; rw [show OPc.length = 6 from rfl]; omega)
      simp only [tnD, isiT, neD, eqS, c_OPTIONS, e]
      exact Wk.self k
  | lst e => rw [tn_ok (.lst e)]; exact Wk.self k
  | _ => exact Wk.self k
end DL

set_option Elab.async false
set_option linter.all false
set_option maxRecDepth 100000
set_option maxHeartbeats 1000000
namespace DL
open PySem L2
def sp_check_reader (A : Ad) : DSp := fun ds M Q EX => ∃ d, ds = [d] ∧ GD M d ∧ (rf d = none → Q .non M) ∧ ∀ i, rf d = some i → ∀ dx, M dx = none → EX A.cBR [.ref dx] (mupd M dx (.xd "index" (.int (i : Nat))))
def t_check_reader (A : Ad) : DS := dSeq (dSet 1 (dCall (sp_reader_fault A) (dCons (dVar 0) (dNil)))) (dIfS (dTest (dOp isNotD (dVar 1) (dC .non))) (dRaiseF A.cBR "index" (dVar 1)) (dNext))
abbrev n_check_reader : List Str := ["reader", "index"]
theorem pure_check_reader {A : Ad} (ds M R EX) (h : sp_check_reader A ds M R EX) : t_check_reader A (fun C fs _ M' => WkX EX C fs M') (endsOf R) (startD n_check_reader ds) M := by
  obtain ⟨d, rfl, g, k, kx⟩ := h
  unfold t_check_reader
  simp only [dVar, dC, dOp, dTest, dChain, dAnd, dOr, dNot, dAndV, dOrV, dNotV, dIfE, dNil, dCons, dTup, dLst, dNext, dSeq, dIfS, dRet, dRetN, dExpr, dBrk, dCnt, dSet, dNever, gN, gTp, gLs, gsNil, gsCons, dAsg, dCall, dRaise, dRaiseF, ixD, dSl, slD, dPart, dNoPart, dCB, lenD, minD, maxD, absD, intD, strD, tupleD, listD, dMt, dMt0, tyD, appendD, popD, joinD, splitD, countD, dIsi, gSb, setL, dFld, dFldSet, dMeth, dMake, dFldAug, dAug, dPar, dTru, dNeg, augAdd, intI, cmpI, startD, endsOf, List.map_cons, List.map_nil, List.length_cons, List.length_nil, List.replicate, List.getElem?_cons_zero, List.getElem?_cons_succ, List.cons_append, List.nil_append, List.set_cons_zero, List.set_cons_succ, Nat.reduceAdd, Nat.reduceSub]
  refine ⟨d, rfl, g, ?_⟩
  cases q : rf d with
  | none => exact Wk.self (k q)
  | some i => exact fun dx hdx => WkX.self (kx i q dx hdx)
def okC0 (rec : D → Bool) (z : Bool) : D → Bool
  | .tup (.str w :: x :: r) => if w = w_long then (match r with | [b] => okBs x b | _ => false) else if r ≠ [] then false else if w ∈ PLc then okL x else if w = w_shape then okPs x else if w = w_tries then (rf x).isNone
    else if z = true then false else if w = w_no then rec x else match x with
      | .tup cs => decide (w ∈ [w_all, w_some]) && (decide (cs.length ≤ 4) && cs.all rec)
      | _ => false
  | _ => false
theorem okC0_one (rec : D → Bool) (z : Bool) (v : D) : okC0 rec z (.tup [v]) = false := by cases v <;> rfl
def okC : Nat → D → Bool
  | 0 => okC0 (fun _ => false) true
  | n + 1 => okC0 (okC n) false
def recC : Nat → D → Bool
  | 0 => fun _ => false
  | m + 1 => okC m
theorem okC_eq (n : Nat) (d : D) : okC n d = okC0 (recC n) (decide (n = 0)) d := by cases n <;> rfl
def sp_cw (n : Nat) : DSp := fun ds M Q _ => ∃ d, ds = [d, .int (n : Nat)] ∧ GD M d ∧ Q (.bl (okC n d)) M
def t_is_check_within (A : Ad) (spR : DSp) : DS := dSeq (dIfS (dOr (dNot (dTest (dIsi Tn.tuple (dVar 0)))) (dOr (dTest (dOp ltD (dCB lenD (dCons (dVar 0) (dNil))) (dC (.int 2)))) (dNot (dTest (dIsi Tn.str (dOp ixD (dVar 0) (dC (.int 0)))))))) (dRet (dC (.bl false))) (dNext)) (dSeq (dSet 2 (dOp ixD (dVar 0) (dC (.int 0)))) (dSeq (dIfS (dTest (dOp eqD (dVar 2) (dC (.str [108, 111, 110, 103])))) (dRet (dAndV (dOp eqD (dCB lenD (dCons (dVar 0) (dNil))) (dC (.int 3))) (dCall (sp_are_bounds A) (dCons (dOp ixD (dVar 0) (dC (.int 1))) (dCons (dOp ixD (dVar 0) (dC (.int 2))) (dNil)))))) (dNext)) (dSeq (dIfS (dTest (dOp neD (dCB lenD (dCons (dVar 0) (dNil))) (dC (.int 2)))) (dRet (dC (.bl false))) (dNext)) (dSeq (dIfS (dTest (dOp inD (dVar 2) (dC c_PLAIN))) (dRet (dCall (sp_are_letters A) (dCons (dOp ixD (dVar 0) (dC (.int 1))) (dNil)))) (dNext)) (dSeq (dIfS (dTest (dOp eqD (dVar 2) (dC (.str [115, 104, 97, 112, 101])))) (dRet (dCall (sp_are_parts A) (dCons (dOp ixD (dVar 0) (dC (.int 1))) (dNil)))) (dNext)) (dSeq (dIfS (dTest (dOp eqD (dVar 2) (dC (.str [116, 114, 105, 101, 115])))) (dRet (dOp isD (dCall (sp_reader_fault A) (dCons (dOp ixD (dVar 0) (dC (.int 1))) (dNil))) (dC .non))) (dNext)) (dSeq (dIfS (dTest (dOp eqD (dVar 1) (dC (.int 0)))) (dRet (dC (.bl false))) (dNext)) (dSeq (dIfS (dTest (dOp eqD (dVar 2) (dC (.str [110, 111])))) (dRet (dCall (spR) (dCons (dOp ixD (dVar 0) (dC (.int 1))) (dCons (dOp subD (dVar 1) (dC (.int 1))) (dNil))))) (dNext)) (dSeq (dIfS (dOr (dTest (dOp notInD (dVar 2) (dTup (dCons (dC (.str [97, 108, 108])) (dCons (dC (.str [115, 111, 109, 101])) (dNil)))))) (dOr (dNot (dTest (dIsi Tn.tuple (dOp ixD (dVar 0) (dC (.int 1)))))) (dTest (dOp gtD (dCB lenD (dCons (dOp ixD (dVar 0) (dC (.int 1))) (dNil))) (dC c_MOST_CHECKS))))) (dRet (dC (.bl false))) (dNext)) (dRet (dCB allD (dCons (dLc (dIter (dOp ixD (dVar 0) (dC (.int 1)))) (gN 3) (dYes) (dCall (spR) (dCons (dVar 3) (dCons (dOp subD (dVar 1) (dC (.int 1))) (dNil)))) [3]) (dNil)))))))))))))
abbrev n_is_check_within : List Str := ["value", "left", "word", "one"]
theorem pure_cw {A : Ad} {n : Nat} {spR : DSp} (hR : ∀ m, n = m + 1 → spR = sp_cw m) (ds M R EX) (h : sp_cw n ds M R EX) : t_is_check_within A spR (fun C fs _ M' => WkX EX C fs M') (endsOf R) (startD n_is_check_within ds) M := by
  obtain ⟨d, rfl, g, k⟩ := h
  rw [okC_eq] at k
  unfold t_is_check_within
  simp only [dVar, dC, dOp, dTest, dChain, dAnd, dOr, dNot, dAndV, dOrV, dNotV, dIfE, dNil, dCons, dTup, dLst, dNext, dSeq, dIfS, dRet, dRetN, dExpr, dBrk, dCnt, dSet, dNever, gN, gTp, gLs, gsNil, gsCons, dAsg, dCall, dRaise, dRaiseF, ixD, dSl, slD, dPart, dNoPart, dCB, lenD, minD, maxD, absD, intD, strD, tupleD, listD, dMt, dMt0, tyD, appendD, popD, joinD, splitD, countD, dIsi, gSb, setL, dFld, dFldSet, dMeth, dMake, dFldAug, dAug, dPar, dTru, dNeg, augAdd, intI, cmpI, startD, endsOf, List.map_cons, List.map_nil, List.length_cons, List.length_nil, List.replicate, List.getElem?_cons_zero, List.getElem?_cons_succ, List.cons_append, List.nil_append, List.set_cons_zero, List.set_cons_succ, Nat.reduceAdd, Nat.reduceSub]
  cases g with
  | tup gs =>
    rename_i ds
    match ds, gs, k with
    | [], gs, k => exact Wk.self k
    | [v], gs, k => rw [okC0_one] at k; exact Wk.self k
    | v :: x :: r, gs, k =>
      have gv : GD M v := gs _ (by simp)
      have gx : GD M x := gs _ (by simp)
      have hl : ((v :: x :: r).length : Int) = (r.length : Int) + 2 := by simp only [List.length_cons]; omega
      have e1 : decide (((v :: x :: r).length : Int) < 2) = false := decide_eq_false (by omega)
      have a0 : atI (v :: x :: r) 0 = some v := by unfold atI ixN; rw [if_pos (by omega), if_pos (by omega)]; rfl
      have a1 : atI (v :: x :: r) 1 = some x := by unfold atI ixN; rw [if_pos (by omega), if_pos (by omega)]; rfl
      simp only [e1, a0, a1, tn_ok gv]
      cases v with
      | str w =>
        show (match decide (w = w_long) with | true => _ | false => _)
        simp only [okC0] at k
        by_cases q1 : w = w_long
        · rw [decide_eq_true q1]
          rw [if_pos q1] at k
          match r, gs, k, hl with
          | [], gs, k, hl => exact Wk.self k
          | [b], gs, k, hl => exact ⟨x, b, rfl, gx, gs _ (by simp), Wk.self k⟩
          | b :: c :: r, gs, k, hl =>
            have e : decide (((D.str w :: x :: b :: c :: r).length : Int) = 3) = false := decide_eq_false (by simp only [List.length_cons]; omega)
            simp only [eqD, eqS, e]
            exact Wk.self k
        rw [decide_eq_false q1]
        rw [if_neg q1] at k
        match r, gs, k, hl with
        | b :: r, gs, k, hl =>
          have e : decide (((D.str w :: x :: b :: r).length : Int) = 2) = false := decide_eq_false (by simp only [List.length_cons]; omega)
          simp only [neD, eqS, e]
          exact Wk.self k
        | [], gs, k, hl =>
          rw [if_neg (by simp)] at k
          have e : decide ((([D.str w, x] : List D).length : Int) = 2) = true := rfl
          simp only [neD, eqS, e, Bool.not_true]
          refine in_strs (ys := PLc) ?_
          by_cases q2 : w ∈ PLc
          · rw [decide_eq_true q2]
            rw [if_pos q2] at k
            exact ⟨x, rfl, gx, Wk.self k⟩
          rw [decide_eq_false q2]
          rw [if_neg q2] at k
          show (match decide (w = w_shape) with | true => _ | false => _)
          by_cases q3 : w = w_shape
          · rw [decide_eq_true q3]
            rw [if_pos q3] at k
            exact ⟨x, rfl, gx, Wk.self k⟩
          rw [decide_eq_false q3]
          rw [if_neg q3] at k
          show (match decide (w = w_tries) with | true => _ | false => _)
          by_cases q4 : w = w_tries
          · rw [decide_eq_true q4]
            rw [if_pos q4] at k
            refine ⟨x, rfl, gx, ?_⟩
            cases q : rf x with
            | none => rw [q] at k; exact Wk.self k
            | some i => rw [q] at k; exact Wk.self k
          rw [decide_eq_false q4]
          rw [if_neg q4] at k
          cases n with
          | zero => exact Wk.self k
          | succ m =>
            have en : decide (((m + 1 : Nat) : Int) = 0) = false := decide_eq_false (by omega)
            have es : ((m + 1 : Nat) : Int) - 1 = (m : Int) := by omega
            simp only [eqD, eqS, en]
            rw [if_neg (by simp)] at k
            show (match decide (w = w_no) with | true => _ | false => _)
            by_cases q5 : w = w_no
            · rw [decide_eq_true q5]
              rw [if_pos q5] at k
              rw [hR m rfl]
              exact ⟨trivial, x, by rw [es], gx, Wk.self k⟩
            rw [decide_eq_false q5]
            rw [if_neg q5] at k
            refine ⟨by show 2 ≤ sizeLine; decide, notIn_strs (ys := [w_all, w_some]) ?_⟩
            by_cases q6 : w ∈ [w_all, w_some]
            · rw [decide_eq_true q6]
              cases gx with
              | @tup cs gc =>
                simp only [decide_eq_true q6, Bool.true_and] at k
                show (match decide ((cs.length : Int) > 4) with | true => _ | false => _)
                by_cases q7 : cs.length ≤ 4
                · rw [decide_eq_true q7, Bool.true_and] at k
                  rw [decide_eq_false (show ¬ (cs.length : Int) > 4 by omega)]
                  intro D0 hD
                  have z : sizeLine = 16777216 := sizeLine_eq
                  refine all_lc (p := okC m) hD (by omega) (fun _ => trivial) (fun x hx acc R' hR' => ?_) (fun x ρ ρ' M P Q h k => h _ _ k) (Wk.self k)
                  refine ⟨trivial, ?_⟩
                  show spR [x, .int (((m + 1 : Nat) : Int) - 1)] _ _ _
                  rw [hR m rfl, es]
                  exact ⟨x, rfl, (gc x hx).mono (msub_new hD), hR'⟩
                · rw [decide_eq_false q7, Bool.false_and] at k
                  rw [decide_eq_true (show (cs.length : Int) > 4 by omega)]
                  exact Wk.self k
              | lst e9 => rw [tn_ok (.lst e9)]; exact Wk.self k
              | _ => exact Wk.self k
            · rw [decide_eq_false q6]
              rw [decide_eq_false q6] at k
              cases x <;> exact Wk.self k
      | _ => exact Wk.self k
  | lst e => rw [tn_ok (.lst e)]; exact Wk.self k
  | _ => exact Wk.self k
def sp_is_check (_ : Ad) : DSp := fun ds M Q _ => ∃ d, ds = [d] ∧ GD M d ∧ Q (.bl (okC 2 d)) M
def t_is_check (A : Ad) : DS := dRet (dCall (sp_cw 2) (dCons (dVar 0) (dCons (dC c_DEEPEST) (dNil))))
abbrev n_is_check : List Str := ["value"]
theorem pure_is_check {A : Ad} (ds M R EX) (h : sp_is_check A ds M R EX) : t_is_check A (fun C fs _ M' => WkX EX C fs M') (endsOf R) (startD n_is_check ds) M := by
  obtain ⟨d, rfl, g, k⟩ := h
  exact ⟨d, rfl, g, Wk.self k⟩
def prO (A : Ad) (dx : Addr) (c r : D) : MO := .ins A.cPr dx ["check", "reader"] [c, r]
def sp_Program_init (A : Ad) : DSp := fun ds M Q EX => ∃ a dx c r, ds = [.ref a, c, r] ∧ M a = some (.ins A.cPr dx [] []) ∧ GD M c ∧ GD M r ∧ (okC 2 c = false → EX A.cBC [] M) ∧
  (okC 2 c = true → (rf r = none → Q .non (mupd M a (prO A dx c r))) ∧ ∀ i, rf r = some i → ∀ dx, M dx = none → EX A.cBR [.ref dx] (mupd M dx (.xd "index" (.int (i : Nat)))))
def t_Program_init (A : Ad) : DS := dSeq (dIfS (dNot (dTest (dCall (sp_is_check A) (dCons (dVar 1) (dNil))))) (dRaise A.cBC) (dNext)) (dSeq (dExpr (dCall (sp_check_reader A) (dCons (dVar 2) (dNil)))) (dSeq (dFldSet A.cPr "check" (dVar 0) (dVar 1)) (dFldSet A.cPr "reader" (dVar 0) (dVar 2))))
abbrev n_Program_init : List Str := ["self", "check", "reader"]
theorem pure_Program_init {A : Ad} (ds M R EX) (h : sp_Program_init A ds M R EX) : t_Program_init A (fun C fs _ M' => WkX EX C fs M') (endsOf R) (startD n_Program_init ds) M := by
  obtain ⟨a, dx, c, r, rfl, e, gc, gr, k1, k2⟩ := h
  unfold t_Program_init
  simp only [dVar, dC, dOp, dTest, dChain, dAnd, dOr, dNot, dAndV, dOrV, dNotV, dIfE, dNil, dCons, dTup, dLst, dNext, dSeq, dIfS, dRet, dRetN, dExpr, dBrk, dCnt, dSet, dNever, gN, gTp, gLs, gsNil, gsCons, dAsg, dCall, dRaise, dRaiseF, ixD, dSl, slD, dPart, dNoPart, dCB, lenD, minD, maxD, absD, intD, strD, tupleD, listD, dMt, dMt0, tyD, appendD, popD, joinD, splitD, countD, dIsi, gSb, setL, dFld, dFldSet, dMeth, dMake, dFldAug, dAug, dPar, dTru, dNeg, augAdd, intI, cmpI, startD, endsOf, List.map_cons, List.map_nil, List.length_cons, List.length_nil, List.replicate, List.getElem?_cons_zero, List.getElem?_cons_succ, List.cons_append, List.nil_append, List.set_cons_zero, List.set_cons_succ, Nat.reduceAdd, Nat.reduceSub]
  refine ⟨c, rfl, gc, ?_⟩
  cases q : okC 2 c with
  | false => exact WkX.self (k1 q)
  | true =>
    obtain ⟨k2, k3⟩ := k2 q
    refine ⟨r, rfl, gr, fun q2 => ?_, fun i q2 dx2 hdx => WkX.self (k3 i q2 dx2 hdx)⟩
    refine ⟨a, dx, [], [], rfl, e, (by show 0 < 1000; decide), .inr ⟨(by simp), a, dx, _, _, rfl, mupd_same, (by show 1 < 1000; decide), .inr ⟨(by decide +kernel), Wk.self ?_⟩⟩⟩
    rw [mupd_idem]
    exact k2 q2
end DL

set_option Elab.async false
set_option linter.all false
set_option maxRecDepth 100000
set_option maxHeartbeats 1000000
namespace DL
open PySem L2
def c_MOST_DEEP : D := .int 8
def dstep (c : Nat) : Int := if [c] = [40] then 1 else if [c] = [41] then -1 else 0
def dpv : Int → Int → List Nat → Int
  | f, _, [] => f
  | f, d, c :: r => dpv (if d + dstep c > f then d + dstep c else f) (d + dstep c) r
def sp_depth (_ : Ad) : DSp := fun ds M Q _ => ∃ L, ds = [.str L] ∧ Q (.int (dpv 0 0 L)) M
def t_depth (A : Ad) : DS := dSeq (dAsg (dTup (dCons (dC (.int 0)) (dCons (dC (.int 0)) (dNil)))) (gTp 2 (gsCons (gN 1) (gsCons (gN 2) (gsNil))))) (dSeq (dFor (dIter (dVar 0)) (gN 3) (dSeq (dAug 2 augAdd (dDep [40] [41] 1 (-1) 0 (dVar 3))) (dSet 1 (dCB maxD (dCons (dVar 1) (dCons (dVar 2) (dNil))))))) (dRet (dVar 1)))
abbrev n_depth : List Str := ["line", "found", "deep", "sign"]
theorem dp_loop {W : DW} {E : DEnds} {M : DM} {v : D} : ∀ (L : List Nat) (f d : Int) (x : Option D) (M' : DM), MSub M M' → (∀ M2 x y, MSub M M2 → E.nx [some v, some (.int (dpv f d L)), some (.int y), x] M2) →
    dLoop (gN 3) (dSeq (dAug 2 augAdd (dDep [40] [41] 1 (-1) 0 (dVar 3))) (dSet 1 (dCB maxD (dCons (dVar 1) (dCons (dVar 2) (dNil))))) W) anyM (L.map fun c => .str [c]) E [some v, some (.int f), some (.int d), x] M'
  | [], f, d, x, M', h, k => ⟨trivial, k M' x d h⟩
  | c :: r, f, d, x, M', h, k => by
    refine ⟨trivial, ?_⟩
    simp only [dVar, dC, dOp, dTest, dChain, dAnd, dOr, dNot, dAndV, dOrV, dNotV, dIfE, dNil, dCons, dTup, dLst, dNext, dSeq, dIfS, dRet, dRetN, dExpr, dBrk, dCnt, dSet, dNever, gN, gTp, gLs, gsNil, gsCons, dAsg, dCall, dRaise, dRaiseF, ixD, dSl, slD, dPart, dNoPart, dCB, lenD, minD, maxD, absD, intD, strD, tupleD, listD, dMt, dMt0, tyD, appendD, popD, splitD, countD, dIsi, gSb, setL, dFld, dFldSet, dMeth, dMake, dFldAug, dAug, dPar, dTru, dNeg, augAdd, dDep, dIsC, intI, cmpI, startD, endsOf, List.map_cons, List.map_nil, List.length_cons, List.length_nil, List.replicate, List.getElem?_cons_zero, List.getElem?_cons_succ, List.cons_append, List.nil_append, List.set_cons_zero, List.set_cons_succ, Nat.reduceAdd, Nat.reduceSub]
    intro p hp
    refine ⟨mupd_same, ?_⟩
    exact dp_loop r _ _ _ _ (fun b o e => msub_new hp _ _ (h b o e)) fun M2 x y hM => k M2 x y hM
theorem pure_depth {A : Ad} (ds M R EX) (h : sp_depth A ds M R EX) : t_depth A (fun C fs _ M' => WkX EX C fs M') (endsOf R) (startD n_depth ds) M := by
  obtain ⟨L, rfl, k⟩ := h
  unfold t_depth
  simp only [dFor, dIter, dVar, dC, dOp, dTest, dChain, dAnd, dOr, dNot, dAndV, dOrV, dNotV, dIfE, dNil, dCons, dTup, dLst, dNext, dSeq, dIfS, dRet, dRetN, dExpr, dBrk, dCnt, dSet, dNever, gN, gTp, gLs, gsNil, gsCons, dAsg, dCall, dRaise, dRaiseF, ixD, dSl, slD, dPart, dNoPart, dCB, lenD, minD, maxD, absD, intD, strD, tupleD, listD, dMt, dMt0, tyD, appendD, popD, splitD, countD, dIsi, gSb, setL, dFld, dFldSet, dMeth, dMake, dFldAug, dAug, dPar, dTru, dNeg, augAdd, dDep, dIsC, intI, cmpI, startD, endsOf, List.map_cons, List.map_nil, List.length_cons, List.length_nil, List.replicate, List.getElem?_cons_zero, List.getElem?_cons_succ, List.cons_append, List.nil_append, List.set_cons_zero, List.set_cons_succ, Nat.reduceAdd, Nat.reduceSub]
  refine ⟨by decide, trivial, ?_⟩
  exact dp_loop (M := M) (v := .str L) L 0 0 none M (fun _ _ e => e) fun M2 x y hM => ⟨M, hM, k⟩
theorem cut_take (L : List Nat) (k : Nat) : cutL L none (some (k : Int)) = L.take k := by
  unfold cutL
  rw [HT.sIx_none, HT.sIx_nat]
  simp
theorem cut_drop {α : Type} (L : List α) (k : Nat) : cutL L (some (k : Int)) none = L.drop k := by
  unfold cutL
  rw [HT.sIx_none, HT.sIx_nat]
  by_cases h : k ≤ L.length
  · rw [Nat.min_eq_left h, List.take_of_length_le (by simp)]
  · rw [Nat.min_eq_right (by omega), List.drop_eq_nil_of_le (Nat.le_refl _), List.drop_eq_nil_of_le (by omega)]; simp
def w_check : List Nat := [99, 104, 101, 99, 107, 32]
def RC (N : Nat) (L : List Nat) (d : D) : Prop :=
  if L.take 6 ≠ w_check ∨ dpv 0 0 L > 8 then d = .non
  else ∃ e k, PC (L.drop 6) N 0 e k ∧ (∀ M, GD M e) ∧ d = if isN e = true ∨ k < (L.drop 6).length ∨ okC 2 e = false then .non else e
def sp_read_check (_ : Ad) (N : Nat) : DSp := fun ds M Q _ => ∃ L d, ds = [.str L] ∧ L.length ≤ 100000 ∧ RC N L d ∧ Q d M
def t_read_check (A : Ad) (N : Nat) : DS := dSeq (dIfS (dOr (dTest (dOp neD (dSl (dVar 0) (dNoPart) (dPart (dC (.int 6)))) (dC (.str [99, 104, 101, 99, 107, 32])))) (dTest (dOp gtD (dCall (sp_depth A) (dCons (dVar 0) (dNil))) (dC c_MOST_DEEP)))) (dRet (dC .non)) (dNext)) (dSeq (dSet 1 (dMake A.cRd (sp_Reading_init A) (dCons (dSl (dVar 0) (dPart (dC (.int 6))) (dNoPart)) (dNil)))) (dSeq (dSet 2 (dMeth A.cRd "one_check" (spO A (fun L => PC L N)) (dVar 1) (dNil))) (dSeq (dIfS (dOr (dTest (dOp isD (dVar 2) (dC .non))) (dOr (dTest (dOp ltD (dFld A.cRd "at" (dVar 1)) (dCB lenD (dCons (dFld A.cRd "line" (dVar 1)) (dNil))))) (dNot (dTest (dCall (sp_is_check A) (dCons (dVar 2) (dNil))))))) (dRet (dC .non)) (dNext)) (dRet (dVar 2)))))
abbrev n_read_check : List Str := ["line", "reading", "check"]
theorem pure_read_check {A : Ad} {N : Nat} (ds M R EX) (h : sp_read_check A N ds M R EX) : t_read_check A N (fun C fs _ M' => WkX EX C fs M') (endsOf R) (startD n_read_check ds) M := by
  obtain ⟨L, d, rfl, hL, hd, k⟩ := h
  unfold t_read_check
  simp only [dVar, dC, dOp, dTest, dChain, dAnd, dOr, dNot, dAndV, dOrV, dNotV, dIfE, dNil, dCons, dTup, dLst, dNext, dSeq, dIfS, dRet, dRetN, dExpr, dBrk, dCnt, dSet, dNever, gN, gTp, gLs, gsNil, gsCons, dAsg, dCall, dRaise, dRaiseF, ixD, dSl, slD, dPart, dNoPart, dCB, lenD, minD, maxD, absD, intD, strD, tupleD, listD, dMt, dMt0, tyD, appendD, popD, splitD, countD, dIsi, gSb, setL, dFld, dFldSet, dMeth, dMake, dFldAug, dAug, dPar, dTru, dNeg, augAdd, dDep, dIsC, intI, cmpI, startD, endsOf, List.map_cons, List.map_nil, List.length_cons, List.length_nil, List.replicate, List.getElem?_cons_zero, List.getElem?_cons_succ, List.cons_append, List.nil_append, List.set_cons_zero, List.set_cons_succ, Nat.reduceAdd, Nat.reduceSub]
  have z : sizeLine = 16777216 := sizeLine_eq
  refine ⟨by omega, ?_⟩
  rw [show cutL L none (some (6 : Int)) = L.take 6 from cut_take L 6]
  show (match !decide (L.take 6 = w_check) with | true => _ | false => _)
  unfold RC at hd
  by_cases q1 : L.take 6 = w_check
  · rw [decide_eq_true q1]
    refine ⟨L, rfl, ?_⟩
    show (match decide (dpv 0 0 L > 8) with | true => _ | false => _)
    by_cases q2 : dpv 0 0 L > 8
    · rw [decide_eq_true q2]
      rw [if_pos (.inr q2)] at hd
      subst hd
      exact Wk.self k
    · rw [decide_eq_false q2]
      rw [if_neg (by intro z; rcases z with z | z; exact z q1; exact q2 z)] at hd
      obtain ⟨e, j, hp, hg, rfl⟩ := hd
      refine ⟨by omega, fun a dx ha hdx hne => ?_⟩
      rw [show cutL L (some (6 : Int)) none = L.drop 6 from cut_drop L 6]
      refine ⟨a, dx, L.drop 6, rfl, mupd_same, rfl, ?_⟩
      rw [mupd_idem]
      have hr : Rdg A (mupd M a (rdO A dx (L.drop 6) 0)) a dx (L.drop 6) 0 := ⟨mupd_same, by rw [List.length_drop]; omega⟩
      refine mcall hr ⟨a, dx, _, 0, e, j, rfl, hr, hp, ?_⟩
      rw [mupd_idem]
      have hr2 : Rdg A (mupd M a (rdO A dx (L.drop 6) j)) a dx (L.drop 6) j := ⟨mupd_same, hr.2⟩
      show (match isN e with | true => _ | false => _)
      cases q3 : isN e with
      | true =>
        rw [if_pos (.inl q3)] at k
        exact ⟨M, msub_new ha, k⟩
      | false =>
        refine fat hr2 (fline hr2 ⟨by have := hr.2; omega, ?_⟩)
        show (match decide ((j : Int) < ((L.drop 6).length : Int)) with | true => _ | false => _)
        by_cases q4 : j < (L.drop 6).length
        · rw [decide_eq_true (show (j : Int) < ((L.drop 6).length : Int) by omega)]
          rw [if_pos (.inr (.inl q4))] at k
          exact ⟨M, msub_new ha, k⟩
        · rw [decide_eq_false (show ¬ (j : Int) < ((L.drop 6).length : Int) by omega)]
          refine ⟨e, rfl, hg _, ?_⟩
          cases q5 : okC 2 e with
          | false =>
            rw [if_pos (.inr (.inr q5))] at k
            exact ⟨M, msub_new ha, k⟩
          | true =>
            rw [if_neg (by rw [q3, q5]; intro z; rcases z with z | z | z; exact Bool.noConfusion z; exact q4 z; exact Bool.noConfusion z)] at k
            exact ⟨M, msub_new ha, k⟩
  · rw [decide_eq_false q1]
    rw [if_pos (.inl q1)] at hd
    subst hd
    exact Wk.self k
end DL

set_option Elab.async false
set_option linter.all false
set_option maxRecDepth 100000
set_option maxHeartbeats 1000000
namespace DL
open PySem L2
def w_reader : List Nat := [114, 101, 97, 100, 101, 114]
theorem msub_upd {M M' : DM} {p : Addr} {o : MO} (h : MSub M M') : MSub (mupd M p o) (mupd M' p o) := fun b o' e => by
  by_cases q : b = p
  · subst q; rw [mupd_same] at e ⊢; exact e
  · rw [mupd_ne q] at e ⊢; exact h b o' e
theorem msub_none {M M' : DM} {p : Addr} (h : MSub M M') (e : M' p = none) : M p = none := by
  cases q : M p with
  | none => rfl
  | some o => rw [h _ _ q] at e; cases e
theorem MSub.tr {M M1 M2 : DM} (a : MSub M M1) (b : MSub M1 M2) : MSub M M2 := fun x o e => b _ _ (a _ _ e)
theorem splL_cons (c : Nat) : ∀ (acc L : List Nat), ∃ x r, splL c acc L = x :: r
  | acc, [] => ⟨acc, [], rfl⟩
  | acc, y :: r => by
    unfold splL
    by_cases q : y = c
    · rw [if_pos q]; exact ⟨_, _, rfl⟩
    · rw [if_neg q]; exact splL_cons c (acc ++ [y]) r
theorem splL_len (c : Nat) : ∀ (acc L : List Nat) (x : List Nat), x ∈ splL c acc L → x.length ≤ acc.length + L.length
  | acc, [], x, h => by unfold splL at h; rw [List.mem_singleton] at h; subst h; exact Nat.le_refl _
  | acc, y :: r, x, h => by
    unfold splL at h
    rw [List.length_cons]
    by_cases q : y = c
    · rw [if_pos q] at h
      rcases List.mem_cons.mp h with e | e
      · subst e; omega
      · have := splL_len c [] r x e
        rw [List.length_nil] at this; omega
    · rw [if_neg q] at h
      have := splL_len c (acc ++ [y]) r x h
      rw [List.length_append, List.length_cons, List.length_nil] at this; omega
theorem splL_cnt (c : Nat) : ∀ (acc L : List Nat), (splL c acc L).length ≤ L.length + 1
  | acc, [] => by unfold splL; simp
  | acc, y :: r => by
    unfold splL
    by_cases q : y = c
    · rw [if_pos q, List.length_cons, List.length_cons]; have := splL_cnt c [] r; omega
    · rw [if_neg q, List.length_cons]; have := splL_cnt c (acc ++ [y]) r; omega
def okM (A : Ad) (EX : DX) (M : DM) (i : Int) : Prop := ∀ dx, M dx = none → EX A.cBL [.ref dx] (mupd M dx (.xd "line" (.int i)))
def sp_read_program (A : Ad) (N : Nat) : DSp := fun ds M Q EX => ∃ T l0 ls w0 ws, ds = [.str T] ∧ T.length ≤ 100000 ∧ splL 10 [] T = l0 :: ls ∧ splL 32 [] l0 = w0 :: ws ∧
  (w0 ≠ w_reader ∨ rf (.tup (ws.map D.str)) ≠ none → okM A EX M 1) ∧
  (w0 = w_reader ∧ rf (.tup (ws.map D.str)) = none → ∃ d, (match ls with | [] => d = .non | l1 :: _ => RC N l1 d) ∧ (isN d = true → okM A EX M 2) ∧
    (isN d = false → okC 2 d = true ∧ (∀ M, GD M d) ∧ (1 < ls.length → okM A EX M 3) ∧ (ls.length ≤ 1 → ∀ a dx, M a = none → M dx = none → dx ≠ a → Q (.ref a) (mupd M a (prO A dx d (.tup (ws.map D.str)))))))
def t_read_program (A : Ad) (N : Nat) : DS := dSeq (dSet 1 (dMt "str" splitD (dVar 0) (dCons (dC (.str [10])) (dNil)))) (dSeq (dSet 2 (dMt "str" splitD (dOp ixD (dVar 1) (dC (.int 0))) (dCons (dC (.str [32])) (dNil)))) (dSeq (dSet 3 (dCB tupleD (dCons (dSl (dVar 2) (dPart (dC (.int 1))) (dNoPart)) (dNil)))) (dSeq (dIfS (dOr (dTest (dOp neD (dOp ixD (dVar 2) (dC (.int 0))) (dC (.str [114, 101, 97, 100, 101, 114])))) (dTest (dOp isNotD (dCall (sp_reader_fault A) (dCons (dVar 3) (dNil))) (dC .non)))) (dRaiseF A.cBL "line" (dC (.int 1))) (dNext)) (dSeq (dSet 4 (dIfE (dTest (dOp gtD (dCB lenD (dCons (dVar 1) (dNil))) (dC (.int 1)))) (dCall (sp_read_check A N) (dCons (dOp ixD (dVar 1) (dC (.int 1))) (dNil))) (dC .non))) (dSeq (dIfS (dTest (dOp isD (dVar 4) (dC .non))) (dRaiseF A.cBL "line" (dC (.int 2))) (dNext)) (dSeq (dIfS (dTest (dOp gtD (dCB lenD (dCons (dVar 1) (dNil))) (dC (.int 2)))) (dRaiseF A.cBL "line" (dC (.int 3))) (dNext)) (dRet (dMake A.cPr (sp_Program_init A) (dCons (dVar 4) (dCons (dVar 3) (dNil)))))))))))
abbrev n_read_program : List Str := ["text", "lines", "words", "reader", "check"]
theorem exl {A : Ad} {EX : DX} {M M' : DM} {i : Int} (h : okM A EX M i) (s : MSub M M') : ∀ dx, M' dx = none → WkX EX A.cBL [.ref dx] (mupd M' dx (.xd "line" (.int i))) := fun dx hdx => ⟨_, msub_upd s, h dx (msub_none s hdx)⟩
theorem gd_strs {M : DM} {ws : List (List Nat)} (h : ∀ w ∈ ws, w.length ≤ 100000) : GD M (.tup (ws.map D.str)) := .tup fun d hd => by
  rw [List.mem_map] at hd
  obtain ⟨w, hw, rfl⟩ := hd
  exact .str w (h w hw)
theorem atI0 {xs : List D} {x : D} : atI (x :: xs) 0 = some x := by unfold atI ixN; rw [if_pos (by omega), if_pos (by simp only [List.length_cons]; omega)]; rfl
theorem atI1 {xs : List D} {x y : D} : atI (x :: y :: xs) 1 = some y := by unfold atI ixN; rw [if_pos (by omega), if_pos (by simp only [List.length_cons]; omega)]; rfl
theorem pure_read_program {A : Ad} {N : Nat} (ds M R EX) (h : sp_read_program A N ds M R EX) : t_read_program A N (fun C fs _ M' => WkX EX C fs M') (endsOf R) (startD n_read_program ds) M := by
  obtain ⟨T, l0, ls, w0, ws, rfl, hT, hl, hw, k1, k2⟩ := h
  have z : sizeLine = 16777216 := sizeLine_eq
  have hll : ∀ x ∈ l0 :: ls, x.length ≤ 100000 := fun x hx => by
    have := splL_len 10 [] T x (by rw [hl]; exact hx)
    rw [List.length_nil] at this; omega
  have hl0 : l0.length ≤ 100000 := hll l0 (by simp)
  have hcnt : (l0 :: ls).length ≤ T.length + 1 := by have := splL_cnt 10 [] T; rw [hl] at this; exact this
  have hws : ∀ x ∈ w0 :: ws, x.length ≤ 100000 := fun x hx => by
    have := splL_len 32 [] l0 x (by rw [hw]; exact hx)
    rw [List.length_nil] at this; omega
  unfold t_read_program
  simp only [dVar, dC, dOp, dTest, dChain, dAnd, dOr, dNot, dAndV, dOrV, dNotV, dIfE, dNil, dCons, dTup, dLst, dNext, dSeq, dIfS, dRet, dRetN, dExpr, dBrk, dCnt, dSet, dNever, gN, gTp, gLs, gsNil, gsCons, dAsg, dCall, dRaise, dRaiseF, ixD, dSl, slD, dPart, dNoPart, dCB, lenD, minD, maxD, absD, intD, strD, tupleD, listD, dMt, dMt0, tyD, appendD, popD, joinD, splitD, countD, dIsi, gSb, setL, dFld, dFldSet, dMeth, dMake, dFldAug, dAug, dPar, dTru, dNeg, augAdd, dDep, dIsC, intI, cmpI, startD, endsOf, List.map_cons, List.map_nil, List.length_cons, List.length_nil, List.replicate, List.getElem?_cons_zero, List.getElem?_cons_succ, List.cons_append, List.nil_append, List.set_cons_zero, List.set_cons_succ, Nat.reduceAdd, Nat.reduceSub]
  refine ⟨trivial, by decide, by omega, fun p hp => ?_⟩
  rw [hl]
  have s1 : MSub M (mupd M p (.lst ((l0 :: ls).map D.str))) := msub_new hp
  refine ⟨_, _, mupd_same, atI0, trivial, by decide, by omega, fun p2 hp2 => ?_⟩
  rw [hw]
  have ne : p ≠ p2 := fun q => by subst q; rw [mupd_same] at hp2; cases hp2
  have s2 := s1.tr (msub_new (o := .lst ((w0 :: ws).map D.str)) hp2)
  refine ⟨_, mupd_same, fun p3 hp3 => ⟨_, _, mupd_same, msub_new hp3, ?_⟩⟩
  rw [show cutL ((w0 :: ws).map D.str) (some (1 : Int)) none = ws.map D.str from by rw [show (1 : Int) = ((1 : Nat) : Int) from rfl, cut_drop]; rfl]
  refine ⟨_, _, mupd_same, atI0, ?_⟩
  have eM : mupd (mupd M p (.lst ((l0 :: ls).map D.str))) p2 (.lst ((w0 :: ws).map D.str)) p = some (.lst ((l0 :: ls).map D.str)) := by rw [mupd_ne ne, mupd_same]
  show (match !decide (w0 = w_reader) with | true => _ | false => _)
  by_cases q1 : w0 = w_reader
  · rw [decide_eq_true q1]
    refine ⟨_, rfl, gd_strs fun w hw => hws w (by simp [hw]), ?_⟩
    cases q2 : rf (.tup (ws.map D.str)) with
    | some i => exact exl (k1 (.inr (by rw [q2]; simp))) s2
    | none =>
      obtain ⟨d, hd, k3, k4⟩ := k2 ⟨q1, q2⟩
      refine ⟨_, eM, ?_⟩
      cases ls with
      | nil =>
        subst hd
        exact exl (k3 rfl) s2
      | cons l1 ls =>
        rw [decide_eq_true (show (1 : Int) < ((List.map D.str (l0 :: l1 :: ls)).length : Int) by simp only [List.map_cons, List.length_cons]; omega)]
        refine ⟨_, _, eM, atI1, l1, d, rfl, hll l1 (by simp), hd, ?_⟩
        show (match isN d with | true => _ | false => _)
        cases q3 : isN d with
        | true => exact exl (k3 q3) s2
        | false =>
          obtain ⟨hC, hG, k5, k6⟩ := k4 q3
          refine ⟨_, eM, ?_⟩
          by_cases q4 : 1 < (l1 :: ls).length
          · rw [decide_eq_true (show (2 : Int) < ((List.map D.str (l0 :: l1 :: ls)).length : Int) by simp only [List.map_cons, List.length_cons, List.length_map] at q4 ⊢; omega)]
            exact exl (k5 q4) s2
          · rw [decide_eq_false (show ¬ (2 : Int) < ((List.map D.str (l0 :: l1 :: ls)).length : Int) by simp only [List.map_cons, List.length_cons, List.length_map] at q4 ⊢; omega)]
            intro x dx hx hdx hne
            refine ⟨x, dx, d, _, rfl, mupd_same, hG _, gd_strs fun w hw => hws w (by simp [hw]), (fun z => by rw [hC] at z; cases z), fun _ => ⟨fun _ => ⟨rfl, ?_⟩, (fun i z => by rw [q2] at z; cases z)⟩⟩
            rw [mupd_idem]
            exact ⟨_, msub_upd s2, k6 (by omega) x dx (msub_none s2 hx) (msub_none s2 hdx) hne⟩
  · rw [decide_eq_false q1]
    exact exl (k1 (.inl q1)) s2
def sp_Program_eq (A : Ad) : DSp := fun ds M Q _ => ∃ a b dx dy c r p q, ds = [.ref a, .ref b] ∧ M a = some (prO A dx c r) ∧ M b = some (prO A dy c r) ∧ PyOf M c p ∧ PyOf M r q ∧ SeqAt.shaped p = true ∧ SeqAt.shaped q = true ∧ Q (.bl true) M
def t_Program_eq (A : Ad) : DS := dRet (dAndV (dIsC A.cPr (dVar 1)) (dAndV (dOp eqD (dFld A.cPr "check" (dVar 0)) (dFld A.cPr "check" (dVar 1))) (dOp eqD (dFld A.cPr "reader" (dVar 0)) (dFld A.cPr "reader" (dVar 1)))))
abbrev n_Program_eq : List Str := ["self", "other"]
theorem eqv_refl0 {p : PyData} (h : SeqAt.shaped p = true) : PyData.eqv p p = true := SeqAt.eqv_refl p (SeqAt.canLay_of_shaped h)
theorem eq_self {M : DM} {x : D} {p : PyData} {R : DQ} (h : PyOf M x p) (hs : SeqAt.shaped p = true) (k : R (.bl true) M) : eqD x x M R := by
  unfold eqD
  cases e : eqS x x with
  | some b =>
    have : b = true := by cases x <;> simp [eqS] at e <;> (first | exact e | exact e.symm)
    subst this
    exact k
  | none => exact ⟨p, p, h, h, hs, hs, by rw [eqv_refl0 hs]; exact k⟩
theorem pure_Program_eq {A : Ad} (ds M R EX) (h : sp_Program_eq A ds M R EX) : t_Program_eq A (fun C fs _ M' => WkX EX C fs M') (endsOf R) (startD n_Program_eq ds) M := by
  obtain ⟨a, b, dx, dy, c, r, p, q, rfl, ea, eb, hp, hq, sp, sq, k⟩ := h
  unfold t_Program_eq
  simp only [dVar, dC, dOp, dTest, dChain, dAnd, dOr, dNot, dAndV, dOrV, dNotV, dIfE, dNil, dCons, dTup, dLst, dNext, dSeq, dIfS, dRet, dRetN, dExpr, dBrk, dCnt, dSet, dNever, gN, gTp, gLs, gsNil, gsCons, dAsg, dCall, dRaise, dRaiseF, ixD, dSl, slD, dPart, dNoPart, dCB, lenD, minD, maxD, absD, intD, strD, tupleD, listD, dMt, dMt0, tyD, appendD, popD, joinD, splitD, countD, dIsi, gSb, setL, dFld, dFldSet, dMeth, dMake, dFldAug, dAug, dPar, dTru, dNeg, augAdd, dDep, dIsC, intI, cmpI, startD, endsOf, List.map_cons, List.map_nil, List.length_cons, List.length_nil, List.replicate, List.getElem?_cons_zero, List.getElem?_cons_succ, List.cons_append, List.nil_append, List.set_cons_zero, List.set_cons_succ, Nat.reduceAdd, Nat.reduceSub]
  refine ⟨b, dy, _, _, rfl, eb, a, dx, _, _, 0, _, rfl, ea, rfl, rfl, b, dy, _, _, 0, _, rfl, eb, rfl, rfl, ?_⟩
  refine eq_self hp sp ?_
  refine ⟨a, dx, _, _, 1, _, rfl, ea, rfl, rfl, b, dy, _, _, 1, _, rfl, eb, rfl, rfl, ?_⟩
  exact eq_self hq sq (Wk.self k)
end DL

set_option Elab.async false
set_option linter.all false
set_option maxRecDepth 100000
set_option maxHeartbeats 1000000
namespace DL
open PySem L2
def bD : Option Nat → D
  | none => .non
  | some x => .int (x : Nat)
def bT : Option Nat → List Nat
  | none => [45]
  | some x => [48 + x]
def pD (p : List Nat × Nat × Option Nat) : D := .tup [.str p.1, .int (p.2.1 : Nat), bD p.2.2]
def pT (p : List Nat × Nat × Option Nat) : List Nat := [39] ++ p.1 ++ [39, 44] ++ bT (some p.2.1) ++ [44] ++ bT p.2.2
def OKL (l : List Nat) : Prop := okL (.str l) = true
def OKB (a : Nat) (b : Option Nat) : Prop := a ≤ 9 ∧ ∀ x, b = some x → a ≤ x ∧ x ≤ 9
def ORd (ss : List (List Nat)) : Prop := rf (.tup (ss.map D.str)) = none ∧ ss.length = 6 ∧ ∀ s ∈ ss, s.length ≤ 10 ∧ ∀ c ∈ s, c ∈ SMc
def brk (w t : List Nat) : List Nat := w ++ [40] ++ t ++ [41]
inductive CF : Nat → D → List Nat → Prop
  | pl {n : Nat} {w l : List Nat} : w ∈ PLc → OKL l → CF n (.tup [.str w, .str l]) (brk w ([39] ++ l ++ [39]))
  | lg {n a : Nat} {b : Option Nat} : OKB a b → CF n (.tup [.str w_long, .int (a : Nat), bD b]) (brk w_long (bT (some a) ++ [44] ++ bT b))
  | sh {n : Nat} {ps : List (List Nat × Nat × Option Nat)} : 1 ≤ ps.length → ps.length ≤ 5 → (∀ p ∈ ps, OKL p.1 ∧ OKB p.2.1 p.2.2) → CF n (.tup [.str w_shape, .tup (ps.map pD)]) (brk w_shape (joinL [59] (ps.map pT)))
  | tr {n : Nat} {ss : List (List Nat)} : ORd ss → CF n (.tup [.str w_tries, .tup (ss.map D.str)]) (brk w_tries (joinL [44] ss))
  | no {n : Nat} {c : D} {t : List Nat} : CF n c t → CF (n + 1) (.tup [.str w_no, c]) (brk w_no t)
  | many {n : Nat} {w : List Nat} {cts : List (D × List Nat)} : w ∈ [w_all, w_some] → cts.length ≤ 4 → (∀ x ∈ cts, CF n x.1 x.2) → CF (n + 1) (.tup [.str w, .tup (cts.map (·.1))]) (brk w (joinL [59] (cts.map (·.2))))
theorem OKL.len {l : List Nat} (h : OKL l) : 1 ≤ l.length ∧ l.length ≤ 9 ∧ ∀ c ∈ l, c ∈ SGc := by
  unfold OKL at h
  simp only [okL, Bool.and_eq_true, decide_eq_true_eq, List.all_eq_true] at h
  exact ⟨h.1.1, h.1.2, fun c hc => (h.2 c hc).1⟩
theorem join_len (s : List Nat) (b : Nat) : ∀ ts : List (List Nat), (∀ t ∈ ts, t.length ≤ b) → (joinL s ts).length ≤ ts.length * (b + s.length)
  | [], _ => Nat.zero_le _
  | [x], h => by
    have := h x (by simp)
    show x.length ≤ (0 + 1) * (b + s.length)
    omega
  | x :: y :: r, h => by
    have h1 := h x (by simp)
    have h2 := join_len s b (y :: r) fun t ht => h t (by simp [ht])
    show (x ++ (s ++ joinL s (y :: r))).length ≤ _
    rw [List.length_append, List.length_append, List.length_cons, Nat.add_mul]
    omega
theorem bT_len (b : Option Nat) : (bT b).length = 1 := by cases b <;> rfl
theorem brk_len (w t : List Nat) : (brk w t).length = w.length + t.length + 2 := by unfold brk; simp only [List.length_append, List.length_cons, List.length_nil]; omega
theorem sum_le (b : Nat) : ∀ ts : List (List Nat), (∀ t ∈ ts, t.length ≤ b) → (ts.map (·.length)).sum ≤ ts.length * b
  | [], _ => by simp
  | x :: r, h => by
    have h1 := h x (by simp)
    have h2 := sum_le b r fun t ht => h t (by simp [ht])
    rw [List.map_cons, List.sum_cons, List.length_cons, Nat.add_mul]
    omega
theorem pT_len {p : List Nat × Nat × Option Nat} (h : OKL p.1) : (pT p).length ≤ 20 := by
  have := h.len.2.1
  unfold pT
  simp only [List.length_append, List.length_cons, List.length_nil, bT_len]
  omega
theorem PL_len {w : List Nat} (h : w ∈ PLc) : w.length ≤ 6 := by
  unfold PLc at h
  simp only [List.mem_cons, List.not_mem_nil, or_false] at h
  rcases h with rfl | rfl | rfl <;> decide
theorem AS_len {w : List Nat} (h : w ∈ [w_all, w_some]) : w.length ≤ 4 := by
  simp only [List.mem_cons, List.not_mem_nil, or_false] at h
  rcases h with rfl | rfl <;> decide
theorem CF.len {n : Nat} {d : D} {t : List Nat} (h : CF n d t) : t.length ≤ 200 * 6 ^ n := by
  have one : ∀ n : Nat, 200 ≤ 200 * 6 ^ n := fun n => Nat.le_mul_of_pos_right _ (Nat.pow_pos (by decide))
  induction h with
  | @pl n w l hw hl =>
    refine Nat.le_trans ?_ (one _)
    rw [brk_len]
    have h1 := PL_len hw
    have h2 := hl.len.2.1
    simp only [List.length_append, List.length_cons, List.length_nil]
    omega
  | @lg n a b h =>
    refine Nat.le_trans ?_ (one _)
    rw [brk_len]
    simp only [List.length_append, List.length_cons, List.length_nil, bT_len]
    decide
  | @sh n ps h1 h2 h3 =>
    refine Nat.le_trans ?_ (one _)
    rw [brk_len]
    have := join_len [59] 20 (ps.map pT) fun t ht => by
      rw [List.mem_map] at ht
      obtain ⟨p, hp, rfl⟩ := ht
      exact pT_len (h3 p hp).1
    rw [List.length_map] at this
    have e : ps.length * (20 + ([59] : List Nat).length) ≤ 5 * 21 := Nat.mul_le_mul h2 (by decide)
    have e2 : w_shape.length = 5 := rfl
    omega
  | @tr n ss h =>
    refine Nat.le_trans ?_ (one _)
    rw [brk_len]
    have := join_len [44] 10 ss fun t ht => (h.2.2 t ht).1
    rw [h.2.1] at this
    have e2 : w_tries.length = 5 := rfl
    have e3 : ([44] : List Nat).length = 1 := rfl
    omega
  | @no n c t _ ih =>
    rw [brk_len, Nat.pow_succ]
    have e2 : w_no.length = 2 := rfl
    have := one n
    omega
  | @many n w cts hw hl _ ih =>
    rw [brk_len, Nat.pow_succ]
    have h1 := join_len [59] (200 * 6 ^ n) (cts.map (·.2)) fun t ht => by
      rw [List.mem_map] at ht
      obtain ⟨x, hx, rfl⟩ := ht
      exact ih x hx
    rw [List.length_map] at h1
    have e : cts.length * (200 * 6 ^ n + ([59] : List Nat).length) ≤ 4 * (200 * 6 ^ n + 1) := Nat.mul_le_mul hl (Nat.le_refl _)
    have := AS_len hw
    have := one n
    omega
theorem okB_of {a : Nat} {x : Nat} (h1 : a ≤ x) (h2 : x ≤ 9) : okB (.int (x : Nat)) (a : Nat) = true := by
  simp only [okB, Bool.and_eq_true, decide_eq_true_eq]
  omega
theorem okBs_of {a : Nat} {b : Option Nat} (h : OKB a b) : okBs (.int (a : Nat)) (bD b) = true := by
  unfold okBs
  rw [show okB (.int (a : Nat)) 0 = true from okB_of (a := 0) (Nat.zero_le _) h.1, Bool.true_and]
  cases b with
  | none => rfl
  | some x => exact okB_of (h.2 x rfl).1 (h.2 x rfl).2
theorem okC_step {n : Nat} {c : D} (h : okC n (.tup [.str w_no, c]) = true) : True := trivial
theorem CF.ok {n : Nat} {d : D} {t : List Nat} (h : CF n d t) : okC n d = true := by
  induction h with
  | @pl n w l hw hl =>
    rw [okC_eq]
    simp only [okC0]
    rw [if_neg (by intro z; subst z; revert hw; decide), if_neg (by simp), if_pos hw]
    exact hl
  | @lg n a b h =>
    rw [okC_eq]
    simp only [okC0]
    rw [if_pos trivial]
    exact okBs_of h
  | @sh n ps h1 h2 h3 =>
    rw [okC_eq]
    simp only [okC0]
    rw [if_neg (by decide), if_neg (by simp), if_neg (by decide), if_pos trivial]
    simp only [okPs, List.length_map, decide_eq_true h1, decide_eq_true h2, Bool.true_and, List.all_map, List.all_eq_true]
    intro p hp
    show (okL (.str p.1) && okBs (.int (p.2.1 : Nat)) (bD p.2.2)) = true
    rw [show okL (.str p.1) = true from (h3 p hp).1, okBs_of (h3 p hp).2]; rfl
  | @tr n ss h =>
    rw [okC_eq]
    simp only [okC0]
    rw [if_neg (by decide), if_neg (by simp), if_neg (by decide), if_neg (by decide), if_pos trivial, h.1]
    rfl
  | @no n c t _ ih =>
    rw [okC_eq]
    simp only [okC0]
    rw [if_neg (by decide), if_neg (by simp), if_neg (by decide), if_neg (by decide), if_neg (by decide), if_neg (by simp), if_pos trivial]
    exact ih
  | @many n w cts hw hl _ ih =>
    rw [okC_eq]
    simp only [okC0]
    have nw : ∀ u : List Nat, u ∉ [w_all, w_some] → ¬ w = u := fun u hu z => hu (z ▸ hw)
    rw [if_neg (nw _ (by decide)), if_neg (by simp), if_neg (fun z => by
      simp only [List.mem_cons, List.not_mem_nil, or_false] at hw
      rcases hw with rfl | rfl <;> revert z <;> decide), if_neg (nw _ (by decide)), if_neg (nw _ (by decide)), if_neg (by simp), if_neg (nw _ (by decide)), decide_eq_true hw, List.length_map, decide_eq_true hl, Bool.true_and, Bool.true_and, List.all_map, List.all_eq_true]
    exact ih
theorem bD_gd (M : DM) (b : Option Nat) : GD M (bD b) := by cases b with
  | none => exact .non
  | some x => exact .int _
theorem CF.gd {n : Nat} {d : D} {t : List Nat} (h : CF n d t) (M : DM) : GD M d := by
  have two : ∀ {w : List Nat} {x : D}, w.length ≤ 100000 → GD M x → GD M (.tup [.str w, x]) := fun hw hx => .tup fun d hd => by
    simp only [List.mem_cons, List.not_mem_nil, or_false] at hd
    rcases hd with rfl | rfl
    · exact .str _ hw
    · exact hx
  induction h with
  | @pl n w l hw hl => exact two (by have := PL_len hw; omega) (.str _ (by have := hl.len.2.1; omega))
  | @lg n a b h =>
    refine .tup fun d hd => ?_
    simp only [List.mem_cons, List.not_mem_nil, or_false] at hd
    rcases hd with rfl | rfl | rfl
    · exact .str _ (by decide)
    · exact .int _
    · exact bD_gd M b
  | @sh n ps h1 h2 h3 =>
    refine two (by decide) (.tup fun d hd => ?_)
    rw [List.mem_map] at hd
    obtain ⟨p, hp, rfl⟩ := hd
    refine .tup fun d hd => ?_
    simp only [List.mem_cons, List.not_mem_nil, or_false] at hd
    rcases hd with rfl | rfl | rfl
    · exact .str _ (by have := (h3 p hp).1.len.2.1; omega)
    · exact .int _
    · exact bD_gd M _
  | @tr n ss h => exact two (by decide) (gd_strs fun w hw => by have := (h.2.2 w hw).1; omega)
  | @no n c t _ ih => exact two (by decide) ih
  | @many n w cts hw hl _ ih =>
    refine two (by have := AS_len hw; omega) (.tup fun d hd => ?_)
    rw [List.mem_map] at hd
    obtain ⟨x, hx, rfl⟩ := hd
    exact ih x hx
end DL

set_option Elab.async false
set_option linter.all false
set_option maxRecDepth 100000
set_option maxHeartbeats 1000000
namespace DL
open PySem L2
theorem lcF_zip {g : DG} {te : DE} {gd : DM → Prop} {D0 : Addr} {ρ : Env} {K : DM → Prop} {M : DM} : ∀ (cts : List (D × D)) (acc : List D), acc.length + cts.length < sizeLine → (∀ acc, gd (mupd M D0 (.lst acc))) →
    (∀ x ∈ cts, ∀ acc R, R x.2 (mupd M D0 (.lst acc)) → g x.1 ρ (mupd M D0 (.lst acc)) fun ρ1 M1 => te noW ρ1 M1 R) → (∀ x (ρ ρ' : Env) M (P Q : Env → DM → Prop), (∀ ρ1 M1, P ρ1 M1 → Q ρ1 M1) → g x ρ M P → g x ρ M Q) →
    K (mupd M D0 (.lst (acc ++ cts.map (·.2)))) → lcF g dYes te gd D0 ρ K (cts.map (·.1)) (mupd M D0 (.lst acc))
  | [], acc, _, hg, _, _, hk => ⟨hg _, by simpa using hk⟩
  | x :: r, acc, hz, hg, hf, hm, hk => by
    refine ⟨hg _, ?_⟩
    refine hf x (by simp) acc (fun d M3 => ∃ acc', M3 D0 = some (.lst acc') ∧ acc'.length < sizeLine ∧ lcF g dYes te gd D0 ρ K (r.map (·.1)) (mupd M3 D0 (.lst (acc' ++ [d])))) ?_
    rw [List.length_cons] at hz
    refine ⟨acc, mupd_same, by omega, ?_⟩
    rw [mupd_idem]
    refine lcF_zip r (acc ++ [x.2]) (by rw [List.length_append, List.length_cons, List.length_nil]; omega) hg (fun y hy => hf y (by simp [hy])) hm ?_
    simpa using hk
theorem join_lc {g : DG} {te : DE} {gd : DM → Prop} {D0 : Addr} {ρ : Env} {s : List Nat} {cts : List (D × List Nat)} {b : Nat} {M : DM} {R : DQ} (hD : M D0 = none) (hz : cts.length ≤ 100) (hs : s.length ≤ 10) (hb : ∀ x ∈ cts, x.2.length ≤ b) (hb2 : b ≤ 100000) (hg : ∀ acc, gd (mupd M D0 (.lst acc)))
    (hf : ∀ x ∈ cts, ∀ acc R, R (.str x.2) (mupd M D0 (.lst acc)) → g x.1 ρ (mupd M D0 (.lst acc)) fun ρ1 M1 => te noW ρ1 M1 R) (hm : ∀ x (ρ ρ' : Env) M (P Q : Env → DM → Prop), (∀ ρ1 M1, P ρ1 M1 → Q ρ1 M1) → g x ρ M P → g x ρ M Q) (k : R (.str (joinL s (cts.map (·.2)))) M) :
    lcF g dYes te gd D0 ρ (fun M2 => joinD (.str s) [.ref D0] M2 R) (cts.map (·.1)) (mupd M D0 (.lst [])) := by
  have z : sizeLine = 16777216 := sizeLine_eq
  have e : cts.map (·.1) = (cts.map fun x => (x.1, D.str x.2)).map (·.1) := by rw [List.map_map]; rfl
  rw [e]
  refine lcF_zip (cts.map fun x => (x.1, D.str x.2)) [] (by rw [List.length_map, List.length_nil]; omega) hg (fun x hx acc R' h => ?_) hm ?_
  · rw [List.mem_map] at hx
    obtain ⟨y, hy, rfl⟩ := hx
    exact hf y hy acc R' h
  · refine ⟨cts.map (·.2), M, ?_, msub_new hD, ?_, k⟩
    · rw [mupd_same, List.nil_append, List.map_map, List.map_map]; rfl
    · have h1 := sum_le b (cts.map (·.2)) fun t ht => by
        rw [List.mem_map] at ht
        obtain ⟨x, hx, rfl⟩ := ht
        exact hb x hx
      rw [List.length_map] at h1 ⊢
      have h2 : cts.length * b ≤ 100 * 100000 := Nat.mul_le_mul hz hb2
      have h3 : cts.length * s.length ≤ 100 * 10 := Nat.mul_le_mul hz hs
      omega
theorem join_tup {s : List Nat} {ss : List (List Nat)} {M : DM} {R : DQ} (hs : s.length ≤ 10) (hn : ss.length ≤ 100) (hb : ∀ t ∈ ss, t.length ≤ 100) (k : R (.str (joinL s ss)) M) : joinD (.str s) [.tup (ss.map D.str)] M R := by
  refine ⟨ss, rfl, ?_, k⟩
  have h1 := sum_le 100 ss hb
  have h2 : ss.length * 100 ≤ 100 * 100 := Nat.mul_le_mul hn (Nat.le_refl _)
  have h3 : ss.length * s.length ≤ 100 * 10 := Nat.mul_le_mul hn hs
  omega
theorem str9 : ∀ x : Nat, x ≤ 9 → strInt (x : Int) = [48 + x] := by decide +kernel
theorem log9 : ∀ x : Nat, x ≤ 9 → (x : Int).natAbs.log2 < 1920 := by decide +kernel
def sp_bound_text (_ : Ad) : DSp := fun ds M Q _ => ∃ b, ds = [bD b] ∧ (∀ x, b = some x → x ≤ 9) ∧ Q (.str (bT b)) M
def t_bound_text (A : Ad) : DS := dRet (dIfE (dTest (dOp isD (dVar 0) (dC .non))) (dC (.str [45])) (dCB strD (dCons (dVar 0) (dNil))))
abbrev n_bound_text : List Str := ["value"]
theorem bound_run {b : Option Nat} {M : DM} {R : DQ} (h : ∀ x, b = some x → x ≤ 9) (k : R (.str (bT b)) M) : match isN (bD b) with
    | true => R (.str [45]) M
    | false => strD [bD b] M R := by
  cases b with
  | none => exact k
  | some x => exact ⟨log9 x (h x rfl), by rw [str9 x (h x rfl)]; exact k⟩
theorem pure_bound_text {A : Ad} (ds M R EX) (h : sp_bound_text A ds M R EX) : t_bound_text A (fun C fs _ M' => WkX EX C fs M') (endsOf R) (startD n_bound_text ds) M := by
  obtain ⟨b, rfl, h, k⟩ := h
  cases b with
  | none => exact Wk.self k
  | some x => exact ⟨log9 x (h x rfl), by rw [str9 x (h x rfl)]; exact Wk.self k⟩
theorem add_s {a b : List Nat} {M : DM} {R : DQ} (h : a.length + b.length ≤ 100000) (k : R (.str (a ++ b)) M) : addD (.str a) (.str b) M R := ⟨by have z : sizeLine = 16777216 := sizeLine_eq; omega, k⟩
theorem brk_run {R : DQ} {w t : List Nat} {M : DM} (hw : w.length ≤ 100) (ht : t.length ≤ 50000) (k : R (.str (brk w t)) M) : addD (.str w) (.str [40]) M fun x M1 => addD x (.str t) M1 fun x M2 => addD x (.str [41]) M2 R := by
  refine add_s (by simp only [List.length_cons, List.length_nil]; omega) (add_s ?_ (add_s ?_ k))
  · simp only [List.length_append, List.length_cons, List.length_nil]; omega
  · simp only [List.length_append, List.length_cons, List.length_nil]; omega
def sp_wr (n : Nat) : DSp := fun ds M Q _ => ∃ d t, ds = [d] ∧ n ≤ 2 ∧ CF n d t ∧ Q (.str t) M
theorem pow_le {n : Nat} (h : n ≤ 2) : 200 * 6 ^ n ≤ 7200 := by
  match n, h with
  | 0, _ => decide
  | 1, _ => decide
  | 2, _ => decide
theorem gd_mono : ∀ (is : List Nat) (xs : List D) (ρ : Env) (M : DM) (P Q : Env → DM → Prop), (∀ ρ1 M1, P ρ1 M1 → Q ρ1 M1) → gdAll is xs ρ M P → gdAll is xs ρ M Q
  | [], [], _, _, _, _, h, k => h _ _ k
  | [], _ :: _, _, _, _, _, _, k => k.elim
  | _ :: _, [], _, _, _, _, _, k => k.elim
  | i :: is, x :: xs, ρ, M, P, Q, h, k => gd_mono is xs (ρ.set i (some x)) M P Q h k
theorem part_run {A : Ad} {R : DQ} {p : List Nat × Nat × Option Nat} {M : DM} {sb : DSp} {E : DX} (hsb : ∀ b M R, (∀ x, b = some x → x ≤ 9) → R (.str (bT b)) M → sb [bD b] M R E) (h1 : OKL p.1) (h2 : OKB p.2.1 p.2.2) (k : R (.str (pT p)) M) :
    addD (.str [39]) (.str p.1) M fun x M1 => addD x (.str [39, 44]) M1 fun x M1 => sb [.int (p.2.1 : Nat)] M1 (fun y M2 => addD x y M2 fun x M1 => addD x (.str [44]) M1 fun x M1 => sb [bD p.2.2] M1 (fun y M2 => addD x y M2 R) E) E := by
  have hl := h1.len.2.1
  refine add_s (by simp only [List.length_cons, List.length_nil]; omega) (add_s (by simp only [List.length_append, List.length_cons, List.length_nil]; omega) ?_)
  refine hsb (some p.2.1) _ _ (fun x hx => by cases hx; exact h2.1) (add_s (by simp only [List.length_append, List.length_cons, List.length_nil, bT_len]; omega) (add_s (by simp only [List.length_append, List.length_cons, List.length_nil, bT_len]; omega) ?_))
  exact hsb p.2.2 _ _ (fun x hx => (h2.2 x hx).2) (add_s (by simp only [List.length_append, List.length_cons, List.length_nil, bT_len]; omega) k)
def t_check_line (A : Ad) (spR : DSp) : DS := dSeq (dPar 1 2 (dCons (dOp ixD (dVar 0) (dC (.int 0))) (dCons (dOp ixD (dVar 0) (dC (.int 1))) (dNil)))) (dSeq (dIfS (dTest (dOp inD (dVar 1) (dC c_PLAIN))) (dSet 3 (dOp addD (dOp addD (dC (.str [39])) (dVar 2)) (dC (.str [39])))) (dIfS (dTest (dOp eqD (dVar 1) (dC (.str [108, 111, 110, 103])))) (dSet 3 (dOp addD (dOp addD (dCall (sp_bound_text A) (dCons (dVar 2) (dNil))) (dC (.str [44]))) (dCall (sp_bound_text A) (dCons (dOp ixD (dVar 0) (dC (.int 2))) (dNil))))) (dIfS (dTest (dOp eqD (dVar 1) (dC (.str [115, 104, 97, 112, 101])))) (dSet 3 (dMt "str" joinD (dC (.str [59])) (dCons (dLc (dIter (dVar 2)) (gTp 3 (gdAll [4, 5, 6])) (dYes) (dOp addD (dOp addD (dOp addD (dOp addD (dOp addD (dC (.str [39])) (dVar 4)) (dC (.str [39, 44]))) (dCall (sp_bound_text A) (dCons (dVar 5) (dNil)))) (dC (.str [44]))) (dCall (sp_bound_text A) (dCons (dVar 6) (dNil)))) [4, 5, 6]) (dNil)))) (dIfS (dTest (dOp eqD (dVar 1) (dC (.str [116, 114, 105, 101, 115])))) (dSet 3 (dMt "str" joinD (dC (.str [44])) (dCons (dVar 2) (dNil)))) (dIfS (dTest (dOp eqD (dVar 1) (dC (.str [110, 111])))) (dSet 3 (dCall (spR) (dCons (dVar 2) (dNil)))) (dSet 3 (dMt "str" joinD (dC (.str [59])) (dCons (dLc (dIter (dVar 2)) (gN 7) (dYes) (dCall (spR) (dCons (dVar 7) (dNil))) [7]) (dNil))))))))) (dRet (dOp addD (dOp addD (dOp addD (dVar 1) (dC (.str [40]))) (dVar 3)) (dC (.str [41])))))
abbrev n_check_line : List Str := ["check", "word", "rest", "inner", "letters", "a", "b", "one"]
theorem pure_check_line {A : Ad} {n : Nat} {spR : DSp} (hR : ∀ m, n = m + 1 → spR = sp_wr m) (ds M R EX) (h : sp_wr n ds M R EX) : t_check_line A spR (fun C fs _ M' => WkX EX C fs M') (endsOf R) (startD n_check_line ds) M := by
  obtain ⟨d, t, rfl, hn, hc, k⟩ := h
  unfold t_check_line
  simp only [dVar, dC, dOp, dTest, dChain, dAnd, dOr, dNot, dAndV, dOrV, dNotV, dIfE, dNil, dCons, dTup, dLst, dNext, dSeq, dIfS, dRet, dRetN, dExpr, dBrk, dCnt, dSet, dNever, gN, gTp, gLs, gsNil, gsCons, dAsg, dCall, dRaise, dRaiseF, ixD, dSl, slD, dPart, dNoPart, dCB, lenD, minD, maxD, absD, intD, strD, tupleD, listD, dMt, dMt0, tyD, appendD, popD, splitD, countD, dIsi, gSb, setL, dFld, dFldSet, dMeth, dMake, dFldAug, dAug, dPar, dTru, dNeg, augAdd, dDep, dIsC, intI, cmpI, startD, endsOf, List.map_cons, List.map_nil, List.length_cons, List.length_nil, List.replicate, List.getElem?_cons_zero, List.getElem?_cons_succ, List.cons_append, List.nil_append, List.set_cons_zero, List.set_cons_succ, Nat.reduceAdd, Nat.reduceSub]
  cases hc with
  | @pl n w l hw hl =>
    refine in_strs (ys := PLc) ?_
    rw [decide_eq_true hw]
    have h1 := PL_len hw
    have h2 := hl.len.2.1
    refine add_s (by simp only [List.length_cons, List.length_nil]; omega) (add_s (by simp only [List.length_append, List.length_cons, List.length_nil]; omega) ?_)
    exact brk_run (by omega) (by simp only [List.length_append, List.length_cons, List.length_nil]; omega) (Wk.self k)
  | @lg n a b h =>
    refine in_strs (ys := PLc) ?_
    refine ⟨some a, rfl, (fun x hx => by cases hx; exact h.1), add_s (by rw [bT_len]; decide) ?_⟩
    refine ⟨b, rfl, (fun x hx => (h.2 x hx).2), add_s (by simp only [List.length_append, bT_len]; decide) ?_⟩
    exact brk_run (by decide) (by simp only [List.length_append, bT_len]; decide) (Wk.self k)
  | @sh n ps h1 h2 h3 =>
    refine in_strs (ys := PLc) ?_
    rw [show decide (w_shape ∈ PLc) = false from rfl]
    refine ⟨trivial, ?_⟩
    intro D0 hD
    rw [show ps.map pD = (ps.map fun p => (pD p, pT p)).map (·.1) from by rw [List.map_map]; rfl]
    have hj := join_len [59] 20 (ps.map pT) fun t ht => by
      rw [List.mem_map] at ht
      obtain ⟨p, hp, rfl⟩ := ht
      exact pT_len (h3 p hp).1
    rw [List.length_map] at hj
    have e5 : ps.length * (20 + ([59] : List Nat).length) ≤ 5 * 21 := Nat.mul_le_mul h2 (by decide)
    refine join_lc (b := 20) hD (by rw [List.length_map]; omega) (by decide) (fun x hx => ?_) (by decide) (fun _ => trivial) (fun x hx acc R' hR' => ?_) (fun x ρ ρ' M P Q h k => ?_) ?_
    · rw [List.mem_map] at hx
      obtain ⟨p, hp, rfl⟩ := hx
      exact pT_len (h3 p hp).1
    · rw [List.mem_map] at hx
      obtain ⟨p, hp, rfl⟩ := hx
      refine ⟨rfl, ?_⟩
      exact part_run (A := A) (sb := sp_bound_text A) (E := fun C fs M2 => False) (fun b M R h k => ⟨b, rfl, h, k⟩) (h3 p hp).1 (h3 p hp).2 hR'
    · cases x with
      | tup xs => exact ⟨k.1, gd_mono [4, 5, 6] xs _ _ _ _ h k.2⟩
      | _ => exact k.elim
    · rw [List.map_map]
      exact brk_run (by decide) (by show (joinL [59] (ps.map pT)).length ≤ _; omega) (Wk.self k)
  | @tr n ss h =>
    refine in_strs (ys := PLc) ?_
    rw [show decide (w_tries ∈ PLc) = false from rfl]
    refine ⟨trivial, ?_⟩
    refine join_tup (s := [44]) (by decide) (by rw [h.2.1]; decide) (fun t ht => by have := (h.2.2 t ht).1; omega) ?_
    have hj := join_len [44] 10 ss fun t ht => (h.2.2 t ht).1
    rw [h.2.1] at hj
    exact brk_run (by decide) (by have : ([44] : List Nat).length = 1 := rfl; omega) (Wk.self k)
  | @no m c t hc =>
    refine in_strs (ys := PLc) ?_
    have hl := hc.len
    have hp := pow_le (n := m) (by omega)
    rw [hR m rfl]
    exact ⟨c, t, rfl, by omega, hc, brk_run (by decide) (by omega) (Wk.self k)⟩
  | @many m w cts hw hl hc =>
    refine in_strs (ys := PLc) ?_
    have hp := pow_le (n := m) (by omega)
    have hj := join_len [59] 7200 (cts.map (·.2)) fun t ht => by
      rw [List.mem_map] at ht
      obtain ⟨x, hx, rfl⟩ := ht
      have := (hc x hx).len
      omega
    rw [List.length_map] at hj
    have e5 : cts.length * (7200 + ([59] : List Nat).length) ≤ 4 * 7201 := Nat.mul_le_mul hl (by decide)
    have hw4 := AS_len hw
    have nw : ∀ u : List Nat, u ∉ [w_all, w_some] → ¬ w = u := fun u hu z => hu (z ▸ hw)
    rw [decide_eq_false (show ¬ w ∈ PLc from fun z => by
      simp only [List.mem_cons, List.not_mem_nil, or_false] at hw
      rcases hw with rfl | rfl <;> revert z <;> decide)]
    show (match decide (w = w_long) with | true => _ | false => _)
    rw [decide_eq_false (nw _ (by decide))]
    show (match decide (w = w_shape) with | true => _ | false => _)
    rw [decide_eq_false (nw _ (by decide))]
    show (match decide (w = w_tries) with | true => _ | false => _)
    rw [decide_eq_false (nw _ (by decide))]
    show (match decide (w = w_no) with | true => _ | false => _)
    rw [decide_eq_false (nw _ (by decide))]
    refine ⟨trivial, ?_⟩
    intro D0 hD
    refine join_lc (b := 7200) hD (by omega) (by decide) (fun x hx => ?_) (by decide) (fun _ => trivial) (fun x hx acc R' hR' => ?_) (fun x ρ ρ' M P Q h k => h _ _ k) ?_
    · have := (hc x hx).len
      omega
    · show spR [x.1] _ _ _
      rw [hR m rfl]
      exact ⟨x.1, x.2, rfl, by omega, hc x hx, hR'⟩
    · exact brk_run (by omega) (by omega) (Wk.self k)
def wrT (ss : List (List Nat)) (t : List Nat) : List Nat := [114, 101, 97, 100, 101, 114, 32] ++ joinL [32] ss ++ [10, 99, 104, 101, 99, 107, 32] ++ t
def sp_write (A : Ad) : DSp := fun ds M Q _ => ∃ a dx c ss t, ds = [.ref a] ∧ M a = some (prO A dx c (.tup (ss.map D.str))) ∧ CF 2 c t ∧ ORd ss ∧ Q (.str (wrT ss t)) M
def t_write (A : Ad) : DS := dRet (dOp addD (dOp addD (dOp addD (dC (.str [114, 101, 97, 100, 101, 114, 32])) (dMt "str" joinD (dC (.str [32])) (dCons (dFld A.cPr "reader" (dVar 0)) (dNil)))) (dC (.str [10, 99, 104, 101, 99, 107, 32]))) (dCall (sp_wr 2) (dCons (dFld A.cPr "check" (dVar 0)) (dNil))))
abbrev n_write : List Str := ["program"]
theorem ORd.join {ss : List (List Nat)} (h : ORd ss) : (joinL [32] ss).length ≤ 66 := by
  have hj := join_len [32] 10 ss fun t ht => (h.2.2 t ht).1
  rw [h.2.1] at hj
  exact hj
theorem pure_write {A : Ad} (ds M R EX) (h : sp_write A ds M R EX) : t_write A (fun C fs _ M' => WkX EX C fs M') (endsOf R) (startD n_write ds) M := by
  obtain ⟨a, dx, c, ss, t, rfl, e, hc, hs, k⟩ := h
  unfold t_write
  simp only [dVar, dC, dOp, dTest, dChain, dAnd, dOr, dNot, dAndV, dOrV, dNotV, dIfE, dNil, dCons, dTup, dLst, dNext, dSeq, dIfS, dRet, dRetN, dExpr, dBrk, dCnt, dSet, dNever, gN, gTp, gLs, gsNil, gsCons, dAsg, dCall, dRaise, dRaiseF, ixD, dSl, slD, dPart, dNoPart, dCB, lenD, minD, maxD, absD, intD, strD, tupleD, listD, dMt, dMt0, tyD, appendD, popD, splitD, countD, dIsi, gSb, setL, dFld, dFldSet, dMeth, dMake, dFldAug, dAug, dPar, dTru, dNeg, augAdd, dDep, dIsC, intI, cmpI, startD, endsOf, List.map_cons, List.map_nil, List.length_cons, List.length_nil, List.replicate, List.getElem?_cons_zero, List.getElem?_cons_succ, List.cons_append, List.nil_append, List.set_cons_zero, List.set_cons_succ, Nat.reduceAdd, Nat.reduceSub]
  have hj := hs.join
  have ht := hc.len
  have hp := pow_le (n := 2) (by omega)
  refine ⟨trivial, a, dx, _, _, 1, _, rfl, e, rfl, rfl, join_tup (s := [32]) (by decide) (by rw [hs.2.1]; decide) (fun t ht => by have := (hs.2.2 t ht).1; omega) ?_⟩
  refine add_s (by simp only [List.length_cons, List.length_nil]; omega) (add_s (by simp only [List.length_append, List.length_cons, List.length_nil]; omega) ?_)
  refine ⟨a, dx, _, _, 0, _, rfl, e, rfl, rfl, c, t, rfl, by omega, hc, add_s (by simp only [List.length_append, List.length_cons, List.length_nil]; omega) (Wk.self k)⟩
end DL

set_option Elab.async false
set_option linter.all false
set_option maxRecDepth 100000
set_option maxHeartbeats 1000000
namespace DL
open PySem L2
def sp_law_bound (_ : Ad) : DSp := fun ds M Q _ => ∃ b, ds = [bD b] ∧ (∀ x, b = some x → x ≤ 9) ∧ Q (.str (bT b)) M
def t_law_bound (A : Ad) : DS := dSeq (dIfS (dTest (dOp isD (dVar 0) (dC .non))) (dRet (dC (.str [45]))) (dNext)) (dRet (dCB strD (dCons (dVar 0) (dNil))))
abbrev n_law_bound : List Str := ["_law_value"]
theorem pure_law_bound {A : Ad} (ds M R EX) (h : sp_law_bound A ds M R EX) : t_law_bound A (fun C fs _ M' => WkX EX C fs M') (endsOf R) (startD n_law_bound ds) M := by
  obtain ⟨b, rfl, h, k⟩ := h
  cases b with
  | none => exact Wk.self k
  | some x => exact ⟨log9 x (h x rfl), by rw [str9 x (h x rfl)]; exact Wk.self k⟩
def t_law_shown (A : Ad) (spR : DSp) : DS := dSeq (dSet 1 (dOp ixD (dVar 0) (dC (.int 0)))) (dSeq (dSet 2 (dC (.str []))) (dSeq (dIfS (dTest (dOp inD (dVar 1) (dTup (dCons (dC (.str [115, 105, 103, 110, 115])) (dCons (dC (.str [98, 101, 103, 105, 110, 115])) (dCons (dC (.str [101, 110, 100, 115])) (dNil))))))) (dSet 2 (dOp addD (dOp addD (dC (.str [39])) (dOp ixD (dVar 0) (dC (.int 1)))) (dC (.str [39])))) (dIfS (dTest (dOp eqD (dVar 1) (dC (.str [108, 111, 110, 103])))) (dSet 2 (dOp addD (dOp addD (dCall (sp_law_bound A) (dCons (dOp ixD (dVar 0) (dC (.int 1))) (dNil))) (dC (.str [44]))) (dCall (sp_law_bound A) (dCons (dOp ixD (dVar 0) (dC (.int 2))) (dNil))))) (dIfS (dTest (dOp eqD (dVar 1) (dC (.str [115, 104, 97, 112, 101])))) (dSeq (dSet 3 (dLst (dNil))) (dSeq (dFor (dIter (dOp ixD (dVar 0) (dC (.int 1)))) (gTp 3 (gsCons (gN 4) (gsCons (gN 5) (gsCons (gN 6) (gsNil))))) (dExpr (dMt "list" appendD (dVar 3) (dCons (dOp addD (dOp addD (dOp addD (dOp addD (dOp addD (dC (.str [39])) (dVar 4)) (dC (.str [39, 44]))) (dCall (sp_law_bound A) (dCons (dVar 5) (dNil)))) (dC (.str [44]))) (dCall (sp_law_bound A) (dCons (dVar 6) (dNil)))) (dNil))))) (dSet 2 (dMt "str" joinD (dC (.str [59])) (dCons (dVar 3) (dNil)))))) (dIfS (dTest (dOp eqD (dVar 1) (dC (.str [116, 114, 105, 101, 115])))) (dSet 2 (dMt "str" joinD (dC (.str [44])) (dCons (dOp ixD (dVar 0) (dC (.int 1))) (dNil)))) (dIfS (dTest (dOp eqD (dVar 1) (dC (.str [110, 111])))) (dSet 2 (dCall (spR) (dCons (dOp ixD (dVar 0) (dC (.int 1))) (dNil)))) (dSet 2 (dMt "str" joinD (dC (.str [59])) (dCons (dLc (dIter (dOp ixD (dVar 0) (dC (.int 1)))) (gN 7) (dYes) (dCall (spR) (dCons (dVar 7) (dNil))) [7]) (dNil))))))))) (dRet (dOp addD (dOp addD (dOp addD (dVar 1) (dC (.str [40]))) (dVar 2)) (dC (.str [41]))))))
abbrev n_law_shown : List Str := ["_law_check_here", "_law_word", "_law_inner", "_law_rows", "_law_letters_here", "_law_a", "_law_b", "_law_one"]
theorem rows_loop {A : Ad} {W : DW} {E : DEnds} {M : DM} {v w u : D} {p : Addr} : ∀ (ps : List (List Nat × Nat × Option Nat)) (acc : List D) (x y z s : Option D), M p = none → acc.length + ps.length ≤ 100 → (∀ q ∈ ps, OKL q.1 ∧ OKB q.2.1 q.2.2) →
    (∀ x y z, E.nx [some v, some w, some u, some (.ref p), x, y, z, s] (mupd M p (.lst (acc ++ ps.map fun q => .str (pT q))))) →
    dLoop (gTp 3 (gsCons (gN 4) (gsCons (gN 5) (gsCons (gN 6) (gsNil))))) (dExpr (dMt "list" appendD (dVar 3) (dCons (dOp addD (dOp addD (dOp addD (dOp addD (dOp addD (dC (.str [39])) (dVar 4)) (dC (.str [39, 44]))) (dCall (sp_law_bound A) (dCons (dVar 5) (dNil)))) (dC (.str [44]))) (dCall (sp_law_bound A) (dCons (dVar 6) (dNil)))) (dNil))) W) anyM (ps.map pD) E [some v, some w, some u, some (.ref p), x, y, z, s] (mupd M p (.lst acc))
  | [], acc, x, y, z, s, hp, hl, ho, k => ⟨trivial, by simpa using k x y z⟩
  | q :: r, acc, x, y, z, s, hp, hl, ho, k => by
    refine ⟨trivial, rfl, ?_⟩
    simp only [dVar, dC, dOp, dTest, dChain, dAnd, dOr, dNot, dAndV, dOrV, dNotV, dIfE, dNil, dCons, dTup, dLst, dNext, dSeq, dIfS, dRet, dRetN, dExpr, dBrk, dCnt, dSet, dNever, gN, gTp, gLs, gsNil, gsCons, dAsg, dCall, dRaise, dRaiseF, ixD, dSl, slD, dPart, dNoPart, dCB, lenD, minD, maxD, absD, intD, strD, tupleD, listD, dMt, dMt0, tyD, appendD, popD, splitD, countD, dIsi, gSb, setL, dFld, dFldSet, dMeth, dMake, dFldAug, dAug, dPar, dTru, dNeg, augAdd, dDep, dIsC, intI, cmpI, startD, endsOf, List.map_cons, List.map_nil, List.length_cons, List.length_nil, List.replicate, List.getElem?_cons_zero, List.getElem?_cons_succ, List.cons_append, List.nil_append, List.set_cons_zero, List.set_cons_succ, Nat.reduceAdd, Nat.reduceSub]
    refine ⟨.inl ⟨trivial, _, mupd_same⟩, ?_⟩
    refine part_run (A := A) (sb := sp_law_bound A) (fun b M R h k => ⟨b, rfl, h, k⟩) (ho q (by simp)).1 (ho q (by simp)).2 ?_
    rw [List.length_cons] at hl
    refine ⟨_, mupd_same, (by have z : sizeLine = 16777216 := sizeLine_eq; omega), ?_⟩
    rw [mupd_idem]
    refine rows_loop r (acc ++ [.str (pT q)]) _ _ _ s hp (by rw [List.length_append, List.length_cons, List.length_nil]; omega) (fun q hq => ho q (by simp [hq])) fun x y z => ?_
    have := k x y z
    simpa using this
theorem pure_law_shown {A : Ad} {n : Nat} {spR : DSp} (hR : ∀ m, n = m + 1 → spR = sp_wr m) (ds M R EX) (h : sp_wr n ds M R EX) : t_law_shown A spR (fun C fs _ M' => WkX EX C fs M') (endsOf R) (startD n_law_shown ds) M := by
  obtain ⟨d, t, rfl, hn, hc, k⟩ := h
  unfold t_law_shown
  simp only [dVar, dC, dOp, dTest, dChain, dAnd, dOr, dNot, dAndV, dOrV, dNotV, dIfE, dNil, dCons, dTup, dLst, dNext, dSeq, dIfS, dRet, dRetN, dExpr, dBrk, dCnt, dSet, dNever, gN, gTp, gLs, gsNil, gsCons, dAsg, dCall, dRaise, dRaiseF, ixD, dSl, slD, dPart, dNoPart, dCB, lenD, minD, maxD, absD, intD, strD, tupleD, listD, dMt, dMt0, tyD, appendD, popD, splitD, countD, dIsi, gSb, setL, dFld, dFldSet, dMeth, dMake, dFldAug, dAug, dPar, dTru, dNeg, augAdd, dDep, dIsC, intI, cmpI, startD, endsOf, List.map_cons, List.map_nil, List.length_cons, List.length_nil, List.replicate, List.getElem?_cons_zero, List.getElem?_cons_succ, List.cons_append, List.nil_append, List.set_cons_zero, List.set_cons_succ, Nat.reduceAdd, Nat.reduceSub]
  cases hc with
  | @pl n w l hw hl =>
    refine ⟨by show 3 ≤ sizeLine; decide, in_strs (ys := PLc) ?_⟩
    rw [decide_eq_true hw]
    have h1 := PL_len hw
    have h2 := hl.len.2.1
    refine add_s (by simp only [List.length_cons, List.length_nil]; omega) (add_s (by simp only [List.length_append, List.length_cons, List.length_nil]; omega) ?_)
    exact brk_run (by omega) (by simp only [List.length_append, List.length_cons, List.length_nil]; omega) (Wk.self k)
  | @lg n a b h =>
    refine ⟨by show 3 ≤ sizeLine; decide, in_strs (ys := PLc) ?_⟩
    refine ⟨some a, rfl, (fun x hx => by cases hx; exact h.1), add_s (by rw [bT_len]; decide) ?_⟩
    refine ⟨b, rfl, (fun x hx => (h.2 x hx).2), add_s (by simp only [List.length_append, bT_len]; decide) ?_⟩
    exact brk_run (by decide) (by simp only [List.length_append, bT_len]; decide) (Wk.self k)
  | @sh n ps h1 h2 h3 =>
    refine ⟨by show 3 ≤ sizeLine; decide, in_strs (ys := PLc) ?_⟩
    rw [show decide (w_shape ∈ PLc) = false from rfl]
    have hj := join_len [59] 20 (ps.map pT) fun t ht => by
      rw [List.mem_map] at ht
      obtain ⟨p, hp, rfl⟩ := ht
      exact pT_len (h3 p hp).1
    rw [List.length_map] at hj
    have e5 : ps.length * (20 + ([59] : List Nat).length) ≤ 5 * 21 := Nat.mul_le_mul h2 (by decide)
    refine ⟨by decide, ?_⟩
    intro p hp
    refine rows_loop (A := A) ps [] _ _ _ _ hp (by rw [List.length_nil]; omega) h3 fun x y z => ?_
    have hs := sum_le 20 (ps.map pT) fun t ht => by
      rw [List.mem_map] at ht
      obtain ⟨p, hp, rfl⟩ := ht
      exact pT_len (h3 p hp).1
    rw [List.length_map] at hs
    refine ⟨trivial, ps.map pT, M, ?_, msub_new hp, ?_, ?_⟩
    · rw [mupd_same, List.nil_append, List.map_map]; rfl
    · rw [List.length_map]
      have : ps.length * ([59] : List Nat).length ≤ 5 * 1 := Nat.mul_le_mul h2 (by decide)
      omega
    · exact brk_run (by decide) (by omega) (Wk.self k)
  | @tr n ss h =>
    refine ⟨by show 3 ≤ sizeLine; decide, in_strs (ys := PLc) ?_⟩
    rw [show decide (w_tries ∈ PLc) = false from rfl]
    refine ⟨trivial, ?_⟩
    refine join_tup (s := [44]) (by decide) (by rw [h.2.1]; decide) (fun t ht => by have := (h.2.2 t ht).1; omega) ?_
    have hj := join_len [44] 10 ss fun t ht => (h.2.2 t ht).1
    rw [h.2.1] at hj
    exact brk_run (by decide) (by have : ([44] : List Nat).length = 1 := rfl; omega) (Wk.self k)
  | @no m c t hc =>
    refine ⟨by show 3 ≤ sizeLine; decide, in_strs (ys := PLc) ?_⟩
    have hl := hc.len
    have hp := pow_le (n := m) (by omega)
    rw [hR m rfl]
    exact ⟨c, t, rfl, by omega, hc, brk_run (by decide) (by omega) (Wk.self k)⟩
  | @many m w cts hw hl hc =>
    refine ⟨by show 3 ≤ sizeLine; decide, in_strs (ys := PLc) ?_⟩
    have hp := pow_le (n := m) (by omega)
    have hj := join_len [59] 7200 (cts.map (·.2)) fun t ht => by
      rw [List.mem_map] at ht
      obtain ⟨x, hx, rfl⟩ := ht
      have := (hc x hx).len
      omega
    rw [List.length_map] at hj
    have e5 : cts.length * (7200 + ([59] : List Nat).length) ≤ 4 * 7201 := Nat.mul_le_mul hl (by decide)
    have hw4 := AS_len hw
    have nw : ∀ u : List Nat, u ∉ [w_all, w_some] → ¬ w = u := fun u hu z => hu (z ▸ hw)
    rw [decide_eq_false (show ¬ w ∈ PLc from fun z => by
      simp only [List.mem_cons, List.not_mem_nil, or_false] at hw
      rcases hw with rfl | rfl <;> revert z <;> decide)]
    show (match decide (w = w_long) with | true => _ | false => _)
    rw [decide_eq_false (nw _ (by decide))]
    show (match decide (w = w_shape) with | true => _ | false => _)
    rw [decide_eq_false (nw _ (by decide))]
    show (match decide (w = w_tries) with | true => _ | false => _)
    rw [decide_eq_false (nw _ (by decide))]
    show (match decide (w = w_no) with | true => _ | false => _)
    rw [decide_eq_false (nw _ (by decide))]
    refine ⟨trivial, ?_⟩
    intro D0 hD
    refine join_lc (b := 7200) hD (by omega) (by decide) (fun x hx => ?_) (by decide) (fun _ => trivial) (fun x hx acc R' hR' => ?_) (fun x ρ ρ' M P Q h k => h _ _ k) ?_
    · have := (hc x hx).len
      omega
    · show spR [x.1] _ _ _
      rw [hR m rfl]
      exact ⟨x.1, x.2, rfl, by omega, hc x hx, hR'⟩
    · exact brk_run (by omega) (by omega) (Wk.self k)
def lnR (ss : List (List Nat)) : List Nat := [114, 101, 97, 100, 101, 114, 32] ++ joinL [32] ss
def lnC (t : List Nat) : List Nat := [99, 104, 101, 99, 107, 32] ++ t
def sp_law_lines (_ : Ad) : DSp := fun ds M Q _ => ∃ c ss t, ds = [c, .tup (ss.map D.str)] ∧ CF 2 c t ∧ ORd ss ∧ ∀ p, M p = none → Q (.ref p) (mupd M p (.lst [.str (lnR ss), .str (lnC t)]))
def t_law_lines (A : Ad) : DS := dRet (dLst (dCons (dOp addD (dC (.str [114, 101, 97, 100, 101, 114, 32])) (dMt "str" joinD (dC (.str [32])) (dCons (dVar 1) (dNil)))) (dCons (dOp addD (dC (.str [99, 104, 101, 99, 107, 32])) (dCall (sp_wr 2) (dCons (dVar 0) (dNil)))) (dNil))))
abbrev n_law_lines : List Str := ["_law_check_here", "_law_reader_here"]
theorem pure_law_lines {A : Ad} (ds M R EX) (h : sp_law_lines A ds M R EX) : t_law_lines A (fun C fs _ M' => WkX EX C fs M') (endsOf R) (startD n_law_lines ds) M := by
  obtain ⟨c, ss, t, rfl, hc, hs, k⟩ := h
  unfold t_law_lines
  simp only [dVar, dC, dOp, dTest, dChain, dAnd, dOr, dNot, dAndV, dOrV, dNotV, dIfE, dNil, dCons, dTup, dLst, dNext, dSeq, dIfS, dRet, dRetN, dExpr, dBrk, dCnt, dSet, dNever, gN, gTp, gLs, gsNil, gsCons, dAsg, dCall, dRaise, dRaiseF, ixD, dSl, slD, dPart, dNoPart, dCB, lenD, minD, maxD, absD, intD, strD, tupleD, listD, dMt, dMt0, tyD, appendD, popD, splitD, countD, dIsi, gSb, setL, dFld, dFldSet, dMeth, dMake, dFldAug, dAug, dPar, dTru, dNeg, augAdd, dDep, dIsC, intI, cmpI, startD, endsOf, List.map_cons, List.map_nil, List.length_cons, List.length_nil, List.replicate, List.getElem?_cons_zero, List.getElem?_cons_succ, List.cons_append, List.nil_append, List.set_cons_zero, List.set_cons_succ, Nat.reduceAdd, Nat.reduceSub]
  have hj := hs.join
  have ht := hc.len
  have hp := pow_le (n := 2) (by omega)
  refine ⟨trivial, join_tup (s := [32]) (by decide) (by rw [hs.2.1]; decide) (fun t ht => by have := (hs.2.2 t ht).1; omega) ?_⟩
  refine add_s (by simp only [List.length_cons, List.length_nil]; omega) ?_
  refine ⟨c, t, rfl, by omega, hc, add_s (by simp only [List.length_cons, List.length_nil]; omega) ⟨by show 2 ≤ sizeLine; decide, fun p hp => Wk.self (k p hp)⟩⟩
end DL

set_option Elab.async false
set_option linter.all false
set_option maxRecDepth 100000
set_option maxHeartbeats 1000000
namespace DL
open PySem L2
structure Dr (M : DM) (x L : Addr) (ns : List Int) (i : Nat) (c s : Int) : Prop where
  mx : M x = some (.lst [.ref L, .int (i : Nat), .int c, .int s])
  mL : M L = some (.lst (ns.map D.int))
  ne : L ≠ x
  c0 : 0 ≤ c
  s0 : 0 ≤ s ∧ s < 2147483647
  nl : ns.length ≤ 100
def DrawsAt (M : DM) (x : Addr) : Prop := ∃ L ns i c s, Dr M x L ns i c s
theorem Dr.put {M : DM} {x L : Addr} {ns : List Int} {i : Nat} {c s : Int} (h : Dr M x L ns i c s) (i2 : Nat) (c2 s2 : Int) (hc : 0 ≤ c2) (hs : 0 ≤ s2 ∧ s2 < 2147483647) : Dr (mupd M x (.lst [.ref L, .int (i2 : Nat), .int c2, .int s2])) x L ns i2 c2 s2 :=
  ⟨mupd_same, by rw [mupd_ne h.ne]; exact h.mL, h.ne, hc, hs, h.nl⟩
def sp_law_begin (_ : Ad) : DSp := fun ds M Q _ => ∃ (a : Addr) (ns : List Int), ds = [.ref a] ∧ M a = some (.lst (ns.map D.int)) ∧ ns.length ≤ 100 ∧ ∀ x M', MSub M M' → M x = none → DrawsAt M' x → Q (.ref x) M'
def t_law_begin (A : Ad) : DS := dRet (dLst (dCons (dCB listD (dCons (dVar 0) (dNil))) (dCons (dC (.int 0)) (dCons (dC (.int 0)) (dCons (dC (.int 7)) (dNil))))))
abbrev n_law_begin : List Str := ["_law_script"]
theorem pure_law_begin {A : Ad} (ds M R EX) (h : sp_law_begin A ds M R EX) : t_law_begin A (fun C fs _ M' => WkX EX C fs M') (endsOf R) (startD n_law_begin ds) M := by
  obtain ⟨a, ns, rfl, e, hn, k⟩ := h
  unfold t_law_begin
  simp only [dVar, dC, dOp, dTest, dChain, dAnd, dOr, dNot, dAndV, dOrV, dNotV, dIfE, dNil, dCons, dTup, dLst, dNext, dSeq, dIfS, dRet, dRetN, dExpr, dBrk, dCnt, dSet, dNever, gN, gTp, gLs, gsNil, gsCons, dAsg, dCall, dRaise, dRaiseF, ixD, dSl, slD, dPart, dNoPart, dCB, lenD, minD, maxD, absD, intD, strD, tupleD, listD, dMt, dMt0, tyD, appendD, popD, splitD, countD, dIsi, gSb, setL, dFld, dFldSet, dMeth, dMake, dFldAug, dAug, dPar, dTru, dNeg, augAdd, dDep, dIsC, intI, cmpI, startD, endsOf, List.map_cons, List.map_nil, List.length_cons, List.length_nil, List.replicate, List.getElem?_cons_zero, List.getElem?_cons_succ, List.cons_append, List.nil_append, List.set_cons_zero, List.set_cons_succ, Nat.reduceAdd, Nat.reduceSub]
  refine ⟨_, e, fun L hL => ⟨by show 4 ≤ sizeLine; decide, fun x hx => Wk.self ?_⟩⟩
  have ne : L ≠ x := fun z => by subst z; rw [mupd_same] at hx; cases hx
  exact k x _ ((msub_new hL).tr (msub_new hx)) (msub_none (msub_new hL) hx) ⟨L, ns, 0, 0, 7, mupd_same, by rw [mupd_ne ne, mupd_same], ne, by decide, by decide, hn⟩
def LOf (M : DM) (x L : Addr) : Prop := ∃ a b c, M x = some (.lst [.ref L, a, b, c])
def LK (M : DM) (x : Addr) (l : List D) : Prop := ∀ L, LOf M x L → LOf (mupd M x (.lst l)) x L
theorem Dr.lk {M : DM} {x L : Addr} {ns : List Int} {i : Nat} {c s : Int} (h : Dr M x L ns i c s) (u v w : D) : LK M x [.ref L, u, v, w] := fun L2 ⟨a, b, d, e⟩ => by
  rw [h.mx] at e
  cases e
  exact ⟨u, v, w, mupd_same⟩
def spDraw (n : Nat) (x : Addr) (M : DM) (Q : DQ) : Prop := ∀ (r : Nat) (l : List D), r < n → DrawsAt (mupd M x (.lst l)) x → LK M x l → Q (.int (r : Nat)) (mupd M x (.lst l))
def sp_law_draw (_ : Ad) : DSp := fun ds M Q _ => ∃ x n, ds = [.ref x, .int (n : Nat)] ∧ 0 < n ∧ n < 1000000 ∧ DrawsAt M x ∧ spDraw n x M Q
def t_law_draw (A : Ad) : DS := dSeq (dIfS (dTest (dOp eqD (dOp ixD (dVar 0) (dC (.int 2))) (dC (.int 0)))) (dIfS (dTest (dOp ltD (dOp ixD (dVar 0) (dC (.int 1))) (dCB lenD (dCons (dOp ixD (dVar 0) (dC (.int 0))) (dNil))))) (dSeq (dSet 3 (dOp ixD (dOp ixD (dVar 0) (dC (.int 0))) (dOp ixD (dVar 0) (dC (.int 1))))) (dSeq (dAsg (dOp addD (dOp ixD (dVar 0) (dC (.int 1))) (dC (.int 1))) (gSb (dVar 0) (dC (.int 1)))) (dIfS (dTest (dOp geD (dVar 3) (dOp powD (dC (.int 10)) (dC (.int 18))))) (dAsg (dVar 3) (gSb (dVar 0) (dC (.int 2)))) (dAsg (dOp modD (dCB intD (dCons (dOp addD (dOp addD (dOp mulD (dOp ixD (dVar 0) (dC (.int 3))) (dC (.int 48271))) (dOp mulD (dVar 3) (dC (.int 69621)))) (dC (.int 11))) (dNil))) (dC (.int 2147483647))) (gSb (dVar 0) (dC (.int 3))))))) (dAsg (dOp modD (dCB intD (dCons (dOp addD (dOp mulD (dOp ixD (dVar 0) (dC (.int 3))) (dC (.int 48271))) (dC (.int 7))) (dNil))) (dC (.int 2147483647))) (gSb (dVar 0) (dC (.int 3))))) (dNext)) (dSeq (dIfS (dTest (dOp gtD (dOp ixD (dVar 0) (dC (.int 2))) (dC (.int 0)))) (dSeq (dSet 2 (dOp modD (dCB intD (dCons (dOp ixD (dVar 0) (dC (.int 2))) (dNil))) (dVar 1))) (dSeq (dAsg (dOp fdivD (dOp ixD (dVar 0) (dC (.int 2))) (dVar 1)) (gSb (dVar 0) (dC (.int 2)))) (dRet (dVar 2)))) (dNext)) (dRet (dOp modD (dOp modD (dCB intD (dCons (dOp mulD (dOp ixD (dVar 0) (dC (.int 3))) (dC (.int 16807))) (dNil))) (dC (.int 2147483629))) (dVar 1))))
abbrev n_law_draw : List Str := ["_law_draws", "_law_many", "_law_found", "_law_cell"]
abbrev drTail : DS := dSeq (dIfS (dTest (dOp gtD (dOp ixD (dVar 0) (dC (.int 2))) (dC (.int 0)))) (dSeq (dSet 2 (dOp modD (dCB intD (dCons (dOp ixD (dVar 0) (dC (.int 2))) (dNil))) (dVar 1))) (dSeq (dAsg (dOp fdivD (dOp ixD (dVar 0) (dC (.int 2))) (dVar 1)) (gSb (dVar 0) (dC (.int 2)))) (dRet (dVar 2)))) (dNext)) (dRet (dOp modD (dOp modD (dCB intD (dCons (dOp mulD (dOp ixD (dVar 0) (dC (.int 3))) (dC (.int 16807))) (dNil))) (dC (.int 2147483629))) (dVar 1)))
theorem mod_nat {a : Int} {n : Nat} (h : 0 < n) : ∃ r : Nat, r < n ∧ a % (n : Int) = (r : Int) := by
  have h1 := Int.emod_nonneg a (show (n : Int) ≠ 0 by omega)
  have h2 := Int.emod_lt_of_pos a (show (0 : Int) < n by omega)
  exact ⟨(a % (n : Int)).toNat, by omega, by omega⟩
theorem dr_tail {W : DW} {E : DEnds} {M : DM} {x L : Addr} {ns : List Int} {i : Nat} {c s : Int} {n : Nat} {y z : Option D} (h : Dr M x L ns i c s) (hn : 0 < n) (hn2 : n < 1000000) (k : spDraw n x M E.rt) : drTail W E [some (.ref x), some (.int (n : Nat)), y, z] M := by
  simp only [dVar, dC, dOp, dTest, dChain, dAnd, dOr, dNot, dAndV, dOrV, dNotV, dIfE, dNil, dCons, dTup, dLst, dNext, dSeq, dIfS, dRet, dRetN, dExpr, dBrk, dCnt, dSet, dNever, gN, gTp, gLs, gsNil, gsCons, dAsg, dCall, dRaise, dRaiseF, ixD, dSl, slD, dPart, dNoPart, dCB, lenD, minD, maxD, absD, intD, strD, tupleD, listD, dMt, dMt0, tyD, appendD, popD, splitD, countD, dIsi, gSb, setL, dFld, dFldSet, dMeth, dMake, dFldAug, dAug, dPar, dTru, dNeg, augAdd, dDep, dIsC, intI, cmpI, startD, endsOf, List.map_cons, List.map_nil, List.length_cons, List.length_nil, List.replicate, List.getElem?_cons_zero, List.getElem?_cons_succ, List.cons_append, List.nil_append, List.set_cons_zero, List.set_cons_succ, Nat.reduceAdd, Nat.reduceSub]
  refine ⟨_, _, h.mx, rfl, ?_⟩
  show (match decide (c > 0) with | true => _ | false => _)
  by_cases q : c > 0
  · rw [decide_eq_true q]
    obtain ⟨r, hr, er⟩ := mod_nat (a := c) hn
    refine ⟨_, _, h.mx, rfl, (by omega), _, _, h.mx, rfl, ⟨by omega, by omega⟩, _, 2, h.mx, rfl, ?_⟩
    show E.rt (.int (c % (n : Int))) _
    rw [er]
    exact k r _ hr ⟨L, ns, i, _, s, h.put i (c / (n : Int)) s (Int.ediv_nonneg h.c0 (by omega)) h.s0⟩ (h.lk _ _ _)
  · rw [decide_eq_false q]
    obtain ⟨r, hr, er⟩ := mod_nat (a := s * 16807 % 2147483629) hn
    refine ⟨_, _, h.mx, rfl, .inr ⟨by decide, by decide⟩, (by decide), (by omega), ?_⟩
    show E.rt (.int (s * 16807 % 2147483629 % (n : Int))) _
    rw [er]
    have := k r [.ref L, .int (i : Nat), .int c, .int s] hr ⟨L, ns, i, c, s, h.put i c s h.c0 h.s0⟩ (h.lk _ _ _)
    rw [mupd_self h.mx] at this
    exact this
theorem pure_law_draw {A : Ad} (ds M R EX) (h : sp_law_draw A ds M R EX) : t_law_draw A (fun C fs _ M' => WkX EX C fs M') (endsOf R) (startD n_law_draw ds) M := by
  obtain ⟨x, n, rfl, hn, hn2, ⟨L, ns, i, c, s, h⟩, k⟩ := h
  have fin : ∀ (M' : DM) (i : Nat) (c s : Int) (l : List D) (y z : Option D), M' = mupd M x (.lst l) → Dr M' x L ns i c s → drTail (fun C fs _ M' => WkX EX C fs M') (endsOf R) [some (.ref x), some (.int (n : Nat)), y, z] M' := fun M' i c s l y z e hd => by
    refine dr_tail hd hn hn2 fun r l2 hr h2 hk2 => Wk.self ?_
    have hk3 : LK M x l2 := fun L2 ⟨a, b, d, e2⟩ => by
      rw [h.mx] at e2
      cases e2
      have := hk2 L ⟨_, _, _, hd.mx⟩
      rw [e, mupd_idem] at this
      exact this
    subst e
    rw [mupd_idem] at h2 ⊢
    exact k r l2 hr h2 hk3
  have md : ∀ a : Int, 0 ≤ a % 2147483647 ∧ a % 2147483647 < 2147483647 := fun a => ⟨Int.emod_nonneg a (by decide), Int.emod_lt_of_pos a (by decide)⟩
  show dSeq _ drTail _ _ _ _
  unfold dSeq
  simp only [dIfS, dTest, dOp, dVar, dC, dCB, dCons, dNil, dNext, lenD, ixD, dSeq, dSet, dAsg, gSb, setL, intD, cmpI, intI, startD, List.map_cons, List.map_nil, List.length_cons, List.length_nil, List.replicate, List.getElem?_cons_zero, List.getElem?_cons_succ, List.cons_append, List.nil_append, List.set_cons_zero, List.set_cons_succ, Nat.reduceAdd, Nat.reduceSub]
  refine ⟨_, _, h.mx, rfl, ?_⟩
  show (match decide (c = 0) with | true => _ | false => _)
  by_cases q : c = 0
  · rw [decide_eq_true q]
    refine ⟨_, _, h.mx, rfl, _, _, h.mx, rfl, _, h.mL, ?_⟩
    show (match decide ((i : Int) < ((ns.map D.int).length : Int)) with | true => _ | false => _)
    by_cases q1 : i < ns.length
    · rw [decide_eq_true (show (i : Int) < ((ns.map D.int).length : Int) by rw [List.length_map]; omega)]
      obtain ⟨v, hv⟩ : ∃ v, ns[i]? = some v := ⟨ns[i], List.getElem?_eq_getElem q1⟩
      have ha : atI (ns.map D.int) (i : Int) = some (.int v) := by
        unfold atI ixN
        rw [if_pos (by omega), if_pos (by rw [List.length_map]; omega)]
        simp [hv]
      have hd2 := h.put (i + 1) c s h.c0 h.s0
      refine ⟨_, _, h.mx, rfl, _, _, h.mx, rfl, _, _, h.mL, ha, _, _, h.mx, rfl, _, 1, h.mx, rfl, ?_⟩
      refine ⟨⟨by decide, by decide, by decide⟩, ?_⟩
      show (match decide (v ≥ 10 ^ 18) with | true => _ | false => _)
      by_cases q2 : v ≥ 10 ^ 18
      · rw [decide_eq_true q2]
        refine ⟨_, 2, hd2.mx, rfl, ?_⟩
        rw [mupd_idem]
        exact fin _ (i + 1) v s _ _ _ rfl (h.put (i + 1) v s (by omega) h.s0)
      · rw [decide_eq_false q2]
        refine ⟨_, _, hd2.mx, rfl, .inr ⟨by decide, by decide⟩, .inr ⟨by decide, by decide⟩, by decide, _, 3, hd2.mx, rfl, ?_⟩
        rw [mupd_idem]
        exact fin _ (i + 1) c _ _ _ _ rfl (h.put (i + 1) c ((s * 48271 + v * 69621 + 11) % 2147483647) h.c0 (md _))
    · rw [decide_eq_false (show ¬ (i : Int) < ((ns.map D.int).length : Int) by rw [List.length_map]; omega)]
      refine ⟨_, _, h.mx, rfl, .inr ⟨by decide, by decide⟩, by decide, _, 3, h.mx, rfl, ?_⟩
      exact fin _ i c _ _ _ _ rfl (h.put i c ((s * 48271 + 7) % 2147483647) h.c0 (md _))
  · rw [decide_eq_false q]
    exact fin M i c s [.ref L, .int (i : Nat), .int c, .int s] _ _ (mupd_self h.mx).symm h
end DL

set_option Elab.async false
set_option linter.all false
set_option maxRecDepth 100000
set_option maxHeartbeats 1000000
namespace DL
open PySem L2
structure At (M : DM) (x : Addr) (M' : DM) : Prop where
  d : DrawsAt M' x
  k : ∀ b o, b ≠ x → M b = some o → M' b = some o
  l : ∀ L, LOf M x L → LOf M' x L
theorem At.self {M : DM} {x : Addr} (h : DrawsAt M x) : At M x M := ⟨h, fun _ _ _ e => e, fun _ h => h⟩
theorem At.tr {M M1 M2 : DM} {x : Addr} (a : At M x M1) (b : At M1 x M2) : At M x M2 := ⟨b.d, fun c o n e => b.k c o n (a.k c o n e), fun L h => b.l L (a.l L h)⟩
theorem DrawsAt.some {M : DM} {x : Addr} (h : DrawsAt M x) : ∃ o, M x = some o := let ⟨_, _, _, _, _, d⟩ := h; ⟨_, d.mx⟩
theorem DrawsAt.new {M : DM} {x p : Addr} {o : MO} (h : DrawsAt M x) (hp : M p = none) : DrawsAt (mupd M p o) x := by
  obtain ⟨L, ns, i, c, s, d⟩ := h
  exact ⟨L, ns, i, c, s, msub_new hp _ _ d.mx, msub_new hp _ _ d.mL, d.ne, d.c0, d.s0, d.nl⟩
theorem LOf.new {M : DM} {x L p : Addr} {o : MO} (h : LOf M x L) (hp : M p = none) : LOf (mupd M p o) x L := let ⟨a, b, c, e⟩ := h; ⟨a, b, c, msub_new hp _ _ e⟩
theorem At.new {M M1 : DM} {x p : Addr} {o : MO} (h : At M x M1) (hp : M1 p = none) : At M x (mupd M1 p o) := ⟨h.d.new hp, fun b u n e => msub_new hp _ _ (h.k b u n e), fun L q => (h.l L q).new hp⟩
theorem At.old {M M' : DM} {x p : Addr} {o : MO} (h : At (mupd M p o) x M') (hp : M p = none) : At M x M' := ⟨h.d, fun b u n e => h.k b u n (msub_new hp _ _ e), fun L q => h.l L (q.new hp)⟩
theorem At.put {M M1 : DM} {x p : Addr} {o : MO} (h : At M x M1) (hd : DrawsAt M x) (hp : M p = none) : At M x (mupd M1 p o) := by
  obtain ⟨L0, ns0, i0, c0, s0, d0⟩ := hd
  obtain ⟨L, ns, i, c, s, d⟩ := h.d
  have hx : x ≠ p := fun z => by subst z; rw [d0.mx] at hp; cases hp
  have hL0 : L0 ≠ p := fun z => by subst z; rw [d0.mL] at hp; cases hp
  obtain ⟨_, _, _, e⟩ := h.l L0 ⟨_, _, _, d0.mx⟩
  rw [d.mx] at e
  cases e
  refine ⟨⟨L0, ns, i, c, s, by rw [mupd_ne hx]; exact d.mx, by rw [mupd_ne hL0]; exact d.mL, d.ne, d.c0, d.s0, d.nl⟩, fun b u n e => ?_, fun L2 q => ?_⟩
  · have hb : b ≠ p := fun z => by subst z; rw [hp] at e; cases e
    rw [mupd_ne hb]; exact h.k b u n e
  · obtain ⟨u, v, w, e⟩ := h.l L2 q
    exact ⟨u, v, w, by rw [mupd_ne hx]; exact e⟩
theorem draw_call {A : Ad} {M : DM} {x : Addr} {n : Nat} {R : DQ} {E : DX} (h : DrawsAt M x) (hn : 0 < n) (hn2 : n < 1000000) (k : ∀ (r : Nat) M', r < n → At M x M' → R (.int (r : Nat)) M') : sp_law_draw A [.ref x, .int (n : Nat)] M R E :=
  ⟨x, n, rfl, hn, hn2, h, fun r l hr hd hk => k r _ hr ⟨hd, (fun b o n e => by rw [mupd_ne n]; exact e), hk⟩⟩
theorem atI_nat {xs : List D} {r : Nat} (h : r < xs.length) : ∃ d, d ∈ xs ∧ atI xs (r : Int) = some d := by
  refine ⟨xs[r], List.getElem_mem h, ?_⟩
  unfold atI ixN
  rw [if_pos (by omega), if_pos (by omega)]
  simp [h]
theorem pick {A : Ad} {M : DM} {x : Addr} {xs : List D} {n : Nat} {R : DQ} {E : DX} (h : DrawsAt M x) (hn : n = xs.length) (h0 : 0 < n) (hn2 : n < 1000000) (k : ∀ d M', d ∈ xs → At M x M' → R d M') :
    ∀ p, M p = none → sp_law_draw A [.ref x, .int (n : Nat)] (mupd M p (.lst xs)) (fun y M2 => ixD (.ref p) y M2 R) E := by
  intro p hp
  refine draw_call (h.new hp) h0 hn2 fun r M' hr ha => ?_
  obtain ⟨d, hd, e⟩ := atI_nat (xs := xs) (r := r) (by omega)
  have ne : p ≠ x := fun z => by subst z; obtain ⟨o, e⟩ := h.some; rw [hp] at e; cases e
  refine ⟨xs, d, ha.k p _ ne mupd_same, e, k d M' hd (ha.old hp)⟩
def sp_law_reader (_ : Ad) : DSp := fun ds M Q _ => ∃ x, ds = [.ref x] ∧ DrawsAt M x ∧ ∀ ss M', ORd ss → At M x M' → Q (.tup (ss.map D.str)) M'
def t_law_reader (A : Ad) : DS := dSeq (dSet 1 (dOp ixD (dLst (dCons (dC (.str [110, 111, 110, 101])) (dCons (dC (.str [102, 114, 101, 101])) (dCons (dC (.str [101, 105, 103, 104, 116])) (dNil))))) (dCall (sp_law_draw A) (dCons (dVar 0) (dCons (dC (.int 3)) (dNil)))))) (dSeq (dSet 2 (dOp ixD (dLst (dCons (dC (.str [110, 111, 110, 101])) (dCons (dC (.str [110, 111, 110, 101])) (dCons (dC (.str [115, 105, 110, 103, 108, 101])) (dCons (dC (.str [102, 114, 101, 101])) (dNil)))))) (dCall (sp_law_draw A) (dCons (dVar 0) (dCons (dC (.int 4)) (dNil)))))) (dSeq (dSet 3 (dOp ixD (dLst (dCons (dC (.str [110, 111, 110, 101])) (dCons (dC (.str [112, 97, 114, 116])) (dCons (dC (.str [108, 111, 111, 115, 101])) (dCons (dC (.str [114, 111, 119, 115])) (dNil)))))) (dCall (sp_law_draw A) (dCons (dVar 0) (dCons (dC (.int 4)) (dNil)))))) (dSeq (dIfS (dTest (dOp eqD (dVar 1) (dC (.str [101, 105, 103, 104, 116])))) (dSet 3 (dC (.str [110, 111, 110, 101]))) (dNext)) (dSeq (dIfS (dTest (dOp eqD (dVar 3) (dC (.str [114, 111, 119, 115])))) (dSet 2 (dC (.str [110, 111, 110, 101]))) (dNext)) (dSeq (dSet 4 (dOp ixD (dLst (dCons (dC (.str [110, 111, 110, 101])) (dCons (dC (.str [101, 110, 100, 115])) (dNil)))) (dCall (sp_law_draw A) (dCons (dVar 0) (dCons (dC (.int 2)) (dNil)))))) (dSeq (dSet 5 (dOp ixD (dLst (dCons (dC (.str [110, 111, 110, 101])) (dCons (dC (.str [109, 105, 110, 117, 115])) (dCons (dC (.str [98, 111, 116, 104])) (dNil))))) (dCall (sp_law_draw A) (dCons (dVar 0) (dCons (dC (.int 3)) (dNil)))))) (dRet (dTup (dCons (dVar 4) (dCons (dVar 5) (dCons (dVar 1) (dCons (dVar 2) (dCons (dVar 3) (dCons (dOp ixD (dLst (dCons (dC (.str [112, 108, 97, 105, 110])) (dCons (dC (.str [97, 108, 108])) (dNil)))) (dCall (sp_law_draw A) (dCons (dVar 0) (dCons (dC (.int 2)) (dNil))))) (dNil)))))))))))))))
abbrev n_law_reader : List Str := ["_law_draws", "_law_noughts", "_law_under", "_law_point", "_law_blanks", "_law_sign"]
def AWc : List (List Nat) := [o_none, [101, 110, 100, 115], [109, 105, 110, 117, 115], [98, 111, 116, 104], [102, 114, 101, 101], o_eight, [115, 105, 110, 103, 108, 101], [112, 97, 114, 116], [108, 111, 111, 115, 101], o_rows, [112, 108, 97, 105, 110], [97, 108, 108]]
theorem AW_ok : ∀ s ∈ AWc, s.length ≤ 10 ∧ ∀ c ∈ s, c ∈ SMc := by decide +kernel
theorem OP_sub : ∀ o ∈ OPc, ∀ s ∈ o, s ∈ AWc := by decide +kernel
theorem ORd_of {a b c d e f : List Nat} (ha : a ∈ OPc.getD 0 []) (hb : b ∈ OPc.getD 1 []) (hc : c ∈ OPc.getD 2 []) (hd : d ∈ OPc.getD 3 []) (he : e ∈ OPc.getD 4 []) (hf : f ∈ OPc.getD 5 []) (h1 : c = o_eight → e = o_none) (h2 : e = o_rows → d = o_none) : ORd [a, b, c, d, e, f] := by
  refine ⟨?_, rfl, ?_⟩
  · show rf (.tup [.str a, .str b, .str c, .str d, .str e, .str f]) = none
    have z : bad1 0 [.str a, .str b, .str c, .str d, .str e, .str f] OPc = none := by
      have t : ∀ {s : List Nat} {o : List (List Nat)} {i : Nat} {ds : List D} {os : List (List (List Nat))}, s ∈ o → bad1 i (.str s :: ds) (o :: os) = bad1 (i + 1) ds os := fun {s o _ _ _} h => by
        simp only [bad1]; rw [if_pos (show okO (.str s) o = true from decide_eq_true h)]
      exact (t ha).trans ((t hb).trans ((t hc).trans ((t hd).trans ((t he).trans (t hf)))))
    simp only [rf, z]
    rw [if_neg (fun q => q.2 (h1 q.1)), if_neg (fun q => q.2 (h2 q.1))]
  · intro s hs
    refine AW_ok s ?_
    simp only [List.mem_cons, List.not_mem_nil, or_false] at hs
    rcases hs with rfl | rfl | rfl | rfl | rfl | rfl
    · exact OP_sub _ (by decide) _ ha
    · exact OP_sub _ (by decide) _ hb
    · exact OP_sub _ (by decide) _ hc
    · exact OP_sub _ (by decide) _ hd
    · exact OP_sub _ (by decide) _ he
    · exact OP_sub _ (by decide) _ hf
theorem mem_str {xs : List (List Nat)} {d : D} (h : d ∈ xs.map D.str) : ∃ s, s ∈ xs ∧ d = .str s := by
  rw [List.mem_map] at h
  obtain ⟨s, hs, e⟩ := h
  exact ⟨s, hs, e.symm⟩
theorem pure_law_reader {A : Ad} (ds M R EX) (h : sp_law_reader A ds M R EX) : t_law_reader A (fun C fs _ M' => WkX EX C fs M') (endsOf R) (startD n_law_reader ds) M := by
  obtain ⟨x, rfl, hd, k⟩ := h
  unfold t_law_reader
  simp only [dVar, dC, dOp, dTest, dChain, dAnd, dOr, dNot, dAndV, dOrV, dNotV, dIfE, dNil, dCons, dTup, dLst, dNext, dSeq, dIfS, dRet, dRetN, dExpr, dBrk, dCnt, dSet, dNever, gN, gTp, gLs, gsNil, gsCons, dAsg, dCall, dRaise, dRaiseF, dSl, slD, dPart, dNoPart, dCB, lenD, minD, maxD, absD, intD, strD, tupleD, listD, dMt, dMt0, tyD, appendD, popD, splitD, countD, dIsi, gSb, setL, dFld, dFldSet, dMeth, dMake, dFldAug, dAug, dPar, dTru, dNeg, augAdd, dDep, dIsC, intI, cmpI, startD, endsOf, List.map_cons, List.map_nil, List.length_cons, List.length_nil, List.replicate, List.getElem?_cons_zero, List.getElem?_cons_succ, List.cons_append, List.nil_append, List.set_cons_zero, List.set_cons_succ, Nat.reduceAdd, Nat.reduceSub]
  refine ⟨by show 3 ≤ sizeLine; decide, pick (n := 3) hd rfl (by decide) (by decide) fun d M1 h1 a1 => ?_⟩
  obtain ⟨c, hc, rfl⟩ := mem_str (xs := OPc.getD 2 []) h1
  refine ⟨by show 4 ≤ sizeLine; decide, pick (n := 4) a1.d rfl (by decide) (by decide) fun d M2 h2 a2 => ?_⟩
  obtain ⟨u, hu, rfl⟩ := mem_str (xs := [o_none, o_none, [115, 105, 110, 103, 108, 101], [102, 114, 101, 101]]) h2
  have hu2 : u ∈ OPc.getD 3 [] := (show ∀ u ∈ [o_none, o_none, [115, 105, 110, 103, 108, 101], [102, 114, 101, 101]], u ∈ OPc.getD 3 [] from by decide +kernel) u hu
  refine ⟨by show 4 ≤ sizeLine; decide, pick (n := 4) a2.d rfl (by decide) (by decide) fun d M3 h3 a3 => ?_⟩
  obtain ⟨p, hp, rfl⟩ := mem_str (xs := OPc.getD 4 []) h3
  have a3 := (a1.tr a2).tr a3
  have rest : ∀ (u p : List Nat), u ∈ OPc.getD 3 [] → p ∈ OPc.getD 4 [] → (c = o_eight → p = o_none) → (p = o_rows → u = o_none) → ([D.str o_none, D.str [101, 110, 100, 115]].length ≤ sizeLine ∧ ∀ q, M3 q = none → sp_law_draw A [.ref x, .int 2] (mupd M3 q (.lst [.str o_none, .str [101, 110, 100, 115]])) (fun y M2 => ixD (.ref q) y M2 fun d M1 =>
      [D.str o_none, D.str [109, 105, 110, 117, 115], D.str [98, 111, 116, 104]].length ≤ sizeLine ∧ ∀ q, M1 q = none → sp_law_draw A [.ref x, .int 3] (mupd M1 q (.lst [D.str o_none, D.str [109, 105, 110, 117, 115], D.str [98, 111, 116, 104]])) (fun y M2 => ixD (.ref q) y M2 fun e M1 =>
        [D.str [112, 108, 97, 105, 110], D.str [97, 108, 108]].length ≤ sizeLine ∧ ∀ q, M1 q = none → sp_law_draw A [.ref x, .int 2] (mupd M1 q (.lst [D.str [112, 108, 97, 105, 110], D.str [97, 108, 108]])) (fun y M2 => ixD (.ref q) y M2 fun f M1 => [d, e, .str c, .str u, .str p, f].length ≤ sizeLine ∧ Wk R (.tup [d, e, .str c, .str u, .str p, f]) M1)
          fun C fs M2 => WkX EX C fs M2) fun C fs M2 => WkX EX C fs M2) fun C fs M2 => WkX EX C fs M2) := by
    intro u p hu hp q1 q2
    refine ⟨by show 2 ≤ sizeLine; decide, pick (n := 2) a3.d rfl (by decide) (by decide) fun d M4 h4 a4 => ?_⟩
    obtain ⟨b, hb, rfl⟩ := mem_str (xs := OPc.getD 0 []) h4
    refine ⟨by show 3 ≤ sizeLine; decide, pick (n := 3) a4.d rfl (by decide) (by decide) fun d M5 h5 a5 => ?_⟩
    obtain ⟨s, hs, rfl⟩ := mem_str (xs := OPc.getD 1 []) h5
    refine ⟨by show 2 ≤ sizeLine; decide, pick (n := 2) a5.d rfl (by decide) (by decide) fun d M6 h6 a6 => ?_⟩
    obtain ⟨f, hf, rfl⟩ := mem_str (xs := OPc.getD 5 []) h6
    exact ⟨by show 6 ≤ sizeLine; decide, Wk.self (k [b, s, c, u, p, f] M6 (ORd_of hb hs hc hu hp hf q1 q2) (((a3.tr a4).tr a5).tr a6))⟩
  show (match decide (c = o_eight) with | true => _ | false => _)
  by_cases q1 : c = o_eight
  · rw [decide_eq_true q1]
    exact rest u o_none hu2 (by decide) (fun _ => rfl) (fun z => absurd z (by decide))
  · rw [decide_eq_false q1]
    show (match decide (p = o_rows) with | true => _ | false => _)
    by_cases q2 : p = o_rows
    · rw [decide_eq_true q2]
      exact rest o_none p (by decide) hp (fun z => absurd z q1) (fun _ => rfl)
    · rw [decide_eq_false q2]
      exact rest u p hu2 hp (fun z => absurd z q1) (fun z => absurd z q2)
def LTc : List (List Nat) := [[48, 49, 56], [48], [45], [43, 45], [48, 49, 56, 116], [32], [46], [49], [48, 49, 56, 95], [56, 116], [32, 43, 45, 46, 48, 49, 56, 95, 116]]
theorem LT_ok : ∀ l ∈ LTc, OKL l := by unfold OKL; decide +kernel
def sp_law_letters (_ : Ad) : DSp := fun ds M Q _ => ∃ x, ds = [.ref x] ∧ DrawsAt M x ∧ ∀ l M', OKL l → At M x M' → Q (.str l) M'
def t_law_letters (A : Ad) : DS := dRet (dOp ixD (dLst (dCons (dC (.str [48, 49, 56])) (dCons (dC (.str [48])) (dCons (dC (.str [45])) (dCons (dC (.str [43, 45])) (dCons (dC (.str [48, 49, 56, 116])) (dCons (dC (.str [32])) (dCons (dC (.str [46])) (dCons (dC (.str [49])) (dCons (dC (.str [48, 49, 56, 95])) (dCons (dC (.str [56, 116])) (dCons (dC (.str [32, 43, 45, 46, 48, 49, 56, 95, 116])) (dNil))))))))))))) (dCall (sp_law_draw A) (dCons (dVar 0) (dCons (dC (.int 11)) (dNil)))))
abbrev n_law_letters : List Str := ["_law_draws"]
theorem pure_law_letters {A : Ad} (ds M R EX) (h : sp_law_letters A ds M R EX) : t_law_letters A (fun C fs _ M' => WkX EX C fs M') (endsOf R) (startD n_law_letters ds) M := by
  obtain ⟨x, rfl, hd, k⟩ := h
  unfold t_law_letters
  simp only [dVar, dC, dOp, dTest, dChain, dAnd, dOr, dNot, dAndV, dOrV, dNotV, dIfE, dNil, dCons, dTup, dLst, dNext, dSeq, dIfS, dRet, dRetN, dExpr, dBrk, dCnt, dSet, dNever, gN, gTp, gLs, gsNil, gsCons, dAsg, dCall, dRaise, dRaiseF, dSl, slD, dPart, dNoPart, dCB, lenD, minD, maxD, absD, intD, strD, tupleD, listD, dMt, dMt0, tyD, appendD, popD, splitD, countD, dIsi, gSb, setL, dFld, dFldSet, dMeth, dMake, dFldAug, dAug, dPar, dTru, dNeg, augAdd, dDep, dIsC, intI, cmpI, startD, endsOf, List.map_cons, List.map_nil, List.length_cons, List.length_nil, List.replicate, List.getElem?_cons_zero, List.getElem?_cons_succ, List.cons_append, List.nil_append, List.set_cons_zero, List.set_cons_succ, Nat.reduceAdd, Nat.reduceSub]
  refine ⟨by show 11 ≤ sizeLine; decide, pick (n := 11) hd rfl (by decide) (by decide) fun d M1 h1 a1 => ?_⟩
  obtain ⟨l, hl, rfl⟩ := mem_str (xs := LTc) h1
  exact Wk.self (k l M1 (LT_ok l hl) a1)
def sp_law_bounds (_ : Ad) : DSp := fun ds M Q _ => ∃ x, ds = [.ref x] ∧ DrawsAt M x ∧ ∀ (a : Nat) (b : Option Nat) p M', a ≤ 3 → OKB a b → At M x M' → M' p = none → Q (.ref p) (mupd M' p (.lst [.int (a : Nat), bD b]))
def t_law_bounds (A : Ad) : DS := dSeq (dSet 1 (dCall (sp_law_draw A) (dCons (dVar 0) (dCons (dC (.int 4)) (dNil))))) (dRet (dLst (dCons (dVar 1) (dCons (dOp ixD (dLst (dCons (dC .non) (dCons (dVar 1) (dCons (dOp addD (dVar 1) (dC (.int 1))) (dCons (dOp addD (dVar 1) (dC (.int 2))) (dNil)))))) (dCall (sp_law_draw A) (dCons (dVar 0) (dCons (dC (.int 4)) (dNil))))) (dNil)))))
abbrev n_law_bounds : List Str := ["_law_draws", "_law_a"]
theorem pure_law_bounds {A : Ad} (ds M R EX) (h : sp_law_bounds A ds M R EX) : t_law_bounds A (fun C fs _ M' => WkX EX C fs M') (endsOf R) (startD n_law_bounds ds) M := by
  obtain ⟨x, rfl, hd, k⟩ := h
  unfold t_law_bounds
  simp only [dVar, dC, dOp, dTest, dChain, dAnd, dOr, dNot, dAndV, dOrV, dNotV, dIfE, dNil, dCons, dTup, dLst, dNext, dSeq, dIfS, dRet, dRetN, dExpr, dBrk, dCnt, dSet, dNever, gN, gTp, gLs, gsNil, gsCons, dAsg, dCall, dRaise, dRaiseF, dSl, slD, dPart, dNoPart, dCB, lenD, minD, maxD, absD, intD, strD, tupleD, listD, dMt, dMt0, tyD, appendD, popD, splitD, countD, dIsi, gSb, setL, dFld, dFldSet, dMeth, dMake, dFldAug, dAug, dPar, dTru, dNeg, augAdd, dDep, dIsC, intI, cmpI, startD, endsOf, List.map_cons, List.map_nil, List.length_cons, List.length_nil, List.replicate, List.getElem?_cons_zero, List.getElem?_cons_succ, List.cons_append, List.nil_append, List.set_cons_zero, List.set_cons_succ, Nat.reduceAdd, Nat.reduceSub]
  refine draw_call (n := 4) hd (by decide) (by decide) fun a M1 ha a1 => ?_
  refine ⟨by show 4 ≤ sizeLine; decide, pick (n := 4) a1.d rfl (by decide) (by decide) fun d M2 h2 a2 => ⟨by show 2 ≤ sizeLine; decide, fun p hp => Wk.self ?_⟩⟩
  have fin : ∀ b, d = bD b → OKB a b → R (.ref p) (mupd M2 p (.lst [.int (a : Nat), d])) := fun b e hb => by rw [e]; exact k a b p M2 (by omega) hb (a1.tr a2) hp
  simp only [List.mem_cons, List.not_mem_nil, or_false] at h2
  rcases h2 with e | e | e | e
  · exact fin none e ⟨by omega, fun x hx => by cases hx⟩
  · exact fin (some a) e ⟨by omega, fun x hx => by cases hx; omega⟩
  · exact fin (some (a + 1)) (by rw [e]; rfl) ⟨by omega, fun x hx => by cases hx; omega⟩
  · exact fin (some (a + 2)) (by rw [e]; rfl) ⟨by omega, fun x hx => by cases hx; omega⟩
end DL

set_option Elab.async false
set_option linter.all false
set_option maxRecDepth 100000
set_option maxHeartbeats 1000000
namespace DL
open PySem L2
theorem CF.up {n : Nat} {d : D} {t : List Nat} (h : CF 0 d t) : CF n d t := by
  cases h with
  | pl a b => exact .pl a b
  | lg a => exact .lg a
  | sh a b c => exact .sh a b c
  | tr a => exact .tr a
def sp_law_plain (_ : Ad) : DSp := fun ds M Q _ => ∃ x, ds = [.ref x] ∧ DrawsAt M x ∧ ∀ d t M', CF 0 d t → At M x M' → Q d M'
def t_law_plain (A : Ad) : DS := dSeq (dSet 1 (dCall (sp_law_draw A) (dCons (dVar 0) (dCons (dC (.int 7)) (dNil))))) (dSeq (dIfS (dTest (dOp leD (dVar 1) (dC (.int 2)))) (dRet (dTup (dCons (dOp ixD (dLst (dCons (dC (.str [115, 105, 103, 110, 115])) (dCons (dC (.str [98, 101, 103, 105, 110, 115])) (dCons (dC (.str [101, 110, 100, 115])) (dNil))))) (dVar 1)) (dCons (dCall (sp_law_letters A) (dCons (dVar 0) (dNil))) (dNil))))) (dNext)) (dSeq (dIfS (dTest (dOp eqD (dVar 1) (dC (.int 3)))) (dSeq (dAsg (dCall (sp_law_bounds A) (dCons (dVar 0) (dNil))) (gLs 2 (gsCons (gN 2) (gsCons (gN 3) (gsNil))))) (dRet (dTup (dCons (dC (.str [108, 111, 110, 103])) (dCons (dVar 2) (dCons (dVar 3) (dNil))))))) (dNext)) (dSeq (dIfS (dTest (dOp leD (dVar 1) (dC (.int 5)))) (dSeq (dSet 4 (dLst (dNil))) (dSeq (dFor (dRng1 (dCons (dOp addD (dC (.int 1)) (dCall (sp_law_draw A) (dCons (dVar 0) (dCons (dC (.int 3)) (dNil))))) (dNil))) (gN 5) (dSeq (dAsg (dCall (sp_law_bounds A) (dCons (dVar 0) (dNil))) (gLs 2 (gsCons (gN 2) (gsCons (gN 3) (gsNil))))) (dSeq (dIfS (dTest (dOp gtD (dVar 5) (dC (.int 0)))) (dSeq (dSet 2 (dCB minD (dCons (dVar 2) (dCons (dC (.int 1)) (dNil))))) (dIfS (dTest (dOp isNotD (dVar 3) (dC .non))) (dSet 3 (dCB maxD (dCons (dVar 2) (dCons (dCB minD (dCons (dVar 3) (dCons (dC (.int 2)) (dNil)))) (dNil))))) (dNext))) (dNext)) (dExpr (dMt "list" appendD (dVar 4) (dCons (dTup (dCons (dCall (sp_law_letters A) (dCons (dVar 0) (dNil))) (dCons (dVar 2) (dCons (dVar 3) (dNil))))) (dNil))))))) (dRet (dTup (dCons (dC (.str [115, 104, 97, 112, 101])) (dCons (dCB tupleD (dCons (dVar 4) (dNil))) (dNil))))))) (dNext)) (dRet (dTup (dCons (dC (.str [116, 114, 105, 101, 115])) (dCons (dCall (sp_law_reader A) (dCons (dVar 0) (dNil))) (dNil))))))))
abbrev n_law_plain : List Str := ["_law_draws", "_law_at", "_law_a", "_law_b", "_law_parts", "_law_k"]
abbrev plBody (A : Ad) : DS := dSeq (dAsg (dCall (sp_law_bounds A) (dCons (dVar 0) (dNil))) (gLs 2 (gsCons (gN 2) (gsCons (gN 3) (gsNil))))) (dSeq (dIfS (dTest (dOp gtD (dVar 5) (dC (.int 0)))) (dSeq (dSet 2 (dCB minD (dCons (dVar 2) (dCons (dC (.int 1)) (dNil))))) (dIfS (dTest (dOp isNotD (dVar 3) (dC .non))) (dSet 3 (dCB maxD (dCons (dVar 2) (dCons (dCB minD (dCons (dVar 3) (dCons (dC (.int 2)) (dNil)))) (dNil))))) (dNext))) (dNext)) (dExpr (dMt "list" appendD (dVar 4) (dCons (dTup (dCons (dCall (sp_law_letters A) (dCons (dVar 0) (dNil))) (dCons (dVar 2) (dCons (dVar 3) (dNil))))) (dNil)))))
structure PSt (M : DM) (x p : Addr) (M' : DM) (ps : List (List Nat × Nat × Option Nat)) : Prop where
  at_ : At M x M'
  mp : M' p = some (.lst (ps.map pD))
  ok : ∀ q ∈ ps, OKL q.1 ∧ OKB q.2.1 q.2.2
theorem PSt.add {M M1 M2 : DM} {x p : Addr} {ps : List (List Nat × Nat × Option Nat)} {l : List Nat} {a : Nat} {b : Option Nat} (hs : PSt M x p M1 ps) (hd : DrawsAt M x) (hp : M p = none) (a2 : At M1 x M2) (hl : OKL l) (hb : OKB a b) : PSt M x p (mupd M2 p (.lst (ps.map pD ++ [.tup [.str l, .int (a : Nat), bD b]]))) (ps ++ [(l, a, b)]) :=
  ⟨(hs.at_.tr a2).put hd hp, by rw [mupd_same, List.map_append]; rfl, fun q hq => by
    rcases List.mem_append.mp hq with h | h
    · exact hs.ok q h
    · rw [List.mem_singleton] at h; subst h; exact ⟨hl, hb⟩⟩
theorem pl_loop {A : Ad} {W : DW} {E : DEnds} {M : DM} {x p : Addr} {u : D} (hd : DrawsAt M x) (hp : M p = none) : ∀ (ks : List Nat) (ps : List (List Nat × Nat × Option Nat)) (M1 : DM) (a b z : Option D), PSt M x p M1 ps → ps.length + ks.length ≤ 5 →
    (∀ M2 ps2 a b z, PSt M x p M2 ps2 → ps2.length = ps.length + ks.length → E.nx [some (.ref x), some u, a, b, some (.ref p), z] M2) →
    dLoop (gN 5) (plBody A W) anyM (ks.map fun i => .int (0 + (i : Nat))) E [some (.ref x), some u, a, b, some (.ref p), z] M1
  | [], ps, M1, a, b, z, hs, hl, k => ⟨trivial, k M1 ps a b z hs rfl⟩
  | i :: ks, ps, M1, a, b, z, hs, hl, k => by
    have hpx : p ≠ x := fun z => by subst z; obtain ⟨o, e⟩ := hd.some; rw [hp] at e; cases e
    rw [List.length_cons] at hl
    refine ⟨trivial, ?_⟩
    simp only [dVar, dC, dOp, dTest, dChain, dAnd, dOr, dNot, dAndV, dOrV, dNotV, dIfE, dNil, dCons, dTup, dLst, dNext, dSeq, dIfS, dRet, dRetN, dExpr, dBrk, dCnt, dSet, dNever, gN, gTp, gLs, gsNil, gsCons, dAsg, dCall, dRaise, dRaiseF, ixD, dSl, slD, dPart, dNoPart, dCB, lenD, minD, maxD, absD, intD, strD, tupleD, listD, dMt, dMt0, tyD, appendD, popD, splitD, countD, dIsi, gSb, setL, dFld, dFldSet, dMeth, dMake, dFldAug, dAug, dPar, dTru, dNeg, augAdd, dDep, dIsC, intI, cmpI, startD, endsOf, List.map_cons, List.map_nil, List.length_cons, List.length_nil, List.replicate, List.getElem?_cons_zero, List.getElem?_cons_succ, List.cons_append, List.nil_append, List.set_cons_zero, List.set_cons_succ, Nat.reduceAdd, Nat.reduceSub]
    refine ⟨x, rfl, hs.at_.d, fun a b q M2 ha hb a2 hq => ⟨_, mupd_same, rfl, ?_⟩⟩
    have a3 : At M x (mupd M2 q (.lst [.int (a : Nat), bD b])) := (hs.at_.tr a2).new hq
    have hs2 : PSt M x p (mupd M2 q (.lst [.int (a : Nat), bD b])) ps := ⟨a3, msub_new hq _ _ (a2.k p _ hpx hs.mp), hs.ok⟩
    have nxt : ∀ l M3 a b (ea eb : Option D), PSt M x p M3 (ps ++ [(l, a, b)]) → dLoop (gN 5) (plBody A W) anyM (ks.map fun i => .int (0 + (i : Nat))) E [some (.ref x), some u, ea, eb, some (.ref p), some (.int (0 + (i : Nat)))] M3 := fun l M3 a b ea eb h3 => by
      refine pl_loop hd hp ks (ps ++ [(l, a, b)]) M3 _ _ _ h3 (by rw [List.length_append, List.length_cons, List.length_nil]; omega) fun M4 ps2 a b z h4 h5 => k M4 ps2 a b z h4 ?_
      rw [h5, List.length_append, List.length_cons, List.length_cons, List.length_nil]; omega
    show (match decide ((0 + (i : Int)) > 0) with | true => _ | false => _)
    by_cases q1 : (0 + (i : Int)) > 0
    · rw [decide_eq_true q1]
      have e1 : (if (1 : Int) < (a : Int) then (1 : Int) else (a : Int)) = ((min a 1 : Nat) : Int) := by split <;> omega
      cases b with
      | none =>
        refine ⟨.inl ⟨trivial, _, hs2.mp⟩, x, rfl, hs2.at_.d, fun l M3 hl3 a4 => ⟨by decide, _, a4.k p _ hpx hs2.mp, (by rw [List.length_map]; have z : sizeLine = 16777216 := sizeLine_eq; omega), ?_⟩⟩
        rw [e1]
        exact nxt l _ _ _ _ _ (hs2.add hd hp a4 hl3 (a := min a 1) (b := none) ⟨by omega, fun x hx => by cases hx⟩)
      | some v =>
        have e2 : (if (if (2 : Int) < (v : Int) then (2 : Int) else (v : Int)) > ((min a 1 : Nat) : Int) then (if (2 : Int) < (v : Int) then (2 : Int) else (v : Int)) else ((min a 1 : Nat) : Int)) = ((max (min a 1) (min v 2) : Nat) : Int) := by
          split <;> split <;> omega
        refine ⟨.inl ⟨trivial, _, hs2.mp⟩, x, rfl, hs2.at_.d, fun l M3 hl3 a4 => ⟨by decide, _, a4.k p _ hpx hs2.mp, (by rw [List.length_map]; have z : sizeLine = 16777216 := sizeLine_eq; omega), ?_⟩⟩
        rw [e1, e2]
        exact nxt l _ _ _ _ _ (hs2.add hd hp a4 hl3 (a := min a 1) (b := some (max (min a 1) (min v 2))) ⟨by omega, fun x hx => by cases hx; omega⟩)
    · rw [decide_eq_false q1]
      refine ⟨.inl ⟨trivial, _, hs2.mp⟩, x, rfl, hs2.at_.d, fun l M3 hl3 a4 => ⟨by decide, _, a4.k p _ hpx hs2.mp, (by rw [List.length_map]; have z : sizeLine = 16777216 := sizeLine_eq; omega), ?_⟩⟩
      exact nxt l _ _ _ _ _ (hs2.add hd hp a4 hl3 hb)
theorem pure_law_plain {A : Ad} (ds M R EX) (h : sp_law_plain A ds M R EX) : t_law_plain A (fun C fs _ M' => WkX EX C fs M') (endsOf R) (startD n_law_plain ds) M := by
  obtain ⟨x, rfl, hd, k⟩ := h
  unfold t_law_plain
  simp only [dFor, dRng1, dVar, dC, dOp, dTest, dChain, dAnd, dOr, dNot, dAndV, dOrV, dNotV, dIfE, dNil, dCons, dTup, dLst, dNext, dSeq, dIfS, dRet, dRetN, dExpr, dBrk, dCnt, dSet, dNever, gN, gTp, gLs, gsNil, gsCons, dAsg, dCall, dRaise, dRaiseF, ixD, dSl, slD, dPart, dNoPart, dCB, lenD, minD, maxD, absD, intD, strD, tupleD, listD, dMt, dMt0, tyD, appendD, popD, splitD, countD, dIsi, gSb, setL, dFld, dFldSet, dMeth, dMake, dFldAug, dAug, dPar, dTru, dNeg, augAdd, dDep, dIsC, intI, cmpI, startD, endsOf, List.map_cons, List.map_nil, List.length_cons, List.length_nil, List.replicate, List.getElem?_cons_zero, List.getElem?_cons_succ, List.cons_append, List.nil_append, List.set_cons_zero, List.set_cons_succ, Nat.reduceAdd, Nat.reduceSub]
  refine draw_call (n := 7) hd (by decide) (by decide) fun r M1 hr a1 => ?_
  show (match decide ((r : Int) ≤ 2) with | true => _ | false => _)
  by_cases q1 : r ≤ 2
  · rw [decide_eq_true (show (r : Int) ≤ 2 by omega)]
    refine ⟨by decide, fun p hp => ?_⟩
    obtain ⟨d, hd2, e⟩ := atI_nat (xs := PLc.map D.str) (r := r) (by show r < 3; omega)
    obtain ⟨w, hw, rfl⟩ := mem_str hd2
    refine ⟨_, _, mupd_same, e, x, rfl, a1.d.new hp, fun l M2 hl a2 => ⟨by decide, Wk.self (k _ _ M2 (.pl hw hl) (a1.tr (a2.old hp)))⟩⟩
  rw [decide_eq_false (show ¬ (r : Int) ≤ 2 by omega)]
  show (match decide ((r : Int) = 3) with | true => _ | false => _)
  by_cases q2 : r = 3
  · rw [decide_eq_true (show (r : Int) = 3 by omega)]
    refine ⟨x, rfl, a1.d, fun a b p M2 ha hb a2 hp => ⟨_, mupd_same, rfl, by decide, Wk.self (k _ _ _ (.lg hb) ((a1.tr a2).new hp))⟩⟩
  rw [decide_eq_false (show ¬ (r : Int) = 3 by omega)]
  show (match decide ((r : Int) ≤ 5) with | true => _ | false => _)
  by_cases q3 : r ≤ 5
  · rw [decide_eq_true (show (r : Int) ≤ 5 by omega)]
    refine ⟨by decide, fun p hp => ?_⟩
    refine draw_call (n := 3) (a1.d.new hp) (by decide) (by decide) fun r2 M2 hr2 a2 => ?_
    refine ⟨⟨by omega, by omega⟩, ?_⟩
    rw [show (1 + (r2 : Int)).toNat = 1 + r2 from by omega]
    have hpx : p ≠ x := fun z => by subst z; obtain ⟨o, e⟩ := a1.d.some; rw [hp] at e; cases e
    refine pl_loop (M := M1) a1.d hp (List.range (1 + r2)) [] M2 _ _ _ ⟨a2.old hp, a2.k p _ hpx mupd_same, fun q hq => by cases hq⟩ (by rw [List.length_range, List.length_nil]; omega) fun M3 ps a b z h3 h4 => ?_
    rw [List.length_range, List.length_nil] at h4
    exact ⟨_, M3, h3.mp, fun _ _ e => e, by decide, Wk.self (k _ _ M3 (.sh (by omega) (by omega) h3.ok) (a1.tr h3.at_))⟩
  · rw [decide_eq_false (show ¬ (r : Int) ≤ 5 by omega)]
    exact ⟨x, rfl, a1.d, fun ss M2 hs a2 => ⟨by decide, Wk.self (k _ _ M2 (.tr hs) (a1.tr a2))⟩⟩
def sp_lc (n : Nat) : DSp := fun ds M Q _ => ∃ x, ds = [.ref x, .int (n : Nat)] ∧ n ≤ 2 ∧ DrawsAt M x ∧ ∀ d t M', CF n d t → At M x M' → Q d M'
def t_law_check (A : Ad) (spR : DSp) : DS := dSeq (dSet 2 (dCall (sp_law_draw A) (dCons (dVar 0) (dCons (dC (.int 5)) (dNil))))) (dSeq (dIfS (dOr (dTest (dOp eqD (dVar 1) (dC (.int 0)))) (dTest (dOp leD (dVar 2) (dC (.int 1))))) (dRet (dCall (sp_law_plain A) (dCons (dVar 0) (dNil)))) (dNext)) (dSeq (dIfS (dTest (dOp eqD (dVar 2) (dC (.int 2)))) (dRet (dTup (dCons (dC (.str [110, 111])) (dCons (dCall (spR) (dCons (dVar 0) (dCons (dOp subD (dVar 1) (dC (.int 1))) (dNil)))) (dNil))))) (dNext)) (dRet (dTup (dCons (dOp ixD (dLst (dCons (dC (.str [97, 108, 108])) (dCons (dC (.str [115, 111, 109, 101])) (dNil)))) (dOp subD (dVar 2) (dC (.int 3)))) (dCons (dCB tupleD (dCons (dLc (dRng1 (dCons (dCall (sp_law_draw A) (dCons (dVar 0) (dCons (dC (.int 4)) (dNil)))) (dNil))) (gN 3) (dYes) (dCall (spR) (dCons (dVar 0) (dCons (dOp subD (dVar 1) (dC (.int 1))) (dNil)))) [3]) (dNil))) (dNil)))))))
abbrev n_law_check : List Str := ["_law_draws", "_law_left", "_law_at", "_law_k"]
theorem lc_loop {g : DG} {te : DE} {gd : DM → Prop} {x D0 : Addr} {ρ : Env} {K : DM → Prop} {M : DM} {n : Nat} (hd : DrawsAt M x) (hD : M D0 = none) (hg : ∀ M, gd M)
    (hf : ∀ i M1 (R : DQ), DrawsAt M1 x → (∀ d t M2, CF n d t → At M1 x M2 → R d M2) → g i ρ M1 fun ρ1 M1 => te noW ρ1 M1 R) :
    ∀ (is : List D) (cts : List (D × List Nat)) (M1 : DM), At M x M1 → M1 D0 = some (.lst (cts.map (·.1))) → (∀ q ∈ cts, CF n q.1 q.2) → cts.length + is.length ≤ 100 → (∀ (cts2 : List (D × List Nat)) M2, At M x M2 → M2 D0 = some (.lst (cts2.map (·.1))) → (∀ q ∈ cts2, CF n q.1 q.2) → cts2.length = cts.length + is.length → K M2) → lcF g dYes te gd D0 ρ K is M1
  | [], cts, M1, a1, e, hc, hl, k => ⟨hg _, k cts M1 a1 e hc rfl⟩
  | i :: is, cts, M1, a1, e, hc, hl, k => by
    have hx : D0 ≠ x := fun z => by subst z; obtain ⟨o, e⟩ := hd.some; rw [hD] at e; cases e
    rw [List.length_cons] at hl
    refine ⟨hg _, hf i M1 (fun d M3 => ∃ acc, M3 D0 = some (.lst acc) ∧ acc.length < sizeLine ∧ lcF g dYes te gd D0 ρ K is (mupd M3 D0 (.lst (acc ++ [d])))) a1.d fun d t M2 hc2 a2 => ?_⟩
    refine ⟨_, a2.k D0 _ hx e, (by rw [List.length_map]; have z : sizeLine = 16777216 := sizeLine_eq; omega), ?_⟩
    refine lc_loop hd hD hg hf is (cts ++ [(d, t)]) _ ((a1.tr a2).put hd hD) (by rw [mupd_same, List.map_append]; rfl) (fun q hq => ?_) (by rw [List.length_append, List.length_cons, List.length_nil]; omega) fun cts2 M3 a3 e3 hc3 hl3 => k cts2 M3 a3 e3 hc3 ?_
    · rcases List.mem_append.mp hq with h | h
      · exact hc q h
      · rw [List.mem_singleton] at h; subst h; exact hc2
    · rw [hl3, List.length_append, List.length_cons, List.length_cons, List.length_nil]; omega
theorem pure_law_check {A : Ad} {n : Nat} {spR : DSp} (hR : ∀ m, n = m + 1 → spR = sp_lc m) (ds M R EX) (h : sp_lc n ds M R EX) : t_law_check A spR (fun C fs _ M' => WkX EX C fs M') (endsOf R) (startD n_law_check ds) M := by
  obtain ⟨x, rfl, hn, hd, k⟩ := h
  unfold t_law_check
  simp only [dRng1, dLc, dVar, dC, dOp, dTest, dChain, dAnd, dOr, dNot, dAndV, dOrV, dNotV, dIfE, dNil, dCons, dTup, dLst, dNext, dSeq, dIfS, dRet, dRetN, dExpr, dBrk, dCnt, dSet, dNever, gN, gTp, gLs, gsNil, gsCons, dAsg, dCall, dRaise, dRaiseF, ixD, dSl, slD, dPart, dNoPart, dCB, lenD, minD, maxD, absD, intD, strD, tupleD, listD, dMt, dMt0, tyD, appendD, popD, splitD, countD, dIsi, gSb, setL, dFld, dFldSet, dMeth, dMake, dFldAug, dAug, dPar, dTru, dNeg, augAdd, dDep, dIsC, intI, cmpI, startD, endsOf, List.map_cons, List.map_nil, List.length_cons, List.length_nil, List.replicate, List.getElem?_cons_zero, List.getElem?_cons_succ, List.cons_append, List.nil_append, List.set_cons_zero, List.set_cons_succ, Nat.reduceAdd, Nat.reduceSub]
  refine draw_call (n := 5) hd (by decide) (by decide) fun r M1 hr a1 => ?_
  cases n with
  | zero => exact ⟨x, rfl, a1.d, fun d t M2 hc a2 => Wk.self (k d t M2 hc (a1.tr a2))⟩
  | succ m =>
    have es : ((m + 1 : Nat) : Int) - 1 = (m : Int) := by omega
    show (match decide ((r : Int) ≤ 1) with | true => _ | false => _)
    by_cases q1 : r ≤ 1
    · rw [decide_eq_true (show (r : Int) ≤ 1 by omega)]
      exact ⟨x, rfl, a1.d, fun d t M2 hc a2 => Wk.self (k d t M2 hc.up (a1.tr a2))⟩
    rw [decide_eq_false (show ¬ (r : Int) ≤ 1 by omega)]
    show (match decide ((r : Int) = 2) with | true => _ | false => _)
    by_cases q2 : r = 2
    · rw [decide_eq_true (show (r : Int) = 2 by omega)]
      rw [hR m rfl]
      refine ⟨trivial, x, by rw [es], by omega, a1.d, fun d t M2 hc a2 => ⟨by decide, Wk.self (k _ _ M2 (.no hc) (a1.tr a2))⟩⟩
    rw [decide_eq_false (show ¬ (r : Int) = 2 by omega)]
    refine ⟨by decide, fun p hp => ⟨trivial, ?_⟩⟩
    obtain ⟨d, hd2, e⟩ := atI_nat (xs := [w_all, w_some].map D.str) (r := r - 3) (by show r - 3 < 2; omega)
    obtain ⟨w, hw, rfl⟩ := mem_str hd2
    rw [show (((r - 3 : Nat) : Nat) : Int) = (r : Int) - 3 from by omega] at e
    refine ⟨_, _, mupd_same, e, ?_⟩
    refine draw_call (n := 4) (a1.d.new hp) (by decide) (by decide) fun r2 M2 hr2 a2 => ?_
    refine ⟨⟨by omega, by omega⟩, fun D0 hD => ?_⟩
    have a3 : At M x M2 := a1.tr (a2.old hp)
    rw [show ((r2 : Nat) : Int).toNat = r2 from by omega]
    refine lc_loop (M := M2) (x := x) (n := m) a3.d hD (fun _ => trivial) (fun i M3 R' hd3 hk => ?_) _ [] _ ((At.self a3.d).new hD) mupd_same (fun q hq => by cases hq) (by rw [List.length_map, List.length_range, List.length_nil]; omega) fun cts M4 a4 e4 hc4 hl4 => ?_
    · refine ⟨trivial, ?_⟩
      show spR [.ref x, .int (((m + 1 : Nat) : Int) - 1)] _ _ _
      rw [hR m rfl, es]
      exact ⟨x, rfl, by omega, hd3, hk⟩
    · rw [List.length_map, List.length_range, List.length_nil] at hl4
      exact ⟨_, M4, e4, fun _ _ e => e, by decide, Wk.self (k _ _ M4 (.many hw (by omega) hc4) (a3.tr a4))⟩
end DL

set_option Elab.async false
set_option linter.all false
set_option maxRecDepth 100000
set_option maxHeartbeats 1000000
namespace DL
open PySem L2
theorem drop_app {L a b : List Nat} {i : Nat} (h : L.drop i = a ++ b) : L.drop (i + a.length) = b := by
  rw [← List.drop_drop, h, List.drop_left]
theorem look_of {L r : List Nat} {i c : Nat} (h : L.drop i = c :: r) : look L i = [c] := by unfold look; rw [h]; rfl
theorem drop_one {L r : List Nat} {i c : Nat} (h : L.drop i = c :: r) : L.drop (i + 1) = r := by rw [← List.drop_drop, h]; rfl
theorem tw_of {S L w r : List Nat} {i c : Nat} (h : L.drop i = w ++ c :: r) (hw : ∀ x ∈ w, x ∈ S) (hc : c ∉ S) : tw S L i = w := by
  unfold tw
  rw [h]
  clear h
  induction w with
  | nil => rw [List.nil_append, List.takeWhile_cons, if_neg (by simpa using hc)]
  | cons x w ih =>
    rw [List.cons_append, List.takeWhile_cons, if_pos (by simpa using hw x (by simp)), ih fun y hy => hw y (by simp [hy])]
theorem pL_of {L l r : List Nat} {i : Nat} (h : L.drop i = [39] ++ l ++ [39] ++ r) (hl : OKL l) : pL L i = (.str l, i + (l.length + 2)) := by
  have h1 : L.drop i = 39 :: (l ++ 39 :: r) := by rw [h]; simp
  have h2 := drop_one h1
  have e1 := tw_of (S := SGc) h2 hl.len.2.2 (by decide)
  have h3 : L.drop (i + 1 + l.length) = 39 :: r := drop_app h2
  unfold pL
  rw [if_pos (look_of h1), e1, if_pos (look_of h3)]
  rw [show i + 1 + l.length + 1 = i + (l.length + 2) from by omega]
theorem bd9 : ∀ x : Nat, x ≤ 9 → [48 + x] ∈ BDc ∧ [48 + x] ≠ [45] := by decide +kernel
theorem bT_mem {b : Option Nat} (h : ∀ x, b = some x → x ≤ 9) : bT b ∈ BDc ∧ bnd (bT b) = bD b := by
  cases b with
  | none => exact ⟨by decide, rfl⟩
  | some x =>
    obtain ⟨h1, h2⟩ := bd9 x (h x rfl)
    refine ⟨h1, ?_⟩
    unfold bnd bT
    simp only
    rw [if_neg h2]
    show D.int (((48 + x) - 48 : Nat) : Int) = .int (x : Nat)
    rw [Nat.add_sub_cancel_left]
theorem bT_one (b : Option Nat) : ∃ c, bT b = [c] := by cases b <;> exact ⟨_, rfl⟩
theorem pB_of {L r : List Nat} {i a : Nat} {b : Option Nat} (h : L.drop i = bT (some a) ++ [44] ++ bT b ++ r) (hb : OKB a b) : pB L i = (.tup [.int (a : Nat), bD b], i + 3) := by
  obtain ⟨c, hc⟩ := bT_one b
  have h0 : L.drop i = (48 + a) :: 44 :: c :: r := by rw [h, hc]; rfl
  have h1 := drop_one h0
  have h2 := drop_one h1
  have m1 := bT_mem (b := some a) fun x hx => by cases hx; exact hb.1
  have m2 := bT_mem (b := b) fun x hx => (hb.2 x hx).2
  have l0 : look L i = bT (some a) := look_of h0
  have l1 : look L (i + 1) = [44] := look_of h1
  have l2 : look L (i + 1 + 1) = bT b := by rw [look_of h2, hc]
  have sj : skj L (i + 1) 44 = i + 1 + 1 := by unfold skj; rw [if_pos l1]
  unfold pB
  rw [sj, l0, l1, l2, if_pos ⟨rfl, m1.1, m2.1⟩, m1.2, m2.2]
  rfl
theorem pT_len2 (p : List Nat × Nat × Option Nat) : (pT p).length = p.1.length + 6 := by
  unfold pT
  simp only [List.length_append, List.length_cons, List.length_nil, bT_len]
  omega
theorem pP_of {L r : List Nat} {i : Nat} {p : List Nat × Nat × Option Nat} (h : L.drop i = pT p ++ r) (h1 : OKL p.1) (h2 : OKB p.2.1 p.2.2) : pP L i = (pD p, i + (pT p).length) := by
  have e0 : L.drop i = [39] ++ p.1 ++ [39] ++ (44 :: (bT (some p.2.1) ++ [44] ++ bT p.2.2 ++ r)) := by rw [h]; unfold pT; simp
  have e1 := pL_of e0 h1
  have e2 : L.drop (i + (p.1.length + 2)) = 44 :: (bT (some p.2.1) ++ [44] ++ bT p.2.2 ++ r) := by
    have := drop_app e0
    simpa using this
  have e3 := pB_of (drop_one e2) h2
  have e4 : (pL L i).2 = i + (p.1.length + 2) := by rw [e1]
  have e5 : (pL L i).1 = .str p.1 := by rw [e1]
  unfold pP
  rw [e4, e5, if_neg (by intro z; rcases z with z | z; exact Bool.noConfusion (show false = true from z); exact z (look_of e2)), e3, pT_len2]
  show (pD p, i + (p.1.length + 2) + 1 + 3) = _
  rw [show i + (p.1.length + 2) + 1 + 3 = i + (p.1.length + 6) from by omega]
theorem tail_of {P : Nat → D → Nat → Prop} {L : List Nat} : ∀ (cts : List (D × List Nat)) (d : D) (j : Nat) (r : List Nat), isN d = false → (∀ x ∈ cts, isN x.1 = false ∧ ∀ i r, L.drop i = x.2 ++ r → P i x.1 (i + x.2.length)) →
    L.drop j = (cts.map fun x => 59 :: x.2).flatten ++ 41 :: r → PTail P L d j (cts.map (·.1)) (j + (cts.map fun x => 59 :: x.2).flatten.length)
  | [], d, j, r, hd, hc, h => .stop (.inr (by rw [look_of (show L.drop j = 41 :: r from h)]; decide))
  | x :: cts, d, j, r, hd, hc, h => by
    have h0 : L.drop j = 59 :: (x.2 ++ ((cts.map fun x => 59 :: x.2).flatten ++ 41 :: r)) := by rw [h]; simp
    have h1 := drop_one h0
    have h2 := drop_app h1
    obtain ⟨n1, p1⟩ := hc x (by simp)
    have t := tail_of cts x.1 (j + 1 + x.2.length) r n1 (fun y hy => hc y (by simp [hy])) h2
    have e : j + ((x :: cts).map fun x => 59 :: x.2).flatten.length = j + 1 + x.2.length + (cts.map fun x => 59 :: x.2).flatten.length := by simp; omega
    rw [e]
    exact .more hd (look_of h0) (p1 _ _ h1) t
theorem joinL_flat (s : List Nat) : ∀ (x : List Nat) (xs : List (List Nat)), joinL s (x :: xs) = x ++ (xs.map fun y => s ++ y).flatten
  | x, [] => by simp [joinL]
  | x, y :: r => by
    show x ++ (s ++ joinL s (y :: r)) = _
    rw [joinL_flat s y r]
    simp
theorem sep_of {P : Nat → D → Nat → Prop} {L : List Nat} {cts : List (D × List Nat)} {i : Nat} {r : List Nat} (hne : cts ≠ []) (hc : ∀ x ∈ cts, isN x.1 = false ∧ ∀ i r, L.drop i = x.2 ++ r → P i x.1 (i + x.2.length)) (h : L.drop i = joinL [59] (cts.map (·.2)) ++ 41 :: r) :
    PSep P L i (cts.map (·.1)) (i + (joinL [59] (cts.map (·.2))).length) ∧ resD (cts.map (·.1)) = .tup (cts.map (·.1)) := by
  cases cts with
  | nil => exact absurd rfl hne
  | cons x cts =>
    have ef : (cts.map fun x => 59 :: x.2).flatten = ((cts.map (·.2)).map fun y => [59] ++ y).flatten := by rw [List.map_map]; rfl
    have ej : joinL [59] ((x :: cts).map (·.2)) = x.2 ++ (cts.map fun x => 59 :: x.2).flatten := by rw [List.map_cons, joinL_flat, ef]
    rw [ej] at h ⊢
    obtain ⟨n1, p1⟩ := hc x (by simp)
    have h1 : L.drop i = x.2 ++ ((cts.map fun x => 59 :: x.2).flatten ++ 41 :: r) := by rw [h, List.append_assoc]
    have t := tail_of cts x.1 (i + x.2.length) r n1 (fun y hy => hc y (by simp [hy])) (drop_app h1)
    refine ⟨⟨x.1, i + x.2.length, cts.map (·.1), p1 _ _ h1, by rw [List.length_append, ← Nat.add_assoc]; exact t, rfl⟩, ?_⟩
    have last : ∀ (y : D) (ys : List D), isN y = false → (∀ z ∈ ys, isN z = false) → lastN (y :: ys) = false := fun y ys => by
      induction ys generalizing y with
      | nil => intro h _; exact h
      | cons z ys ih => intro _ h; exact ih z (h z (by simp)) fun w hw => h w (by simp [hw])
    unfold resD
    rw [List.map_cons, last x.1 _ n1 fun z hz => by
      rw [List.mem_map] at hz
      obtain ⟨y, hy, rfl⟩ := hz
      exact (hc y (by simp [hy])).1]
    rfl
theorem opt_of {L : List Nat} : ∀ (ss : List (List Nat)) (i : Nat) (r : List Nat), ss ≠ [] → (∀ s ∈ ss, ∀ c ∈ s, c ∈ SMc) → L.drop i = joinL [44] ss ++ 41 :: r → POpt L i ss (i + (joinL [44] ss).length)
  | [], _, _, h, _, _ => absurd rfl h
  | [s], i, r, _, hs, h => by
    have e : tw SMc L i = s := tw_of (show L.drop i = s ++ 41 :: r from h) (hs s (by simp)) (by decide)
    have := POpt.one (L := L) (i := i) (by rw [e, look_of (drop_app (show L.drop i = s ++ 41 :: r from h))]; decide)
    rw [e] at this
    exact this
  | s :: s2 :: ss, i, r, _, hs, h => by
    have h0 : L.drop i = s ++ 44 :: (joinL [44] (s2 :: ss) ++ 41 :: r) := by
      rw [h]; show (s ++ ([44] ++ joinL [44] (s2 :: ss))) ++ 41 :: r = _; simp
    have e : tw SMc L i = s := tw_of h0 (hs s (by simp)) (by decide)
    have h1 := drop_app h0
    have ih := opt_of (s2 :: ss) (i + s.length + 1) r (by simp) (fun t ht => hs t (by simp [ht])) (drop_one h1)
    have := POpt.more (L := L) (i := i) (by rw [e]; exact look_of h1) (by rw [e]; exact ih)
    rw [e] at this
    have el : (joinL [44] (s :: s2 :: ss)).length = s.length + 1 + (joinL [44] (s2 :: ss)).length := by
      show (s ++ ([44] ++ joinL [44] (s2 :: ss))).length = _
      simp only [List.length_append, List.length_cons, List.length_nil]; omega
    rw [el, show i + (s.length + 1 + (joinL [44] (s2 :: ss)).length) = i + s.length + 1 + (joinL [44] (s2 :: ss)).length from by omega]
    exact this
end DL

set_option Elab.async false
set_option linter.all false
set_option maxRecDepth 100000
set_option maxHeartbeats 1000000
namespace DL
open PySem L2
def recP (L : List Nat) : Nat → PR
  | 0 => fun _ _ _ => False
  | n + 1 => PC L n
theorem PC_eq (L : List Nat) (n : Nat) : PC L n = PCof (recP L n) L := by cases n <;> rfl
theorem PL_low : ∀ w ∈ PLc, (∀ c ∈ w, c ∈ SMc) ∧ w ∈ WDc ∧ w ≠ w_long := by decide +kernel
theorem AS_low : ∀ w ∈ [w_all, w_some], (∀ c ∈ w, c ∈ SMc) ∧ w ∈ WDc ∧ w ≠ w_long ∧ w ∉ PLc ∧ w ≠ w_shape ∧ w ≠ w_tries ∧ w ≠ w_no := by decide +kernel
theorem pc_of {rec : PR} {L w t r : List Nat} {i : Nat} {xs : List D} (hw : ∀ c ∈ w, c ∈ SMc) (hW : w ∈ WDc) (h : L.drop i = brk w t ++ r) (hx : xs.length ≤ 2) (hp : PI rec w L (i + w.length + 1) (.tup xs) (i + w.length + 1 + t.length)) :
    PCof rec L i (.tup (.str w :: xs)) (i + (brk w t).length) := by
  have h0 : L.drop i = w ++ 40 :: (t ++ 41 :: r) := by rw [h]; unfold brk; simp
  have e : tw SMc L i = w := tw_of h0 hw (by decide)
  have h1 := drop_app h0
  have h2 := drop_app (drop_one h1)
  unfold PCof
  rw [e, if_pos ⟨hW, look_of h1⟩]
  refine ⟨.tup xs, _, hp, ?_⟩
  rw [if_neg (by intro z; rcases z with z | z; exact Bool.noConfusion (show false = true from z); exact z (look_of h2))]
  exact ⟨xs, rfl, hx, rfl, by rw [brk_len]; omega⟩
theorem inner_at {L w t r : List Nat} {i : Nat} (h : L.drop i = brk w t ++ r) : L.drop (i + w.length + 1) = t ++ 41 :: r := by
  have h0 : L.drop i = w ++ 40 :: (t ++ 41 :: r) := by rw [h]; unfold brk; simp
  exact drop_one (drop_app h0)
theorem CF.notN {n : Nat} {d : D} {t : List Nat} (h : CF n d t) : isN d = false := by cases h <;> rfl
theorem look_not {L t r : List Nat} {i c : Nat} (h : L.drop i = t ++ r) (ht : t ≠ []) (hc : c ∉ t) : look L i ≠ [c] := by
  cases t with
  | nil => exact absurd rfl ht
  | cons x t =>
    rw [look_of (show L.drop i = x :: (t ++ r) from h)]
    intro z
    cases z
    exact hc (by simp)
theorem brk_first {w t : List Nat} (h : ∃ c u, w = c :: u ∧ c ≠ 41) : ∃ c u, brk w t = c :: u ∧ c ≠ 41 := let ⟨c, u, e, hn⟩ := h; ⟨c, u ++ [40] ++ t ++ [41], by rw [e]; rfl, hn⟩
theorem CF.first {n : Nat} {d : D} {t : List Nat} (h : CF n d t) : ∃ c u, t = c :: u ∧ c ≠ 41 := by
  cases h with
  | pl hw _ =>
    refine brk_first ?_
    simp only [PLc, List.mem_cons, List.not_mem_nil, or_false] at hw
    rcases hw with rfl | rfl | rfl <;> exact ⟨_, _, rfl, by decide⟩
  | lg _ => exact brk_first ⟨_, _, rfl, by decide⟩
  | sh _ _ _ => exact brk_first ⟨_, _, rfl, by decide⟩
  | tr _ => exact brk_first ⟨_, _, rfl, by decide⟩
  | no _ => exact brk_first ⟨_, _, rfl, by decide⟩
  | many hw _ _ =>
    refine brk_first ?_
    simp only [List.mem_cons, List.not_mem_nil, or_false] at hw
    rcases hw with rfl | rfl <;> exact ⟨_, _, rfl, by decide⟩
theorem CF.pc {n : Nat} {d : D} {t : List Nat} (h : CF n d t) : ∀ {L r : List Nat} {i : Nat}, L.drop i = t ++ r → PC L n i d (i + t.length) := by
  induction h with
  | @pl n w l hw hl =>
    intro L r i h
    obtain ⟨h1, h2, h3⟩ := PL_low w hw
    rw [PC_eq]
    refine pc_of h1 h2 h (by simp) ?_
    unfold PI
    rw [if_neg h3]
    refine ⟨.str l, rfl, ?_⟩
    rw [if_pos hw, pL_of (l := l) (by have := inner_at h; simpa using this) hl]
    simp only [List.length_append, List.length_cons, List.length_nil]
    rw [show i + w.length + 1 + (l.length + 2) = i + w.length + 1 + (0 + 1 + l.length + (0 + 1)) from by omega]
  | @lg n a b hb =>
    intro L r i h
    rw [PC_eq]
    refine pc_of (by decide) (by decide) h (by simp) ?_
    unfold PI
    rw [if_pos rfl, pB_of (b := b) (by have := inner_at h; simpa using this) hb]
    simp only [List.length_append, List.length_cons, List.length_nil, bT_len]
  | @sh n ps h1 h2 h3 =>
    intro L r i h
    rw [PC_eq]
    refine pc_of (by decide) (by decide) h (by simp) ?_
    unfold PI
    rw [if_neg (by decide)]
    have ht := inner_at h
    have e1 : ps.map pT = (ps.map fun p => (pD p, pT p)).map (·.2) := by rw [List.map_map]; rfl
    have e2 : ps.map pD = (ps.map fun p => (pD p, pT p)).map (·.1) := by rw [List.map_map]; rfl
    rw [e1] at ht ⊢
    have hs := sep_of (P := isP L) (cts := ps.map fun p => (pD p, pT p)) (by intro z; rw [List.map_eq_nil_iff] at z; rw [z] at h1; exact absurd h1 (by decide)) (fun x hx => by
      rw [List.mem_map] at hx
      obtain ⟨p, hp, rfl⟩ := hx
      exact ⟨rfl, fun i r hh => pP_of hh (h3 p hp).1 (h3 p hp).2⟩) ht
    refine ⟨.tup (ps.map pD), rfl, ?_⟩
    rw [if_neg (by decide), if_pos rfl]
    refine ⟨_, hs.1, ?_⟩
    rw [hs.2, e2]
  | @tr n ss hs =>
    intro L r i h
    rw [PC_eq]
    refine pc_of (by decide) (by decide) h (by simp) ?_
    unfold PI
    rw [if_neg (by decide)]
    refine ⟨.tup (ss.map D.str), rfl, ?_⟩
    rw [if_neg (by decide), if_neg (by decide), if_pos rfl]
    exact ⟨ss, opt_of ss _ r (by intro z; have := hs.2.1; rw [z] at this; cases this) (fun s hm => (hs.2.2 s hm).2) (inner_at h), rfl⟩
  | @no n c t hc ih =>
    intro L r i h
    refine pc_of (by decide) (by decide) h (by simp) ?_
    unfold PI
    rw [if_neg (by decide)]
    refine ⟨c, by unfold wrapD; rw [hc.notN]; rfl, ?_⟩
    rw [if_neg (by decide), if_neg (by decide), if_neg (by decide), if_pos rfl]
    exact ih (inner_at h)
  | @many n w cts hw hl hc ih =>
    intro L r i h
    obtain ⟨h1, h2, h3, h4, h5, h6, h7⟩ := AS_low w hw
    refine pc_of h1 h2 h (by simp) ?_
    unfold PI
    rw [if_neg h3]
    refine ⟨.tup (cts.map (·.1)), rfl, ?_⟩
    rw [if_neg h4, if_neg h5, if_neg h6, if_neg h7]
    have ht := inner_at h
    cases cts with
    | nil => exact .inl ⟨look_of (show L.drop _ = 41 :: r from ht), rfl, rfl⟩
    | cons x cts =>
      have hs := sep_of (P := PC L n) (cts := x :: cts) (by simp) (fun y hy => ⟨(hc y hy).notN, fun i r hh => ih y hy hh⟩) ht
      refine .inr ⟨?_, _, hs.1, hs.2.symm⟩
      have ne := (hc x (by simp)).first
      obtain ⟨c, u, e, hn⟩ := ne
      have hh : ∃ v, L.drop (i + w.length + 1) = c :: v := by
        rw [ht]
        rw [List.map_cons, joinL_flat, e]
        exact ⟨_, rfl⟩
      obtain ⟨v, hv⟩ := hh
      rw [look_of hv]
      intro z
      cases z
      exact hn rfl
end DL

set_option Elab.async false
set_option linter.all false
set_option maxRecDepth 100000
set_option maxHeartbeats 1000000
namespace DL
open PySem L2
def Bal (k : Nat) (t : List Nat) : Prop := ∀ (f d : Int) (r : List Nat), ∃ f', f' ≤ max f (d + k) ∧ dpv f d (t ++ r) = dpv f' d r
theorem Bal.app {k : Nat} {a b : List Nat} (ha : Bal k a) (hb : Bal k b) : Bal k (a ++ b) := fun f d r => by
  obtain ⟨f1, h1, e1⟩ := ha f d (b ++ r)
  obtain ⟨f2, h2, e2⟩ := hb f1 d r
  exact ⟨f2, by omega, by rw [List.append_assoc, e1, e2]⟩
theorem Bal.nil {k : Nat} : Bal k [] := fun f d r => ⟨f, by omega, rfl⟩
theorem Bal.no {k : Nat} : ∀ {t : List Nat}, (∀ c ∈ t, c ≠ 40 ∧ c ≠ 41) → Bal k t
  | [], _ => .nil
  | c :: t, h => fun f d r => by
    have e : dstep c = 0 := by
      unfold dstep
      rw [if_neg (by simpa using (h c (by simp)).1), if_neg (by simpa using (h c (by simp)).2)]
    obtain ⟨f', h1, h2⟩ := Bal.no (k := k) (t := t) (fun x hx => h x (by simp [hx])) (if d + 0 > f then d + 0 else f) d r
    refine ⟨f', ?_, ?_⟩
    · split at h1 <;> omega
    · show dpv (if d + dstep c > f then d + dstep c else f) (d + dstep c) (t ++ r) = _
      rw [e, show d + (0 : Int) = d from by omega]
      rw [show d + (0 : Int) = d from by omega] at h2
      exact h2
theorem Bal.mono {k m : Nat} {t : List Nat} (h : Bal k t) (hm : k ≤ m) : Bal m t := fun f d r => by
  obtain ⟨f', h1, h2⟩ := h f d r
  exact ⟨f', by omega, h2⟩
theorem Bal.brk {k : Nat} {w t : List Nat} (hw : ∀ c ∈ w, c ≠ 40 ∧ c ≠ 41) (h : Bal k t) : Bal (k + 1) (brk w t) := fun f d r => by
  obtain ⟨f1, h1, e1⟩ := Bal.no (k := 0) hw f d (40 :: (t ++ 41 :: r))
  obtain ⟨f2, h2, e2⟩ := h (if d + 1 > f1 then d + 1 else f1) (d + 1) (41 :: r)
  refine ⟨if d + 1 + -1 > f2 then d + 1 + -1 else f2, ?_, ?_⟩
  · split at h2 <;> split <;> omega
  · have e0 : DL.brk w t ++ r = w ++ 40 :: (t ++ 41 :: r) := by unfold DL.brk; simp
    rw [e0, e1]
    show dpv (if d + dstep 40 > f1 then d + dstep 40 else f1) (d + dstep 40) (t ++ 41 :: r) = _
    rw [show dstep 40 = 1 from rfl, e2]
    show dpv (if d + 1 + dstep 41 > f2 then d + 1 + dstep 41 else f2) (d + 1 + dstep 41) r = _
    rw [show dstep 41 = -1 from rfl, show d + 1 + -1 = d from by omega]
theorem Bal.join {k : Nat} {s : List Nat} (hs : Bal k s) : ∀ ts : List (List Nat), (∀ t ∈ ts, Bal k t) → Bal k (joinL s ts)
  | [], _ => .nil
  | [x], h => h x (by simp)
  | x :: y :: r, h => (h x (by simp)).app (hs.app (Bal.join hs (y :: r) fun t ht => h t (by simp [ht])))
theorem SG_nb : ∀ c ∈ SGc, c ≠ 40 ∧ c ≠ 41 ∧ c ≠ 10 := by decide
theorem SM_nb : ∀ c ∈ SMc, c ≠ 40 ∧ c ≠ 41 ∧ c ≠ 10 ∧ c ≠ 32 := by decide
theorem bT_nb (b : Option Nat) : ∀ c ∈ bT b, c ≠ 40 ∧ c ≠ 41 ∧ c ≠ 10 := by
  cases b with
  | none => decide
  | some x =>
    intro c hc
    simp only [bT, List.mem_singleton] at hc
    omega
theorem pT_nb {p : List Nat × Nat × Option Nat} (h : OKL p.1) : ∀ c ∈ pT p, c ≠ 40 ∧ c ≠ 41 ∧ c ≠ 10 := by
  intro c hc
  simp only [pT, List.mem_append] at hc
  rcases hc with ((((hc | hc) | hc) | hc) | hc) | hc
  · revert c; decide
  · exact SG_nb c (h.len.2.2 c hc)
  · revert c; decide
  · exact bT_nb _ c hc
  · revert c; decide
  · exact bT_nb _ c hc
theorem low_w {w : List Nat} (h : ∀ c ∈ w, c ∈ SMc) : ∀ c ∈ w, c ≠ 40 ∧ c ≠ 41 := fun c hc => ⟨(SM_nb c (h c hc)).1, (SM_nb c (h c hc)).2.1⟩
theorem CF.bal {n : Nat} {d : D} {t : List Nat} (h : CF n d t) : Bal (n + 1) t := by
  induction h with
  | @pl n w l hw hl =>
    refine Bal.brk (low_w (PL_low w hw).1) (.no fun c hc => ?_)
    simp only [List.mem_append, List.mem_singleton] at hc
    rcases hc with (rfl | hc) | rfl
    · decide
    · exact ⟨(SG_nb c (hl.len.2.2 c hc)).1, (SG_nb c (hl.len.2.2 c hc)).2.1⟩
    · decide
  | @lg n a b hb =>
    refine Bal.brk (by decide) (.no fun c hc => ?_)
    simp only [List.mem_append, List.mem_singleton] at hc
    rcases hc with (hc | rfl) | hc
    · exact ⟨(bT_nb _ c hc).1, (bT_nb _ c hc).2.1⟩
    · decide
    · exact ⟨(bT_nb _ c hc).1, (bT_nb _ c hc).2.1⟩
  | @sh n ps h1 h2 h3 =>
    refine Bal.brk (by decide) (.join (.no (by decide)) _ fun t ht => ?_)
    rw [List.mem_map] at ht
    obtain ⟨p, hp, rfl⟩ := ht
    exact .no fun c hc => ⟨(pT_nb (h3 p hp).1 c hc).1, (pT_nb (h3 p hp).1 c hc).2.1⟩
  | @tr n ss hs => exact Bal.brk (by decide) (.join (.no (by decide)) _ fun t ht => .no (low_w (hs.2.2 t ht).2))
  | @no n c t _ ih => exact Bal.brk (by decide) ih
  | @many n w cts hw hl _ ih =>
    refine Bal.brk (low_w (AS_low w hw).1) (.join (.no (by decide)) _ fun t ht => ?_)
    rw [List.mem_map] at ht
    obtain ⟨x, hx, rfl⟩ := ht
    exact ih x hx
def NoC (c : Nat) (t : List Nat) : Prop := ∀ x ∈ t, x ≠ c
theorem NoC.app {c : Nat} {a b : List Nat} (ha : NoC c a) (hb : NoC c b) : NoC c (a ++ b) := fun x hx => (List.mem_append.mp hx).elim (ha x) (hb x)
theorem NoC.join {c : Nat} {s : List Nat} (hs : NoC c s) : ∀ ts : List (List Nat), (∀ t ∈ ts, NoC c t) → NoC c (joinL s ts)
  | [], _ => fun x hx => by cases hx
  | [x], h => h x (by simp)
  | x :: y :: r, h => (h x (by simp)).app (hs.app (NoC.join hs (y :: r) fun t ht => h t (by simp [ht])))
theorem NoC.brk {w t : List Nat} (hw : NoC 10 w) (h : NoC 10 t) : NoC 10 (brk w t) := ((hw.app (by unfold NoC; decide)).app h).app (by unfold NoC; decide)
theorem low_10 {w : List Nat} (h : ∀ c ∈ w, c ∈ SMc) : NoC 10 w := fun c hc => (SM_nb c (h c hc)).2.2.1
theorem CF.no10 {n : Nat} {d : D} {t : List Nat} (h : CF n d t) : NoC 10 t := by
  induction h with
  | @pl n w l hw hl => exact NoC.brk (low_10 (PL_low w hw).1) (((show NoC 10 [39] by unfold NoC; decide).app fun c hc => (SG_nb c (hl.len.2.2 c hc)).2.2).app (by unfold NoC; decide))
  | @lg n a b hb => exact NoC.brk (by unfold NoC; decide) (((show NoC 10 (bT (some a)) from fun c hc => (bT_nb _ c hc).2.2).app (by unfold NoC; decide)).app fun c hc => (bT_nb _ c hc).2.2)
  | @sh n ps h1 h2 h3 =>
    refine NoC.brk (by unfold NoC; decide) (.join (by unfold NoC; decide) _ fun t ht => ?_)
    rw [List.mem_map] at ht
    obtain ⟨p, hp, rfl⟩ := ht
    exact fun c hc => (pT_nb (h3 p hp).1 c hc).2.2
  | @tr n ss hs => exact NoC.brk (by unfold NoC; decide) (.join (by unfold NoC; decide) _ fun t ht => low_10 (hs.2.2 t ht).2)
  | @no n c t _ ih => exact NoC.brk (by unfold NoC; decide) ih
  | @many n w cts hw hl _ ih =>
    refine NoC.brk (low_10 (AS_low w hw).1) (.join (by unfold NoC; decide) _ fun t ht => ?_)
    rw [List.mem_map] at ht
    obtain ⟨x, hx, rfl⟩ := ht
    exact ih x hx
theorem spl_run {c : Nat} : ∀ (x acc r : List Nat), NoC c x → splL c acc (x ++ r) = splL c (acc ++ x) r
  | [], acc, r, _ => by rw [List.nil_append, List.append_nil]
  | y :: x, acc, r, h => by
    show (if y = c then _ else splL c (acc ++ [y]) (x ++ r)) = _
    rw [if_neg (h y (by simp)), spl_run x (acc ++ [y]) r fun z hz => h z (by simp [hz])]
    rw [List.append_assoc]; rfl
theorem spl_join {c : Nat} : ∀ (xs : List (List Nat)), xs ≠ [] → (∀ x ∈ xs, NoC c x) → splL c [] (joinL [c] xs) = xs
  | [], h, _ => absurd rfl h
  | [x], _, h => by
    have := spl_run x [] [] (h x (by simp))
    rw [List.append_nil] at this
    show splL c [] x = [x]
    rw [this]; rfl
  | x :: y :: r, _, h => by
    show splL c [] (x ++ ([c] ++ joinL [c] (y :: r))) = _
    rw [spl_run x [] _ (h x (by simp))]
    show (if c = c then ([] ++ x) :: splL c [] (joinL [c] (y :: r)) else _) = _
    rw [if_pos rfl, spl_join (y :: r) (by simp) fun z hz => h z (by simp [hz])]; rfl
theorem lnR_eq {ss : List (List Nat)} (h : ORd ss) : lnR ss = joinL [32] (w_reader :: ss) := by
  cases ss with
  | nil => exact absurd h.2.1 (by decide)
  | cons s r => rfl
theorem wr_eq (ss : List (List Nat)) (t : List Nat) : wrT ss t = joinL [10] [lnR ss, lnC t] := by
  show [114, 101, 97, 100, 101, 114, 32] ++ joinL [32] ss ++ [10, 99, 104, 101, 99, 107, 32] ++ t = lnR ss ++ ([10] ++ lnC t)
  unfold lnR lnC
  simp
theorem spl_lines {ss : List (List Nat)} {c : D} {t : List Nat} (hs : ORd ss) (hc : CF 2 c t) : splL 10 [] (wrT ss t) = [lnR ss, lnC t] := by
  rw [wr_eq]
  refine spl_join _ (by simp) fun x hx => ?_
  simp only [List.mem_cons, List.not_mem_nil, or_false] at hx
  rcases hx with rfl | rfl
  · exact (show NoC 10 [114, 101, 97, 100, 101, 114, 32] by unfold NoC; decide).app (.join (by unfold NoC; decide) _ fun s hm => low_10 (hs.2.2 s hm).2)
  · exact (show NoC 10 [99, 104, 101, 99, 107, 32] by unfold NoC; decide).app hc.no10
theorem spl_words {ss : List (List Nat)} (hs : ORd ss) : splL 32 [] (lnR ss) = w_reader :: ss := by
  rw [lnR_eq hs]
  refine spl_join _ (by simp) fun x hx => ?_
  rcases List.mem_cons.mp hx with rfl | hx
  · unfold NoC; decide
  · exact fun c hc => (SM_nb c ((hs.2.2 x hx).2 c hc)).2.2.2
theorem RC_of {c : D} {t : List Nat} (hc : CF 2 c t) : RC 2 (lnC t) c := by
  unfold RC
  have e1 : (lnC t).take 6 = w_check := rfl
  have e2 : (lnC t).drop 6 = t := rfl
  have e3 : ¬ dpv 0 0 (lnC t) > 8 := by
    have hb : Bal 3 (lnC t) := (Bal.no (t := [99, 104, 101, 99, 107, 32]) (by decide)).app hc.bal
    obtain ⟨f, h1, h2⟩ := hb 0 0 []
    rw [List.append_nil] at h2
    rw [h2]
    show ¬ f > 8
    omega
  rw [if_neg (by intro z; rcases z with z | z; exact z e1; exact e3 z), e2]
  have hp := hc.pc (L := t) (r := []) (i := 0) (by simp)
  refine ⟨c, 0 + t.length, hp, hc.gd, ?_⟩
  rw [if_neg (by rw [hc.notN, hc.ok]; intro z; rcases z with z | z | z; exact Bool.noConfusion z; omega; exact Bool.noConfusion z)]
end DL

set_option Elab.async false
set_option linter.all false
set_option maxRecDepth 100000
set_option maxHeartbeats 1000000
namespace DL
open PySem L2
def Py (k : Nat) (d : D) : Prop := ∃ p : PyData, (∀ M, PyOf M d p) ∧ p.canLay0 = true ∧ p.depth ≤ k
theorem Py.mono {k m : Nat} {d : D} (h : Py k d) (hm : k ≤ m) : Py m d := let ⟨p, a, b, c⟩ := h; ⟨p, a, b, Nat.le_trans c hm⟩
theorem Py.non : Py 0 .non := ⟨.none, fun _ => .non, by simp only [PyData.canLay0], by simp only [PyData.depth]; exact Nat.le_refl _⟩
theorem Py.int (i : Int) : Py 0 (.int i) := ⟨.int i, fun _ => .int i, by simp only [PyData.canLay0], by simp only [PyData.depth]; exact Nat.le_refl _⟩
theorem Py.str {s : List Nat} (h : ∀ c ∈ s, c < 200) : Py 0 (.str s) := ⟨.str (sV s), fun _ => .str s, by
    simp only [PyData.canLay0]
    unfold PyData.strOk sV
    rw [Array.all_eq_true']
    intro c hc
    have := h c (by simpa using hc)
    exact decide_eq_true (by omega), by simp only [PyData.depth]; exact Nat.le_refl _⟩
theorem Py.all {k : Nat} : ∀ {ds : List D}, (∀ d ∈ ds, Py k d) → ∃ ps : List PyData, (∀ M, PyAll M ds ps) ∧ PyData.canLayAll0 ps = true ∧ PyData.depthAll ps ≤ k
  | [], _ => ⟨[], fun _ => .nil, by simp only [PyData.canLayAll0], by simp only [PyData.depthAll]; exact Nat.zero_le _⟩
  | d :: ds, h => by
    obtain ⟨p, a, b, c⟩ := h d (by simp)
    obtain ⟨ps, a2, b2, c2⟩ := Py.all fun x hx => h x (List.mem_cons_of_mem _ hx)
    exact ⟨p :: ps, fun M => .cons (a M) (a2 M), by simp only [PyData.canLayAll0, b, b2, Bool.and_self], by simp only [PyData.depthAll]; omega⟩
theorem Py.tup {k : Nat} {ds : List D} (h : ∀ d ∈ ds, Py k d) : Py (k + 1) (.tup ds) := by
  obtain ⟨ps, a, b, c⟩ := Py.all h
  exact ⟨.tuple ps, fun M => .tup (a M), by simp only [PyData.canLay0]; exact b, by simp only [PyData.depth]; omega⟩
theorem Py.two {k : Nat} {w : List Nat} {d : D} (hw : ∀ c ∈ w, c < 200) (h : Py k d) : Py (k + 1) (.tup [.str w, d]) := .tup fun x hx => by
  simp only [List.mem_cons, List.not_mem_nil, or_false] at hx
  rcases hx with rfl | rfl
  · exact (Py.str hw).mono (Nat.zero_le _)
  · exact h
theorem SM_lt : ∀ c ∈ SMc, c < 200 := by decide
theorem SG_lt : ∀ c ∈ SGc, c < 200 := by decide
theorem Py.bD (b : Option Nat) : Py 0 (bD b) := by cases b with
  | none => exact .non
  | some x => exact .int _
theorem ORd.py {ss : List (List Nat)} (h : ORd ss) : Py 1 (.tup (ss.map D.str)) := .tup fun d hd => by
  obtain ⟨s, hs, rfl⟩ := mem_str hd
  exact .str fun c hc => SM_lt c ((h.2.2 s hs).2 c hc)
theorem CF.py {n : Nat} {d : D} {t : List Nat} (h : CF n d t) : Py (3 + 2 * n) d := by
  induction h with
  | @pl n w l hw hl => exact (Py.two (fun c hc => SM_lt c ((PL_low w hw).1 c hc)) (.str fun c hc => SG_lt c (hl.len.2.2 c hc))).mono (by omega)
  | @lg n a b hb =>
    refine Py.mono (k := 1) (.tup fun d hd => ?_) (by omega)
    simp only [List.mem_cons, List.not_mem_nil, or_false] at hd
    rcases hd with rfl | rfl | rfl
    · exact .str (by decide)
    · exact .int _
    · exact .bD b
  | @sh n ps h1 h2 h3 =>
    refine Py.mono (k := 3) (.two (by decide) (.tup fun d hd => ?_)) (by omega)
    rw [List.mem_map] at hd
    obtain ⟨p, hp, rfl⟩ := hd
    refine .tup fun d hd => ?_
    simp only [List.mem_cons, List.not_mem_nil, or_false] at hd
    rcases hd with rfl | rfl | rfl
    · exact .str fun c hc => SG_lt c ((h3 p hp).1.len.2.2 c hc)
    · exact .int _
    · exact .bD _
  | @tr n ss hs => exact Py.mono (k := 2) (.two (by decide) hs.py) (by omega)
  | @no n c t _ ih => exact Py.mono (.two (by decide) ih) (by omega)
  | @many n w cts hw hl _ ih =>
    refine Py.mono (.two (fun c hc => SM_lt c ((AS_low w hw).1 c hc)) (.tup (k := 3 + 2 * n) fun d hd => ?_)) (by omega)
    rw [List.mem_map] at hd
    obtain ⟨x, hx, rfl⟩ := hd
    exact ih x hx
theorem Py.sh {k : Nat} {d : D} (h : Py k d) (hk : k ≤ 64) : ∃ p : PyData, (∀ M, PyOf M d p) ∧ SeqAt.shaped p = true := by
  obtain ⟨p, a, b, c⟩ := h
  exact ⟨p, a, by unfold SeqAt.shaped; rw [b, decide_eq_true (Nat.le_trans c hk)]; rfl⟩
def sp_law (_ : Ad) : DSp := fun ds M Q _ => ∃ (a : Addr) (ns : List Int), ds = [.ref a] ∧ M a = some (.lst (ns.map D.int)) ∧ ns.length ≤ 100 ∧ ∀ M', Q (.bl true) M'
def t_law (A : Ad) : DS := dSeq (dSet 1 (dCall (sp_law_begin A) (dCons (dVar 0) (dNil)))) (dSeq (dSet 2 (dCall (sp_lc 2) (dCons (dVar 1) (dCons (dC (.int 2)) (dNil))))) (dSeq (dSet 3 (dCall (sp_law_reader A) (dCons (dVar 1) (dNil)))) (dSeq (dSet 4 (dMake A.cPr (sp_Program_init A) (dCons (dVar 2) (dCons (dVar 3) (dNil))))) (dSeq (dSet 5 (dCall (sp_write A) (dCons (dVar 4) (dNil)))) (dSeq (dIfS (dOr (dNot (dTest (dIsi Tn.str (dVar 5)))) (dTest (dOp neD (dVar 5) (dMt "str" joinD (dC (.str [10])) (dCons (dCall (sp_law_lines A) (dCons (dVar 2) (dCons (dVar 3) (dNil)))) (dNil)))))) (dRet (dC (.bl false))) (dNext)) (dSeq (dSet 6 (dCall (sp_read_program A 2) (dCons (dVar 5) (dNil)))) (dRet (dAndV (dIsC A.cPr (dVar 6)) (dOp (eqP A.cPr (sp_Program_eq A)) (dVar 6) (dVar 4))))))))))
abbrev n_law : List Str := ["_law_script", "_law_draws", "_law_check_here", "_law_reader_here", "_law_program", "_law_text_here", "_law_back"]
def tR_law (A : Ad) : DS := dSeq (dSet 2 (dCall (sp_lc 2) (dCons (dVar 1) (dCons (dC (.int 2)) (dNil))))) (dSeq (dSet 3 (dCall (sp_law_reader A) (dCons (dVar 1) (dNil)))) (dSeq (dSet 4 (dMake A.cPr (sp_Program_init A) (dCons (dVar 2) (dCons (dVar 3) (dNil))))) (dSeq (dSet 5 (dCall (sp_write A) (dCons (dVar 4) (dNil)))) (dSeq (dIfS (dOr (dNot (dTest (dIsi Tn.str (dVar 5)))) (dTest (dOp neD (dVar 5) (dMt "str" joinD (dC (.str [10])) (dCons (dCall (sp_law_lines A) (dCons (dVar 2) (dCons (dVar 3) (dNil)))) (dNil)))))) (dRet (dC (.bl false))) (dNext)) (dSeq (dSet 6 (dCall (sp_read_program A 2) (dCons (dVar 5) (dNil)))) (dRet (dAndV (dIsC A.cPr (dVar 6)) (dOp (eqP A.cPr (sp_Program_eq A)) (dVar 6) (dVar 4)))))))))
theorem pure_lawR {A : Ad} {W : DW} {R : DQ} {M1 : DM} {x : Addr} {o : Option D} (d1 : DrawsAt M1 x) (k : ∀ M', R (.bl true) M') : tR_law A W (endsOf R) [o, some (.ref x), none, none, none, none, none] M1 := by
  unfold tR_law
  simp only [dVar, dC, dOp, dTest, dChain, dAnd, dOr, dNot, dAndV, dOrV, dNotV, dIfE, dNil, dCons, dTup, dLst, dNext, dSeq, dIfS, dRet, dRetN, dExpr, dBrk, dCnt, dSet, dNever, gN, gTp, gLs, gsNil, gsCons, dAsg, dCall, dRaise, dRaiseF, ixD, dSl, slD, dPart, dNoPart, dCB, lenD, minD, maxD, absD, intD, strD, tupleD, listD, dMt, dMt0, tyD, appendD, popD, splitD, countD, dIsi, gSb, setL, dFld, dFldSet, dMeth, dMake, dFldAug, dAug, dPar, dTru, dNeg, augAdd, dDep, dIsC, intI, cmpI, startD, endsOf, List.map_cons, List.map_nil, List.length_cons, List.length_nil, List.replicate, List.getElem?_cons_zero, List.getElem?_cons_succ, List.cons_append, List.nil_append, List.set_cons_zero, List.set_cons_succ, Nat.reduceAdd, Nat.reduceSub]
  refine ⟨x, rfl, by decide, d1, fun c t M2 hc a2 => ?_⟩
  refine ⟨x, rfl, a2.d, fun ss M3 hs a3 => ?_⟩
  intro p dx hp hdx hne
  refine ⟨p, dx, c, _, rfl, mupd_same, hc.gd _, gd_strs (fun w hw => by have := (hs.2.2 w hw).1; omega), (fun z => by rw [hc.ok] at z; cases z), fun _ => ⟨fun _ => ⟨rfl, ?_⟩, (fun i z => by rw [hs.1] at z; cases z)⟩⟩
  rw [mupd_idem]
  refine ⟨p, dx, c, ss, t, rfl, mupd_same, hc, hs, ?_⟩
  have ht := hc.len
  have hp2 := pow_le (n := 2) (by omega)
  have hj := hs.join
  have hlen : (wrT ss t).length ≤ 10000 := by
    unfold wrT
    simp only [List.length_append, List.length_cons, List.length_nil]; omega
  refine ⟨trivial, c, ss, t, rfl, hc, hs, fun q hq => ?_⟩
  refine ⟨[lnR ss, lnC t], mupd M3 p (prO A dx c (.tup (ss.map D.str))), mupd_same, msub_new hq, ?_, ?_⟩
  · unfold lnR lnC
    simp only [List.map_cons, List.map_nil, List.sum_cons, List.sum_nil, List.length_append, List.length_cons, List.length_nil]; omega
  show (match !decide (wrT ss t = joinL [10] [lnR ss, lnC t]) with | true => _ | false => _)
  rw [decide_eq_true (wr_eq ss t)]
  refine ⟨wrT ss t, lnR ss, [lnC t], w_reader, ss, rfl, by omega, spl_lines hs hc, spl_words hs, (fun z => ?_), fun _ => ⟨c, RC_of hc, (fun z => by rw [hc.notN] at z; cases z), fun _ => ⟨hc.ok, hc.gd, (fun z => absurd z (by simp)), fun _ b bx hb hbx hbn => ?_⟩⟩⟩
  · rcases z with z | z
    · exact absurd rfl z
    · exact absurd hs.1 z
  have nbp : p ≠ b := fun z => by subst z; rw [mupd_same] at hb; cases hb
  refine ⟨b, bx, _, _, rfl, mupd_same, ?_⟩
  have ep : mupd (mupd M3 p (prO A dx c (.tup (ss.map D.str)))) b (prO A bx c (.tup (ss.map D.str))) p = some (prO A dx c (.tup (ss.map D.str))) := by rw [mupd_ne nbp, mupd_same]
  obtain ⟨pc, h1, h2⟩ := hc.py.sh (by decide)
  obtain ⟨pr, h3, h4⟩ := hs.py.sh (by decide)
  refine ⟨b, p, bx, dx, _, _, _, _, rfl, rfl, mupd_same, ep, b, p, bx, dx, c, _, pc, pr, rfl, mupd_same, ep, h1 _, h3 _, h2, h4, true, rfl, Wk.self (k _)⟩
end DL

set_option Elab.async false
set_option linter.all false
set_option maxRecDepth 100000
set_option maxHeartbeats 1000000
namespace DL
open PySem PySem.Spec PyProof.Rows L2
theorem PSep.mono {P : Nat → D → Nat → Prop} {L : List Nat} (mono : ∀ i d j, P i d j → i ≤ j) {i k : Nat} {ds : List D} (h : PSep P L i ds k) : i ≤ k := by
  obtain ⟨d, j, r, h1, h2, _⟩ := h
  exact Nat.le_trans (mono _ _ _ h1) (h2.len mono).2
theorem PI.mono {rec : PR} {w L : List Nat} {i k : Nat} {d : D} (mono : ∀ i d j, rec i d j → i ≤ j) (h : PI rec w L i d k) : i ≤ k := by
  unfold PI at h
  split at h
  · have := pB_mono L i; rw [h] at this; exact this
  · obtain ⟨f, _, h⟩ := h
    split at h
    · have := pL_mono L i; rw [h] at this; exact this
    · split at h
      · obtain ⟨ds, h, _⟩ := h; exact h.mono isP_mono
      · split at h
        · obtain ⟨ws, h, _⟩ := h; exact h.len.2
        · split at h
          · exact mono _ _ _ h
          · rcases h with ⟨_, _, rfl⟩ | ⟨_, ds, h, _⟩
            · exact Nat.le_refl _
            · exact h.mono mono
theorem PCof_mono {rec : PR} {L : List Nat} (mono : ∀ i d j, rec i d j → i ≤ j) : ∀ i d j, PCof rec L i d j → i ≤ j := fun i d k h => by
  unfold PCof at h
  split at h
  · obtain ⟨x, j, hp, h⟩ := h
    have := hp.mono mono
    split at h
    · omega
    · obtain ⟨xs, _, _, _, e⟩ := h; omega
  · omega
theorem PC_mono : ∀ (n : Nat) (L : List Nat) (i : Nat) (d : D) (j : Nat), PC L n i d j → i ≤ j
  | 0, L => PCof_mono fun _ _ _ h => h.elim
  | n + 1, L => PCof_mono (PC_mono n L)
def rec0 : List Nat → PR := fun _ _ _ _ => False
def spF : DSp := fun _ _ _ _ => False
section
variable {P : Program} {w : World} {mg : Str → Option Value} {base : Heap} {Z : ZP} {CX : CXT} {k : Nat} {f : Addr} {fd : FuncData} {ps : List Str} {sp : DSp}
theorem fn_never (h : ∀ ds M Q E, ¬ sp ds M Q E) : FnOk P w Z.K mg base CX k f fd ps (lSp Z sp) where
  len := fun _ _ _ _ ⟨_, _, _, _, _, _, _, z, _⟩ => absurd z (h _ _ _ _)
  run := fun _ _ _ _ _ _ _ _ _ _ _ _ _ ⟨_, _, _, _, _, _, _, z, _⟩ => absurd z (h _ _ _ _)
end
theorem spO_never {A : Ad} : ∀ ds M Q E, ¬ spO A rec0 ds M Q E := fun _ _ _ _ ⟨_, _, _, _, _, _, _, _, z, _⟩ => z
def KT (K : PySem.W.Frag) (v : Value) (ds : List D) : Prop := ∃ a, v = .ref a ∧ ∀ H, RD K H (.tup ds) (.ref a)
theorem kt_mk {K : PySem.W.Frag} {a : Addr} {od : Option Addr} {its : Array Value} {n : Nat} {sl : Array (Option Value)} {ds : List D} (l : K.lookup a = some ⟨.type "tuple", od, .seq its n, sl⟩) (hz : its.size ≤ sizeLine) (h : ∃ vs, Vals vs its.toList ∧ ∀ H, RDs K H ds vs) : KT K (.ref a) ds := by
  obtain ⟨vs, h1, h2⟩ := h
  exact ⟨a, rfl, fun H => ⟨a, vs, rfl, .inr ⟨_, its, n, l, rfl, rfl, hz, h1⟩, h2 H⟩⟩
def ItV (K : PySem.W.Frag) (d : D) (u : Value) : Prop := ∃ v, RelV v u ∧ ∀ H, RD K H d v
theorem iv_str {K : PySem.W.Frag} {s : List Nat} {t : Str} {tk : Nat} (e : t = sV s) : ItV K (.str s) (.str t tk) := ⟨.str (sV s), ⟨tk, by rw [e]⟩, fun H => by rw [RD]⟩
theorem iv_kt {K : PySem.W.Frag} {u : Value} {ds : List D} (h : KT K u ds) : ItV K (.tup ds) u := by
  obtain ⟨a, rfl, h⟩ := h
  exact ⟨.ref a, rfl, h⟩
def ItVs (K : PySem.W.Frag) : List D → List Value → Prop
  | [], us => us = []
  | d :: ds, us => ∃ u r, us = u :: r ∧ ItV K d u ∧ ItVs K ds r
theorem ivs_all {K : PySem.W.Frag} : ∀ {ds : List D} {us : List Value}, ItVs K ds us → ∃ vs, Vals vs us ∧ ∀ H, RDs K H ds vs
  | [], _, h => ⟨[], by rw [show _ = [] from h]; exact .nil, fun H => by rw [RDs]⟩
  | d :: ds, _, ⟨u, r, rfl, ⟨v, h1, h2⟩, h⟩ => by
    obtain ⟨vs, h3, h4⟩ := ivs_all h
    exact ⟨v :: vs, .cons h1 h3, fun H => ⟨v, vs, rfl, h2 H, h4 H⟩⟩
theorem qe_cv {Z : ZP} {G : Hp} {X : Cx} {x : Str} {d : D} {pos : Pos} (h : ∃ u, X.mg x = some u ∧ ItV Z.K d u) (hg : Gl X x := by rfl) (hd : (x == ("__debug__" : Str)) = false := by decide) : QE Z G X (.Name x pos) (dC d) := by
  obtain ⟨u, hm, v, r, rd⟩ := h
  exact qe_glob hm r rd hg hd
theorem room64 {k : Nat} {A : Around} (r : Room k A) : A.units + 64 < cLine := by have := r.un; omega
theorem room65 {k : Nat} {A : Around} (r : Room k A) : A.units + 65 < cLine := by have := r.un; omega
theorem room1 {k : Nat} {A : Around} (r : Room k A) : A.units + 1 < cLine := by have := r.un; omega
end DL

set_option Elab.async false
set_option linter.all false
set_option maxRecDepth 100000
set_option maxHeartbeats 4000000
namespace DL
open PySem L2
theorem iIfS {c : DT} {t u : DS} {W : DW} {E : DEnds} {ρ : Env} {M : DM} : dIfS c t u W E ρ M = c W ρ M fun b M1 => if b = true then t W E ρ M1 else u W E ρ M1 := by
  unfold dIfS; congr 1; funext b M1; cases b <;> rfl
theorem iAnd {t u : DT} {W : DW} {ρ : Env} {M : DM} {R : Bool → DM → Prop} : dAnd t u W ρ M R = t W ρ M fun b M1 => if b = true then u W ρ M1 R else R false M1 := by
  unfold dAnd; congr 1; funext b M1; cases b <;> rfl
theorem iOr {t u : DT} {W : DW} {ρ : Env} {M : DM} {R : Bool → DM → Prop} : dOr t u W ρ M R = t W ρ M fun b M1 => if b = true then R true M1 else u W ρ M1 R := by
  unfold dOr; congr 1; funext b M1; cases b <;> rfl
theorem iAndV {t u : DE} {W : DW} {ρ : Env} {M : DM} {R : DQ} : dAndV t u W ρ M R = t W ρ M fun x M1 => match x with
    | .bl b => if b = true then u W ρ M1 R else R (.bl false) M1
    | _ => False := by
  unfold dAndV; congr 1; funext x M1
  cases x with
  | bl b => cases b <;> rfl
  | _ => rfl
theorem iOrV {t u : DE} {W : DW} {ρ : Env} {M : DM} {R : DQ} : dOrV t u W ρ M R = t W ρ M fun x M1 => match x with
    | .bl b => if b = true then R (.bl true) M1 else u W ρ M1 R
    | _ => False := by
  unfold dOrV; congr 1; funext x M1
  cases x with
  | bl b => cases b <;> rfl
  | _ => rfl
theorem iIfE {c : DT} {t u : DE} {W : DW} {ρ : Env} {M : DM} {R : DQ} : dIfE c t u W ρ M R = c W ρ M fun b M1 => if b = true then t W ρ M1 R else u W ρ M1 R := by
  unfold dIfE; congr 1; funext b M1; cases b <;> rfl
theorem iEqS {a b : List Nat} {M : DM} {R : DQ} : eqD (.str a) (.str b) M R = R (.bl (decide (a = b))) M := rfl
theorem iEqI {a b : Int} {M : DM} {R : DQ} : eqD (.int a) (.int b) M R = R (.bl (decide (a = b))) M := rfl
theorem iEqB {a b : Bool} {M : DM} {R : DQ} : eqD (.bl a) (.bl b) M R = R (.bl (decide (a = b))) M := rfl
theorem iNeS {a b : List Nat} {M : DM} {R : DQ} : neD (.str a) (.str b) M R = R (.bl (!decide (a = b))) M := rfl
theorem iNeI {a b : Int} {M : DM} {R : DQ} : neD (.int a) (.int b) M R = R (.bl (!decide (a = b))) M := rfl
theorem iIs {x : D} {M : DM} {R : DQ} : isD x .non M R = R (.bl (isN x)) M := rfl
theorem iIsNot {x : D} {M : DM} {R : DQ} : isNotD x .non M R = R (.bl (!isN x)) M := rfl
theorem iInC {c : Nat} {s : List Nat} {M : DM} {R : DQ} : inD (.str [c]) (.str s) M R = R (.bl (decide (c ∈ s))) M := rfl
theorem iNotInC {c : Nat} {s : List Nat} {M : DM} {R : DQ} : notInD (.str [c]) (.str s) M R = R (.bl (!decide (c ∈ s))) M := rfl
theorem iInT {x : List Nat} {ys : List (List Nat)} {M : DM} {R : DQ} (h : R (.bl (decide (x ∈ ys))) M) : inD (.str x) (.tup (ys.map D.str)) M R := in_strs h
theorem iAddI {a b : Int} {M : DM} {R : DQ} : addD (.int a) (.int b) M R = R (.int (a + b)) M := rfl
theorem iAddT {a b : List D} {M : DM} {R : DQ} : addD (.tup a) (.tup b) M R = (a.length + b.length ≤ sizeLine ∧ R (.tup (a ++ b)) M) := rfl
theorem iAddS {a b : List Nat} {M : DM} {R : DQ} : addD (.str a) (.str b) M R = (a.length + b.length ≤ sizeLine ∧ R (.str (a ++ b)) M) := rfl
theorem iIxT {ds : List D} {i : Int} {M : DM} {R : DQ} {d : D} (e : atI ds i = some d) : ixD (.tup ds) (.int i) M R = R d M := by
  unfold ixD; simp only [e]
end DL

set_option Elab.async false
set_option linter.all false
set_option maxRecDepth 100000
set_option maxHeartbeats 4000000
namespace DL
open PySem L2
def o_ends : List Nat := [101, 110, 100, 115]
def o_minus : List Nat := [109, 105, 110, 117, 115]
def o_both : List Nat := [98, 111, 116, 104]
def o_free : List Nat := [102, 114, 101, 101]
def o_single : List Nat := [115, 105, 110, 103, 108, 101]
def o_part : List Nat := [112, 97, 114, 116]
def o_loose : List Nat := [108, 111, 111, 115, 101]
def o_plain : List Nat := [112, 108, 97, 105, 110]
def o_all : List Nat := [97, 108, 108]
def h_start : List Nat := [115, 116, 97, 114, 116]
def h_signed : List Nat := [115, 105, 103, 110, 101, 100]
def h_number : List Nat := [110, 117, 109, 98, 101, 114]
def h_tail : List Nat := [116, 97, 105, 108]
structure Rdr where
  a : List Nat
  b : List Nat
  c : List Nat
  d : List Nat
  e : List Nat
  f : List Nat
def Rdr.l (r : Rdr) : List (List Nat) := [r.a, r.b, r.c, r.d, r.e, r.f]
def Rdr.D (r : Rdr) : D := .tup [.str r.a, .str r.b, .str r.c, .str r.d, .str r.e, .str r.f]
structure RS where
  ph : List Nat
  fi : List Nat
  ma : Nat
  ro : Nat
  rd : Bool
  la : List Nat
  po : Bool
def stD (s : RS) : D := .tup [.str s.ph, .str s.fi, .int (s.ma : Nat), .int (s.ro : Nat), .bl s.rd, .str s.la, .bl s.po]
def osD : Option RS → D
  | none => .non
  | some s => stD s
def fst0 : RS := ⟨h_start, [], 0, 0, false, [], false⟩
def c_FIRST : D := stD fst0
def c_FIGURES : D := .str [48, 49, 56, 116]
def c_PARTS : D := .tup [.str o_part, .str o_loose]
def whole (r : Rdr) : Option RS → Bool
  | none => false
  | some s => if ¬s.ph = h_number then decide (s.ph = h_tail) else if s.la = [102] then (if s.rd = false then true else decide ((s.ro : Int) = 3)) else if s.la = [112] then (if r.e = o_loose then decide (0 < (s.ma : Int)) else false) else false
def sp_is_whole (_ : Ad) : DSp := fun ds M Q _ => ∃ (r : Rdr) (o : Option RS), ds = [r.D, osD o] ∧ Q (.bl (whole r o)) M
def t_is_whole (A : Ad) : DS := dSeq (dIfS (dTest (dOp isD (dVar 1) (dC .non))) (dRet (dC (.bl false))) (dNext)) (dSeq (dAsg (dVar 1) (gTp 7 (gsCons (gN 2) (gsCons (gN 3) (gsCons (gN 4) (gsCons (gN 5) (gsCons (gN 6) (gsCons (gN 7) (gsCons (gN 8) (gsNil)))))))))) (dSeq (dIfS (dTest (dOp neD (dVar 2) (dC (.str [110, 117, 109, 98, 101, 114])))) (dRet (dOp eqD (dVar 2) (dC (.str [116, 97, 105, 108])))) (dNext)) (dSeq (dIfS (dTest (dOp eqD (dVar 7) (dC (.str [102])))) (dRet (dOrV (dNotV (dVar 6)) (dOp eqD (dVar 5) (dC (.int 3))))) (dNext)) (dRet (dAndV (dOp eqD (dVar 7) (dC (.str [112]))) (dAndV (dOp eqD (dOp ixD (dVar 0) (dC (.int 4))) (dC (.str [108, 111, 111, 115, 101]))) (dOp gtD (dVar 4) (dC (.int 0)))))))))
abbrev n_is_whole : List Str := ["reader", "state", "phase", "first", "many", "row", "rowed", "last", "pointed"]
theorem rx0 {r : Rdr} : atI [.str r.a, .str r.b, .str r.c, .str r.d, .str r.e, D.str r.f] 0 = some (.str r.a) := rfl
theorem rx1 {r : Rdr} : atI [.str r.a, .str r.b, .str r.c, .str r.d, .str r.e, D.str r.f] 1 = some (.str r.b) := rfl
theorem rx2 {r : Rdr} : atI [.str r.a, .str r.b, .str r.c, .str r.d, .str r.e, D.str r.f] 2 = some (.str r.c) := rfl
theorem rx3 {r : Rdr} : atI [.str r.a, .str r.b, .str r.c, .str r.d, .str r.e, D.str r.f] 3 = some (.str r.d) := rfl
theorem rx4 {r : Rdr} : atI [.str r.a, .str r.b, .str r.c, .str r.d, .str r.e, D.str r.f] 4 = some (.str r.e) := rfl
theorem rx5 {r : Rdr} : atI [.str r.a, .str r.b, .str r.c, .str r.d, .str r.e, D.str r.f] 5 = some (.str r.f) := rfl
theorem pure_is_whole {A : Ad} (ds M R EX) (h : sp_is_whole A ds M R EX) : t_is_whole A (fun C fs _ M' => WkX EX C fs M') (endsOf R) (startD n_is_whole ds) M := by
  obtain ⟨r, o, rfl, k⟩ := h
  unfold t_is_whole
  cases o with
  | none => exact Wk.self k
  | some s =>
    replace k := Wk.self k
    unfold whole at k
    simp only [dVar, dC, dOp, dTest, dNot, dNil, dCons, dTup, dLst, dNext, dSeq, dRet, dRetN, dExpr, dBrk, dCnt, dSet, gN, gTp, gLs, gsNil, gsCons, dAsg, dCall, dPart, dNoPart, dCB, lenD, minD, maxD, absD, dNeg, dPar, dAug, augAdd, dNotV, startD, endsOf, intI, cmpI, iIfS, iAnd, iOr, iAndV, iOrV, iIfE, iEqS, iEqI, iEqB, iNeS, iNeI, iIs, iIsNot, iInC, iNotInC, iAddI, iAddT, iAddS, List.map_cons, List.map_nil, List.length_cons, List.length_nil, List.replicate, List.getElem?_cons_zero, List.getElem?_cons_succ, List.cons_append, List.nil_append, List.set_cons_zero, List.set_cons_succ, Nat.reduceAdd, Nat.reduceSub, true_and, decide_eq_true_eq, Bool.not_eq_true', decide_eq_false_iff_not, osD, stD, Rdr.D, isN, ixD, rx4]
    simp only [h_number, h_tail, o_loose] at k
    by_cases c1 : s.ph = [110, 117, 109, 98, 101, 114] <;> by_cases c2 : s.la = [102] <;> by_cases c3 : s.rd = false <;> by_cases c4 : s.la = [112] <;> by_cases c5 : r.e = [108, 111, 111, 115, 101] <;> simp [c1, c2, c3, c4, c5] at k ⊢ <;> exact k
theorem imin (n j : Nat) : (if (j : Int) < (n : Int) + 1 then (j : Int) else (n : Int) + 1) = ((min (n + 1) j : Nat) : Int) := by split <;> omega
theorem imin2 (n : Nat) : (if (2 : Int) < (n : Int) + 1 then (2 : Int) else (n : Int) + 1) = ((min (n + 1) 2 : Nat) : Int) := imin n 2
theorem imin4 (n : Nat) : (if (4 : Int) < (n : Int) + 1 then (4 : Int) else (n : Int) + 1) = ((min (n + 1) 4 : Nat) : Int) := imin n 4
def bhF (r : Rdr) (s : RS) (c : Nat) : Option RS :=
  if [c] = [116] ∧ r.f = o_plain then none
  else if s.po = true then some ⟨h_number, s.fi, s.ma, s.ro, s.rd, [102], true⟩
  else if s.fi = [] then (if s.rd = true ∧ (s.ro : Int) = 3 then none else some ⟨h_number, if [c] = [48] then [48] else [49], min (s.ma + 1) 2, min (s.ro + 1) 4, s.rd, [102], false⟩)
  else if s.fi = [48] ∧ (r.c = o_none ∨ (r.c = o_eight ∧ [c] = [56])) then none
  else if s.rd = true ∧ (s.ro : Int) = 3 then none else some ⟨h_number, s.fi, min (s.ma + 1) 2, min (s.ro + 1) 4, s.rd, [102], false⟩
def sp_behind_figure (_ : Ad) : DSp := fun ds M Q _ => ∃ (r : Rdr) (s : RS) (c : Nat), ds = [r.D, stD s, .str [c]] ∧ Q (osD (bhF r s c)) M
def t_behind_figure (A : Ad) : DS := dSeq (dAsg (dVar 1) (gTp 7 (gsCons (gN 3) (gsCons (gN 4) (gsCons (gN 5) (gsCons (gN 6) (gsCons (gN 7) (gsCons (gN 8) (gsCons (gN 9) (gsNil)))))))))) (dSeq (dIfS (dAnd (dTest (dOp eqD (dVar 2) (dC (.str [116])))) (dTest (dOp eqD (dOp ixD (dVar 0) (dC (.int 5))) (dC (.str [112, 108, 97, 105, 110]))))) (dRet (dC .non)) (dNext)) (dSeq (dIfS (dTest (dVar 9)) (dRet (dTup (dCons (dC (.str [110, 117, 109, 98, 101, 114])) (dCons (dVar 4) (dCons (dVar 5) (dCons (dVar 6) (dCons (dVar 7) (dCons (dC (.str [102])) (dCons (dC (.bl true)) (dNil)))))))))) (dNext)) (dSeq (dIfS (dTest (dOp eqD (dVar 4) (dC (.str [])))) (dSet 4 (dIfE (dTest (dOp eqD (dVar 2) (dC (.str [48])))) (dC (.str [48])) (dC (.str [49])))) (dIfS (dAnd (dTest (dOp eqD (dVar 4) (dC (.str [48])))) (dOr (dTest (dOp eqD (dOp ixD (dVar 0) (dC (.int 2))) (dC (.str [110, 111, 110, 101])))) (dAnd (dTest (dOp eqD (dOp ixD (dVar 0) (dC (.int 2))) (dC (.str [101, 105, 103, 104, 116])))) (dTest (dOp eqD (dVar 2) (dC (.str [56]))))))) (dRet (dC .non)) (dNext))) (dSeq (dIfS (dAnd (dTest (dVar 7)) (dTest (dOp eqD (dVar 6) (dC (.int 3))))) (dRet (dC .non)) (dNext)) (dRet (dTup (dCons (dC (.str [110, 117, 109, 98, 101, 114])) (dCons (dVar 4) (dCons (dCB minD (dCons (dOp addD (dVar 5) (dC (.int 1))) (dCons (dC (.int 2)) (dNil)))) (dCons (dCB minD (dCons (dOp addD (dVar 6) (dC (.int 1))) (dCons (dC (.int 4)) (dNil)))) (dCons (dVar 7) (dCons (dC (.str [102])) (dCons (dC (.bl false)) (dNil))))))))))))))
abbrev n_behind_figure : List Str := ["reader", "state", "sign", "phase", "first", "many", "row", "rowed", "last", "pointed"]
theorem pure_behind_figure {A : Ad} (ds M R EX) (h : sp_behind_figure A ds M R EX) : t_behind_figure A (fun C fs _ M' => WkX EX C fs M') (endsOf R) (startD n_behind_figure ds) M := by
  obtain ⟨r, s, c, rfl, k⟩ := h
  unfold t_behind_figure
  replace k := Wk.self k
  unfold bhF at k
  simp only [dVar, dC, dOp, dTest, dNot, dNil, dCons, dTup, dLst, dNext, dSeq, dRet, dRetN, dExpr, dBrk, dCnt, dSet, gN, gTp, gLs, gsNil, gsCons, dAsg, dCall, dPart, dNoPart, dCB, lenD, minD, maxD, absD, dNeg, dPar, dAug, augAdd, dNotV, startD, endsOf, intI, cmpI, iIfS, iAnd, iOr, iAndV, iOrV, iIfE, iEqS, iEqI, iEqB, iNeS, iNeI, iIs, iIsNot, iInC, iNotInC, iAddI, iAddT, iAddS, List.map_cons, List.map_nil, List.length_cons, List.length_nil, List.replicate, List.getElem?_cons_zero, List.getElem?_cons_succ, List.cons_append, List.nil_append, List.set_cons_zero, List.set_cons_succ, Nat.reduceAdd, Nat.reduceSub, true_and, decide_eq_true_eq, Bool.not_eq_true', decide_eq_false_iff_not, osD, stD, Rdr.D, isN, ixD, rx2, rx5, imin2, imin4]
  simp only [h_number, o_plain, o_none, o_eight] at k
  have z : 7 ≤ sizeLine := by rw [sizeLine_eq]; decide
  by_cases c1 : c = 116 <;> by_cases c2 : r.f = [112, 108, 97, 105, 110] <;> by_cases c3 : s.po = true <;> try (simp [c1, c2, c3, osD, stD, z] at k ⊢; done)
  all_goals try (simp [c1, c2, c3, osD, stD, z] at k ⊢; exact k)
  all_goals (by_cases c4 : s.fi = [] <;> by_cases c5 : s.fi = [48] <;> by_cases c6 : s.rd = true <;> by_cases c7 : (s.ro : Int) = 3 <;> by_cases c8 : c = 48)
  all_goals try (simp [c1, c2, c3, c4, c5, c6, c7, c8, osD, stD, z] at k ⊢; exact k)
  all_goals (by_cases c9 : r.c = [110, 111, 110, 101] <;> by_cases c10 : r.c = [101, 105, 103, 104, 116] <;> by_cases c11 : c = 56)
  all_goals (simp [c1, c2, c3, c4, c5, c6, c7, c8, c9, c10, c11, osD, stD, z] at k ⊢; try exact k)
def bhP (r : Rdr) (s : RS) : Option RS :=
  if r.e = o_rows then (if ¬s.la = [102] ∨ (3 : Int) < (s.ro : Int) ∨ (s.rd = true ∧ ¬(s.ro : Int) = 3) then none else some ⟨h_number, s.fi, s.ma, 0, true, [112], false⟩)
  else if r.e ∉ [o_part, o_loose] ∨ s.po = true then none
  else if s.la = [102] ∨ (s.la = [] ∧ r.e = o_loose) then some ⟨h_number, s.fi, s.ma, s.ro, s.rd, [112], true⟩ else none
def sp_behind_point (_ : Ad) : DSp := fun ds M Q _ => ∃ (r : Rdr) (s : RS), ds = [r.D, stD s] ∧ Q (osD (bhP r s)) M
def t_behind_point (A : Ad) : DS := dSeq (dAsg (dVar 1) (gTp 7 (gsCons (gN 2) (gsCons (gN 3) (gsCons (gN 4) (gsCons (gN 5) (gsCons (gN 6) (gsCons (gN 7) (gsCons (gN 8) (gsNil)))))))))) (dSeq (dIfS (dTest (dOp eqD (dOp ixD (dVar 0) (dC (.int 4))) (dC (.str [114, 111, 119, 115])))) (dSeq (dIfS (dOr (dTest (dOp neD (dVar 7) (dC (.str [102])))) (dOr (dTest (dOp gtD (dVar 5) (dC (.int 3)))) (dAnd (dTest (dVar 6)) (dTest (dOp neD (dVar 5) (dC (.int 3))))))) (dRet (dC .non)) (dNext)) (dRet (dTup (dCons (dC (.str [110, 117, 109, 98, 101, 114])) (dCons (dVar 3) (dCons (dVar 4) (dCons (dC (.int 0)) (dCons (dC (.bl true)) (dCons (dC (.str [112])) (dCons (dC (.bl false)) (dNil))))))))))) (dNext)) (dSeq (dIfS (dOr (dTest (dOp notInD (dOp ixD (dVar 0) (dC (.int 4))) (dC c_PARTS))) (dTest (dVar 8))) (dRet (dC .non)) (dNext)) (dSeq (dIfS (dOr (dTest (dOp eqD (dVar 7) (dC (.str [102])))) (dAnd (dTest (dOp eqD (dVar 7) (dC (.str [])))) (dTest (dOp eqD (dOp ixD (dVar 0) (dC (.int 4))) (dC (.str [108, 111, 111, 115, 101])))))) (dRet (dTup (dCons (dC (.str [110, 117, 109, 98, 101, 114])) (dCons (dVar 3) (dCons (dVar 4) (dCons (dVar 5) (dCons (dVar 6) (dCons (dC (.str [112])) (dCons (dC (.bl true)) (dNil)))))))))) (dNext)) (dRet (dC .non)))))
abbrev n_behind_point : List Str := ["reader", "state", "phase", "first", "many", "row", "rowed", "last", "pointed"]
theorem iNotParts {x : List Nat} {M : DM} {R : DQ} : notInD (.str x) c_PARTS M R = R (.bl (!decide (x ∈ [o_part, o_loose]))) M := by
  have e : inF (.str x) ([o_part, o_loose].map D.str) = decide (x ∈ [o_part, o_loose]) := inF_strs x _
  have f : ([o_part, o_loose].map D.str).all flatD = true := flat_strs _
  unfold notInD inG c_PARTS
  simp only [List.map_cons, List.map_nil] at e f
  simp only [e, f, flatD, Bool.true_and, if_true]
theorem pure_behind_point {A : Ad} (ds M R EX) (h : sp_behind_point A ds M R EX) : t_behind_point A (fun C fs _ M' => WkX EX C fs M') (endsOf R) (startD n_behind_point ds) M := by
  obtain ⟨r, s, rfl, k⟩ := h
  unfold t_behind_point
  replace k := Wk.self k
  unfold bhP at k
  simp only [dVar, dC, dOp, dTest, dNot, dNil, dCons, dTup, dLst, dNext, dSeq, dRet, dRetN, dExpr, dBrk, dCnt, dSet, gN, gTp, gLs, gsNil, gsCons, dAsg, dCall, dPart, dNoPart, dCB, lenD, minD, maxD, absD, dNeg, dPar, dAug, augAdd, dNotV, startD, endsOf, intI, cmpI, iIfS, iAnd, iOr, iAndV, iOrV, iIfE, iEqS, iEqI, iEqB, iNeS, iNeI, iIs, iIsNot, iInC, iNotInC, iAddI, iAddT, iAddS, List.map_cons, List.map_nil, List.length_cons, List.length_nil, List.replicate, List.getElem?_cons_zero, List.getElem?_cons_succ, List.cons_append, List.nil_append, List.set_cons_zero, List.set_cons_succ, Nat.reduceAdd, Nat.reduceSub, true_and, decide_eq_true_eq, Bool.not_eq_true', decide_eq_false_iff_not, osD, stD, Rdr.D, isN, ixD, rx4, iNotParts]
  simp only [h_number, o_rows, o_loose, o_part] at k ⊢
  have z : 7 ≤ sizeLine := by rw [sizeLine_eq]; decide
  by_cases c1 : r.e = [114, 111, 119, 115]
  · by_cases c2 : s.la = [102] <;> by_cases c3 : (3 : Int) < (s.ro : Int) <;> by_cases c4 : s.rd = true <;> by_cases c5 : (s.ro : Int) = 3
    all_goals (simp [c1, c2, c3, c4, c5, osD, stD, z] at k ⊢; try exact k)
  · by_cases c2 : r.e = [112, 97, 114, 116] <;> by_cases c3 : r.e = [108, 111, 111, 115, 101] <;> by_cases c4 : s.po = true <;> by_cases c5 : s.la = [102] <;> by_cases c6 : s.la = []
    all_goals (simp [c1, c2, c3, c4, c5, c6, osD, stD, z] at k ⊢; try exact k)
def bhU (r : Rdr) (s : RS) : Option RS := if r.d = o_none ∨ (¬s.la = [102] ∧ ¬(s.la = [117] ∧ r.d = o_free)) then none else some ⟨s.ph, s.fi, s.ma, s.ro, s.rd, [117], s.po⟩
def sp_behind_under (_ : Ad) : DSp := fun ds M Q _ => ∃ (r : Rdr) (s : RS), ds = [r.D, stD s] ∧ Q (osD (bhU r s)) M
def t_behind_under (A : Ad) : DS := dSeq (dAsg (dVar 1) (gTp 7 (gsCons (gN 2) (gsCons (gN 3) (gsCons (gN 4) (gsCons (gN 5) (gsCons (gN 6) (gsCons (gN 7) (gsCons (gN 8) (gsNil)))))))))) (dSeq (dIfS (dOr (dTest (dOp eqD (dOp ixD (dVar 0) (dC (.int 3))) (dC (.str [110, 111, 110, 101])))) (dAnd (dTest (dOp neD (dVar 7) (dC (.str [102])))) (dNot (dAnd (dTest (dOp eqD (dVar 7) (dC (.str [117])))) (dTest (dOp eqD (dOp ixD (dVar 0) (dC (.int 3))) (dC (.str [102, 114, 101, 101])))))))) (dRet (dC .non)) (dNext)) (dRet (dTup (dCons (dVar 2) (dCons (dVar 3) (dCons (dVar 4) (dCons (dVar 5) (dCons (dVar 6) (dCons (dC (.str [117])) (dCons (dVar 8) (dNil)))))))))))
abbrev n_behind_under : List Str := ["reader", "state", "phase", "first", "many", "row", "rowed", "last", "pointed"]
theorem pure_behind_under {A : Ad} (ds M R EX) (h : sp_behind_under A ds M R EX) : t_behind_under A (fun C fs _ M' => WkX EX C fs M') (endsOf R) (startD n_behind_under ds) M := by
  obtain ⟨r, s, rfl, k⟩ := h
  unfold t_behind_under
  replace k := Wk.self k
  unfold bhU at k
  simp only [dVar, dC, dOp, dTest, dNot, dNil, dCons, dTup, dLst, dNext, dSeq, dRet, dRetN, dExpr, dBrk, dCnt, dSet, gN, gTp, gLs, gsNil, gsCons, dAsg, dCall, dPart, dNoPart, dCB, lenD, minD, maxD, absD, dNeg, dPar, dAug, augAdd, dNotV, startD, endsOf, intI, cmpI, iIfS, iAnd, iOr, iAndV, iOrV, iIfE, iEqS, iEqI, iEqB, iNeS, iNeI, iIs, iIsNot, iInC, iNotInC, iAddI, iAddT, iAddS, List.map_cons, List.map_nil, List.length_cons, List.length_nil, List.replicate, List.getElem?_cons_zero, List.getElem?_cons_succ, List.cons_append, List.nil_append, List.set_cons_zero, List.set_cons_succ, Nat.reduceAdd, Nat.reduceSub, true_and, decide_eq_true_eq, Bool.not_eq_true', decide_eq_false_iff_not, osD, stD, Rdr.D, isN, ixD, rx3]
  simp only [o_none, o_free] at k ⊢
  have z : 7 ≤ sizeLine := by rw [sizeLine_eq]; decide
  by_cases c1 : r.d = [110, 111, 110, 101] <;> by_cases c2 : s.la = [102] <;> by_cases c3 : s.la = [117] <;> by_cases c4 : r.d = [102, 114, 101, 101]
  all_goals (simp [c1, c2, c3, c4, osD, stD, z] at k ⊢; try exact k)
end DL

set_option Elab.async false
set_option linter.all false
set_option maxRecDepth 100000
set_option maxHeartbeats 4000000
namespace DL
open PySem L2
def c_SIGNS2 : List Nat := [32, 43, 45, 46, 48, 49, 56, 95, 116]
def bh (r : Rdr) (o : Option RS) (c : Nat) : Option RS := match o with
  | none => none
  | some s =>
    if c = 32 then (if r.a = o_none then none else if s.ph = h_signed then none else if s.ph = h_number then (if whole r (some s) = true then some ⟨h_tail, s.fi, s.ma, s.ro, s.rd, s.la, s.po⟩ else none) else some s)
    else if s.ph = h_tail then none
    else if c ∈ [43, 45] then (if ¬s.ph = h_start then none else if r.b = o_none then none else if c = 43 ∧ r.b = o_minus then none else some ⟨h_signed, s.fi, s.ma, s.ro, s.rd, s.la, s.po⟩)
    else if c ∈ [48, 49, 56, 116] then bhF r s c
    else if c = 46 then bhP r s else bhU r s
def sp_behind (_ : Ad) : DSp := fun ds M Q _ => ∃ (r : Rdr) (o : Option RS) (c : Nat), ds = [r.D, osD o, .str [c]] ∧ Q (osD (bh r o c)) M
def t_behind (A : Ad) : DS := dSeq (dIfS (dTest (dOp isD (dVar 1) (dC .non))) (dRet (dC .non)) (dNext)) (dSeq (dSet 3 (dOp ixD (dVar 1) (dC (.int 0)))) (dSeq (dIfS (dTest (dOp eqD (dVar 2) (dC (.str [32])))) (dSeq (dIfS (dOr (dTest (dOp eqD (dOp ixD (dVar 0) (dC (.int 0))) (dC (.str [110, 111, 110, 101])))) (dTest (dOp eqD (dVar 3) (dC (.str [115, 105, 103, 110, 101, 100]))))) (dRet (dC .non)) (dNext)) (dSeq (dIfS (dTest (dOp eqD (dVar 3) (dC (.str [110, 117, 109, 98, 101, 114])))) (dRet (dIfE (dTest (dCall (sp_is_whole A) (dCons (dVar 0) (dCons (dVar 1) (dNil))))) (dOp addD (dTup (dCons (dC (.str [116, 97, 105, 108])) (dNil))) (dSl (dVar 1) (dPart (dC (.int 1))) (dNoPart))) (dC .non))) (dNext)) (dRet (dVar 1)))) (dNext)) (dSeq (dIfS (dTest (dOp eqD (dVar 3) (dC (.str [116, 97, 105, 108])))) (dRet (dC .non)) (dNext)) (dSeq (dIfS (dTest (dOp inD (dVar 2) (dC (.str [43, 45])))) (dSeq (dIfS (dOr (dTest (dOp neD (dVar 3) (dC (.str [115, 116, 97, 114, 116])))) (dOr (dTest (dOp eqD (dOp ixD (dVar 0) (dC (.int 1))) (dC (.str [110, 111, 110, 101])))) (dAnd (dTest (dOp eqD (dVar 2) (dC (.str [43])))) (dTest (dOp eqD (dOp ixD (dVar 0) (dC (.int 1))) (dC (.str [109, 105, 110, 117, 115]))))))) (dRet (dC .non)) (dNext)) (dRet (dOp addD (dTup (dCons (dC (.str [115, 105, 103, 110, 101, 100])) (dNil))) (dSl (dVar 1) (dPart (dC (.int 1))) (dNoPart))))) (dNext)) (dSeq (dIfS (dTest (dOp inD (dVar 2) (dC c_FIGURES))) (dRet (dCall (sp_behind_figure A) (dCons (dVar 0) (dCons (dVar 1) (dCons (dVar 2) (dNil)))))) (dNext)) (dSeq (dIfS (dTest (dOp eqD (dVar 2) (dC (.str [46])))) (dRet (dCall (sp_behind_point A) (dCons (dVar 0) (dCons (dVar 1) (dNil))))) (dNext)) (dRet (dCall (sp_behind_under A) (dCons (dVar 0) (dCons (dVar 1) (dNil)))))))))))
abbrev n_behind : List Str := ["reader", "state", "sign", "phase"]
theorem sl_st {s : RS} {M : DM} {R : DQ} : slD (stD s) (some 1) none M R = R (.tup [.str s.fi, .int (s.ma : Nat), .int (s.ro : Nat), .bl s.rd, .str s.la, .bl s.po]) M := rfl
theorem ix_st {s : RS} {M : DM} {R : DQ} : ixD (stD s) (.int 0) M R = R (.str s.ph) M := rfl
theorem ixr0 {r : Rdr} {M : DM} {R : DQ} : ixD r.D (.int 0) M R = R (.str r.a) M := rfl
theorem ixr1 {r : Rdr} {M : DM} {R : DQ} : ixD r.D (.int 1) M R = R (.str r.b) M := rfl
theorem ixr2 {r : Rdr} {M : DM} {R : DQ} : ixD r.D (.int 2) M R = R (.str r.c) M := rfl
theorem ixr3 {r : Rdr} {M : DM} {R : DQ} : ixD r.D (.int 3) M R = R (.str r.d) M := rfl
theorem ixr4 {r : Rdr} {M : DM} {R : DQ} : ixD r.D (.int 4) M R = R (.str r.e) M := rfl
theorem ixr5 {r : Rdr} {M : DM} {R : DQ} : ixD r.D (.int 5) M R = R (.str r.f) M := rfl
theorem isN_st {s : RS} : isN (stD s) = false := rfl
theorem call_whole {A : Ad} {r : Rdr} {o : Option RS} {M : DM} {R : DQ} {E : DX} (k : R (.bl (whole r o)) M) : sp_is_whole A [r.D, osD o] M R E := ⟨r, o, rfl, k⟩
theorem add_ph {p : List Nat} {s : RS} {M : DM} {R : DQ} (k : R (stD ⟨p, s.fi, s.ma, s.ro, s.rd, s.la, s.po⟩) M) : addD (.tup [.str p]) (.tup [.str s.fi, .int (s.ma : Nat), .int (s.ro : Nat), .bl s.rd, .str s.la, .bl s.po]) M R := ⟨by show 7 ≤ sizeLine; decide, k⟩
theorem if_t {p : Prop} [Decidable p] {a b : Prop} (h : p) (k : a) : if p then a else b := by rw [if_pos h]; exact k
theorem if_f {p : Prop} [Decidable p] {a b : Prop} (h : ¬p) (k : b) : if p then a else b := by rw [if_neg h]; exact k
theorem pure_behind {A : Ad} (ds M R EX) (h : sp_behind A ds M R EX) : t_behind A (fun C fs _ M' => WkX EX C fs M') (endsOf R) (startD n_behind ds) M := by
  obtain ⟨r, o, c, rfl, k⟩ := h
  unfold t_behind
  replace k := Wk.self k
  unfold bh at k
  cases o with
  | none => exact k
  | some s =>
    simp only [dVar, dC, dOp, dTest, dNot, dNil, dCons, dTup, dLst, dNext, dSeq, dRet, dRetN, dExpr, dBrk, dCnt, dSet, gN, gTp, gLs, gsNil, gsCons, dAsg, dCall, dPart, dNoPart, dCB, lenD, minD, maxD, absD, dNeg, dPar, dAug, augAdd, dNotV, startD, endsOf, intI, cmpI, iIfS, iAnd, iOr, iAndV, iOrV, iIfE, iEqS, iEqI, iEqB, iNeS, iNeI, iIs, iIsNot, iInC, iNotInC, iAddI, iAddT, iAddS, List.map_cons, List.map_nil, List.length_cons, List.length_nil, List.replicate, List.getElem?_cons_zero, List.getElem?_cons_succ, List.cons_append, List.nil_append, List.set_cons_zero, List.set_cons_succ, Nat.reduceAdd, Nat.reduceSub, true_and, decide_eq_true_eq, Bool.not_eq_true', decide_eq_false_iff_not, osD, isN_st, ix_st, dSl, sl_st, c_FIGURES, ixr0, ixr1]
    simp only [h_number, h_tail, h_start, h_signed, o_none, o_minus] at k ⊢
    have z : 1 ≤ sizeLine := by rw [sizeLine_eq]; decide
    by_cases c1 : c = 32
    · subst c1
      by_cases c2 : r.a = [110, 111, 110, 101]
      · simp [c2] at k ⊢; exact k
      · by_cases c3 : s.ph = [115, 105, 103, 110, 101, 100]
        · simp [c2, c3] at k ⊢; exact k
        · by_cases c4 : s.ph = [110, 117, 109, 98, 101, 114]
          · cases q : whole r (some s) with
            | true => simp [c2, c3, c4, q] at k ⊢; exact call_whole (o := some s) (by rw [q]; exact ⟨z, add_ph k⟩)
            | false => simp [c2, c3, c4, q] at k ⊢; exact call_whole (o := some s) (by rw [q]; exact k)
          · simp [c2, c3, c4] at k ⊢; exact k
    · by_cases c2 : s.ph = [116, 97, 105, 108]
      · simp [c1, c2] at k ⊢; exact k
      · by_cases c3 : c = 43 ∨ c = 45
        · by_cases c4 : s.ph = [115, 116, 97, 114, 116]
          · by_cases c5 : r.b = [110, 111, 110, 101]
            · simp [c1, c2, c3, c4, c5] at k ⊢; exact k
            · by_cases c6 : c = 43 ∧ r.b = [109, 105, 110, 117, 115]
              · obtain ⟨rfl, c7⟩ := c6
                simp [c4, c5, c7] at k ⊢; exact k
              · simp only [c1, c2, c3, c4, c5, c6, if_true, if_false, not_true, not_false_eq_true, List.mem_cons, List.not_mem_nil, or_false] at k ⊢
                by_cases c7 : c = 43
                · have c8 : ¬ r.b = [109, 105, 110, 117, 115] := fun h => c6 ⟨c7, h⟩
                  simp [c7, c5, c8, c4] at k ⊢; exact ⟨z, add_ph k⟩
                · simp only [c7, c5, c4, c1, if_true, if_false, false_and, decide_false, List.cons.injEq, and_true] at k ⊢
                  have c8 : c = 45 := by omega
                  subst c8
                  simp [c5, c4] at k ⊢
                  exact ⟨z, add_ph k⟩
          · simp [c1, c2, c3, c4] at k ⊢; exact k
        · have c4 : ¬c = 43 := fun h => c3 (.inl h)
          have c5 : ¬c = 45 := fun h => c3 (.inr h)
          by_cases c6 : c = 48 ∨ c = 49 ∨ c = 56 ∨ c = 116
          · simp only [List.mem_cons, List.not_mem_nil, or_false, c1, c2, c4, c5, c6, if_true, if_false, or_self, List.cons.injEq, and_true] at k ⊢
            exact ⟨r, s, c, rfl, k⟩
          · by_cases c7 : c = 46
            · simp only [List.mem_cons, List.not_mem_nil, or_false, c1, c2, c4, c5, c6, if_true, if_false, or_self, List.cons.injEq, and_true] at k ⊢
              rw [if_pos c7] at k ⊢
              exact ⟨r, s, rfl, k⟩
            · simp only [List.mem_cons, List.not_mem_nil, or_false, c1, c2, c4, c5, c6, c7, if_true, if_false, or_self, List.cons.injEq, and_true] at k ⊢
              exact ⟨r, s, rfl, k⟩
end DL

set_option Elab.async false
set_option linter.all false
set_option maxRecDepth 100000
set_option maxHeartbeats 4000000
namespace DL
open PySem L2
def okT (s : List Nat) : Bool := s.all fun c => decide (c ∈ SGc)
def sp_is_text (_ : Ad) : DSp := fun ds M Q _ => ∃ s : List Nat, ds = [.str s] ∧ s.length ≤ 100000 ∧ Q (.bl (okT s)) M
def t_is_text (A : Ad) : DS := dRet (dAndV (dIsi Tn.str (dVar 0)) (dCB allD (dCons (dLc (dIter (dVar 0)) (gN 1) (dYes) (dOp inD (dVar 1) (dC c_SIGNS)) [1]) (dNil))))
abbrev n_is_text : List Str := ["value", "sign"]
theorem pure_is_text {A : Ad} (ds M R EX) (h : sp_is_text A ds M R EX) : t_is_text A (fun C fs _ M' => WkX EX C fs M') (endsOf R) (startD n_is_text ds) M := by
  obtain ⟨s, rfl, hs, k⟩ := h
  unfold t_is_text
  simp only [dVar, dC, dOp, dTest, dChain, dAnd, dOr, dNot, dAndV, dOrV, dNotV, dIfE, dNil, dCons, dTup, dLst, dNext, dSeq, dIfS, dRet, dRetN, dExpr, dBrk, dCnt, dSet, dNever, gN, gTp, gLs, gsNil, gsCons, dAsg, dCall, dRaise, dRaiseF, ixD, dSl, slD, dPart, dNoPart, dCB, lenD, minD, maxD, absD, intD, strD, tupleD, listD, dMt, dMt0, tyD, appendD, popD, splitD, countD, dIsi, gSb, setL, dFld, dFldSet, dMeth, dMake, dFldAug, dAug, dPar, dTru, dNeg, augAdd, dDep, dIsC, intI, cmpI, startD, endsOf, List.map_cons, List.map_nil, List.length_cons, List.length_nil, List.replicate, List.getElem?_cons_zero, List.getElem?_cons_succ, List.cons_append, List.nil_append, List.set_cons_zero, List.set_cons_succ, Nat.reduceAdd, Nat.reduceSub]
  intro D0 hD
  refine all_lc (p := fun x => match x with | .str [c] => decide (c ∈ SGc) | _ => false) hD (by rw [List.length_map]; have z := sizeLine_eq; omega) (fun _ => trivial) (fun x hx acc R' hR => ?_) (fun x ρ ρ' M P Q h k => h _ _ k) ?_
  · rw [List.mem_map] at hx
    obtain ⟨c, _, rfl⟩ := hx
    exact hR
  · rw [List.all_map]
    exact Wk.self k
def sp_check_text (A : Ad) : DSp := fun ds M Q E => ∃ s : List Nat, ds = [.str s] ∧ s.length ≤ 100000 ∧ (okT s = true → Q .non M) ∧ (okT s = false → E A.cBT [] M)
def t_check_text (A : Ad) : DS := dIfS (dNot (dTest (dCall (sp_is_text A) (dCons (dVar 0) (dNil))))) (dRaise A.cBT) (dNext)
abbrev n_check_text : List Str := ["text"]
theorem pure_check_text {A : Ad} (ds M R EX) (h : sp_check_text A ds M R EX) : t_check_text A (fun C fs _ M' => WkX EX C fs M') (endsOf R) (startD n_check_text ds) M := by
  obtain ⟨s, rfl, hs, k1, k2⟩ := h
  unfold t_check_text
  simp only [dVar, dC, dOp, dTest, dChain, dAnd, dOr, dNot, dAndV, dOrV, dNotV, dIfE, dNil, dCons, dTup, dLst, dNext, dSeq, dIfS, dRet, dRetN, dExpr, dBrk, dCnt, dSet, dNever, gN, gTp, gLs, gsNil, gsCons, dAsg, dCall, dRaise, dRaiseF, ixD, dSl, slD, dPart, dNoPart, dCB, lenD, minD, maxD, absD, intD, strD, tupleD, listD, dMt, dMt0, tyD, appendD, popD, splitD, countD, dIsi, gSb, setL, dFld, dFldSet, dMeth, dMake, dFldAug, dAug, dPar, dTru, dNeg, augAdd, dDep, dIsC, intI, cmpI, startD, endsOf, List.map_cons, List.map_nil, List.length_cons, List.length_nil, List.replicate, List.getElem?_cons_zero, List.getElem?_cons_succ, List.cons_append, List.nil_append, List.set_cons_zero, List.set_cons_succ, Nat.reduceAdd, Nat.reduceSub]
  refine ⟨s, rfl, hs, ?_⟩
  cases q : okT s with
  | true => exact Wk.self (k1 q)
  | false => exact ⟨M, fun _ _ e => e, k2 q⟩
def run (r : Rdr) (s : List Nat) (o : Option RS) : Option RS := s.foldl (bh r) o
def rdB (r : Rdr) (s : List Nat) : Bool := whole r (run r s (some fst0))
def sp_is_read (_ : Ad) : DSp := fun ds M Q _ => ∃ (r : Rdr) (s : List Nat), ds = [r.D, .str s] ∧ Q (.bl (rdB r s)) M
def t_is_read (A : Ad) : DS := dSeq (dSet 2 (dC c_FIRST)) (dSeq (dFor (dIter (dVar 1)) (gN 3) (dSet 2 (dCall (sp_behind A) (dCons (dVar 0) (dCons (dVar 2) (dCons (dVar 3) (dNil))))))) (dRet (dCall (sp_is_whole A) (dCons (dVar 0) (dCons (dVar 2) (dNil))))))
abbrev n_is_read : List Str := ["reader", "text", "state", "sign"]
theorem read_loop {A : Ad} {W : DW} {r : Rdr} {t : D} {M : DM} {E : DEnds} : ∀ (s : List Nat) (o : Option RS) (x : Option D), (∀ x, E.nx [some r.D, some t, some (osD (run r s o)), x] M) →
    dLoop (gN 3) ((dSet 2 (dCall (sp_behind A) (dCons (dVar 0) (dCons (dVar 2) (dCons (dVar 3) (dNil)))))) W) anyM (s.map fun c => .str [c]) E [some r.D, some t, some (osD o), x] M
  | [], o, x, k => ⟨trivial, k x⟩
  | c :: s, o, x, k => ⟨trivial, r, o, c, rfl, read_loop s (bh r o c) _ k⟩
theorem pure_is_read {A : Ad} (ds M R EX) (h : sp_is_read A ds M R EX) : t_is_read A (fun C fs _ M' => WkX EX C fs M') (endsOf R) (startD n_is_read ds) M := by
  obtain ⟨r, s, rfl, k⟩ := h
  unfold t_is_read
  exact read_loop s (some fst0) _ fun x => ⟨r, _, rfl, Wk.self k⟩
def lowD (p q : Int) : D := .tup [.int (p / (Int.gcd p q : Nat)), .int (q / (Int.gcd p q : Nat))]
def QOk (q : Int) : Prop := 0 < q ∧ q < 2 ^ 8000
def sp_lowest (_ : Ad) : DSp := fun ds M Q _ => ∃ p q : Int, ds = [.int p, .int q] ∧ QOk q ∧ Q (lowD p q) M
def t_lowest (A : Ad) : DS := dSeq (dPar 2 3 (dCons (dCB absD (dCons (dVar 0) (dNil))) (dCons (dVar 1) (dNil)))) (dSeq (dWhile (dTru (dVar 3)) (dPar 2 3 (dCons (dVar 3) (dCons (dOp modD (dVar 2) (dVar 3)) (dNil))))) (dRet (dTup (dCons (dOp fdivWD (dVar 0) (dVar 2)) (dCons (dOp fdivWD (dVar 1) (dVar 2)) (dNil))))))
abbrev n_lowest : List Str := ["p", "q", "one", "other"]
theorem gcd_ok {p q : Int} (h : QOk q) : CDivW p (Int.gcd p q : Nat) ∧ CDivW q (Int.gcd p q : Nat) := by
  have h0 : 0 < Int.gcd p q := Int.gcd_pos_of_ne_zero_right p (by have := h.1; omega)
  have h1 : Int.gcd p q ≤ q.natAbs := Nat.le_of_dvd (by have := h.1; omega) (Nat.gcd_dvd_right _ _)
  have h2 : q.natAbs < 2 ^ 8000 := by
    have := h.2
    have e : ((q.natAbs : Nat) : Int) = q := by have := h.1; omega
    exact Int.ofNat_lt.mp (by rw [e]; exact_mod_cast this)
  have h3 : ((Int.gcd p q : Nat) : Int).natAbs.log2 < 9000 := by
    rw [Int.natAbs_natCast]
    exact Nat.lt_trans ((Nat.log2_lt (by omega)).mpr (Nat.lt_of_le_of_lt h1 h2)) (by decide)
  exact ⟨⟨by exact_mod_cast h0, h3⟩, ⟨by exact_mod_cast h0, h3⟩⟩
theorem pure_lowest {A : Ad} (ds M R EX) (h : sp_lowest A ds M R EX) : t_lowest A (fun C fs _ M' => WkX EX C fs M') (endsOf R) (startD n_lowest ds) M := by
  obtain ⟨p, q, rfl, hq, k⟩ := h
  unfold t_lowest
  simp only [dVar, dC, dOp, dTest, dChain, dAnd, dOr, dNot, dAndV, dOrV, dNotV, dIfE, dNil, dCons, dTup, dLst, dNext, dSeq, dIfS, dRet, dRetN, dExpr, dBrk, dCnt, dSet, dNever, gN, gTp, gLs, gsNil, gsCons, dAsg, dCall, dRaise, dRaiseF, ixD, dSl, slD, dPart, dNoPart, dCB, lenD, minD, maxD, absD, intD, strD, tupleD, listD, dMt, dMt0, tyD, appendD, popD, splitD, countD, dIsi, gSb, setL, dFld, dFldSet, dMeth, dMake, dFldAug, dAug, dPar, dTru, dNeg, augAdd, dDep, dIsC, intI, cmpI, startD, endsOf, List.map_cons, List.map_nil, List.length_cons, List.length_nil, List.replicate, List.getElem?_cons_zero, List.getElem?_cons_succ, List.cons_append, List.nil_append, List.set_cons_zero, List.set_cons_succ, Nat.reduceAdd, Nat.reduceSub]
  refine ⟨fun n ρ M' => ∃ one : Nat, M' = M ∧ ρ = [some (.int p), some (.int q), some (.int (one : Nat)), some (.int (n : Nat))] ∧ Nat.gcd one n = Int.gcd p q, ⟨q.natAbs, p.natAbs, rfl, ?_, rfl⟩, ?_⟩
  · have e : ((q.natAbs : Nat) : Int) = q := by have := hq.1; omega
    rw [e, show (if p < 0 then -p else p) = ((p.natAbs : Nat) : Int) from by split <;> omega]
  · rintro n ρ M' ⟨one, rfl, rfl, e⟩
    simp only [dVar, dC, dOp, dTest, dChain, dAnd, dOr, dNot, dAndV, dOrV, dNotV, dIfE, dNil, dCons, dTup, dLst, dNext, dSeq, dIfS, dRet, dRetN, dExpr, dBrk, dCnt, dSet, dNever, gN, gTp, gLs, gsNil, gsCons, dAsg, dCall, dRaise, dRaiseF, ixD, dSl, slD, dPart, dNoPart, dCB, lenD, minD, maxD, absD, intD, strD, tupleD, listD, dMt, dMt0, tyD, appendD, popD, splitD, countD, dIsi, gSb, setL, dFld, dFldSet, dMeth, dMake, dFldAug, dAug, dPar, dTru, dNeg, augAdd, dDep, dIsC, intI, cmpI, startD, endsOf, List.map_cons, List.map_nil, List.length_cons, List.length_nil, List.replicate, List.getElem?_cons_zero, List.getElem?_cons_succ, List.cons_append, List.nil_append, List.set_cons_zero, List.set_cons_succ, Nat.reduceAdd, Nat.reduceSub, truD]
    by_cases z : n = 0
    · subst z
      have e2 : one = Int.gcd p q := by rw [← e, Nat.gcd_zero_right]
      subst e2
      obtain ⟨c1, c2⟩ := gcd_ok (p := p) hq
      exact ⟨c1, c2, by show 2 ≤ sizeLine; decide, Wk.self k⟩
    · have hb : (((n : Nat) : Int) != 0) = true := by simp [z]
      rw [hb]
      refine ⟨by omega, one % n, Nat.mod_lt _ (by omega), n, (by first | trivial | rfl), (by first | trivial | rfl), ?_⟩
      rw [← e, Nat.gcd_comm n, ← Nat.gcd_rec, Nat.gcd_comm]
def FGc : List Nat := [48, 49, 56, 116]
def figs (s : List Nat) : List Nat := s.filter fun c => decide (c ∈ FGc)
def wI (c : Nat) : Int := (wv c).getD 0
def numB (b : Int) (n : Int) (s : List Nat) : Int := s.foldl (fun n c => n * b + wI c) n
def divB (d : Int) (s : List Nat) : Int := s.foldl (fun d c => if c ∈ FGc then d * 10 else d) d
def baseR (r : Rdr) (f : List Nat) : Int := if r.c = o_eight ∧ f.head? = some 48 then 8 else 10
def dvR (r : Rdr) (s : List Nat) : Int := if r.e ∈ [o_part, o_loose] ∧ 46 ∈ s then divB 1 (s.drop (idxL 46 s)) else 1
def sgR (s : List Nat) (n : Int) : Int := if 45 ∈ s then -n else n
def numR (r : Rdr) (s : List Nat) : D := lowD (sgR s (numB (baseR r (figs s)) 0 (figs s))) (dvR r s)
def sp_number_of (_ : Ad) : DSp := fun ds M Q _ => ∃ (r : Rdr) (s : List Nat), ds = [r.D, .str s] ∧ s.length ≤ 1000 ∧ figs s ≠ [] ∧ Q (numR r s) M
def t_number_of (A : Ad) : DS := dSeq (dSet 2 (dLc (dIter (dVar 1)) (gN 5) (dTest (dOp inD (dVar 5) (dC c_FIGURES))) (dVar 5) [5])) (dSeq (dSet 3 (dIfE (dAnd (dTest (dOp eqD (dOp ixD (dVar 0) (dC (.int 2))) (dC (.str [101, 105, 103, 104, 116])))) (dTest (dOp eqD (dOp ixD (dVar 2) (dC (.int 0))) (dC (.str [48]))))) (dC (.int 8)) (dC (.int 10)))) (dSeq (dSet 4 (dC (.int 0))) (dSeq (dFor (dIter (dVar 2)) (gN 5) (dSet 4 (dOp addD (dOp mulD (dVar 4) (dVar 3)) (dWorth (dVar 5))))) (dSeq (dSet 6 (dC (.int 1))) (dSeq (dIfS (dAnd (dTest (dOp inD (dOp ixD (dVar 0) (dC (.int 4))) (dC c_PARTS))) (dTest (dOp inD (dC (.str [46])) (dVar 1)))) (dFor (dIter (dSl (dVar 1) (dPart (dMt "str" indexD (dVar 1) (dCons (dC (.str [46])) (dNil)))) (dNoPart))) (gN 5) (dSet 6 (dIfE (dTest (dOp inD (dVar 5) (dC c_FIGURES))) (dOp mulD (dVar 6) (dC (.int 10))) (dVar 6)))) (dNext)) (dRet (dCall (sp_lowest A) (dCons (dIfE (dTest (dOp inD (dC (.str [45])) (dVar 1))) (dNeg (dVar 4)) (dVar 4)) (dCons (dVar 6) (dNil))))))))))
abbrev n_number_of : List Str := ["reader", "text", "figures", "base", "number", "sign", "divisor"]
theorem figs_loop {D0 : Addr} {r : D} {t : D} {M : DM} {K : DM → Prop} : ∀ (s acc : List Nat), acc.length + s.length < sizeLine → K (mupd M D0 (.lst ((acc ++ figs s).map fun c => .str [c]))) →
    lcF (gN 5) (dTest (dOp inD (dVar 5) (dC c_FIGURES))) (dVar 5) anyM D0 [some r, some t, none, none, none, none, none] K (s.map fun c => .str [c]) (mupd M D0 (.lst (acc.map fun c => .str [c])))
  | [], acc, _, k => ⟨trivial, by simpa [figs] using k⟩
  | c :: s, acc, hz, k => by
    refine ⟨trivial, ?_⟩
    show (match decide (c ∈ FGc) with | true => _ | false => _)
    by_cases h : c ∈ FGc
    · rw [decide_eq_true h]
      refine ⟨_, mupd_same, by simp at hz ⊢; omega, ?_⟩
      rw [mupd_upd]
      have := figs_loop (D0 := D0) (r := r) (t := t) (M := M) (K := K) s (acc ++ [c]) (by simp at hz ⊢; omega) (by simpa [figs, h] using k)
      simpa using this
    · rw [decide_eq_false h]
      exact figs_loop s acc (by simp at hz ⊢; omega) (by simpa [figs, h] using k)
theorem wv_fig {c : Nat} (h : c ∈ FGc) : wv c = some (wI c) := by
  simp only [FGc, List.mem_cons, List.not_mem_nil, or_false] at h
  rcases h with rfl | rfl | rfl | rfl <;> rfl
theorem cmul_r {i j : Int} (h : -100 < j) (h2 : j < 100) : CMul i j := .inr ⟨by omega, by omega⟩
theorem num_loop {r t f : D} {b : Int} {W : DW} {M : DM} {E : DEnds} {D0 : Addr} {L : List D} (hb : -100 < b ∧ b < 100) (hM : M D0 = some (.lst L)) : ∀ (s : List Nat) (n : Int) (x : Option D), (∀ c ∈ s, c ∈ FGc) → (∀ x, E.nx [some r, some t, some f, some (.int b), some (.int (numB b n s)), x, none] M) →
    dLoop (gN 5) ((dSet 4 (dOp addD (dOp mulD (dVar 4) (dVar 3)) (dWorth (dVar 5)))) W) (fun M => M D0 = some (.lst L)) (s.map fun c => .str [c]) E [some r, some t, some f, some (.int b), some (.int n), x, none] M
  | [], n, x, _, k => ⟨hM, k x⟩
  | c :: s, n, x, hs, k => ⟨hM, cmul_r hb.1 hb.2, wI c, wv_fig (hs c (by simp)), num_loop hb hM s (n * b + wI c) _ (fun c h => hs c (by simp [h])) k⟩
theorem div_loop {r t f b n : D} {W : DW} {M : DM} {E : DEnds} : ∀ (s : List Nat) (d : Int) (x : Option D), (∀ x, E.nx [some r, some t, some f, some b, some n, x, some (.int (divB d s))] M) →
    dLoop (gN 5) ((dSet 6 (dIfE (dTest (dOp inD (dVar 5) (dC c_FIGURES))) (dOp mulD (dVar 6) (dC (.int 10))) (dVar 6))) W) anyM (s.map fun c => .str [c]) E [some r, some t, some f, some b, some n, x, some (.int d)] M
  | [], d, x, k => ⟨trivial, k x⟩
  | c :: s, d, x, k => by
    refine ⟨trivial, ?_⟩
    show (match decide (c ∈ FGc) with | true => _ | false => _)
    by_cases h : c ∈ FGc
    · rw [decide_eq_true h]
      refine ⟨cmul_r (by decide) (by decide), ?_⟩
      exact div_loop s (d * 10) _ (by simpa [divB, h] using k)
    · rw [decide_eq_false h]
      exact div_loop s d _ (by simpa [divB, h] using k)
theorem divB_pow (s : List Nat) : ∀ d : Int, ∃ k, k ≤ s.length ∧ divB d s = d * 10 ^ k := by
  induction s with
  | nil => intro d; exact ⟨0, Nat.le_refl _, by simp [divB]⟩
  | cons c s ih =>
    intro d
    by_cases h : c ∈ FGc
    · obtain ⟨k, hk, e⟩ := ih (d * 10)
      refine ⟨k + 1, by simp; omega, ?_⟩
      show divB (if c ∈ FGc then d * 10 else d) s = _
      rw [if_pos h, e, Int.mul_assoc, Int.pow_succ, Int.mul_comm 10]
    · obtain ⟨k, hk, e⟩ := ih d
      refine ⟨k, by simp; omega, ?_⟩
      show divB (if c ∈ FGc then d * 10 else d) s = _
      rw [if_neg h, e]
theorem qok_pow {k : Nat} (h : k ≤ 1000) : QOk (10 ^ k) := by
  have a : (10 : Nat) ^ k < 2 ^ 8000 := by
    have h1 : (10 : Nat) ^ k ≤ 16 ^ k := Nat.pow_le_pow_left (by decide) k
    have h2 : (16 : Nat) ^ k = 2 ^ (4 * k) := by rw [show (16 : Nat) = 2 ^ 4 from rfl, ← Nat.pow_mul]
    have h3 : (2 : Nat) ^ (4 * k) < 2 ^ 8000 := Nat.pow_lt_pow_right (by decide) (by omega)
    omega
  have b : 0 < (10 : Nat) ^ k := Nat.pow_pos (by decide)
  exact ⟨by exact_mod_cast b, by exact_mod_cast a⟩
theorem dv_ok {r : Rdr} {s : List Nat} (h : s.length ≤ 1000) : QOk (dvR r s) := by
  unfold dvR
  split
  · obtain ⟨k, hk, e⟩ := divB_pow (s.drop (idxL 46 s)) 1
    rw [e, Int.one_mul]
    exact qok_pow (by rw [List.length_drop] at hk; omega)
  · exact qok_pow (k := 0) (by decide)
theorem cut_from {s : List Nat} {n : Nat} (h : n ≤ s.length) : cutL s (some (n : Int)) none = s.drop n := by
  have := cutL_nat s n s.length h
  unfold cutL at this ⊢
  have e : HT.sIx s.length s.length none = s.length := rfl
  rw [e]
  rw [HT.sIx_nat, Nat.min_eq_left h, List.take_of_length_le]
  simp
theorem iInParts {x : List Nat} {M : DM} {R : DQ} : inD (.str x) c_PARTS M R = R (.bl (decide (x ∈ [o_part, o_loose]))) M := by
  have e : inF (.str x) ([o_part, o_loose].map D.str) = decide (x ∈ [o_part, o_loose]) := inF_strs x _
  have f : ([o_part, o_loose].map D.str).all flatD = true := flat_strs _
  unfold inD inG c_PARTS
  simp only [List.map_cons, List.map_nil] at e f
  simp only [e, f, flatD, Bool.true_and, if_true]
  rfl
theorem atI_hd {α : Type} {x : α} {xs : List α} : atI (x :: xs) 0 = some x := by
  unfold atI ixN
  simp
theorem idx_le (c : Nat) (s : List Nat) : idxL c s ≤ s.length := (List.takeWhile_prefix _).length_le
theorem pure_number_of {A : Ad} (ds M R EX) (h : sp_number_of A ds M R EX) : t_number_of A (fun C fs _ M' => WkX EX C fs M') (endsOf R) (startD n_number_of ds) M := by
  obtain ⟨r, s, rfl, hs, hf, k⟩ := h
  have k0 : ∀ D0, M D0 = none → Wk R (numR r s) (mupd M D0 (.lst ((figs s).map fun c => .str [c]))) := fun D0 h => ⟨M, msub_new h, k⟩
  have zl : 1000 < sizeLine := by rw [sizeLine_eq]; decide
  have hff : ∀ c ∈ figs s, c ∈ FGc := fun c h => by simpa [figs] using (List.mem_filter.mp h).2
  unfold t_number_of
  intro D0 hD
  refine figs_loop (D0 := D0) (M := M) s [] (by simp; omega) ?_
  have k1 := k0 D0 hD
  unfold numR at k1
  rw [List.nil_append]
  have hM : (mupd M D0 (.lst ((figs s).map fun c => .str [c]))) D0 = some (.lst ((figs s).map fun c => .str [c])) := mupd_same
  generalize mupd M D0 (.lst ((figs s).map fun c => .str [c])) = M1 at k1 hM
  obtain ⟨f0, fr, ef⟩ : ∃ f0 fr, figs s = f0 :: fr := by cases q : figs s with | nil => exact absurd q hf | cons a b => exact ⟨a, b, rfl⟩
  -- the base
  have step : ∀ (b : Int), b = baseR r (figs s) → (-100 < b ∧ b < 100) → (dSet 4 (dC (.int 0))) (fun C fs _ M' => WkX EX C fs M') { endsOf R with nx := fun ρ M => (dSeq (dFor (dIter (dVar 2)) (gN 5) (dSet 4 (dOp addD (dOp mulD (dVar 4) (dVar 3)) (dWorth (dVar 5))))) (dSeq (dSet 6 (dC (.int 1))) (dSeq (dIfS (dAnd (dTest (dOp inD (dOp ixD (dVar 0) (dC (.int 4))) (dC c_PARTS))) (dTest (dOp inD (dC (.str [46])) (dVar 1)))) (dFor (dIter (dSl (dVar 1) (dPart (dMt "str" indexD (dVar 1) (dCons (dC (.str [46])) (dNil)))) (dNoPart))) (gN 5) (dSet 6 (dIfE (dTest (dOp inD (dVar 5) (dC c_FIGURES))) (dOp mulD (dVar 6) (dC (.int 10))) (dVar 6)))) (dNext)) (dRet (dCall (sp_lowest A) (dCons (dIfE (dTest (dOp inD (dC (.str [45])) (dVar 1))) (dNeg (dVar 4)) (dVar 4)) (dCons (dVar 6) (dNil)))))))) (fun C fs _ M' => WkX EX C fs M') (endsOf R) ρ M } [some r.D, some (.str s), some (.ref D0), some (.int b), none, none, none] M1 := by
    intro b eb hb
    refine ⟨_, hM, ?_⟩
    refine num_loop hb hM (figs s) 0 _ hff fun x => ?_
    rw [eb]
    have fin : ∀ x, (dRet (dCall (sp_lowest A) (dCons (dIfE (dTest (dOp inD (dC (.str [45])) (dVar 1))) (dNeg (dVar 4)) (dVar 4)) (dCons (dVar 6) (dNil))))) (fun C fs _ M' => WkX EX C fs M') (endsOf R) [some r.D, some (.str s), some (.ref D0), some (.int (baseR r (figs s))), some (.int (numB (baseR r (figs s)) 0 (figs s))), x, some (.int (dvR r s))] M1 := by
      intro x
      show (match decide (45 ∈ s) with | true => _ | false => _)
      unfold sgR at k1
      by_cases q : 45 ∈ s
      · rw [decide_eq_true q]
        rw [if_pos q] at k1
        exact ⟨_, _, rfl, dv_ok hs, k1⟩
      · rw [decide_eq_false q]
        rw [if_neg q] at k1
        exact ⟨_, _, rfl, dv_ok hs, k1⟩
    show (dIfS (dAnd (dTest (dOp inD (dOp ixD (dVar 0) (dC (.int 4))) (dC c_PARTS))) (dTest (dOp inD (dC (.str [46])) (dVar 1)))) _ _) _ _ [some r.D, some (.str s), some (.ref D0), some (.int (baseR r (figs s))), some (.int (numB (baseR r (figs s)) 0 (figs s))), x, some (.int 1)] M1
    simp only [dVar, dC, dOp, dTest, dNot, dNil, dCons, dTup, dLst, dNext, dSeq, dRet, dRetN, dExpr, dBrk, dCnt, dSet, gN, gTp, gLs, gsNil, gsCons, dAsg, dCall, dPart, dNoPart, dCB, lenD, minD, maxD, absD, dNeg, dPar, dAug, augAdd, dNotV, startD, endsOf, intI, cmpI, iIfS, iAnd, iOr, iAndV, iOrV, iIfE, iEqS, iEqI, iEqB, iNeS, iNeI, iIs, iIsNot, iInC, iNotInC, iAddI, iAddT, iAddS, List.map_cons, List.map_nil, List.length_cons, List.length_nil, List.replicate, List.getElem?_cons_zero, List.getElem?_cons_succ, List.cons_append, List.nil_append, List.set_cons_zero, List.set_cons_succ, Nat.reduceAdd, Nat.reduceSub, true_and, decide_eq_true_eq, Bool.not_eq_true', decide_eq_false_iff_not, ixr4, iInParts]
    by_cases q1 : r.e ∈ [o_part, o_loose]
    · rw [if_pos q1]
      by_cases q2 : 46 ∈ s
      · rw [if_pos q2]
        refine ⟨rfl, q2, ?_⟩
        refine ⟨by omega, ?_⟩
        rw [cut_from (idx_le 46 s)]
        refine div_loop (s.drop (idxL 46 s)) 1 _ fun x => ?_
        have := fin x
        unfold dvR at this
        rw [if_pos ⟨q1, q2⟩] at this
        simp only [dVar, dC, dOp, dTest, dNot, dNil, dCons, dTup, dLst, dNext, dSeq, dRet, dRetN, dExpr, dBrk, dCnt, dSet, gN, gTp, gLs, gsNil, gsCons, dAsg, dCall, dPart, dNoPart, dCB, lenD, minD, maxD, absD, dNeg, dPar, dAug, augAdd, dNotV, startD, endsOf, intI, cmpI, iIfS, iAnd, iOr, iAndV, iOrV, iIfE, iEqS, iEqI, iEqB, iNeS, iNeI, iIs, iIsNot, iInC, iNotInC, iAddI, iAddT, iAddS, List.map_cons, List.map_nil, List.length_cons, List.length_nil, List.replicate, List.getElem?_cons_zero, List.getElem?_cons_succ, List.cons_append, List.nil_append, List.set_cons_zero, List.set_cons_succ, Nat.reduceAdd, Nat.reduceSub, true_and, decide_eq_true_eq, Bool.not_eq_true', decide_eq_false_iff_not] at this ⊢
        exact this
      · rw [if_neg q2]
        have := fin x
        unfold dvR at this
        rw [if_neg (fun h => q2 h.2)] at this
        simp only [dVar, dC, dOp, dTest, dNot, dNil, dCons, dTup, dLst, dNext, dSeq, dRet, dRetN, dExpr, dBrk, dCnt, dSet, gN, gTp, gLs, gsNil, gsCons, dAsg, dCall, dPart, dNoPart, dCB, lenD, minD, maxD, absD, dNeg, dPar, dAug, augAdd, dNotV, startD, endsOf, intI, cmpI, iIfS, iAnd, iOr, iAndV, iOrV, iIfE, iEqS, iEqI, iEqB, iNeS, iNeI, iIs, iIsNot, iInC, iNotInC, iAddI, iAddT, iAddS, List.map_cons, List.map_nil, List.length_cons, List.length_nil, List.replicate, List.getElem?_cons_zero, List.getElem?_cons_succ, List.cons_append, List.nil_append, List.set_cons_zero, List.set_cons_succ, Nat.reduceAdd, Nat.reduceSub, true_and, decide_eq_true_eq, Bool.not_eq_true', decide_eq_false_iff_not] at this ⊢
        exact this
    · rw [if_neg q1]
      have := fin x
      unfold dvR at this
      rw [if_neg (fun h => q1 h.1)] at this
      simp only [dVar, dC, dOp, dTest, dNot, dNil, dCons, dTup, dLst, dNext, dSeq, dRet, dRetN, dExpr, dBrk, dCnt, dSet, gN, gTp, gLs, gsNil, gsCons, dAsg, dCall, dPart, dNoPart, dCB, lenD, minD, maxD, absD, dNeg, dPar, dAug, augAdd, dNotV, startD, endsOf, intI, cmpI, iIfS, iAnd, iOr, iAndV, iOrV, iIfE, iEqS, iEqI, iEqB, iNeS, iNeI, iIs, iIsNot, iInC, iNotInC, iAddI, iAddT, iAddS, List.map_cons, List.map_nil, List.length_cons, List.length_nil, List.replicate, List.getElem?_cons_zero, List.getElem?_cons_succ, List.cons_append, List.nil_append, List.set_cons_zero, List.set_cons_succ, Nat.reduceAdd, Nat.reduceSub, true_and, decide_eq_true_eq, Bool.not_eq_true', decide_eq_false_iff_not, Bool.false_eq_true, if_false] at this ⊢
      exact this
  clear k k0 hD hf
  simp only [dVar, dC, dOp, dTest, dNot, dNil, dCons, dTup, dLst, dNext, dSeq, dRet, dRetN, dExpr, dBrk, dCnt, dSet, gN, gTp, gLs, gsNil, gsCons, dAsg, dCall, dPart, dNoPart, dCB, lenD, minD, maxD, absD, dNeg, dPar, dAug, augAdd, dNotV, startD, endsOf, intI, cmpI, iIfS, iAnd, iOr, iAndV, iOrV, iIfE, iEqS, iEqI, iEqB, iNeS, iNeI, iIs, iIsNot, iInC, iNotInC, iAddI, iAddT, iAddS, List.map_cons, List.map_nil, List.length_cons, List.length_nil, List.replicate, List.getElem?_cons_zero, List.getElem?_cons_succ, List.cons_append, List.nil_append, List.set_cons_zero, List.set_cons_succ, Nat.reduceAdd, Nat.reduceSub, true_and, decide_eq_true_eq, Bool.not_eq_true', decide_eq_false_iff_not, ixr2] at step ⊢
  have ix0 : atI ((figs s).map fun c => D.str [c]) 0 = some (.str [f0]) := by rw [ef]; exact atI_hd
  by_cases q1 : r.c = [101, 105, 103, 104, 116]
  · rw [if_pos q1]
    refine ⟨_, _, hM, ix0, ?_⟩
    by_cases q2 : f0 = 48
    · subst q2
      exact step 8 (by unfold baseR; rw [ef]; exact (if_pos ⟨q1, rfl⟩).symm) (by decide)
    · have e : baseR r (figs s) = 10 := by unfold baseR; rw [ef]; exact if_neg (fun h => q2 (Option.some.inj h.2))
      have := step 10 e.symm (by decide)
      simp only [iEqS, List.cons.injEq, and_true, q2, decide_false]
      exact this
  · rw [if_neg q1]
    exact step 10 (by unfold baseR; exact (if_neg (fun h => q1 h.1)).symm) (by decide)
def resR (r : Rdr) (s : List Nat) : D := if rdB r s = true then numR r s else .non
def RdrV (r : Rdr) : Prop := rf r.D = none ∧ r.a.length ≤ 100 ∧ r.b.length ≤ 100 ∧ r.c.length ≤ 100 ∧ r.d.length ≤ 100 ∧ r.e.length ≤ 100 ∧ r.f.length ≤ 100
theorem RdrV.gd {r : Rdr} {M : DM} (h : RdrV r) : GD M r.D := by
  obtain ⟨_, h1, h2, h3, h4, h5, h6⟩ := h
  refine .tup fun d hd => ?_
  simp only [List.mem_cons, List.not_mem_nil, or_false] at hd
  rcases hd with rfl | rfl | rfl | rfl | rfl | rfl <;> exact .str _ (by omega)
def sp_read (A : Ad) : DSp := fun ds M Q E => ∃ (r : Rdr) (s : List Nat), ds = [r.D, .str s] ∧ RdrV r ∧ s.length ≤ 1000 ∧ (okT s = true → (rdB r s = true → figs s ≠ []) ∧ Q (resR r s) M) ∧ (okT s = false → E A.cBT [] M)
def t_read (A : Ad) : DS := dSeq (dExpr (dCall (sp_check_reader A) (dCons (dVar 0) (dNil)))) (dSeq (dExpr (dCall (sp_check_text A) (dCons (dVar 1) (dNil)))) (dRet (dIfE (dTest (dCall (sp_is_read A) (dCons (dVar 0) (dCons (dVar 1) (dNil))))) (dCall (sp_number_of A) (dCons (dVar 0) (dCons (dVar 1) (dNil)))) (dC .non))))
abbrev n_read : List Str := ["reader", "text"]
theorem pure_read {A : Ad} (ds M R EX) (h : sp_read A ds M R EX) : t_read A (fun C fs _ M' => WkX EX C fs M') (endsOf R) (startD n_read ds) M := by
  obtain ⟨r, s, rfl, hr, hs, k1, k2⟩ := h
  unfold t_read
  refine ⟨r.D, rfl, hr.gd, fun _ => ?_, fun i hi => (by rw [hr.1] at hi; cases hi)⟩
  refine ⟨s, rfl, by omega, fun h1 => ?_, fun h1 => ⟨M, fun _ _ e => e, k2 h1⟩⟩
  obtain ⟨k3, k4⟩ := k1 h1
  refine ⟨r, s, rfl, ?_⟩
  unfold resR at k4
  show (match rdB r s with | true => _ | false => _)
  cases q : rdB r s with
  | true =>
    rw [if_pos q] at k4
    exact ⟨r, s, rfl, hs, k3 q, Wk.self k4⟩
  | false =>
    rw [if_neg (by rw [q]; exact Bool.false_ne_true)] at k4
    exact Wk.self k4
def sp_law_lowest (_ : Ad) : DSp := fun ds M Q _ => ∃ p q : Int, ds = [.int p, .int q] ∧ QOk q ∧ Q (lowD p q) M
def t_law_lowest (A : Ad) : DS := dSeq (dSet 2 (dCB absD (dCons (dVar 0) (dNil)))) (dSeq (dSet 3 (dVar 1)) (dSeq (dWhile (dTest (dOp gtD (dVar 3) (dC (.int 0)))) (dPar 2 3 (dCons (dVar 3) (dCons (dOp modD (dVar 2) (dVar 3)) (dNil))))) (dRet (dTup (dCons (dOp fdivWD (dVar 0) (dVar 2)) (dCons (dOp fdivWD (dVar 1) (dVar 2)) (dNil)))))))
abbrev n_law_lowest : List Str := ["_law_p", "_law_q", "_law_one", "_law_other"]
theorem pure_law_lowest {A : Ad} (ds M R EX) (h : sp_law_lowest A ds M R EX) : t_law_lowest A (fun C fs _ M' => WkX EX C fs M') (endsOf R) (startD n_law_lowest ds) M := by
  obtain ⟨p, q, rfl, hq, k⟩ := h
  unfold t_law_lowest
  simp only [dVar, dC, dOp, dTest, dChain, dAnd, dOr, dNot, dAndV, dOrV, dNotV, dIfE, dNil, dCons, dTup, dLst, dNext, dSeq, dIfS, dRet, dRetN, dExpr, dBrk, dCnt, dSet, dNever, gN, gTp, gLs, gsNil, gsCons, dAsg, dCall, dRaise, dRaiseF, ixD, dSl, slD, dPart, dNoPart, dCB, lenD, minD, maxD, absD, intD, strD, tupleD, listD, dMt, dMt0, tyD, appendD, popD, splitD, countD, dIsi, gSb, setL, dFld, dFldSet, dMeth, dMake, dFldAug, dAug, dPar, dTru, dNeg, augAdd, dDep, dIsC, intI, cmpI, startD, endsOf, List.map_cons, List.map_nil, List.length_cons, List.length_nil, List.replicate, List.getElem?_cons_zero, List.getElem?_cons_succ, List.cons_append, List.nil_append, List.set_cons_zero, List.set_cons_succ, Nat.reduceAdd, Nat.reduceSub]
  refine ⟨fun n ρ M' => ∃ one : Nat, M' = M ∧ ρ = [some (.int p), some (.int q), some (.int (one : Nat)), some (.int (n : Nat))] ∧ Nat.gcd one n = Int.gcd p q, ⟨q.natAbs, p.natAbs, rfl, ?_, rfl⟩, ?_⟩
  · have e : ((q.natAbs : Nat) : Int) = q := by have := hq.1; omega
    rw [e, show (if p < 0 then -p else p) = ((p.natAbs : Nat) : Int) from by split <;> omega]
  · rintro n ρ M' ⟨one, rfl, rfl, e⟩
    simp only [dVar, dC, dOp, dTest, dChain, dAnd, dOr, dNot, dAndV, dOrV, dNotV, dIfE, dNil, dCons, dTup, dLst, dNext, dSeq, dIfS, dRet, dRetN, dExpr, dBrk, dCnt, dSet, dNever, gN, gTp, gLs, gsNil, gsCons, dAsg, dCall, dRaise, dRaiseF, ixD, dSl, slD, dPart, dNoPart, dCB, lenD, minD, maxD, absD, intD, strD, tupleD, listD, dMt, dMt0, tyD, appendD, popD, splitD, countD, dIsi, gSb, setL, dFld, dFldSet, dMeth, dMake, dFldAug, dAug, dPar, dTru, dNeg, augAdd, dDep, dIsC, intI, cmpI, startD, endsOf, List.map_cons, List.map_nil, List.length_cons, List.length_nil, List.replicate, List.getElem?_cons_zero, List.getElem?_cons_succ, List.cons_append, List.nil_append, List.set_cons_zero, List.set_cons_succ, Nat.reduceAdd, Nat.reduceSub]
    by_cases z : n = 0
    · subst z
      have e2 : one = Int.gcd p q := by rw [← e, Nat.gcd_zero_right]
      subst e2
      obtain ⟨c1, c2⟩ := gcd_ok (p := p) hq
      exact ⟨c1, c2, by show 2 ≤ sizeLine; decide, Wk.self k⟩
    · have hb : decide ((0 : Int) < ((n : Nat) : Int)) = true := decide_eq_true (by omega)
      rw [hb]
      refine ⟨by omega, one % n, Nat.mod_lt _ (by omega), n, (by first | trivial | rfl), (by first | trivial | rfl), ?_⟩
      rw [← e, Nat.gcd_comm n, ← Nat.gcd_rec, Nat.gcd_comm]
def sp_lk0 : DSp := fun ds M Q _ => ∃ a : Int, ds = [.int a, .int a] ∧ Q (.bl true) M
def sp_lk1 : DSp := fun ds M Q _ => ∃ d : D, ds = [d, d] ∧ (d = .non ∨ ∃ a b : Int, d = .tup [.int a, .int b]) ∧ Q (.bl true) M
def t_law_like (A : Ad) (spR : DSp) : DS := dSeq (dIfS (dTest (dOp isD (dVar 1) (dC .non))) (dRet (dOp isD (dVar 0) (dC .non))) (dNext)) (dSeq (dIfS (dTest (dIsi Tn.bool (dVar 1))) (dRet (dAndV (dIsi Tn.bool (dVar 0)) (dOp eqD (dVar 0) (dVar 1)))) (dNext)) (dSeq (dIfS (dTest (dIsi Tn.int (dVar 1))) (dRet (dAndV (dIsi Tn.int (dVar 0)) (dAndV (dNotV (dIsi Tn.bool (dVar 0))) (dOp eqD (dVar 0) (dVar 1))))) (dNext)) (dSeq (dIfS (dTest (dIsi Tn.str (dVar 1))) (dRet (dAndV (dIsi Tn.str (dVar 0)) (dOp eqD (dVar 0) (dVar 1)))) (dNext)) (dSeq (dIfS (dTest (dIsi Tn.tuple (dVar 1))) (dIfS (dOr (dNot (dTest (dIsi Tn.tuple (dVar 0)))) (dTest (dOp neD (dCB lenD (dCons (dVar 0) (dNil))) (dCB lenD (dCons (dVar 1) (dNil)))))) (dRet (dC (.bl false))) (dNext)) (dIfS (dOr (dNot (dTest (dIsi Tn.list (dVar 0)))) (dTest (dOp neD (dCB lenD (dCons (dVar 0) (dNil))) (dCB lenD (dCons (dVar 1) (dNil)))))) (dRet (dC (.bl false))) (dNext))) (dSeq (dFor (dRng1 (dCons (dCB lenD (dCons (dVar 1) (dNil))) (dNil))) (gN 2) (dIfS (dNot (dTest (dCall (spR) (dCons (dOp ixD (dVar 0) (dVar 2)) (dCons (dOp ixD (dVar 1) (dVar 2)) (dNil)))))) (dRet (dC (.bl false))) (dNext))) (dRet (dC (.bl true))))))))
abbrev n_law_like : List Str := ["_law_actual", "_law_due", "_law_k"]
theorem pure_lk0 {A : Ad} {spR : DSp} (ds M R EX) (h : sp_lk0 ds M R EX) : t_law_like A spR (fun C fs _ M' => WkX EX C fs M') (endsOf R) (startD n_law_like ds) M := by
  obtain ⟨a, rfl, k⟩ := h
  unfold t_law_like
  simp only [dVar, dC, dOp, dTest, dNot, dNil, dCons, dTup, dLst, dNext, dSeq, dRet, dRetN, dExpr, dBrk, dCnt, dSet, gN, gTp, gLs, gsNil, gsCons, dAsg, dCall, dPart, dNoPart, dCB, lenD, minD, maxD, absD, dNeg, dPar, dAug, augAdd, dNotV, startD, endsOf, intI, cmpI, iIfS, iAnd, iOr, iAndV, iOrV, iIfE, iEqS, iEqI, iEqB, iNeS, iNeI, iIs, iIsNot, iInC, iNotInC, iAddI, iAddT, iAddS, List.map_cons, List.map_nil, List.length_cons, List.length_nil, List.replicate, List.getElem?_cons_zero, List.getElem?_cons_succ, List.cons_append, List.nil_append, List.set_cons_zero, List.set_cons_succ, Nat.reduceAdd, Nat.reduceSub, true_and, decide_eq_true_eq, Bool.not_eq_true', decide_eq_false_iff_not, dIsi, tnD, isiT]
  simp only [Bool.false_eq_true, if_false, if_true, Bool.not_true, Bool.not_false, decide_true, decide_false, Bool.or_false, Bool.true_and]
  exact Wk.self k
theorem pure_lk1 {A : Ad} (ds M R EX) (h : sp_lk1 ds M R EX) : t_law_like A sp_lk0 (fun C fs _ M' => WkX EX C fs M') (endsOf R) (startD n_law_like ds) M := by
  obtain ⟨d, rfl, hd, k⟩ := h
  unfold t_law_like
  rcases hd with rfl | ⟨a, b, rfl⟩
  · exact Wk.self k
  · exact ⟨⟨by show -(2 ^ 62) ≤ ((2 : Nat) : Int); decide, by show ((2 : Nat) : Int) < 2 ^ 62; decide⟩, trivial, ⟨a, rfl, ⟨trivial, ⟨b, rfl, ⟨trivial, Wk.self k⟩⟩⟩⟩⟩
end DL

set_option Elab.async false
set_option linter.all false
set_option maxRecDepth 100000
set_option maxHeartbeats 4000000
namespace DL
open PySem L2
theorem txt_loop {g : DG} {te : DE} {gd : DM → Prop} {x D0 : Addr} {ρ : Env} {K : DM → Prop} {M : DM} (hd : DrawsAt M x) (hD : M D0 = none) (hg : ∀ M, gd M)
    (hf : ∀ i M1 (R : DQ), DrawsAt M1 x → (∀ c M2, c ∈ SGc → At M1 x M2 → R (.str [c]) M2) → g i ρ M1 fun ρ1 M1 => te noW ρ1 M1 R) :
    ∀ (is : List D) (cs : List Nat) (M1 : DM), At M x M1 → M1 D0 = some (.lst (cs.map fun c => .str [c])) → (∀ c ∈ cs, c ∈ SGc) → cs.length + is.length ≤ 1000 → (∀ (cs2 : List Nat) M2, At M x M2 → M2 D0 = some (.lst (cs2.map fun c => .str [c])) → (∀ c ∈ cs2, c ∈ SGc) → cs2.length = cs.length + is.length → K M2) → lcF g dYes te gd D0 ρ K is M1
  | [], cs, M1, a1, e, hc, hl, k => ⟨hg _, k cs M1 a1 e hc rfl⟩
  | i :: is, cs, M1, a1, e, hc, hl, k => by
    have hx : D0 ≠ x := fun z => by subst z; obtain ⟨o, e⟩ := hd.some; rw [hD] at e; cases e
    rw [List.length_cons] at hl
    refine ⟨hg _, hf i M1 (fun d M3 => ∃ acc, M3 D0 = some (.lst acc) ∧ acc.length < sizeLine ∧ lcF g dYes te gd D0 ρ K is (mupd M3 D0 (.lst (acc ++ [d])))) a1.d fun c M2 hc2 a2 => ?_⟩
    refine ⟨_, a2.k D0 _ hx e, (by rw [List.length_map]; have z : sizeLine = 16777216 := sizeLine_eq; omega), ?_⟩
    refine txt_loop hd hD hg hf is (cs ++ [c]) _ ((a1.tr a2).put hd hD) (by rw [mupd_same, List.map_append]; rfl) (fun q hq => ?_) (by rw [List.length_append, List.length_cons, List.length_nil]; omega) fun cs2 M3 a3 e3 hc3 hl3 => k cs2 M3 a3 e3 hc3 ?_
    · rcases List.mem_append.mp hq with h | h
      · exact hc q h
      · rw [List.mem_singleton] at h; subst h; exact hc2
    · rw [hl3, List.length_append, List.length_cons, List.length_cons, List.length_nil]; omega
theorem join_ones (cs : List Nat) : joinL [] (cs.map fun c => [c]) = cs := by
  induction cs with
  | nil => rfl
  | cons c r ih =>
    cases r with
    | nil => rfl
    | cons d r => show [c] ++ ([] ++ joinL [] (([d] :: r.map fun c => [c]))) = _; rw [List.nil_append]; rw [List.map_cons] at ih; rw [ih]; rfl
theorem sum_ones (cs : List Nat) : ((cs.map fun c => [c]).map (·.length)).sum = cs.length := by
  induction cs with
  | nil => rfl
  | cons c r ih => rw [List.map_cons, List.map_cons, List.sum_cons, ih, List.length_cons, List.length_cons, List.length_nil]; omega
theorem join_call {cs : List Nat} {M : DM} {D0 : Addr} {R : DQ} (e : M D0 = some (.lst (cs.map fun c => .str [c]))) (h : cs.length ≤ 1000) (k : R (.str cs) M) : joinD (.str []) [.ref D0] M R := by
  refine ⟨cs.map fun c => [c], M, by rw [e, List.map_map]; rfl, fun _ _ e => e, ?_, by rw [join_ones]; exact k⟩
  rw [sum_ones, List.length_nil, Nat.mul_zero]; omega
def sp_law_text (_ : Ad) : DSp := fun ds M Q _ => ∃ (x : Addr) (n : Nat), ds = [.ref x, .int (n : Nat)] ∧ 0 < n ∧ n ≤ 500 ∧ DrawsAt M x ∧ ∀ s M', okT s = true → s.length ≤ 600 → At M x M' → Q (.str s) M'
def t_law_text (A : Ad) : DS := dSeq (dIfS (dTest (dOp eqD (dCall (sp_law_draw A) (dCons (dVar 0) (dCons (dC (.int 2)) (dNil)))) (dC (.int 0)))) (dRet (dMt "str" joinD (dC (.str [])) (dCons (dLc (dRng1 (dCons (dCall (sp_law_draw A) (dCons (dVar 0) (dCons (dOp addD (dVar 1) (dC (.int 1))) (dNil)))) (dNil))) (gN 4) (dYes) (dOp ixD (dC (.str [32, 43, 45, 46, 48, 49, 56, 95, 116])) (dCall (sp_law_draw A) (dCons (dVar 0) (dCons (dC (.int 9)) (dNil))))) [4]) (dNil)))) (dNext)) (dSeq (dSet 2 (dOp ixD (dLst (dCons (dC (.str [])) (dCons (dC (.str [])) (dCons (dC (.str [45])) (dCons (dC (.str [43])) (dCons (dC (.str [32])) (dCons (dC (.str [32, 45])) (dNil)))))))) (dCall (sp_law_draw A) (dCons (dVar 0) (dCons (dC (.int 6)) (dNil)))))) (dSeq (dSet 3 (dMt "str" joinD (dC (.str [])) (dCons (dLc (dRng1 (dCons (dCall (sp_law_draw A) (dCons (dVar 0) (dCons (dVar 1) (dNil)))) (dNil))) (gN 4) (dYes) (dOp ixD (dC (.str [48, 49, 49, 56, 116, 48, 95, 46])) (dCall (sp_law_draw A) (dCons (dVar 0) (dCons (dC (.int 8)) (dNil))))) [4]) (dNil)))) (dRet (dOp addD (dOp addD (dVar 2) (dVar 3)) (dOp ixD (dLst (dCons (dC (.str [])) (dCons (dC (.str [])) (dCons (dC (.str [32])) (dNil))))) (dCall (sp_law_draw A) (dCons (dVar 0) (dCons (dC (.int 3)) (dNil)))))))))
abbrev n_law_text : List Str := ["_law_draws", "_law_most", "_law_head", "_law_body", "_law_k"]
theorem sgn_at {c : List Nat} (hc : ∀ a ∈ c, a ∈ SGc) {r n : Nat} (hn : c.length = n) (hr : r < n) : ∃ z, z ∈ SGc ∧ atI c (r : Int) = some z := by
  refine ⟨c[r], hc _ (List.getElem_mem _), ?_⟩
  unfold atI ixN
  rw [if_pos (by omega), if_pos (by omega)]
  simp
theorem ix_txt {A : Ad} {x : Addr} {M1 : DM} {R : DQ} {L : List Nat} {n : Nat} {E : DX} (hL : ∀ a ∈ L, a ∈ SGc) (hn : L.length = n) (hz : n ≤ 100) (h0 : 0 < n) (h1 : n < 1000000) (d : DrawsAt M1 x) (k : ∀ c M2, c ∈ SGc → At M1 x M2 → R (.str [c]) M2) :
    sp_law_draw A [.ref x, .int (n : Nat)] M1 (fun y M2 => ixD (.str L) y M2 R) E := by
  refine draw_call d h0 h1 fun r M2 hr a2 => ?_
  obtain ⟨z, hz2, e⟩ := sgn_at hL hn hr
  refine ⟨by have z := sizeLine_eq; omega, ?_⟩
  simp only [e]
  exact k z M2 hz2 a2
theorem okT_mem {s : List Nat} : okT s = true ↔ ∀ c ∈ s, c ∈ SGc := by unfold okT; simp
theorem txt_comp {A : Ad} {x : Addr} {M1 : DM} {R : DQ} {L : List Nat} {n m : Nat} {u : Option D} {h b : Option D} {E : DX} (hL : ∀ a ∈ L, a ∈ SGc) (hn : L.length = n) (hz : n ≤ 100) (h0 : 0 < n) (hm : 0 < m) (hm2 : m ≤ 900) (d : DrawsAt M1 x) (k : ∀ s M2, okT s = true → s.length < m → At M1 x M2 → R (.str s) M2) :
    sp_law_draw A [.ref x, .int (m : Nat)] M1 (fun y M2 => match [y] with
      | [.int j] => (-(2 ^ 62) ≤ j ∧ j < 2 ^ 62) ∧ ∀ D0, M2 D0 = none → lcF (gN 4) dYes (dOp ixD (dC (.str L)) (dCall (sp_law_draw A) (dCons (dVar 0) (dCons (dC (.int (n : Nat))) (dNil))))) anyM D0 [some (.ref x), u, h, b, none] (fun M3 => joinD (.str []) [.ref D0] M3 R) ((List.range j.toNat).map fun i => D.int (0 + (i : Nat))) (mupd M2 D0 (.lst []))
      | _ => False) E := by
  refine draw_call d hm (by omega) fun r M2 hr a2 => ⟨⟨by omega, by omega⟩, fun D0 hD => ?_⟩
  have hl : ((List.range ((r : Nat) : Int).toNat).map fun i => D.int (0 + (i : Nat))).length = r := by simp
  refine txt_loop (M := M2) (x := x) a2.d hD (fun _ => trivial) (fun i M3 R' d3 k3 => ?_) _ [] _ (At.put (.self a2.d) a2.d hD) mupd_same (fun c h => by cases h) (by rw [hl]; simp; omega) fun cs M3 a3 e3 hc hl3 => ?_
  · exact ix_txt (A := A) (E := fun _ _ _ => False) hL hn hz h0 (by omega) d3 k3
  · rw [hl] at hl3
    simp at hl3
    exact join_call e3 (by omega) (k cs M3 (okT_mem.mpr hc) (by omega) (a2.tr a3))
theorem pure_law_text {A : Ad} (ds M R EX) (h : sp_law_text A ds M R EX) : t_law_text A (fun C fs _ M' => WkX EX C fs M') (endsOf R) (startD n_law_text ds) M := by
  obtain ⟨x, n, rfl, h0, hn, hd, k⟩ := h
  unfold t_law_text
  simp only [dRng1, dLc, dVar, dC, dOp, dTest, dChain, dAnd, dOr, dNot, dAndV, dOrV, dNotV, dIfE, dNil, dCons, dTup, dLst, dNext, dSeq, dIfS, dRet, dRetN, dExpr, dBrk, dCnt, dSet, dNever, gN, gTp, gLs, gsNil, gsCons, dAsg, dCall, dRaise, dRaiseF, ixD, dSl, slD, dPart, dNoPart, dCB, lenD, minD, maxD, absD, intD, strD, tupleD, listD, dMt, dMt0, tyD, appendD, popD, splitD, countD, dIsi, gSb, setL, dFld, dFldSet, dMeth, dMake, dFldAug, dAug, dPar, dTru, dNeg, augAdd, dDep, dIsC, intI, cmpI, startD, endsOf, List.map_cons, List.map_nil, List.length_cons, List.length_nil, List.replicate, List.getElem?_cons_zero, List.getElem?_cons_succ, List.cons_append, List.nil_append, List.set_cons_zero, List.set_cons_succ, Nat.reduceAdd, Nat.reduceSub]
  refine draw_call (n := 2) hd (by decide) (by decide) fun r M1 hr a1 => ?_
  show (match decide ((r : Int) = 0) with | true => _ | false => _)
  by_cases q : r = 0
  · rw [decide_eq_true (show (r : Int) = 0 by omega)]
    refine ⟨by first | trivial | rfl, ?_⟩
    exact txt_comp (A := A) (E := fun _ _ _ => False) (m := n + 1) (n := 9) (by decide) rfl (by decide) (by decide) (by omega) (by omega) a1.d fun s M2 hs hl a2 => Wk.self (k s M2 hs (by omega) (a1.tr a2))
  · rw [decide_eq_false (show ¬ (r : Int) = 0 by omega)]
    refine ⟨by show 6 ≤ sizeLine; decide, pick (n := 6) a1.d rfl (by decide) (by decide) fun d M2 h2 a2 => ?_⟩
    obtain ⟨h, hh, rfl⟩ := mem_str (xs := [[], [], [45], [43], [32], [32, 45]]) h2
    have hh2 : okT h = true ∧ h.length ≤ 2 := (show ∀ h ∈ ([[], [], [45], [43], [32], [32, 45]] : List (List Nat)), okT h = true ∧ h.length ≤ 2 from by decide +kernel) h hh
    refine ⟨by first | trivial | rfl, ?_⟩
    refine txt_comp (A := A) (E := fun _ _ _ => False) (m := n) (n := 8) (by decide) rfl (by decide) (by decide) (by omega) (by omega) a2.d fun b M3 hb hl a3 => ?_
    have z := sizeLine_eq
    refine ⟨by omega, by show 3 ≤ sizeLine; decide, pick (n := 3) a3.d rfl (by decide) (by decide) fun d M4 h4 a4 => ?_⟩
    obtain ⟨t, ht, rfl⟩ := mem_str (xs := [[], [], [32]]) h4
    have ht2 : okT t = true ∧ t.length ≤ 1 := (show ∀ h ∈ ([[], [], [32]] : List (List Nat)), okT h = true ∧ h.length ≤ 1 from by decide +kernel) t ht
    refine ⟨by rw [List.length_append]; omega, Wk.self (k _ M4 ?_ (by rw [List.length_append, List.length_append]; omega) (((a1.tr a2).tr a3).tr a4))⟩
    rw [okT_mem] at hb hh2 ht2 ⊢
    intro c hc
    rcases List.mem_append.mp hc with hc | hc
    · rcases List.mem_append.mp hc with hc | hc
      · exact hh2.1 c hc
      · exact hb c hc
    · exact ht2.1 c hc
end DL

set_option Elab.async false
set_option linter.all false
set_option maxRecDepth 100000
set_option maxHeartbeats 4000000
namespace DL
open PySem L2
def sgL (r : Rdr) (t : List Nat) : List Nat := if t.head? = some 45 ∧ ¬r.b = o_none then t.tail else if t.head? = some 43 ∧ r.b = o_both then t.tail else t
def midL (r : Rdr) (s : List Nat) : List Nat := sgL r (if r.a = o_ends then stripL 32 s else s)
theorem stripL_le (c : Nat) (s : List Nat) : (stripL c s).length ≤ s.length := by
  unfold stripL
  rw [List.length_reverse]
  refine Nat.le_trans (List.dropWhile_suffix _).length_le ?_
  rw [List.length_reverse]
  exact (List.dropWhile_suffix _).length_le
theorem sgL_le (r : Rdr) (t : List Nat) : (sgL r t).length ≤ t.length := by
  unfold sgL
  split
  · rw [List.length_tail]; omega
  · split
    · rw [List.length_tail]; omega
    · exact Nat.le_refl _
theorem midL_le (r : Rdr) (s : List Nat) : (midL r s).length ≤ s.length := by
  unfold midL
  refine Nat.le_trans (sgL_le _ _) ?_
  split
  · exact stripL_le _ _
  · exact Nat.le_refl _
theorem cut1 {c : Nat} {t : List Nat} : cutL (c :: t) (some 1) none = t := cut_from (s := c :: t) (n := 1) (by simp)
def sp_law_middle (_ : Ad) : DSp := fun ds M Q _ => ∃ (r : Rdr) (s : List Nat), ds = [r.D, .str s] ∧ s.length ≤ 1000 ∧ Q (.str (midL r s)) M
def t_law_middle (A : Ad) : DS := dSeq (dIfS (dTest (dOp eqD (dOp ixD (dVar 0) (dC (.int 0))) (dC (.str [101, 110, 100, 115])))) (dSet 1 (dMt "str" stripD (dVar 1) (dCons (dC (.str [32])) (dNil)))) (dNext)) (dSeq (dIfS (dAnd (dTest (dOp gtD (dCB lenD (dCons (dVar 1) (dNil))) (dC (.int 0)))) (dAnd (dTest (dOp eqD (dOp ixD (dVar 1) (dC (.int 0))) (dC (.str [45])))) (dTest (dOp neD (dOp ixD (dVar 0) (dC (.int 1))) (dC (.str [110, 111, 110, 101])))))) (dRet (dSl (dVar 1) (dPart (dC (.int 1))) (dNoPart))) (dNext)) (dSeq (dIfS (dAnd (dTest (dOp gtD (dCB lenD (dCons (dVar 1) (dNil))) (dC (.int 0)))) (dAnd (dTest (dOp eqD (dOp ixD (dVar 1) (dC (.int 0))) (dC (.str [43])))) (dTest (dOp eqD (dOp ixD (dVar 0) (dC (.int 1))) (dC (.str [98, 111, 116, 104])))))) (dRet (dSl (dVar 1) (dPart (dC (.int 1))) (dNoPart))) (dNext)) (dRet (dVar 1))))
abbrev n_law_middle : List Str := ["_law_reader_here", "_law_text_here"]
def t_mid1 (A : Ad) : DS := dSeq (dIfS (dAnd (dTest (dOp gtD (dCB lenD (dCons (dVar 1) (dNil))) (dC (.int 0)))) (dAnd (dTest (dOp eqD (dOp ixD (dVar 1) (dC (.int 0))) (dC (.str [45])))) (dTest (dOp neD (dOp ixD (dVar 0) (dC (.int 1))) (dC (.str [110, 111, 110, 101])))))) (dRet (dSl (dVar 1) (dPart (dC (.int 1))) (dNoPart))) (dNext)) (dSeq (dIfS (dAnd (dTest (dOp gtD (dCB lenD (dCons (dVar 1) (dNil))) (dC (.int 0)))) (dAnd (dTest (dOp eqD (dOp ixD (dVar 1) (dC (.int 0))) (dC (.str [43])))) (dTest (dOp eqD (dOp ixD (dVar 0) (dC (.int 1))) (dC (.str [98, 111, 116, 104])))))) (dRet (dSl (dVar 1) (dPart (dC (.int 1))) (dNoPart))) (dNext)) (dRet (dVar 1)))
theorem pure_law_middle {A : Ad} (ds M R EX) (h : sp_law_middle A ds M R EX) : t_law_middle A (fun C fs _ M' => WkX EX C fs M') (endsOf R) (startD n_law_middle ds) M := by
  obtain ⟨r, s, rfl, hs, k⟩ := h
  have z := sizeLine_eq
  have step : ∀ t : List Nat, t.length ≤ 1000 → R (.str (sgL r t)) M → t_mid1 A (fun C fs _ M' => WkX EX C fs M') (endsOf R) [some r.D, some (.str t)] M := by
    intro t ht k
    replace k := Wk.self k
    unfold t_mid1
    simp only [dVar, dC, dOp, dTest, dNot, dNil, dCons, dTup, dLst, dNext, dSeq, dRet, dRetN, dExpr, dBrk, dCnt, dSet, gN, gTp, gLs, gsNil, gsCons, dAsg, dCall, dPart, dNoPart, dCB, lenD, minD, maxD, absD, dNeg, dPar, dAug, augAdd, dNotV, startD, endsOf, intI, cmpI, iIfS, iAnd, iOr, iAndV, iOrV, iIfE, iEqS, iEqI, iEqB, iNeS, iNeI, iIs, iIsNot, iInC, iNotInC, iAddI, iAddT, iAddS, List.map_cons, List.map_nil, List.length_cons, List.length_nil, List.replicate, List.getElem?_cons_zero, List.getElem?_cons_succ, List.cons_append, List.nil_append, List.set_cons_zero, List.set_cons_succ, Nat.reduceAdd, Nat.reduceSub, true_and, decide_eq_true_eq, Bool.not_eq_true', decide_eq_false_iff_not, ixr1, dSl, slD]
    unfold sgL at k
    cases t with
    | nil =>
      simp only [List.length_nil, List.head?_nil, reduceCtorEq, false_and, if_false] at k ⊢
      refine ⟨by omega, ?_⟩
      simp only [show ¬ ((0 : Int) < ((0 : Nat) : Int)) from by decide, decide_false, Bool.false_eq_true, if_false]
      exact ⟨by omega, k⟩
    | cons c t =>
      have e1 : (0 : Int) < ((t.length + 1 : Nat) : Int) := by omega
      simp only [List.length_cons, List.head?_cons, Option.some.injEq, List.tail_cons, ixD, atI_hd, cut1, iEqS, iNeS, List.cons.injEq, and_true, decide_eq_true_eq, o_none, o_both, e1, if_true, decide_true, Bool.not_eq_true', decide_eq_false_iff_not] at k ht ⊢
      refine ⟨by omega, ?_⟩
      have h1 : t.length + 1 ≤ sizeLine := by omega
      by_cases c1 : c = 45
      · subst c1
        by_cases c2 : r.b = [110, 111, 110, 101]
        · simp only [c2, if_true, if_false, not_true, and_false, show ¬((45 : Nat) = 43) from by decide, false_and, and_false, Bool.false_eq_true, h1, true_and, decide_true, Bool.not_true] at k ⊢
          exact k
        · simp only [c2, if_true, if_false, not_false_eq_true, and_true, h1, true_and, decide_false, Bool.not_false] at k ⊢
          exact k
      · by_cases c3 : c = 43
        · subst c3
          by_cases c2 : r.b = [98, 111, 116, 104]
          · simp only [c2, c1, if_true, if_false, false_and, and_true, h1, true_and, decide_true, Bool.false_eq_true] at k ⊢
            exact k
          · simp only [c2, c1, if_true, if_false, false_and, and_false, h1, true_and, decide_false, Bool.false_eq_true] at k ⊢
            exact k
        · simp only [c1, c3, if_true, if_false, false_and, h1, true_and, decide_false, Bool.false_eq_true] at k ⊢
          exact k
  unfold midL at k
  have e : t_law_middle A = dSeq (dIfS (dTest (dOp eqD (dOp ixD (dVar 0) (dC (.int 0))) (dC (.str [101, 110, 100, 115])))) (dSet 1 (dMt "str" stripD (dVar 1) (dCons (dC (.str [32])) (dNil)))) (dNext)) (t_mid1 A) := rfl
  rw [e]
  by_cases q : r.a = o_ends
  · rw [if_pos q] at k
    have st := step _ (Nat.le_trans (stripL_le 32 s) hs) k
    simp only [dVar, dC, dOp, dTest, dNot, dNil, dCons, dTup, dLst, dNext, dSeq, dRet, dRetN, dExpr, dBrk, dCnt, dSet, gN, gTp, gLs, gsNil, gsCons, dAsg, dCall, dPart, dNoPart, dCB, lenD, minD, maxD, absD, dNeg, dPar, dAug, augAdd, dNotV, startD, endsOf, intI, cmpI, iIfS, iAnd, iOr, iAndV, iOrV, iIfE, iEqS, iEqI, iEqB, iNeS, iNeI, iIs, iIsNot, iInC, iNotInC, iAddI, iAddT, iAddS, List.map_cons, List.map_nil, List.length_cons, List.length_nil, List.replicate, List.getElem?_cons_zero, List.getElem?_cons_succ, List.cons_append, List.nil_append, List.set_cons_zero, List.set_cons_succ, Nat.reduceAdd, Nat.reduceSub, true_and, decide_eq_true_eq, Bool.not_eq_true', decide_eq_false_iff_not, ixr0]
    exact if_t q ⟨by first | trivial | rfl, by omega, st⟩
  · rw [if_neg q] at k
    have st := step _ hs k
    simp only [dVar, dC, dOp, dTest, dNot, dNil, dCons, dTup, dLst, dNext, dSeq, dRet, dRetN, dExpr, dBrk, dCnt, dSet, gN, gTp, gLs, gsNil, gsCons, dAsg, dCall, dPart, dNoPart, dCB, lenD, minD, maxD, absD, dNeg, dPar, dAug, augAdd, dNotV, startD, endsOf, intI, cmpI, iIfS, iAnd, iOr, iAndV, iOrV, iIfE, iEqS, iEqI, iEqB, iNeS, iNeI, iIs, iIsNot, iInC, iNotInC, iAddI, iAddT, iAddS, List.map_cons, List.map_nil, List.length_cons, List.length_nil, List.replicate, List.getElem?_cons_zero, List.getElem?_cons_succ, List.cons_append, List.nil_append, List.set_cons_zero, List.set_cons_succ, Nat.reduceAdd, Nat.reduceSub, true_and, decide_eq_true_eq, Bool.not_eq_true', decide_eq_false_iff_not, ixr0]
    exact if_f q st
def isU (b : List Nat) (i : Nat) : Bool := decide (b[i]? = some 95)
def lowI (b : List Nat) : Nat → Nat
  | 0 => 0
  | n + 1 => if isU b n = true then lowI b n else n + 1
def hiI (b : List Nat) : Nat → Nat
  | 0 => b.length
  | m + 1 => if isU b (b.length - (m + 1)) = true then hiI b m else b.length - (m + 1)
theorem lowI_le (b : List Nat) : ∀ n, lowI b n ≤ n
  | 0 => Nat.le_refl _
  | n + 1 => by unfold lowI; split; exact Nat.le_succ_of_le (lowI_le b n); exact Nat.le_refl _
theorem hiI_le (b : List Nat) : ∀ m, hiI b m ≤ b.length
  | 0 => Nat.le_refl _
  | m + 1 => by unfold hiI; split; exact hiI_le b m; omega
def ugK (r : Rdr) (b : List Nat) (k : Nat) : Bool :=
  if isU b k = true then
    if r.d = o_none ∨ (r.d = o_single ∧ 0 < k ∧ isU b (k - 1) = true) then false
    else if lowI b (k + 1) = 0 ∨ hiI b (b.length - k) = b.length ∨ b[lowI b (k + 1) - 1]? = some 46 ∨ b[hiI b (b.length - k)]? = some 46 then false else true
  else true
def ugB (r : Rdr) (b : List Nat) : Bool := (List.range b.length).all (ugK r b)
def sp_law_unders_good (_ : Ad) : DSp := fun ds M Q _ => ∃ (r : Rdr) (b : List Nat), ds = [r.D, .str b] ∧ b.length ≤ 1000 ∧ Q (.bl (ugB r b)) M
def t_law_unders_good (A : Ad) : DS := dSeq (dFor (dRng1 (dCons (dCB lenD (dCons (dVar 1) (dNil))) (dNil))) (gN 2) (dIfS (dTest (dOp eqD (dOp ixD (dVar 1) (dVar 2)) (dC (.str [95])))) (dSeq (dIfS (dOr (dTest (dOp eqD (dOp ixD (dVar 0) (dC (.int 3))) (dC (.str [110, 111, 110, 101])))) (dAnd (dTest (dOp eqD (dOp ixD (dVar 0) (dC (.int 3))) (dC (.str [115, 105, 110, 103, 108, 101])))) (dTest (dOp eqD (dSl (dVar 1) (dPart (dOp subD (dVar 2) (dC (.int 1)))) (dPart (dVar 2))) (dC (.str [95])))))) (dRet (dC (.bl false))) (dNext)) (dSeq (dSet 3 (dVar 2)) (dSeq (dWhile (dAnd (dTest (dOp geD (dVar 3) (dC (.int 0)))) (dTest (dOp eqD (dOp ixD (dVar 1) (dVar 3)) (dC (.str [95]))))) (dSet 3 (dOp subD (dVar 3) (dC (.int 1))))) (dSeq (dSet 4 (dVar 2)) (dSeq (dWhile (dAnd (dTest (dOp ltD (dVar 4) (dCB lenD (dCons (dVar 1) (dNil))))) (dTest (dOp eqD (dOp ixD (dVar 1) (dVar 4)) (dC (.str [95]))))) (dSet 4 (dOp addD (dVar 4) (dC (.int 1))))) (dIfS (dOr (dTest (dOp ltD (dVar 3) (dC (.int 0)))) (dOr (dTest (dOp eqD (dVar 4) (dCB lenD (dCons (dVar 1) (dNil))))) (dOr (dTest (dOp eqD (dOp ixD (dVar 1) (dVar 3)) (dC (.str [46])))) (dTest (dOp eqD (dOp ixD (dVar 1) (dVar 4)) (dC (.str [46]))))))) (dRet (dC (.bl false))) (dNext))))))) (dNext))) (dRet (dC (.bl true)))
abbrev n_law_unders_good : List Str := ["_law_reader_here", "_law_body", "_law_k", "_law_low", "_law_high"]
theorem atI_get {α : Type} {b : List α} {k : Nat} (h : k < b.length) : atI b (k : Int) = some b[k] := by
  unfold atI ixN
  rw [if_pos (by omega), if_pos (by omega)]
  simp
theorem ix_get {b : List Nat} {k : Nat} {M : DM} {R : DQ} (h : k < b.length) (hz : b.length ≤ 1000) (q : R (.str [b[k]]) M) : ixD (.str b) (.int (k : Int)) M R := by
  refine ⟨by have z := sizeLine_eq; omega, ?_⟩
  simp only [atI_get h]
  exact q
theorem isU_get {b : List Nat} {k : Nat} (h : k < b.length) : isU b k = decide (b[k] = 95) := by
  unfold isU
  rw [List.getElem?_eq_getElem h]
  simp
theorem prev_cut {b : List Nat} {k : Nat} (h : k < b.length) : decide (cutL b (some ((k : Int) - 1)) (some (k : Int)) = [95]) = (decide (0 < k) && isU b (k - 1)) := by
  cases k with
  | zero =>
    have : cutL b (some (((0 : Nat) : Int) - 1)) (some ((0 : Nat) : Int)) = [] := by
      unfold cutL
      rw [HT.sIx_nat]
      simp
    rw [this]; rfl
  | succ k =>
    have e : (((k + 1 : Nat) : Int) - 1) = (k : Int) := by omega
    rw [e, cutL_nat b k (k + 1) (by omega), show k + 1 - k = 1 from by omega, show k + 1 - 1 = k from rfl, isU_get (by omega)]
    rw [List.drop_eq_getElem_cons (by omega), List.take_succ_cons, List.take_zero]
    simp
theorem low_loop {r : Rdr} {b : List Nat} {k : Nat} {h : Option D} {W : DW} {M : DM} {E : DEnds} (hz : b.length ≤ 1000) (hk : k < b.length) (q : E.nx [some r.D, some (.str b), some (.int (k : Int)), some (.int ((lowI b (k + 1) : Nat) - 1 : Int)), h] M) :
    dWhile (dAnd (dTest (dOp geD (dVar 3) (dC (.int 0)))) (dTest (dOp eqD (dOp ixD (dVar 1) (dVar 3)) (dC (.str [95]))))) (dSet 3 (dOp subD (dVar 3) (dC (.int 1)))) W E [some r.D, some (.str b), some (.int (k : Int)), some (.int (k : Int)), h] M := by
  refine ⟨fun n ρ M' => M' = M ∧ n ≤ k + 1 ∧ lowI b n = lowI b (k + 1) ∧ ρ = [some r.D, some (.str b), some (.int (k : Int)), some (.int ((n : Nat) - 1 : Int)), h], ⟨k + 1, rfl, by omega, rfl, by rw [show (((k + 1 : Nat) : Int) - 1) = (k : Int) from by omega]⟩, ?_⟩
  rintro n ρ M' ⟨rfl, hn, e, rfl⟩
  simp only [dVar, dC, dOp, dTest, dNot, dNil, dCons, dTup, dLst, dNext, dSeq, dRet, dRetN, dExpr, dBrk, dCnt, dSet, gN, gTp, gLs, gsNil, gsCons, dAsg, dCall, dPart, dNoPart, dCB, lenD, minD, maxD, absD, dNeg, dPar, dAug, augAdd, dNotV, startD, endsOf, intI, cmpI, iIfS, iAnd, iOr, iAndV, iOrV, iIfE, iEqS, iEqI, iEqB, iNeS, iNeI, iIs, iIsNot, iInC, iNotInC, iAddI, iAddT, iAddS, List.map_cons, List.map_nil, List.length_cons, List.length_nil, List.replicate, List.getElem?_cons_zero, List.getElem?_cons_succ, List.cons_append, List.nil_append, List.set_cons_zero, List.set_cons_succ, Nat.reduceAdd, Nat.reduceSub, true_and, decide_eq_true_eq, Bool.not_eq_true', decide_eq_false_iff_not]
  cases n with
  | zero =>
    rw [if_neg (by omega)]
    rw [← e] at q
    exact q
  | succ n =>
    rw [if_pos (by omega)]
    rw [show (((n + 1 : Nat) : Int) - 1) = (n : Int) from by omega]
    refine ix_get (by omega) hz ?_
    have eu := isU_get (b := b) (k := n) (by omega)
    simp only [iEqS, List.cons.injEq, and_true]
    by_cases c : b[n]'(by omega) = 95
    · rw [decide_eq_true c] at eu ⊢
      refine ⟨n, by omega, by first | trivial | rfl, by omega, by rw [← e, lowI, if_pos eu], by first | rfl | simp⟩
    · rw [decide_eq_false c] at eu ⊢
      rw [← e, lowI, if_neg (by rw [eu]; exact Bool.false_ne_true), show (((n + 1 : Nat) : Int) - 1) = (n : Int) from by omega] at q
      exact q
theorem hi_loop {r : Rdr} {b : List Nat} {k : Nat} {l : Option D} {W : DW} {M : DM} {E : DEnds} (hz : b.length ≤ 1000) (hk : k < b.length) (q : E.nx [some r.D, some (.str b), some (.int (k : Int)), l, some (.int ((hiI b (b.length - k) : Nat) : Int))] M) :
    dWhile (dAnd (dTest (dOp ltD (dVar 4) (dCB lenD (dCons (dVar 1) (dNil))))) (dTest (dOp eqD (dOp ixD (dVar 1) (dVar 4)) (dC (.str [95]))))) (dSet 4 (dOp addD (dVar 4) (dC (.int 1)))) W E [some r.D, some (.str b), some (.int (k : Int)), l, some (.int (k : Int))] M := by
  refine ⟨fun n ρ M' => M' = M ∧ n ≤ b.length ∧ hiI b n = hiI b (b.length - k) ∧ ρ = [some r.D, some (.str b), some (.int (k : Int)), l, some (.int ((b.length - n : Nat) : Int))], ⟨b.length - k, rfl, by omega, rfl, by rw [show b.length - (b.length - k) = k from by omega]⟩, ?_⟩
  rintro n ρ M' ⟨rfl, hn, e, rfl⟩
  simp only [dVar, dC, dOp, dTest, dNot, dNil, dCons, dTup, dLst, dNext, dSeq, dRet, dRetN, dExpr, dBrk, dCnt, dSet, gN, gTp, gLs, gsNil, gsCons, dAsg, dCall, dPart, dNoPart, dCB, lenD, minD, maxD, absD, dNeg, dPar, dAug, augAdd, dNotV, startD, endsOf, intI, cmpI, iIfS, iAnd, iOr, iAndV, iOrV, iIfE, iEqS, iEqI, iEqB, iNeS, iNeI, iIs, iIsNot, iInC, iNotInC, iAddI, iAddT, iAddS, List.map_cons, List.map_nil, List.length_cons, List.length_nil, List.replicate, List.getElem?_cons_zero, List.getElem?_cons_succ, List.cons_append, List.nil_append, List.set_cons_zero, List.set_cons_succ, Nat.reduceAdd, Nat.reduceSub, true_and, decide_eq_true_eq, Bool.not_eq_true', decide_eq_false_iff_not]
  refine ⟨by have z := sizeLine_eq; omega, ?_⟩
  cases n with
  | zero =>
    rw [if_neg (by omega)]
    rw [← e] at q
    exact q
  | succ n =>
    rw [if_pos (by omega)]
    refine ix_get (by omega) hz ?_
    have eu := isU_get (b := b) (k := b.length - (n + 1)) (by omega)
    simp only [iEqS, List.cons.injEq, and_true]
    by_cases c : b[b.length - (n + 1)]'(by omega) = 95
    · rw [decide_eq_true c] at eu ⊢
      rw [show ((b.length - (n + 1) : Nat) : Int) + 1 = ((b.length - n : Nat) : Int) from by omega]
      refine ⟨n, by omega, by first | trivial | rfl, by omega, by rw [← e, hiI, if_pos eu], by first | rfl | simp⟩
    · rw [decide_eq_false c] at eu ⊢
      rw [← e, hiI, if_neg (by rw [eu]; exact Bool.false_ne_true)] at q
      exact q
def ugRest : DS := dSeq (dSet 3 (dVar 2)) (dSeq (dWhile (dAnd (dTest (dOp geD (dVar 3) (dC (.int 0)))) (dTest (dOp eqD (dOp ixD (dVar 1) (dVar 3)) (dC (.str [95]))))) (dSet 3 (dOp subD (dVar 3) (dC (.int 1))))) (dSeq (dSet 4 (dVar 2)) (dSeq (dWhile (dAnd (dTest (dOp ltD (dVar 4) (dCB lenD (dCons (dVar 1) (dNil))))) (dTest (dOp eqD (dOp ixD (dVar 1) (dVar 4)) (dC (.str [95]))))) (dSet 4 (dOp addD (dVar 4) (dC (.int 1))))) (dIfS (dOr (dTest (dOp ltD (dVar 3) (dC (.int 0)))) (dOr (dTest (dOp eqD (dVar 4) (dCB lenD (dCons (dVar 1) (dNil))))) (dOr (dTest (dOp eqD (dOp ixD (dVar 1) (dVar 3)) (dC (.str [46])))) (dTest (dOp eqD (dOp ixD (dVar 1) (dVar 4)) (dC (.str [46]))))))) (dRet (dC (.bl false))) (dNext)))))
def ugBody : DS := (dIfS (dTest (dOp eqD (dOp ixD (dVar 1) (dVar 2)) (dC (.str [95])))) (dSeq (dIfS (dOr (dTest (dOp eqD (dOp ixD (dVar 0) (dC (.int 3))) (dC (.str [110, 111, 110, 101])))) (dAnd (dTest (dOp eqD (dOp ixD (dVar 0) (dC (.int 3))) (dC (.str [115, 105, 110, 103, 108, 101])))) (dTest (dOp eqD (dSl (dVar 1) (dPart (dOp subD (dVar 2) (dC (.int 1)))) (dPart (dVar 2))) (dC (.str [95])))))) (dRet (dC (.bl false))) (dNext)) (ugRest)) (dNext))
theorem ug_rest {r : Rdr} {b : List Nat} {k : Nat} {y z : Option D} {W : DW} {M : DM} {E : DEnds} (hz : b.length ≤ 1000) (hk : k < b.length)
    (q1 : ¬(lowI b (k + 1) = 0 ∨ hiI b (b.length - k) = b.length ∨ b[lowI b (k + 1) - 1]? = some 46 ∨ b[hiI b (b.length - k)]? = some 46) → ∀ y z, E.nx [some r.D, some (.str b), some (.int (k : Int)), y, z] M)
    (q2 : (lowI b (k + 1) = 0 ∨ hiI b (b.length - k) = b.length ∨ b[lowI b (k + 1) - 1]? = some 46 ∨ b[hiI b (b.length - k)]? = some 46) → E.rt (.bl false) M) :
    ugRest W E [some r.D, some (.str b), some (.int (k : Int)), y, z] M := by
  unfold ugRest
  refine low_loop hz hk ?_
  refine hi_loop (l := some (.int ((lowI b (k + 1) : Nat) - 1 : Int))) hz hk ?_
  have l1 := lowI_le b (k + 1)
  have l2 := hiI_le b (b.length - k)
  generalize lowI b (k + 1) = lo at *
  generalize hiI b (b.length - k) = hi at *
  simp only [dVar, dC, dOp, dTest, dNot, dNil, dCons, dTup, dLst, dNext, dSeq, dRet, dRetN, dExpr, dBrk, dCnt, dSet, gN, gTp, gLs, gsNil, gsCons, dAsg, dCall, dPart, dNoPart, dCB, lenD, minD, maxD, absD, dNeg, dPar, dAug, augAdd, dNotV, startD, endsOf, intI, cmpI, iIfS, iAnd, iOr, iAndV, iOrV, iIfE, iEqS, iEqI, iEqB, iNeS, iNeI, iIs, iIsNot, iInC, iNotInC, iAddI, iAddT, iAddS, List.map_cons, List.map_nil, List.length_cons, List.length_nil, List.replicate, List.getElem?_cons_zero, List.getElem?_cons_succ, List.cons_append, List.nil_append, List.set_cons_zero, List.set_cons_succ, Nat.reduceAdd, Nat.reduceSub, true_and, decide_eq_true_eq, Bool.not_eq_true', decide_eq_false_iff_not]
  by_cases c1 : lo = 0
  · rw [if_pos (by omega)]
    exact q2 (.inl c1)
  · rw [if_neg (by omega)]
    refine ⟨by have z := sizeLine_eq; omega, ?_⟩
    by_cases c2 : hi = b.length
    · rw [if_pos (by omega)]
      exact q2 (.inr (.inl c2))
    · rw [if_neg (by omega)]
      rw [show ((lo : Nat) : Int) - 1 = ((lo - 1 : Nat) : Int) from by omega]
      refine ix_get (by omega) hz ?_
      simp only [iEqS, List.cons.injEq, and_true]
      by_cases c3 : b[lo - 1]'(by omega) = 46
      · rw [decide_eq_true c3]
        exact q2 (.inr (.inr (.inl (by rw [List.getElem?_eq_getElem (by omega), c3]))))
      · rw [decide_eq_false c3, if_neg Bool.false_ne_true]
        refine ix_get (k := hi) (by omega) hz ?_
        simp only [iEqS, List.cons.injEq, and_true]
        by_cases c4 : b[hi]'(by omega) = 46
        · rw [decide_eq_true c4]
          exact q2 (.inr (.inr (.inr (by rw [List.getElem?_eq_getElem (by omega), c4]))))
        · rw [decide_eq_false c4]
          refine q1 (fun h => ?_) _ _
          rcases h with h | h | h | h
          · exact c1 h
          · exact c2 h
          · rw [List.getElem?_eq_getElem (by omega)] at h; exact c3 (Option.some.inj h)
          · rw [List.getElem?_eq_getElem (by omega)] at h; exact c4 (Option.some.inj h)
theorem ug_turn {r : Rdr} {b : List Nat} {k : Nat} {y z : Option D} {W : DW} {M : DM} {E : DEnds} (hz : b.length ≤ 1000) (hk : k < b.length) (nxt : ugK r b k = true → ∀ y z, E.nx [some r.D, some (.str b), some (.int (k : Int)), y, z] M) (no : ugK r b k = false → E.rt (.bl false) M) :
    ugBody W E [some r.D, some (.str b), some (.int (k : Int)), y, z] M := by
  unfold ugK at nxt no
  unfold ugBody
  have zz := sizeLine_eq
  have eu := isU_get hk
  simp only [dVar, dC, dOp, dTest, dNot, dNil, dCons, dTup, dLst, dNext, dSeq, dRet, dRetN, dExpr, dBrk, dCnt, dSet, gN, gTp, gLs, gsNil, gsCons, dAsg, dCall, dPart, dNoPart, dCB, lenD, minD, maxD, absD, dNeg, dPar, dAug, augAdd, dNotV, startD, endsOf, intI, cmpI, iIfS, iAnd, iOr, iAndV, iOrV, iIfE, iEqS, iEqI, iEqB, iNeS, iNeI, iIs, iIsNot, iInC, iNotInC, iAddI, iAddT, iAddS, List.map_cons, List.map_nil, List.length_cons, List.length_nil, List.replicate, List.getElem?_cons_zero, List.getElem?_cons_succ, List.cons_append, List.nil_append, List.set_cons_zero, List.set_cons_succ, Nat.reduceAdd, Nat.reduceSub, true_and, decide_eq_true_eq, Bool.not_eq_true', decide_eq_false_iff_not, ixr3, dSl, slD]
  refine ix_get hk hz ?_
  simp only [iEqS, List.cons.injEq, and_true]
  by_cases c : b[k] = 95
  · rw [decide_eq_true c] at eu ⊢
    rw [if_pos eu] at nxt no
    have rest : ¬(r.d = o_none ∨ (r.d = o_single ∧ 0 < k ∧ isU b (k - 1) = true)) → ∀ y z, ugRest W E [some r.D, some (.str b), some (.int (k : Int)), y, z] M := by
      intro h y z
      rw [if_neg h] at nxt no
      exact ug_rest hz hk (fun h => nxt (by rw [if_neg h])) (fun h => no (by rw [if_pos h]))
    rw [if_pos rfl]
    by_cases c1 : r.d = [110, 111, 110, 101]
    · rw [if_pos c1]
      exact no (if_pos (.inl c1))
    · rw [if_neg c1]
      by_cases c2 : r.d = [115, 105, 110, 103, 108, 101]
      · rw [if_pos c2]
        refine ⟨by omega, ?_⟩
        have pc := prev_cut hk
        by_cases c3 : 0 < k ∧ isU b (k - 1) = true
        · rw [if_pos (of_decide_eq_true (by rw [pc, c3.2, decide_eq_true c3.1]; rfl))]
          exact no (if_pos (.inr ⟨c2, c3⟩))
        · rw [if_neg (fun h => c3 (by have := decide_eq_true h; rw [pc, Bool.and_eq_true, decide_eq_true_eq] at this; exact this))]
          exact rest (fun h => by rcases h with h | h; exact c1 h; exact c3 h.2) _ _
      · rw [if_neg c2]
        exact rest (fun h => by rcases h with h | h; exact c1 h; exact c2 h.1) _ _
  · rw [decide_eq_false c] at eu ⊢
    rw [if_neg (by rw [eu]; exact Bool.false_ne_true)] at nxt
    rw [if_neg Bool.false_ne_true]
    exact nxt rfl _ _
theorem ug_loop {r : Rdr} {b : List Nat} {W : DW} {M : DM} {E : DEnds} (hz : b.length ≤ 1000) : ∀ (ks : List Nat) (x y z : Option D), (∀ k ∈ ks, k < b.length) → (ks.all (ugK r b) = true → ∀ x y z, E.nx [some r.D, some (.str b), x, y, z] M) → (ks.all (ugK r b) = false → E.rt (.bl false) M) →
    dLoop (gN 2) (ugBody W) anyM (ks.map fun i => .int (0 + (i : Nat))) E [some r.D, some (.str b), x, y, z] M
  | [], x, y, z, _, k1, _ => ⟨trivial, k1 rfl x y z⟩
  | k :: ks, x, y, z, hk, k1, k2 => by
    refine ⟨trivial, ?_⟩
    show ugBody W _ [some r.D, some (.str b), some (.int (0 + ((k : Nat) : Int))), y, z] M
    rw [show (0 + ((k : Nat) : Int)) = (k : Int) from by omega]
    refine ug_turn hz (hk k (by simp)) (fun h y z => ?_) (fun h => k2 (by rw [List.all_cons, h]; rfl))
    exact ug_loop hz ks _ y z (fun k h => hk k (by simp [h])) (fun h2 => k1 (by rw [List.all_cons, h, h2]; rfl)) (fun h2 => k2 (by rw [List.all_cons, h, h2]; rfl))
theorem pure_law_unders_good {A : Ad} (ds M R EX) (h : sp_law_unders_good A ds M R EX) : t_law_unders_good A (fun C fs _ M' => WkX EX C fs M') (endsOf R) (startD n_law_unders_good ds) M := by
  obtain ⟨r, b, rfl, hz, k⟩ := h
  have zz := sizeLine_eq
  refine ⟨by omega, ⟨by omega, by omega⟩, ?_⟩
  have e : ((b.length : Nat) : Int).toNat = b.length := by omega
  show dLoop (gN 2) (ugBody _) anyM ((List.range ((b.length : Nat) : Int).toNat).map fun i => .int (0 + (i : Nat))) _ [some r.D, some (.str b), none, none, none] M
  rw [e]
  refine ug_loop hz (List.range b.length) none none none (fun k hk => by simpa using hk) (fun h x y z => Wk.self (d := .bl true) ?_) (fun h => Wk.self (d := .bl false) ?_)
  · unfold ugB at k; rw [h] at k; exact k
  · unfold ugB at k; rw [h] at k; exact k
def pgB (r : Rdr) (rows : List (List Nat)) : Bool :=
  match rows with
  | [] => false
  | [a] => decide (0 < a.length)
  | a :: b :: t =>
    if r.e = o_rows then (decide (1 ≤ a.length) && decide (a.length ≤ 3)) && (b :: t).all fun x => decide (x.length = 3)
    else if 2 < t.length + 2 ∨ r.e = o_none then false
    else if r.e = o_part then decide (0 < a.length) && decide (0 < b.length)
    else decide (0 < a.length + b.length)
def sp_law_points_good (_ : Ad) : DSp := fun ds M Q _ => ∃ (r : Rdr) (p : Addr) (rows : List (List Nat)), ds = [r.D, .ref p] ∧ M p = some (.lst (rows.map D.str)) ∧ rows ≠ [] ∧ rows.length ≤ 1000 ∧ (∀ x ∈ rows, x.length ≤ 1000) ∧ Q (.bl (pgB r rows)) M
def t_law_points_good (A : Ad) : DS := dSeq (dIfS (dTest (dOp eqD (dCB lenD (dCons (dVar 1) (dNil))) (dC (.int 1)))) (dRet (dOp gtD (dCB lenD (dCons (dOp ixD (dVar 1) (dC (.int 0))) (dNil))) (dC (.int 0)))) (dNext)) (dSeq (dIfS (dTest (dOp eqD (dOp ixD (dVar 0) (dC (.int 4))) (dC (.str [114, 111, 119, 115])))) (dRet (dAndV (dChain leD leD (dC (.int 1)) (dCB lenD (dCons (dOp ixD (dVar 1) (dC (.int 0))) (dNil))) (dC (.int 3))) (dCB allD (dCons (dLc (dIter (dSl (dVar 1) (dPart (dC (.int 1))) (dNoPart))) (gN 2) (dYes) (dOp eqD (dCB lenD (dCons (dVar 2) (dNil))) (dC (.int 3))) [2]) (dNil))))) (dNext)) (dSeq (dIfS (dOr (dTest (dOp gtD (dCB lenD (dCons (dVar 1) (dNil))) (dC (.int 2)))) (dTest (dOp eqD (dOp ixD (dVar 0) (dC (.int 4))) (dC (.str [110, 111, 110, 101]))))) (dRet (dC (.bl false))) (dNext)) (dSeq (dIfS (dTest (dOp eqD (dOp ixD (dVar 0) (dC (.int 4))) (dC (.str [112, 97, 114, 116])))) (dRet (dAndV (dOp gtD (dCB lenD (dCons (dOp ixD (dVar 1) (dC (.int 0))) (dNil))) (dC (.int 0))) (dOp gtD (dCB lenD (dCons (dOp ixD (dVar 1) (dC (.int 1))) (dNil))) (dC (.int 0))))) (dNext)) (dRet (dOp gtD (dOp addD (dCB lenD (dCons (dOp ixD (dVar 1) (dC (.int 0))) (dNil))) (dCB lenD (dCons (dOp ixD (dVar 1) (dC (.int 1))) (dNil)))) (dC (.int 0)))))))
abbrev n_law_points_good : List Str := ["_law_reader_here", "_law_rows", "_law_row"]
theorem iGt {a b : Int} {M : DM} {R : DQ} : gtD (.int a) (.int b) M R = R (.bl (decide (b < a))) M := rfl
theorem len_str {s : List Nat} {M : DM} {R : DQ} (h : s.length ≤ 1000) (k : R (.int (s.length : Nat)) M) : lenD [.str s] M R := ⟨by have z := sizeLine_eq; omega, k⟩
theorem len_lst {p : Addr} {xs : List D} {M : DM} {R : DQ} (h : M p = some (.lst xs)) (k : R (.int (xs.length : Nat)) M) : lenD [.ref p] M R := ⟨xs, h, k⟩
theorem ix_lst {p : Addr} {xs : List D} {i : Int} {d : D} {M : DM} {R : DQ} (h : M p = some (.lst xs)) (e : atI xs i = some d) (k : R d M) : ixD (.ref p) (.int i) M R := ⟨xs, d, h, e, k⟩
theorem atI_1 {α : Type} {x y : α} {xs : List α} : atI (x :: y :: xs) 1 = some y := atI_get (b := x :: y :: xs) (k := 1) (by simp)
theorem cutl1 {d : D} {ds : List D} : cutL (d :: ds) (some 1) none = ds := by
  unfold cutL
  rw [show (some (1 : Int)) = some ((1 : Nat) : Int) from rfl, HT.sIx_nat]
  have e : HT.sIx (d :: ds).length (d :: ds).length none = (d :: ds).length := rfl
  rw [e, List.length_cons, Nat.min_eq_left (by omega), List.drop_succ_cons, List.drop_zero, List.take_of_length_le (by omega)]
theorem pure_law_points_good {A : Ad} (ds M R EX) (h : sp_law_points_good A ds M R EX) : t_law_points_good A (fun C fs _ M' => WkX EX C fs M') (endsOf R) (startD n_law_points_good ds) M := by
  obtain ⟨r, p, rows, rfl, hp, hne, hl, hx, k⟩ := h
  have zz := sizeLine_eq
  replace k := Wk.self k
  unfold t_law_points_good
  simp only [dVar, dC, dOp, dTest, dNot, dNil, dCons, dTup, dLst, dNext, dSeq, dRet, dRetN, dExpr, dBrk, dCnt, dSet, gN, gTp, gLs, gsNil, gsCons, dAsg, dCall, dPart, dNoPart, dCB, minD, maxD, absD, dNeg, dPar, dAug, augAdd, dNotV, startD, endsOf, intI, cmpI, iIfS, iAnd, iOr, iAndV, iOrV, iIfE, iEqS, iEqI, iEqB, iNeS, iNeI, iIs, iIsNot, iInC, iNotInC, iAddI, iAddT, iAddS, List.map_cons, List.map_nil, List.length_cons, List.length_nil, List.replicate, List.getElem?_cons_zero, List.getElem?_cons_succ, List.cons_append, List.nil_append, List.set_cons_zero, List.set_cons_succ, Nat.reduceAdd, Nat.reduceSub, true_and, decide_eq_true_eq, Bool.not_eq_true', decide_eq_false_iff_not, ixr4, dChain, dLc, dIter]
  match rows, hp, hne, hl, hx, k with
  | [a], hp, _, hl, hx, k =>
    refine len_lst hp ?_
    simp only [iEqI, decide_eq_true_eq]
    refine if_t rfl (ix_lst hp atI_hd (len_str (hx a (by simp)) ?_))
    show Wk R (.bl (decide ((0 : Int) < (a.length : Int)))) M
    rw [show decide ((0 : Int) < (a.length : Int)) = decide (0 < a.length) from decide_eq_decide.mpr (by omega)]
    exact k
  | a :: b :: t, hp, _, hl, hx, k =>
    have ha := hx a (by simp)
    have hb := hx b (by simp)
    simp only [pgB] at k
    have e1 : ((List.map D.str (a :: b :: t)).length : Int) = ((t.length + 2 : Nat) : Int) := by simp; omega
    refine len_lst hp ?_
    simp only [iEqI, decide_eq_true_eq, e1]
    refine if_f (by omega) ?_
    by_cases q1 : r.e = o_rows
    · rw [if_pos q1] at k
      refine if_t q1 (ix_lst hp atI_hd (len_str ha ?_))
      simp only [cmpI]
      by_cases q2 : 1 ≤ a.length
      · rw [decide_eq_true q2, Bool.true_and] at k
        rw [decide_eq_true (show (1 : Int) ≤ (a.length : Int) by omega)]
        by_cases q3 : a.length ≤ 3
        · rw [decide_eq_true q3, Bool.true_and] at k
          rw [decide_eq_true (show (a.length : Int) ≤ 3 by omega)]
          refine ⟨_, hp, fun p2 hp2 => ?_⟩
          rw [List.map_cons, cutl1]
          refine ⟨_, mupd_same, fun D0 hD => ?_⟩
          have ne : p2 ≠ D0 := fun z => by subst z; rw [mupd_same] at hD; cases hD
          refine all_lc (p := fun x => match x with | .str c => decide (c.length = 3) | _ => false) hD (by rw [List.length_map]; simp at hl ⊢; omega) (fun acc => by rw [mupd_ne ne]; exact mupd_same) (fun x hx' acc R' hR => ?_) (fun x ρ ρ' M P Q h k => h _ _ k) ?_
          · rw [List.mem_map] at hx'
            obtain ⟨c, hc, rfl⟩ := hx'
            refine len_str (R := fun y M1 => eqD y (.int 3) M1 R') (hx c (by simp at hc ⊢; exact .inr hc)) ?_
            show R' (.bl (decide ((c.length : Int) = 3))) _
            rw [show decide ((c.length : Int) = 3) = decide (c.length = 3) from decide_eq_decide.mpr (by omega)]
            exact hR
          · rw [List.all_map]
            obtain ⟨M2, sb, k⟩ := k
            exact ⟨M2, fun u o e => msub_new hp2 _ _ (sb u o e), k⟩
        · rw [decide_eq_false (show ¬ (a.length : Int) ≤ 3 by omega)]
          rw [decide_eq_false q3, Bool.false_and] at k
          exact k
      · rw [decide_eq_false (show ¬ (1 : Int) ≤ (a.length : Int) by omega)]
        rw [decide_eq_false q2, Bool.false_and, Bool.false_and] at k
        exact k
    · rw [if_neg q1] at k
      refine if_f q1 (len_lst hp ?_)
      simp only [iGt, e1, decide_eq_true_eq]
      by_cases q2 : 2 < t.length + 2
      · rw [if_pos (.inl q2)] at k
        exact if_t (by omega) k
      · refine if_f (by omega) ?_
        by_cases q3 : r.e = o_none
        · rw [if_pos (.inr q3)] at k
          exact if_t q3 k
        · rw [if_neg (fun h => by rcases h with h | h; exact q2 h; exact q3 h)] at k
          refine if_f q3 ?_
          by_cases q4 : r.e = o_part
          · rw [if_pos q4] at k
            refine if_t q4 (ix_lst hp atI_hd (len_str ha ?_))
            by_cases q5 : 0 < a.length
            · rw [decide_eq_true q5, Bool.true_and] at k
              simp only [iGt, decide_eq_true (show (0 : Int) < (a.length : Int) by omega), if_true]
              refine ix_lst hp atI_1 (len_str hb ?_)
              show Wk R (.bl (decide ((0 : Int) < (b.length : Int)))) M
              rw [show decide ((0 : Int) < (b.length : Int)) = decide (0 < b.length) from decide_eq_decide.mpr (by omega)]
              exact k
            · rw [decide_eq_false q5, Bool.false_and] at k
              simp only [iGt, decide_eq_false (show ¬ (0 : Int) < (a.length : Int) by omega), Bool.false_eq_true, if_false]
              exact k
          · rw [if_neg q4] at k
            refine if_f q4 (ix_lst hp atI_hd (len_str ha ?_))
            refine ix_lst (d := .str b) hp atI_1 ?_
            refine len_str hb ?_
            show Wk R (.bl (decide ((0 : Int) < (a.length : Int) + (b.length : Int)))) M
            rw [show decide ((0 : Int) < (a.length : Int) + (b.length : Int)) = decide (0 < a.length + b.length) from decide_eq_decide.mpr (by omega)]
            exact k
end DL

set_option Elab.async false
set_option linter.all false
set_option maxRecDepth 100000
set_option maxHeartbeats 4000000
namespace DL
open PySem L2
theorem any_lc {g : DG} {te : DE} {gd : DM → Prop} {D0 : Addr} {ρ : Env} {p : D → Bool} {xs : List D} {M : DM} {R : DQ} (hD : M D0 = none) (hz : xs.length < sizeLine) (hg : ∀ acc, gd (mupd M D0 (.lst acc)))
    (hf : ∀ x ∈ xs, ∀ acc R, R (.bl (p x)) (mupd M D0 (.lst acc)) → g x ρ (mupd M D0 (.lst acc)) fun ρ1 M1 => te noW ρ1 M1 R) (hm : ∀ x (ρ ρ' : Env) M (P Q : Env → DM → Prop), (∀ ρ1 M1, P ρ1 M1 → Q ρ1 M1) → g x ρ M P → g x ρ M Q) (k : R (.bl (xs.any p)) M) :
    lcF g dYes te gd D0 ρ (fun M2 => anyD [.ref D0] M2 R) xs (mupd M D0 (.lst [])) := by
  refine lcF_pure (f := fun x => .bl (p x)) xs [] (by simpa using hz) hg (fun x hx acc R' h => hf x hx acc R' h) ?_ hm fun _ _ _ _ h k => h _ _ k
  refine ⟨xs.map p, M, ?_, msub_new hD, ?_⟩
  · rw [mupd_same, List.nil_append, List.map_map]; rfl
  · rw [List.any_map]; exact k
def BGc : List Nat := [46, 95, 48, 49, 56, 116]
def clean (b : List Nat) : List Nat := b.filter fun y => !decide (y = 95)
def wholeL (r : Rdr) (rows : List (List Nat)) : List Nat := if r.e = o_rows then joinL [] rows else rows.headD []
def noughtB (r : Rdr) (w : List Nat) : Bool := if 1 < w.length ∧ w.head? = some 48 ∧ (r.c = o_none ∨ (r.c = o_eight ∧ 56 ∈ w)) then false else true
def ownB (r : Rdr) (s : List Nat) : Bool :=
  if midL r s = [] then false
  else if ((midL r s).any fun c => !decide (c ∈ BGc)) = true then false
  else if ugB r (midL r s) = false then false
  else if r.f = o_plain ∧ 116 ∈ midL r s then false
  else if pgB r (splL 46 [] (clean (midL r s))) = false then false
  else noughtB r (wholeL r (splL 46 [] (clean (midL r s))))
theorem splL_ne (c : Nat) : ∀ (s acc : List Nat), splL c acc s ≠ []
  | [], acc => by unfold splL; simp
  | x :: r, acc => by unfold splL; split; simp; exact splL_ne c r _
theorem splLl (c : Nat) : ∀ (s acc : List Nat), (splL c acc s).length ≤ s.length + 1
  | [], acc => by unfold splL; simp
  | x :: r, acc => by unfold splL; split; have := splLl c r []; simp; omega; have := splLl c r (acc ++ [x]); simp; omega
theorem splL_sum (c : Nat) : ∀ (s acc : List Nat), ((splL c acc s).map (·.length)).sum ≤ acc.length + s.length
  | [], acc => by unfold splL; simp
  | x :: r, acc => by
    unfold splL
    split
    · have := splL_sum c r []; simp at this ⊢; omega
    · have := splL_sum c r (acc ++ [x]); simp at this ⊢; omega
theorem le_sum {xs : List (List Nat)} {x : List Nat} (h : x ∈ xs) : x.length ≤ (xs.map (·.length)).sum := by
  induction xs with
  | nil => cases h
  | cons y r ih =>
    rcases List.mem_cons.mp h with e | e
    · subst e; simp
    · have := ih e; simp; omega
theorem clean_le (b : List Nat) : (clean b).length ≤ b.length := List.length_filter_le _ _
def sp_law_is_read (_ : Ad) : DSp := fun ds M Q _ => ∃ (r : Rdr) (s : List Nat), ds = [r.D, .str s] ∧ s.length ≤ 900 ∧ Q (.bl (ownB r s)) M
def t_law_is_read (A : Ad) : DS := dSeq (dSet 2 (dCall (sp_law_middle A) (dCons (dVar 0) (dCons (dVar 1) (dNil))))) (dSeq (dIfS (dOr (dTest (dOp eqD (dCB lenD (dCons (dVar 2) (dNil))) (dC (.int 0)))) (dOr (dTest (dCB anyD (dCons (dLc (dIter (dVar 2)) (gN 5) (dYes) (dOp notInD (dVar 5) (dC (.str [46, 95, 48, 49, 56, 116]))) [5]) (dNil)))) (dNot (dTest (dCall (sp_law_unders_good A) (dCons (dVar 0) (dCons (dVar 2) (dNil)))))))) (dRet (dC (.bl false))) (dNext)) (dSeq (dIfS (dAnd (dTest (dOp eqD (dOp ixD (dVar 0) (dC (.int 5))) (dC (.str [112, 108, 97, 105, 110])))) (dTest (dOp inD (dC (.str [116])) (dVar 2)))) (dRet (dC (.bl false))) (dNext)) (dSeq (dSet 3 (dMt "str" splitD (dRepl 95 (dVar 2)) (dCons (dC (.str [46])) (dNil)))) (dSeq (dIfS (dNot (dTest (dCall (sp_law_points_good A) (dCons (dVar 0) (dCons (dVar 3) (dNil)))))) (dRet (dC (.bl false))) (dNext)) (dSeq (dSet 4 (dOp ixD (dVar 3) (dC (.int 0)))) (dSeq (dIfS (dTest (dOp eqD (dOp ixD (dVar 0) (dC (.int 4))) (dC (.str [114, 111, 119, 115])))) (dSet 4 (dMt "str" joinD (dC (.str [])) (dCons (dVar 3) (dNil)))) (dNext)) (dSeq (dIfS (dAnd (dTest (dOp gtD (dCB lenD (dCons (dVar 4) (dNil))) (dC (.int 1)))) (dTest (dOp eqD (dOp ixD (dVar 4) (dC (.int 0))) (dC (.str [48]))))) (dIfS (dOr (dTest (dOp eqD (dOp ixD (dVar 0) (dC (.int 2))) (dC (.str [110, 111, 110, 101])))) (dAnd (dTest (dOp eqD (dOp ixD (dVar 0) (dC (.int 2))) (dC (.str [101, 105, 103, 104, 116])))) (dTest (dOp inD (dC (.str [56])) (dVar 4))))) (dRet (dC (.bl false))) (dNext)) (dNext)) (dRet (dC (.bl true))))))))))
abbrev n_law_is_read : List Str := ["_law_reader_here", "_law_text_here", "_law_body", "_law_rows", "_law_whole", "_law_sign"]
theorem any_body {W : DW} {r t : D} {b : List Nat} {M : DM} {R : DQ} (hz : b.length ≤ 1000) (k : R (.bl (b.any fun c => !decide (c ∈ BGc))) M) :
    dLc (dIter (dVar 2)) (gN 5) dYes (dOp notInD (dVar 5) (dC (.str [46, 95, 48, 49, 56, 116]))) [5] W [some r, some t, some (.str b), none, none, none] M fun x M1 => anyD [x] M1 R := by
  intro D0 hD
  refine any_lc (p := fun x => match x with | .str [c] => !decide (c ∈ BGc) | _ => false) hD (by rw [List.length_map]; have z := sizeLine_eq; omega) (fun _ => trivial) (fun x hx acc R' hR => ?_) (fun x ρ ρ' M P Q h k => h _ _ k) ?_
  · rw [List.mem_map] at hx
    obtain ⟨c, _, rfl⟩ := hx
    exact hR
  · rw [List.any_map]
    exact k
theorem ir6 {W : DW} {r : Rdr} {t b : D} {w : List Nat} {p : Addr} {M : DM} {R : DQ} (hz : w.length ≤ 1000) (k : Wk R (.bl (noughtB r w)) M) (x : Option D) :
    dIfS (dAnd (dTest (dOp gtD (dCB lenD (dCons (dVar 4) (dNil))) (dC (.int 1)))) (dTest (dOp eqD (dOp ixD (dVar 4) (dC (.int 0))) (dC (.str [48]))))) (dIfS (dOr (dTest (dOp eqD (dOp ixD (dVar 0) (dC (.int 2))) (dC (.str [110, 111, 110, 101])))) (dAnd (dTest (dOp eqD (dOp ixD (dVar 0) (dC (.int 2))) (dC (.str [101, 105, 103, 104, 116])))) (dTest (dOp inD (dC (.str [56])) (dVar 4))))) (dRet (dC (.bl false))) (dNext)) (dNext) W
      { endsOf R with nx := fun ρ M => dRet (dC (.bl true)) W (endsOf R) ρ M } [some r.D, some t, some b, some (.ref p), some (.str w), x] M := by
  have zz := sizeLine_eq
  unfold noughtB at k
  simp only [dVar, dC, dOp, dTest, dNot, dNil, dCons, dTup, dLst, dNext, dSeq, dRet, dRetN, dExpr, dBrk, dCnt, dSet, gN, gTp, gLs, gsNil, gsCons, dAsg, dCall, dPart, dNoPart, dCB, minD, maxD, absD, dNeg, dPar, dAug, augAdd, dNotV, startD, endsOf, intI, cmpI, iIfS, iAnd, iOr, iAndV, iOrV, iIfE, iEqS, iEqI, iEqB, iNeS, iNeI, iIs, iIsNot, iInC, iNotInC, iAddI, iAddT, iAddS, List.map_cons, List.map_nil, List.length_cons, List.length_nil, List.replicate, List.getElem?_cons_zero, List.getElem?_cons_succ, List.cons_append, List.nil_append, List.set_cons_zero, List.set_cons_succ, Nat.reduceAdd, Nat.reduceSub, true_and, decide_eq_true_eq, Bool.not_eq_true', decide_eq_false_iff_not, ixr2]
  refine len_str hz ?_
  simp only [iGt]
  by_cases c1 : 1 < w.length
  · rw [decide_eq_true (show (1 : Int) < (w.length : Int) by omega)]
    refine if_t rfl ?_
    cases w with
    | nil => simp at c1
    | cons a w =>
      refine ⟨by omega, ?_⟩
      simp only [atI_hd, iEqS, List.cons.injEq, and_true, decide_eq_true_eq]
      by_cases c2 : a = 48
      · refine if_t c2 ?_
        by_cases c3 : r.c = [110, 111, 110, 101]
        · rw [if_pos ⟨c1, by rw [c2]; rfl, .inl c3⟩] at k
          exact if_t c3 k
        · refine if_f c3 ?_
          by_cases c4 : r.c = [101, 105, 103, 104, 116]
          · refine if_t c4 ?_
            by_cases c5 : 56 ∈ a :: w
            · rw [if_pos ⟨c1, by rw [c2]; rfl, .inr ⟨c4, c5⟩⟩] at k
              exact if_t c5 k
            · rw [if_neg (fun h => by rcases h.2.2 with h | h; exact c3 h; exact c5 h.2)] at k
              exact if_f c5 k
          · rw [if_neg (fun h => by rcases h.2.2 with h | h; exact c3 h; exact c4 h.1)] at k
            exact if_f c4 k
      · rw [if_neg (fun h => c2 (Option.some.inj h.2.1))] at k
        exact if_f c2 k
  · rw [decide_eq_false (show ¬ (1 : Int) < (w.length : Int) by omega)]
    rw [if_neg (fun h => c1 h.1)] at k
    exact if_f Bool.false_ne_true k
theorem skip2 {p q : Prop} [Decidable p] [Decidable q] {X Y : Prop} (h : ¬(p ∧ q)) (k : Y) : if p then (if q then X else Y) else Y := by
  split
  · rw [if_neg (fun hq => h ⟨by assumption, hq⟩)]; exact k
  · exact k
theorem sub_len {n : Nat} {s : List Nat} (hs : s.length ≤ 900) (b : List Nat) (hb : b.length ≤ s.length) : (clean b).length ≤ 900 := Nat.le_trans (clean_le b) (by omega)
theorem joinL0_len : ∀ ys : List (List Nat), (joinL [] ys).length = (ys.map (·.length)).sum
  | [] => rfl
  | [a] => by simp [joinL]
  | a :: b :: t => by
    show (a ++ ([] ++ joinL [] (b :: t))).length = _
    rw [List.nil_append, List.length_append, joinL0_len (b :: t)]
    simp
theorem pure_law_is_read {A : Ad} (ds M R EX) (h : sp_law_is_read A ds M R EX) : t_law_is_read A (fun C fs _ M' => WkX EX C fs M') (endsOf R) (startD n_law_is_read ds) M := by
  obtain ⟨r, s, rfl, hs, k⟩ := h
  have zz := sizeLine_eq
  replace k := Wk.self k
  unfold t_law_is_read
  simp only [dVar, dC, dOp, dTest, dNot, dNil, dCons, dTup, dLst, dNext, dSeq, dRet, dRetN, dExpr, dBrk, dCnt, dSet, gN, gTp, gLs, gsNil, gsCons, dAsg, dCall, dPart, dNoPart, dCB, minD, maxD, absD, dNeg, dPar, dAug, augAdd, dNotV, startD, endsOf, intI, cmpI, iIfS, iAnd, iOr, iAndV, iOrV, iIfE, iEqS, iEqI, iEqB, iNeS, iNeI, iIs, iIsNot, iInC, iNotInC, iAddI, iAddT, iAddS, List.map_cons, List.map_nil, List.length_cons, List.length_nil, List.replicate, List.getElem?_cons_zero, List.getElem?_cons_succ, List.cons_append, List.nil_append, List.set_cons_zero, List.set_cons_succ, Nat.reduceAdd, Nat.reduceSub, true_and, decide_eq_true_eq, Bool.not_eq_true', decide_eq_false_iff_not, ixr5, ixr4, ixr2]
  unfold ownB at k
  refine ⟨r, s, rfl, by omega, ?_⟩
  have hb : (midL r s).length ≤ 900 := Nat.le_trans (midL_le r s) hs
  generalize midL r s = b at k hb ⊢
  refine len_str (by omega) ?_
  simp only [iEqI, decide_eq_true_eq]
  by_cases c1 : b = []
  · rw [if_pos c1] at k
    exact if_t (by rw [c1]; rfl) k
  rw [if_neg c1] at k
  have hb0 : ¬ ((b.length : Int) = 0) := fun h => c1 (List.eq_nil_of_length_eq_zero (by omega))
  refine if_f hb0 ?_
  refine any_body (by omega) ?_
  by_cases c2 : (b.any fun c => !decide (c ∈ BGc)) = true
  · rw [if_pos c2] at k
    exact if_t c2 k
  rw [if_neg c2] at k
  refine if_f c2 ?_
  refine ⟨r, b, rfl, by omega, ?_⟩
  by_cases c3 : ugB r b = false
  · rw [if_pos c3] at k
    rw [c3]
    exact k
  rw [if_neg c3] at k
  have c3' : ugB r b = true := by cases h : ugB r b with | true => rfl | false => exact absurd h c3
  rw [c3']
  simp only [iInC, decide_eq_true_eq, Bool.true_eq_false, if_false]
  by_cases c4 : r.f = o_plain ∧ 116 ∈ b
  · rw [if_pos c4] at k
    exact if_t c4.1 (if_t c4.2 k)
  · rw [if_neg c4] at k
    refine skip2 c4 ?_
    have hc := clean_le b
    refine ⟨by omega, by first | trivial | rfl, by decide, ?_, fun p hp => ?_⟩
    · show (clean b).length + 2 ≤ sizeLine; omega
    show sp_law_points_good A [r.D, .ref p] (mupd M p (.lst ((splL 46 [] (clean b)).map D.str))) _ _
    have f1 := splL_ne 46 (clean b) []
    have f2 := splLl 46 (clean b) []
    have f3 := splL_sum 46 (clean b) []
    rw [List.length_nil, Nat.zero_add] at f3
    generalize splL 46 [] (clean b) = rows at k f1 f2 f3 ⊢
    refine ⟨r, p, rows, rfl, mupd_same, f1, by omega, fun x hx => by have := le_sum hx; omega, ?_⟩
    cases c5 : pgB r rows with
    | false =>
      rw [if_pos c5] at k
      obtain ⟨M2, sb, k⟩ := k
      exact ⟨M2, fun u o e => msub_new hp _ _ (sb u o e), k⟩
    | true =>
      rw [if_neg (by rw [c5]; exact Bool.noConfusion)] at k
      have k2 : Wk R (.bl (noughtB r (wholeL r rows))) (mupd M p (.lst (rows.map D.str))) := by
        obtain ⟨M2, sb, k⟩ := k
        exact ⟨M2, fun u o e => msub_new hp _ _ (sb u o e), k⟩
      obtain ⟨a, t, er⟩ : ∃ a t, rows = a :: t := by cases rows with | nil => exact absurd rfl f1 | cons a t => exact ⟨a, t, rfl⟩
      refine if_f (by decide) (ix_lst (d := .str a) mupd_same (by rw [er]; exact atI_hd) ?_)
      have hm : (mupd M p (.lst (rows.map D.str))) p = some (.lst (rows.map D.str)) := mupd_same
      generalize mupd M p (.lst (rows.map D.str)) = M1 at k2 hm ⊢
      unfold wholeL at k2
      by_cases c6 : r.e = o_rows
      · rw [if_pos c6] at k2
        refine if_t c6 ?_
        refine ⟨by first | trivial | rfl, rows, M1, hm, fun _ _ e => e, by rw [List.length_nil, Nat.mul_zero]; omega, ?_⟩
        have q := ir6 (W := fun C fs x M' => WkX EX C fs M') (t := .str s) (b := .str b) (p := p) (by rw [joinL0_len]; omega) k2 none
        simp only [dVar, dC, dOp, dTest, dNot, dNil, dCons, dTup, dLst, dNext, dSeq, dRet, dRetN, dExpr, dBrk, dCnt, dSet, gN, gTp, gLs, gsNil, gsCons, dAsg, dCall, dPart, dNoPart, dCB, minD, maxD, absD, dNeg, dPar, dAug, augAdd, dNotV, startD, endsOf, intI, cmpI, iIfS, iAnd, iOr, iAndV, iOrV, iIfE, iEqS, iEqI, iEqB, iNeS, iNeI, iIs, iIsNot, iInC, iNotInC, iAddI, iAddT, iAddS, List.map_cons, List.map_nil, List.length_cons, List.length_nil, List.replicate, List.getElem?_cons_zero, List.getElem?_cons_succ, List.cons_append, List.nil_append, List.set_cons_zero, List.set_cons_succ, Nat.reduceAdd, Nat.reduceSub, true_and, decide_eq_true_eq, Bool.not_eq_true', decide_eq_false_iff_not, ixr2] at q
        simp only [iInC, decide_eq_true_eq]
        exact q
      · rw [if_neg c6] at k2
        refine if_f c6 ?_
        have ea : rows.headD [] = a := by rw [er]; rfl
        rw [ea] at k2
        have q := ir6 (W := fun C fs x M' => WkX EX C fs M') (t := .str s) (b := .str b) (p := p) (by have := le_sum (x := a) (xs := rows) (by rw [er]; simp); omega) k2 none
        simp only [dVar, dC, dOp, dTest, dNot, dNil, dCons, dTup, dLst, dNext, dSeq, dRet, dRetN, dExpr, dBrk, dCnt, dSet, gN, gTp, gLs, gsNil, gsCons, dAsg, dCall, dPart, dNoPart, dCB, minD, maxD, absD, dNeg, dPar, dAug, augAdd, dNotV, startD, endsOf, intI, cmpI, iIfS, iAnd, iOr, iAndV, iOrV, iIfE, iEqS, iEqI, iEqB, iNeS, iNeI, iIs, iIsNot, iInC, iNotInC, iAddI, iAddT, iAddS, List.map_cons, List.map_nil, List.length_cons, List.length_nil, List.replicate, List.getElem?_cons_zero, List.getElem?_cons_succ, List.cons_append, List.nil_append, List.set_cons_zero, List.set_cons_succ, Nat.reduceAdd, Nat.reduceSub, true_and, decide_eq_true_eq, Bool.not_eq_true', decide_eq_false_iff_not, ixr2] at q
        simp only [iInC, decide_eq_true_eq]
        exact q
end DL

set_option Elab.async false
set_option linter.all false
set_option maxRecDepth 100000
set_option maxHeartbeats 4000000
namespace DL
open PySem L2
def baseO (r : Rdr) (b : List Nat) : Int := if r.c = o_eight ∧ b.head? = some 48 then 8 else 10
def belO (r : Rdr) (b : List Nat) : Int := if r.e ∈ [o_part, o_loose] ∧ 46 ∈ b then 10 ^ (b.length - idxL 46 b - 1) else 1
def noPt (b : List Nat) : List Nat := b.filter fun c => !decide (c = 46)
def ownN (r : Rdr) (s : List Nat) : D := let b := clean (midL r s); lowD (if 45 ∈ s then 0 - numB (baseO r b) 0 (noPt b) else numB (baseO r b) 0 (noPt b)) (belO r b)
def ownR (r : Rdr) (s : List Nat) : D := if ownB r s = true then ownN r s else .non
theorem own_ne {r : Rdr} {s : List Nat} (h : ownB r s = true) : clean (midL r s) ≠ [] := by
  intro e
  unfold ownB at h
  rw [e] at h
  have : pgB r (splL 46 [] []) = false := rfl
  rw [this] at h
  simp at h
theorem own_mem {r : Rdr} {s : List Nat} (h : ownB r s = true) : ∀ c ∈ midL r s, c ∈ BGc := by
  unfold ownB at h
  intro c hc
  by_cases q : ((midL r s).any fun c => !decide (c ∈ BGc)) = true
  · rw [if_pos q] at h
    simp at h
  · simp at q
    exact q c hc
theorem clean_mem {r : Rdr} {s : List Nat} (h : ownB r s = true) : ∀ c ∈ clean (midL r s), c = 46 ∨ c ∈ FGc := by
  intro c hc
  obtain ⟨h1, h2⟩ := List.mem_filter.mp hc
  have := own_mem h c h1
  simp [BGc, FGc] at this h2 ⊢
  omega
def sp_law_read (_ : Ad) : DSp := fun ds M Q _ => ∃ (r : Rdr) (s : List Nat), ds = [r.D, .str s] ∧ s.length ≤ 900 ∧ Q (ownR r s) M
def t_law_read (A : Ad) : DS := dSeq (dIfS (dNot (dTest (dCall (sp_law_is_read A) (dCons (dVar 0) (dCons (dVar 1) (dNil)))))) (dRet (dC .non)) (dNext)) (dSeq (dSet 2 (dRepl 95 (dCall (sp_law_middle A) (dCons (dVar 0) (dCons (dVar 1) (dNil)))))) (dSeq (dSet 3 (dC (.int 10))) (dSeq (dIfS (dAnd (dTest (dOp eqD (dOp ixD (dVar 0) (dC (.int 2))) (dC (.str [101, 105, 103, 104, 116])))) (dTest (dOp eqD (dOp ixD (dVar 2) (dC (.int 0))) (dC (.str [48]))))) (dSet 3 (dC (.int 8))) (dNext)) (dSeq (dSet 4 (dC (.int 0))) (dSeq (dFor (dIter (dVar 2)) (gN 5) (dIfS (dTest (dOp neD (dVar 5) (dC (.str [46])))) (dSet 4 (dOp addD (dOp mulD (dVar 4) (dVar 3)) (dOp ixD (dLst (dCons (dC (.int 0)) (dCons (dC (.int 1)) (dCons (dC (.int 8)) (dCons (dC (.int 3)) (dNil)))))) (dMt "str" indexD (dC (.str [48, 49, 56, 116])) (dCons (dVar 5) (dNil)))))) (dNext))) (dSeq (dSet 6 (dC (.int 1))) (dSeq (dIfS (dAnd (dTest (dOp inD (dOp ixD (dVar 0) (dC (.int 4))) (dTup (dCons (dC (.str [112, 97, 114, 116])) (dCons (dC (.str [108, 111, 111, 115, 101])) (dNil)))))) (dTest (dOp inD (dC (.str [46])) (dVar 2)))) (dFor (dRng1 (dCons (dOp subD (dOp subD (dCB lenD (dCons (dVar 2) (dNil))) (dMt "str" indexD (dVar 2) (dCons (dC (.str [46])) (dNil)))) (dC (.int 1))) (dNil))) (gN 7) (dSet 6 (dOp mulD (dVar 6) (dC (.int 10))))) (dNext)) (dSeq (dIfS (dTest (dOp inD (dC (.str [45])) (dVar 1))) (dSet 4 (dOp subD (dC (.int 0)) (dVar 4))) (dNext)) (dRet (dCall (sp_law_lowest A) (dCons (dVar 4) (dCons (dVar 6) (dNil)))))))))))))
abbrev n_law_read : List Str := ["_law_reader_here", "_law_text_here", "_law_body", "_law_base", "_law_number", "_law_sign", "_law_below", "_law_k"]
def t_lr4 (A : Ad) : DS := dSeq (dSet 4 (dC (.int 0))) (dSeq (dFor (dIter (dVar 2)) (gN 5) (dIfS (dTest (dOp neD (dVar 5) (dC (.str [46])))) (dSet 4 (dOp addD (dOp mulD (dVar 4) (dVar 3)) (dOp ixD (dLst (dCons (dC (.int 0)) (dCons (dC (.int 1)) (dCons (dC (.int 8)) (dCons (dC (.int 3)) (dNil)))))) (dMt "str" indexD (dC (.str [48, 49, 56, 116])) (dCons (dVar 5) (dNil)))))) (dNext))) (dSeq (dSet 6 (dC (.int 1))) (dSeq (dIfS (dAnd (dTest (dOp inD (dOp ixD (dVar 0) (dC (.int 4))) (dTup (dCons (dC (.str [112, 97, 114, 116])) (dCons (dC (.str [108, 111, 111, 115, 101])) (dNil)))))) (dTest (dOp inD (dC (.str [46])) (dVar 2)))) (dFor (dRng1 (dCons (dOp subD (dOp subD (dCB lenD (dCons (dVar 2) (dNil))) (dMt "str" indexD (dVar 2) (dCons (dC (.str [46])) (dNil)))) (dC (.int 1))) (dNil))) (gN 7) (dSet 6 (dOp mulD (dVar 6) (dC (.int 10))))) (dNext)) (dSeq (dIfS (dTest (dOp inD (dC (.str [45])) (dVar 1))) (dSet 4 (dOp subD (dC (.int 0)) (dVar 4))) (dNext)) (dRet (dCall (sp_law_lowest A) (dCons (dVar 4) (dCons (dVar 6) (dNil)))))))))
def t_lr6 (A : Ad) : DS := dSeq (dSet 6 (dC (.int 1))) (dSeq (dIfS (dAnd (dTest (dOp inD (dOp ixD (dVar 0) (dC (.int 4))) (dTup (dCons (dC (.str [112, 97, 114, 116])) (dCons (dC (.str [108, 111, 111, 115, 101])) (dNil)))))) (dTest (dOp inD (dC (.str [46])) (dVar 2)))) (dFor (dRng1 (dCons (dOp subD (dOp subD (dCB lenD (dCons (dVar 2) (dNil))) (dMt "str" indexD (dVar 2) (dCons (dC (.str [46])) (dNil)))) (dC (.int 1))) (dNil))) (gN 7) (dSet 6 (dOp mulD (dVar 6) (dC (.int 10))))) (dNext)) (dSeq (dIfS (dTest (dOp inD (dC (.str [45])) (dVar 1))) (dSet 4 (dOp subD (dC (.int 0)) (dVar 4))) (dNext)) (dRet (dCall (sp_law_lowest A) (dCons (dVar 4) (dCons (dVar 6) (dNil)))))))
theorem idx_fig {c : Nat} (h : c ∈ FGc) : atI [D.int 0, D.int 1, D.int 8, D.int 3] (idxL c [48, 49, 56, 116] : Nat) = some (.int (wI c)) := by
  simp only [FGc, List.mem_cons, List.not_mem_nil, or_false] at h
  rcases h with rfl | rfl | rfl | rfl <;> rfl
theorem onum_loop {r t b : D} {bs : Int} {W : DW} {E : DEnds} (hb : -100 < bs ∧ bs < 100) : ∀ (s : List Nat) (n : Int) (x : Option D) (M : DM), (∀ c ∈ s, c = 46 ∨ c ∈ FGc) → (∀ x M1, MSub M M1 → E.nx [some r, some t, some b, some (.int bs), some (.int (numB bs n (noPt s))), x, none, none] M1) →
    dLoop (gN 5) ((dIfS (dTest (dOp neD (dVar 5) (dC (.str [46])))) (dSet 4 (dOp addD (dOp mulD (dVar 4) (dVar 3)) (dOp ixD (dLst (dCons (dC (.int 0)) (dCons (dC (.int 1)) (dCons (dC (.int 8)) (dCons (dC (.int 3)) (dNil)))))) (dMt "str" indexD (dC (.str [48, 49, 56, 116])) (dCons (dVar 5) (dNil)))))) (dNext)) W) anyM (s.map fun c => .str [c]) E [some r, some t, some b, some (.int bs), some (.int n), x, none, none] M
  | [], n, x, M, _, k => ⟨trivial, k x M (fun _ _ e => e)⟩
  | c :: s, n, x, M, hs, k => by
    refine ⟨trivial, ?_⟩
    show (match !decide ([c] = [46]) with | true => _ | false => _)
    by_cases h : c = 46
    · subst h
      exact onum_loop hb s n _ M (fun c h => hs c (by simp [h])) (by simpa [noPt] using k)
    · rw [decide_eq_false (show ¬[c] = [46] by simpa using h)]
      have hc : c ∈ FGc := by rcases hs c (by simp) with e | e; exact absurd e h; exact e
      refine ⟨cmul_r hb.1 hb.2, by show 4 ≤ sizeLine; decide, fun p hp => ⟨by first | trivial | rfl, hc, _, _, mupd_same, idx_fig hc, ?_⟩⟩
      refine onum_loop hb s (n * bs + wI c) _ (mupd M p (.lst [.int 0, .int 1, .int 8, .int 3])) (fun c h => hs c (by simp [h])) fun x M1 sb => ?_
      have := k x M1 (fun u o e => sb u o (msub_new hp u o e))
      simpa [noPt, h, numB] using this
theorem bel_loop {r t b bs n x : D} {xx : Option D} {W : DW} {E : DEnds} {M : DM} : ∀ (m : List Nat) (d : Int) (y : Option D), (∀ y, E.nx [some r, some t, some b, some bs, some n, xx, some (.int (d * 10 ^ m.length)), y] M) →
    dLoop (gN 7) ((dSet 6 (dOp mulD (dVar 6) (dC (.int 10)))) W) anyM (m.map fun i => .int (0 + (i : Nat))) E [some r, some t, some b, some bs, some n, xx, some (.int d), y] M
  | [], d, y, k => ⟨trivial, by simpa using k y⟩
  | i :: m, d, y, k => by
    refine ⟨trivial, cmul_r (by decide) (by decide), ?_⟩
    refine bel_loop (x := x) m (d * 10) _ fun y => ?_
    have := k y
    rw [List.length_cons, Int.pow_succ, Int.mul_comm (10 ^ m.length), ← Int.mul_assoc] at this
    exact this
theorem idx_lt {c : Nat} : ∀ {b : List Nat}, c ∈ b → (b.takeWhile fun x => !decide (x = c)).length < b.length
  | [], h => by cases h
  | x :: r, h => by
    rw [List.takeWhile_cons]
    by_cases q : x = c
    · rw [if_neg (by simp [q])]; simp
    · rw [if_pos (by simp [q])]
      rcases List.mem_cons.mp h with e | e
      · exact absurd e.symm q
      · have := idx_lt e; simp; omega
theorem below_ok {r : Rdr} {b : List Nat} (h : b.length ≤ 1000) : QOk (belO r b) := by
  unfold belO
  split
  · exact qok_pow (by omega)
  · exact qok_pow (k := 0) (by decide)
theorem pure_law_read {A : Ad} (ds M R EX) (h : sp_law_read A ds M R EX) : t_law_read A (fun C fs _ M' => WkX EX C fs M') (endsOf R) (startD n_law_read ds) M := by
  obtain ⟨r, s, rfl, hs, k⟩ := h
  have zz := sizeLine_eq
  replace k := Wk.self k
  unfold ownR at k
  have e : t_law_read A = dSeq (dIfS (dNot (dTest (dCall (sp_law_is_read A) (dCons (dVar 0) (dCons (dVar 1) (dNil)))))) (dRet (dC .non)) (dNext)) (dSeq (dSet 2 (dRepl 95 (dCall (sp_law_middle A) (dCons (dVar 0) (dCons (dVar 1) (dNil)))))) (dSeq (dSet 3 (dC (.int 10))) (dSeq (dIfS (dAnd (dTest (dOp eqD (dOp ixD (dVar 0) (dC (.int 2))) (dC (.str [101, 105, 103, 104, 116])))) (dTest (dOp eqD (dOp ixD (dVar 2) (dC (.int 0))) (dC (.str [48]))))) (dSet 3 (dC (.int 8))) (dNext)) (t_lr4 A)))) := rfl
  rw [e]
  refine ⟨r, s, rfl, hs, ?_⟩
  cases c1 : ownB r s with
  | false =>
    rw [if_neg (by rw [c1]; exact Bool.false_ne_true)] at k
    exact k
  | true =>
    rw [if_pos c1] at k
    have hb := midL_le r s
    have hcl := clean_le (midL r s)
    refine ⟨r, s, rfl, by omega, by omega, ?_⟩
    dsimp only
    show (dSeq (dSet 3 (dC (.int 10))) _) _ _ [some r.D, some (.str s), some (.str (clean (midL r s))), none, none, none, none, none] M
    have hne := own_ne c1
    have hmem := clean_mem c1
    unfold ownN at k
    generalize clean (midL r s) = b at k hne hmem hcl ⊢
    obtain ⟨b0, bt, eb⟩ : ∃ b0 bt, b = b0 :: bt := by cases b with | nil => exact absurd rfl hne | cons x y => exact ⟨x, y, rfl⟩
    have lr4 : t_lr4 A (fun C fs _ M' => WkX EX C fs M') (endsOf R) [some r.D, some (.str s), some (.str b), some (.int (baseO r b)), none, none, none, none] M := by
      have hbs : -100 < baseO r b ∧ baseO r b < 100 := by unfold baseO; split <;> decide
      have e4 : t_lr4 A = dSeq (dSet 4 (dC (.int 0))) (dSeq (dFor (dIter (dVar 2)) (gN 5) (dIfS (dTest (dOp neD (dVar 5) (dC (.str [46])))) (dSet 4 (dOp addD (dOp mulD (dVar 4) (dVar 3)) (dOp ixD (dLst (dCons (dC (.int 0)) (dCons (dC (.int 1)) (dCons (dC (.int 8)) (dCons (dC (.int 3)) (dNil)))))) (dMt "str" indexD (dC (.str [48, 49, 56, 116])) (dCons (dVar 5) (dNil)))))) (dNext))) (t_lr6 A)) := rfl
      rw [e4]
      refine onum_loop hbs b 0 none M hmem fun x M1 sb => ?_
      obtain ⟨M0, sb0, k⟩ := k
      have k1 : Wk R (lowD (if 45 ∈ s then 0 - numB (baseO r b) 0 (noPt b) else numB (baseO r b) 0 (noPt b)) (belO r b)) M1 := ⟨M0, fun u o e => sb u o (sb0 u o e), k⟩
      generalize numB (baseO r b) 0 (noPt b) = nn at k1 ⊢
      have fin : ∀ y, (dSeq (dIfS (dTest (dOp inD (dC (.str [45])) (dVar 1))) (dSet 4 (dOp subD (dC (.int 0)) (dVar 4))) (dNext)) (dRet (dCall (sp_law_lowest A) (dCons (dVar 4) (dCons (dVar 6) (dNil)))))) (fun C fs x M' => WkX EX C fs M') (endsOf R) [some r.D, some (.str s), some (.str b), some (.int (baseO r b)), some (.int nn), x, some (.int (belO r b)), y] M1 := by
        intro y
        show (match decide (45 ∈ s) with | true => _ | false => _)
        by_cases q : 45 ∈ s
        · rw [decide_eq_true q]
          rw [if_pos q] at k1
          exact ⟨trivial, _, _, rfl, below_ok (by omega), k1⟩
        · rw [decide_eq_false q]
          rw [if_neg q] at k1
          exact ⟨_, _, rfl, below_ok (by omega), k1⟩
      have e6 : t_lr6 A = dSeq (dSet 6 (dC (.int 1))) (dSeq (dIfS (dAnd (dTest (dOp inD (dOp ixD (dVar 0) (dC (.int 4))) (dTup (dCons (dC (.str [112, 97, 114, 116])) (dCons (dC (.str [108, 111, 111, 115, 101])) (dNil)))))) (dTest (dOp inD (dC (.str [46])) (dVar 2)))) (dFor (dRng1 (dCons (dOp subD (dOp subD (dCB lenD (dCons (dVar 2) (dNil))) (dMt "str" indexD (dVar 2) (dCons (dC (.str [46])) (dNil)))) (dC (.int 1))) (dNil))) (gN 7) (dSet 6 (dOp mulD (dVar 6) (dC (.int 10))))) (dNext)) (dSeq (dIfS (dTest (dOp inD (dC (.str [45])) (dVar 1))) (dSet 4 (dOp subD (dC (.int 0)) (dVar 4))) (dNext)) (dRet (dCall (sp_law_lowest A) (dCons (dVar 4) (dCons (dVar 6) (dNil))))))) := rfl
      rw [e6]
      refine ⟨by show 2 ≤ sizeLine; decide, ?_⟩
      show inD (.str r.e) c_PARTS M1 _
      rw [iInParts]
      show (match decide (r.e ∈ [o_part, o_loose]) with | true => _ | false => _)
      unfold belO at fin
      by_cases q1 : r.e ∈ [o_part, o_loose]
      · rw [decide_eq_true q1]
        show (match decide (46 ∈ b) with | true => _ | false => _)
        by_cases q2 : 46 ∈ b
        · rw [decide_eq_true q2]
          rw [if_pos ⟨q1, q2⟩] at fin
          refine ⟨by omega, by first | trivial | rfl, q2, trivial, trivial, ?_⟩
          have hidx : idxL 46 b < b.length := by
            unfold idxL
            exact idx_lt q2
          refine ⟨⟨by show -(2 ^ 62) ≤ ((b.length : Nat) : Int) - ((idxL 46 b : Nat) : Int) - 1; omega, by show ((b.length : Nat) : Int) - ((idxL 46 b : Nat) : Int) - 1 < 2 ^ 62; omega⟩, ?_⟩
          show dLoop _ _ anyM ((List.range (((b.length : Nat) : Int) - ((idxL 46 b : Nat) : Int) - 1).toNat).map _) _ _ _
          rw [show (((b.length : Nat) : Int) - ((idxL 46 b : Nat) : Int) - 1).toNat = b.length - idxL 46 b - 1 from by omega]
          refine bel_loop (x := .non) (List.range (b.length - idxL 46 b - 1)) 1 none fun y => ?_
          rw [List.length_range, Int.one_mul]
          exact fin y
        · rw [decide_eq_false q2]
          rw [if_neg (fun h => q2 h.2)] at fin
          exact fin none
      · rw [decide_eq_false q1]
        rw [if_neg (fun h => q1 h.1)] at fin
        exact fin none
    show (match decide (r.c = o_eight) with | true => _ | false => _)
    unfold baseO at lr4
    by_cases q1 : r.c = o_eight
    · rw [decide_eq_true q1]
      refine ⟨by omega, ?_⟩
      rw [show atI b 0 = some b0 from by rw [eb]; exact atI_hd]
      show (match decide ([b0] = [48]) with | true => _ | false => _)
      by_cases q2 : b0 = 48
      · rw [decide_eq_true (show [b0] = [48] by rw [q2])]
        rw [if_pos ⟨q1, by rw [eb, q2]; rfl⟩] at lr4
        exact lr4
      · rw [decide_eq_false (show ¬[b0] = [48] by simpa using q2)]
        rw [if_neg (fun h => q2 (by have := h.2; rw [eb] at this; exact Option.some.inj this))] at lr4
        exact lr4
    · rw [decide_eq_false q1]
      rw [if_neg (fun h => q1 h.1)] at lr4
      exact lr4
end DL

set_option Elab.async false
set_option linter.all false
set_option maxRecDepth 100000
set_option maxHeartbeats 4000000
namespace DL
open PySem L2
theorem run_none (r : Rdr) : ∀ s, run r s none = none
  | [] => rfl
  | _ :: s => run_none r s
theorem run_cons (r : Rdr) (c : Nat) (s : List Nat) (o : Option RS) : run r (c :: s) o = run r s (bh r o c) := rfl
theorem run_app (r : Rdr) (s t : List Nat) (o : Option RS) : run r (s ++ t) o = run r t (run r s o) := List.foldl_append
theorem bg_cases {c : Nat} (h : c ∈ BGc) : c = 46 ∨ c = 95 ∨ c ∈ FGc := by
  simp [BGc, FGc] at h ⊢; omega
theorem bh_fig {r : Rdr} {s : RS} {c : Nat} (h : c ∈ FGc) (p : ¬s.ph = h_tail) : bh r (some s) c = bhF r s c := by
  have h' : c = 48 ∨ c = 49 ∨ c = 56 ∨ c = 116 := by simpa [FGc] using h
  unfold bh
  simp only
  rw [if_neg (by omega), if_neg p, if_neg (by simp; omega), if_pos (by simpa using h')]
theorem bh_pt {r : Rdr} {s : RS} (p : ¬s.ph = h_tail) : bh r (some s) 46 = bhP r s := by
  unfold bh
  simp only
  rw [if_neg (by omega), if_neg p, if_neg (by decide), if_neg (by decide)]
  exact if_pos trivial
theorem bh_un {r : Rdr} {s : RS} (p : ¬s.ph = h_tail) : bh r (some s) 95 = bhU r s := by
  unfold bh
  simp only
  rw [if_neg (by omega), if_neg p, if_neg (by decide), if_neg (by decide), if_neg (by decide)]
def RS.wl (s : RS) (l : List Nat) : RS := ⟨s.ph, s.fi, s.ma, s.ro, s.rd, l, s.po⟩
theorem bhF_wl {r : Rdr} {s : RS} {l : List Nat} {c : Nat} : bhF r (s.wl l) c = bhF r s c := rfl
theorem bhF_some {r : Rdr} {s t : RS} {c : Nat} (h : bhF r s c = some t) : t.ph = h_number ∧ t.la = [102] := by
  unfold bhF at h
  repeat' split at h
  all_goals first | (cases h; exact ⟨rfl, rfl⟩) | cases h
theorem bhP_some {r : Rdr} {s t : RS} (h : bhP r s = some t) : t.ph = h_number ∧ t.la = [112] := by
  unfold bhP at h
  repeat' split at h
  all_goals first | (cases h; exact ⟨rfl, rfl⟩) | cases h
theorem ph_nt {t : RS} (h : t.ph = h_number) : ¬t.ph = h_tail := by rw [h]; decide
def uA (d : List Nat) : List Nat → List Nat → Bool
  | la, [] => !decide (la = [117])
  | la, c :: t => if c = 95 then (if d = o_none ∨ (¬la = [102] ∧ ¬(la = [117] ∧ d = o_free)) then false else uA d [117] t)
    else if c = 46 then (if la = [117] then false else uA d [112] t) else uA d [102] t
theorem body1 {r : Rdr} : ∀ (b : List Nat) (s : RS), (∀ c ∈ b, c ∈ BGc) → ¬s.ph = h_tail → (s.la = [102] ∨ s.la = [117] → s.ph = h_number) →
    whole r (run r b (some s)) = (uA r.d s.la b && whole r (run r (clean b) (some (s.wl (if s.la = [117] then [102] else s.la)))))
  | [], s, _, hp, hn => by
    show whole r (some s) = ((!decide (s.la = [117])) && whole r (some (s.wl (if s.la = [117] then [102] else s.la))))
    by_cases q : s.la = [117]
    · have := hn (.inr q)
      have e1 : whole r (some s) = false := by
        show (if ¬s.ph = h_number then decide (s.ph = h_tail) else if s.la = [102] then _ else if s.la = [112] then _ else false) = false
        rw [if_neg (fun h => h this), if_neg (by rw [q]; decide), if_neg (by rw [q]; decide)]
      rw [e1, decide_eq_true q]; rfl
    · rw [if_neg q, decide_eq_false q]; rfl
  | c :: b, s, hb, hp, hn => by
    have hb' : ∀ c ∈ b, c ∈ BGc := fun c h => hb c (by simp [h])
    rcases bg_cases (hb c (by simp)) with e | e | e
    · subst e
      rw [run_cons, bh_pt hp, show clean (46 :: b) = 46 :: clean b from rfl, run_cons, bh_pt (by exact hp)]
      unfold uA
      rw [if_neg (by decide), if_pos rfl]
      by_cases q : s.la = [117]
      · rw [if_pos q]
        have : bhP r s = none := by
          unfold bhP
          rw [q]
          by_cases e1 : r.e = o_rows
          · rw [if_pos e1, if_pos (.inl (by decide))]
          · rw [if_neg e1]
            split
            · rfl
            · rw [if_neg (by simp)]
        rw [this, run_none]
        rfl
      · rw [if_neg q, if_neg q]
        show whole r (run r b (bhP r s)) = (uA r.d [112] b && whole r (run r (clean b) (bhP r s)))
        cases h : bhP r s with
        | none => rw [run_none, run_none]; show false = (_ && false); rw [Bool.and_false]
        | some t =>
          obtain ⟨h1, h2⟩ := bhP_some h
          have := body1 (r := r) b t hb' (ph_nt h1) (fun _ => h1)
          rw [this, h2, if_neg (by decide)]
          have e : t.wl [112] = t := by rw [← h2]; rfl
          rw [e]
    · subst e
      rw [run_cons, bh_un hp, show clean (95 :: b) = clean b from rfl]
      unfold uA
      rw [if_pos rfl]
      unfold bhU
      by_cases q : r.d = o_none ∨ (¬s.la = [102] ∧ ¬(s.la = [117] ∧ r.d = o_free))
      · rw [if_pos q, if_pos q, run_none]; rfl
      · rw [if_neg q, if_neg q]
        have hn2 : s.la = [102] ∨ s.la = [117] := by
          by_cases z : s.la = [102]
          · exact .inl z
          · by_cases z2 : s.la = [117]
            · exact .inr z2
            · exact absurd (.inr ⟨z, fun h => z2 h.1⟩) q
        have := body1 (r := r) b ⟨s.ph, s.fi, s.ma, s.ro, s.rd, [117], s.po⟩ hb' hp (fun _ => hn hn2)
        rw [this]
        have e : (if s.la = [117] then [102] else s.la) = [102] := by rcases hn2 with h | h <;> rw [h] <;> decide
        rw [e]
        rfl
    · have n1 : ¬c = 95 := by simp [FGc] at e; omega
      have n2 : ¬c = 46 := by simp [FGc] at e; omega
      rw [run_cons, bh_fig e hp, show clean (c :: b) = c :: clean b from by unfold clean; rw [List.filter_cons, if_pos (by simp [n1])], run_cons, bh_fig e (by exact hp)]
      unfold uA
      rw [if_neg n1, if_neg n2, bhF_wl]
      cases h : bhF r s c with
      | none => rw [run_none, run_none]; show false = (_ && false); rw [Bool.and_false]
      | some t =>
        obtain ⟨h1, h2⟩ := bhF_some h
        have := body1 (r := r) b t hb' (ph_nt h1) (fun _ => h1)
        rw [this, h2, if_neg (by decide)]
        have e : t.wl [102] = t := by rw [← h2]; rfl
        rw [e]
def plB (r : Rdr) (b : List Nat) : Bool := !(decide (r.f = o_plain) && b.any fun c => decide (c = 116))
def ngt (r : Rdr) : List Nat → Bool → List Nat → Bool
  | _, _, [] => true
  | fi, po, c :: t => if c = 46 then ngt r fi (po || decide (r.e ∈ [o_part, o_loose])) t
    else if po = true then ngt r fi po t
    else if fi = [] then ngt r (if c = 48 then [48] else [49]) po t
    else if fi = [48] ∧ (r.c = o_none ∨ (r.c = o_eight ∧ c = 56)) then false else ngt r fi po t
def shp (r : Rdr) : Nat → Nat → Bool → List Nat → Bool → List Nat → Bool
  | ma, ro, rd, la, _, [] => if la = [102] then (if rd = false then true else decide ((ro : Int) = 3)) else if la = [112] then (if r.e = o_loose then decide (0 < (ma : Int)) else false) else false
  | ma, ro, rd, la, po, c :: t => if c = 46 then (if r.e = o_rows then (if ¬la = [102] ∨ (3 : Int) < (ro : Int) ∨ (rd = true ∧ ¬(ro : Int) = 3) then false else shp r ma 0 true [112] false t)
        else if r.e ∉ [o_part, o_loose] ∨ po = true then false
        else if la = [102] ∨ (la = [] ∧ r.e = o_loose) then shp r ma ro rd [112] true t else false)
    else if po = true then shp r ma ro rd [102] true t
    else if rd = true ∧ (ro : Int) = 3 then false else shp r (min (ma + 1) 2) (min (ro + 1) 4) rd [102] false t
theorem plB_cons {r : Rdr} {c : Nat} {b : List Nat} : plB r (c :: b) = (!(decide (r.f = o_plain) && decide (c = 116)) && plB r b) := by
  unfold plB
  rw [List.any_cons]
  cases decide (r.f = o_plain) <;> cases decide (c = 116) <;> simp
structure JS (r : Rdr) (s : RS) : Prop where
  po : s.po = true → ¬r.e = o_rows
  nt : ¬s.ph = h_tail
  e : s.la = [] → ¬s.ph = h_number
  n : ¬s.la = [] → s.ph = h_number
  l : s.la = [] ∨ s.la = [102] ∨ s.la = [112]
theorem JS.num {r : Rdr} {s : RS} (p : s.po = true → ¬r.e = o_rows) (h : s.ph = h_number) (l : s.la = [102] ∨ s.la = [112]) : JS r s :=
  ⟨p, (by rw [h]; decide), (fun e => by rcases l with l | l <;> (rw [l] at e; cases e)), fun _ => h, .inr l⟩
theorem body2 {r : Rdr} : ∀ (b : List Nat) (s : RS), (∀ c ∈ b, c = 46 ∨ c ∈ FGc) → JS r s →
    whole r (run r b (some s)) = (plB r b && ngt r s.fi s.po b && shp r s.ma s.ro s.rd s.la s.po b)
  | [], s, _, j => by
    show whole r (some s) = (plB r [] && true && shp r s.ma s.ro s.rd s.la s.po [])
    have : plB r [] = true := by unfold plB; simp
    rw [this, Bool.true_and, Bool.true_and]
    show (if ¬s.ph = h_number then decide (s.ph = h_tail) else if s.la = [102] then (if s.rd = false then true else decide ((s.ro : Int) = 3)) else if s.la = [112] then (if r.e = o_loose then decide (0 < (s.ma : Int)) else false) else false) = _
    unfold shp
    by_cases q : s.la = []
    · rw [if_pos (j.e q), decide_eq_false j.nt, if_neg (by rw [q]; decide), if_neg (by rw [q]; decide)]
    · rw [if_neg (fun h => h (j.n q))]
  | c :: b, s, hb, j => by
    have hb' : ∀ c ∈ b, c = 46 ∨ c ∈ FGc := fun c h => hb c (by simp [h])
    by_cases e : c = 46
    · subst e
      rw [run_cons, bh_pt j.nt, plB_cons]
      unfold ngt shp
      rw [if_pos rfl, if_pos rfl]
      have e1 : (!(decide (r.f = o_plain) && decide (46 = 116))) = true := by cases decide (r.f = o_plain) <;> rfl
      rw [e1, Bool.true_and]
      unfold bhP
      by_cases c1 : r.e = o_rows
      · rw [if_pos c1, if_pos c1]
        have np : decide (r.e ∈ [o_part, o_loose]) = false := by rw [c1]; decide
        rw [np, Bool.or_false]
        by_cases c2 : ¬s.la = [102] ∨ (3 : Int) < (s.ro : Int) ∨ (s.rd = true ∧ ¬(s.ro : Int) = 3)
        · rw [if_pos c2, if_pos c2, run_none, Bool.and_false]; rfl
        · rw [if_neg c2, if_neg c2]
          rw [body2 b _ hb']
          · cases hpo : s.po with
            | false => rfl
            | true => exact absurd c1 (j.po hpo)
          · exact JS.num (fun h => by cases h) rfl (.inr rfl)
      · rw [if_neg c1, if_neg c1]
        by_cases c2 : r.e ∉ [o_part, o_loose] ∨ s.po = true
        · rw [if_pos c2, if_pos c2, run_none, Bool.and_false]; rfl
        · rw [if_neg c2, if_neg c2]
          have inp : r.e ∈ [o_part, o_loose] := Classical.byContradiction fun h => c2 (.inl h)
          rw [decide_eq_true inp, Bool.or_true]
          by_cases c3 : s.la = [102] ∨ (s.la = [] ∧ r.e = o_loose)
          · rw [if_pos c3, if_pos c3]
            rw [body2 b _ hb']
            exact JS.num (fun _ => c1) rfl (.inr rfl)
          · rw [if_neg c3, if_neg c3, run_none, Bool.and_false]; rfl
    · have hf : c ∈ FGc := by rcases hb c (by simp) with h | h; exact absurd h e; exact h
      rw [run_cons, bh_fig hf j.nt, plB_cons]
      unfold ngt shp
      rw [if_neg e, if_neg e]
      unfold bhF
      by_cases c1 : [c] = [116] ∧ r.f = o_plain
      · rw [if_pos c1, run_none]
        have e1 : c = 116 := by simpa using c1.1
        rw [decide_eq_true c1.2, decide_eq_true e1]; rfl
      · rw [if_neg c1]
        have e1 : (!(decide (r.f = o_plain) && decide (c = 116))) = true := by
          by_cases z : r.f = o_plain
          · rw [decide_eq_false (show ¬c = 116 from fun h => c1 ⟨by rw [h], z⟩), Bool.and_false]; rfl
          · rw [decide_eq_false z]; rfl
        rw [e1, Bool.true_and]
        by_cases c2 : s.po = true
        · rw [if_pos c2, if_pos c2, if_pos c2]
          rw [body2 b _ hb']
          · rw [c2]
          · exact JS.num (fun _ => j.po c2) rfl (.inl rfl)
        · rw [if_neg c2, if_neg c2, if_neg c2]
          have c2' : s.po = false := by cases h : s.po with | false => rfl | true => exact absurd h c2
          by_cases c3 : s.fi = []
          · rw [if_pos c3, if_pos c3]
            by_cases c4 : s.rd = true ∧ (s.ro : Int) = 3
            · rw [if_pos c4, if_pos c4, run_none, Bool.and_false]; rfl
            · rw [if_neg c4, if_neg c4]
              have e3 : (if [c] = [48] then [48] else [49]) = (if c = 48 then [48] else [49] : List Nat) := by
                by_cases z : c = 48
                · rw [if_pos z, if_pos (by rw [z])]
                · rw [if_neg z, if_neg (by simpa using z)]
              rw [body2 b _ hb']
              · rw [c2', e3]
              · exact JS.num (fun h => by cases h) rfl (.inl rfl)
          · rw [if_neg c3, if_neg c3]
            have e4 : (s.fi = [48] ∧ (r.c = o_none ∨ (r.c = o_eight ∧ [c] = [56]))) = (s.fi = [48] ∧ (r.c = o_none ∨ (r.c = o_eight ∧ c = 56))) := by simp
            by_cases c5 : s.fi = [48] ∧ (r.c = o_none ∨ (r.c = o_eight ∧ c = 56))
            · rw [if_pos (by rw [e4]; exact c5), if_pos c5, run_none, Bool.and_false, Bool.false_and]; rfl
            · rw [if_neg (by rw [e4]; exact c5), if_neg c5]
              by_cases c4 : s.rd = true ∧ (s.ro : Int) = 3
              · rw [if_pos c4, if_pos c4, run_none, Bool.and_false]; rfl
              · rw [if_neg c4, if_neg c4]
                rw [body2 b _ hb']
                · rw [c2']
                · exact JS.num (fun h => by cases h) rfl (.inl rfl)
end DL

set_option Elab.async false
set_option linter.all false
set_option maxRecDepth 100000
set_option maxHeartbeats 4000000
namespace DL
open PySem L2
theorem splL_cut (acc s : List Nat) : splL 46 acc (46 :: s) = acc :: splL 46 [] s := by rw [splL, if_pos rfl]
theorem splL_go (acc s : List Nat) (c : Nat) (h : ¬c = 46) : splL 46 acc (c :: s) = splL 46 (acc ++ [c]) s := by rw [splL, if_neg h]
theorem splL_nil (acc : List Nat) : splL 46 acc [] = [acc] := rfl
theorem splL_ex (acc s : List Nat) : ∃ a t, splL 46 acc s = a :: t := by
  cases h : splL 46 acc s with
  | nil => exact absurd h (splL_ne _ _ _)
  | cons a t => exact ⟨a, t, rfl⟩
theorem splL_first : ∀ (s acc : List Nat), ∃ a t, splL 46 acc s = a :: t ∧ acc.length ≤ a.length
  | [], acc => ⟨acc, [], rfl, Nat.le_refl _⟩
  | c :: s, acc => by
    by_cases h : c = 46
    · subst h; exact ⟨acc, _, splL_cut _ _, Nat.le_refl _⟩
    · obtain ⟨a, t, e, l⟩ := splL_first s (acc ++ [c])
      exact ⟨a, t, by rw [splL_go _ _ _ h, e], by simp at l; omega⟩
def laO (acc : List Nat) (l : List Nat) : List Nat := if acc = [] then l else [102]
theorem laO_snoc (acc : List Nat) (c : Nat) (l : List Nat) : laO (acc ++ [c]) l = [102] := by unfold laO; rw [if_neg (by simp)]
theorem laO_cons (a : Nat) (b l : List Nat) : laO (a :: b) l = [102] := by unfold laO; rw [if_neg (by simp)]
theorem laO_nil (l : List Nat) : laO [] l = l := by unfold laO; rw [if_pos rfl]
theorem pgB_one (r : Rdr) (a : List Nat) : pgB r [a] = decide (0 < a.length) := rfl
theorem pgB_two (r : Rdr) (a b : List Nat) (t : List (List Nat)) : pgB r (a :: b :: t) = if r.e = o_rows then (decide (1 ≤ a.length) && decide (a.length ≤ 3)) && (b :: t).all fun x => decide (x.length = 3)
    else if 2 < t.length + 2 ∨ r.e = o_none then false
    else if r.e = o_part then decide (0 < a.length) && decide (0 < b.length)
    else decide (0 < a.length + b.length) := rfl
theorem shpP {r : Rdr} (hr : ¬r.e = o_rows) {ma ro : Nat} : ∀ (s acc : List Nat), (∀ c ∈ s, c = 46 ∨ c ∈ FGc) →
    shp r ma ro false (laO acc [112]) true s = (match splL 46 acc s with | [x] => decide (0 < x.length) || (decide (r.e = o_loose) && decide (0 < ma)) | _ => false)
  | [], acc, _ => by
    rw [splL_nil]
    cases acc with
    | nil =>
      rw [laO_nil]
      unfold shp
      rw [if_neg (by decide), if_pos rfl]
      show _ = (false || _)
      by_cases q : r.e = o_loose
      · rw [if_pos q, decide_eq_true q]
        simp
      · rw [if_neg q, decide_eq_false q]; rfl
    | cons a b => rw [laO_cons]; unfold shp; rw [if_pos rfl, if_pos rfl]; simp
  | c :: s, acc, hs => by
    unfold shp
    by_cases h : c = 46
    · subst h
      rw [if_pos rfl, if_neg hr, if_pos (.inr rfl), splL_cut]
      obtain ⟨a, t, e⟩ := splL_ex [] s
      rw [e]
    · rw [if_neg h, if_pos rfl, splL_go _ _ _ h]
      have := shpP hr (ma := ma) (ro := ro) s (acc ++ [c]) (fun c h => hs c (by simp [h]))
      rw [laO_snoc] at this
      exact this
theorem shpQ {r : Rdr} (hr : r.e = o_rows) {ma : Nat} : ∀ (s acc : List Nat) (ma : Nat), (∀ c ∈ s, c = 46 ∨ c ∈ FGc) → acc.length ≤ 3 →
    shp r ma acc.length true (laO acc [112]) false s = (splL 46 acc s).all fun x => decide (x.length = 3)
  | [], acc, ma, _, hl => by
    rw [splL_nil]
    cases acc with
    | nil => rw [laO_nil]; unfold shp; rw [if_neg (by decide), if_pos rfl, if_neg (by rw [hr]; decide)]; rfl
    | cons a b =>
      rw [laO_cons]
      unfold shp
      rw [if_pos rfl, if_neg (by decide)]
      simp only [List.all_cons, List.all_nil, Bool.and_true]
      exact decide_eq_decide.mpr (by omega)
  | c :: s, acc, ma, hs, hl => by
    have hs' : ∀ c ∈ s, c = 46 ∨ c ∈ FGc := fun c h => hs c (by simp [h])
    unfold shp
    by_cases h : c = 46
    · subst h
      rw [if_pos rfl, if_pos hr, splL_cut, List.all_cons]
      by_cases q : acc.length = 3
      · have e : laO acc [112] = [102] := by unfold laO; rw [if_neg (fun z => by rw [z] at q; cases q)]
        rw [if_neg (by rw [e, q]; simp), decide_eq_true q, Bool.true_and]
        exact shpQ hr (ma := ma) s [] ma hs' (by simp)
      · rw [if_pos (.inr (.inr ⟨rfl, by omega⟩)), decide_eq_false q]; rfl
    · rw [if_neg h, if_neg (by decide), splL_go _ _ _ h]
      by_cases q : acc.length = 3
      · rw [if_pos ⟨rfl, by omega⟩]
        obtain ⟨a, t, e, l⟩ := splL_first s (acc ++ [c])
        rw [e, List.all_cons, decide_eq_false (by simp at l; omega)]; rfl
      · rw [if_neg (fun z => q (by have := z.2; omega))]
        have := shpQ hr (ma := ma) s (acc ++ [c]) (min (ma + 1) 2) hs' (by simp; omega)
        rw [laO_snoc] at this
        rw [← this]
        have e : (acc ++ [c]).length = min (acc.length + 1) 4 := by simp; omega
        rw [e]
theorem shpA {r : Rdr} (he : r.e = o_none ∨ r.e = o_part ∨ r.e = o_loose ∨ r.e = o_rows) : ∀ (s acc : List Nat), (∀ c ∈ s, c = 46 ∨ c ∈ FGc) →
    shp r (min acc.length 2) (min acc.length 4) false (laO acc []) false s = pgB r (splL 46 acc s)
  | [], acc, _ => by
    rw [splL_nil, pgB_one]
    cases acc with
    | nil => rw [laO_nil]; unfold shp; rw [if_neg (by decide), if_neg (by decide)]; rfl
    | cons a b => rw [laO_cons]; unfold shp; rw [if_pos rfl, if_pos rfl]; simp
  | c :: s, acc, hs => by
    have hs' : ∀ c ∈ s, c = 46 ∨ c ∈ FGc := fun c h => hs c (by simp [h])
    unfold shp
    by_cases h : c = 46
    · subst h
      rw [if_pos rfl, splL_cut]
      by_cases h1 : r.e = o_rows
      · rw [if_pos h1]
        obtain ⟨a, t, e⟩ := splL_ex [] s
        rw [e, pgB_two, if_pos h1]
        have hq := shpQ h1 (ma := 0) s [] (min acc.length 2) hs' (by simp)
        rw [e] at hq
        by_cases q : acc = []
        · subst q
          rw [if_pos (.inl (by unfold laO; decide))]; rfl
        · have e2 : laO acc [] = [102] := by unfold laO; rw [if_neg q]
          have p : 1 ≤ acc.length := by cases acc with | nil => exact absurd rfl q | cons => simp
          rw [e2]
          by_cases q3 : acc.length ≤ 3
          · rw [if_neg (by simp; omega), decide_eq_true p, decide_eq_true q3]
            exact hq
          · rw [if_pos (.inr (.inl (by omega))), decide_eq_true p, decide_eq_false q3]; rfl
      · rw [if_neg h1]
        obtain ⟨a, t, e⟩ := splL_ex [] s
        have hp := shpP h1 (ma := min acc.length 2) (ro := min acc.length 4) s [] hs'
        rw [e] at hp
        rw [e, pgB_two, if_neg h1]
        by_cases h2 : r.e = o_none
        · rw [if_pos (.inl (by rw [h2]; decide)), if_pos (.inr h2)]
        · have hin : r.e ∈ [o_part, o_loose] := by
            rcases he with z | z | z | z
            · exact absurd z h2
            · rw [z]; decide
            · rw [z]; decide
            · exact absurd z h1
          rw [if_neg (fun z => by rcases z with z | z; exact z hin; cases z)]
          have hp0 : laO ([] : List Nat) [112] = [112] := rfl
          rw [hp0] at hp
          cases t with
          | cons x y =>
            have zz : 2 < (x :: y).length + 2 := by rw [List.length_cons]; omega
            rw [if_pos (Or.inl zz : 2 < (x :: y).length + 2 ∨ r.e = o_none)]
            split
            · exact hp
            · rfl
          | nil =>
            have zz : ¬(2 < ([] : List (List Nat)).length + 2 ∨ r.e = o_none) := fun z => by rcases z with z | z; simp at z; exact h2 z
            rw [if_neg zz]
            by_cases h3 : r.e = o_part
            · rw [if_pos h3]
              have nl : ¬r.e = o_loose := by rw [h3]; decide
              by_cases q : acc = []
              · subst q
                have z9 : ¬(laO ([] : List Nat) [] = [102] ∨ (laO ([] : List Nat) [] = [] ∧ r.e = o_loose)) := fun z => by
                  rcases z with z | z
                  · rw [laO_nil] at z; cases z
                  · exact nl z.2
                rw [if_neg z9]; rfl
              · have p : 0 < acc.length := by cases acc with | nil => exact absurd rfl q | cons => simp
                have z9 : laO acc [] = [102] ∨ (laO acc [] = [] ∧ r.e = o_loose) := .inl (by unfold laO; rw [if_neg q])
                rw [if_pos z9, hp, decide_eq_true p, decide_eq_false nl]
                simp
            · rw [if_neg h3]
              have yl : r.e = o_loose := by
                rcases he with z | z | z | z
                · exact absurd z h2
                · exact absurd z h3
                · exact z
                · exact absurd z h1
              have c3 : laO acc [] = [102] ∨ (laO acc [] = [] ∧ r.e = o_loose) := by
                unfold laO
                by_cases q : acc = []
                · rw [if_pos q]; exact .inr ⟨rfl, yl⟩
                · rw [if_neg q]; exact .inl rfl
              rw [if_pos c3, hp, decide_eq_true yl, Bool.true_and]
              rw [Bool.eq_iff_iff]
              simp
              omega
    · rw [if_neg h, if_neg (by decide), if_neg (fun z => by cases z.1), splL_go _ _ _ h]
      have := shpA he s (acc ++ [c]) hs'
      rw [laO_snoc] at this
      rw [← this]
      have e1 : min (min acc.length 2 + 1) 2 = min (acc ++ [c]).length 2 := by simp; omega
      have e2 : min (min acc.length 4 + 1) 4 = min (acc ++ [c]).length 4 := by simp; omega
      rw [e1, e2]
def ngF (r : Rdr) : List Nat → List Nat → Bool
  | _, [] => true
  | fi, c :: t => if fi = [] then ngF r (if c = 48 then [48] else [49]) t
    else if fi = [48] ∧ (r.c = o_none ∨ (r.c = o_eight ∧ c = 56)) then false else ngF r fi t
theorem ngt_po {r : Rdr} : ∀ (s : List Nat) (fi : List Nat), ngt r fi true s = true
  | [], _ => rfl
  | c :: s, fi => by
    unfold ngt
    by_cases h : c = 46
    · rw [if_pos h, Bool.true_or]; exact ngt_po s fi
    · rw [if_neg h, if_pos rfl]; exact ngt_po s fi
theorem ngt_rows {r : Rdr} (h : r.e ∉ [o_part, o_loose]) : ∀ (s : List Nat) (fi : List Nat), ngt r fi false s = ngF r fi (noPt s)
  | [], _ => rfl
  | c :: s, fi => by
    unfold ngt
    by_cases q : c = 46
    · subst q
      rw [if_pos rfl, decide_eq_false h, show noPt (46 :: s) = noPt s from rfl]
      exact ngt_rows h s fi
    · rw [if_neg q, if_neg (by decide), show noPt (c :: s) = c :: noPt s from by unfold noPt; rw [List.filter_cons, if_pos (by simp [q])]]
      unfold ngF
      rw [ngt_rows h s _, ngt_rows h s _]
theorem ngt_part {r : Rdr} (h : r.e ∈ [o_part, o_loose]) : ∀ (s : List Nat) (fi : List Nat), ngt r fi false s = ngF r fi (s.takeWhile fun c => !decide (c = 46))
  | [], _ => rfl
  | c :: s, fi => by
    unfold ngt
    by_cases q : c = 46
    · subst q
      rw [if_pos rfl, decide_eq_true h, Bool.false_or, ngt_po]
      rfl
    · have e : (c :: s).takeWhile (fun c => !decide (c = 46)) = c :: s.takeWhile (fun c => !decide (c = 46)) := by rw [List.takeWhile_cons, if_pos (by simp [q])]
      rw [if_neg q, if_neg (by decide), e]
      unfold ngF
      rw [ngt_part h s _, ngt_part h s _]
theorem ngF_no {r : Rdr} : ∀ t : List Nat, ngF r [49] t = true
  | [] => rfl
  | c :: t => by unfold ngF; rw [if_neg (by decide), if_neg (fun z => by cases z.1)]; exact ngF_no t
theorem ngF_yes {r : Rdr} : ∀ t : List Nat, ngF r [48] t = (t.all fun c => !(decide (r.c = o_none) || (decide (r.c = o_eight) && decide (c = 56))))
  | [] => rfl
  | c :: t => by
    unfold ngF
    rw [if_neg (by decide), List.all_cons, ngF_yes t]
    by_cases q : r.c = o_none ∨ (r.c = o_eight ∧ c = 56)
    · rw [if_pos ⟨rfl, q⟩]
      have : (decide (r.c = o_none) || (decide (r.c = o_eight) && decide (c = 56))) = true := by simpa using q
      rw [this]; rfl
    · rw [if_neg (fun z => q z.2)]
      have : (decide (r.c = o_none) || (decide (r.c = o_eight) && decide (c = 56))) = false := by
        cases z : (decide (r.c = o_none) || (decide (r.c = o_eight) && decide (c = 56))) with
        | false => rfl
        | true => exact absurd (by simpa using z) q
      rw [this]; rfl
theorem nought {r : Rdr} (w : List Nat) : ngF r [] w = noughtB r w := by
  unfold noughtB
  cases w with
  | nil => rw [if_neg (by simp)]; rfl
  | cons a t =>
    unfold ngF
    rw [if_pos rfl]
    by_cases q : a = 48
    · subst q
      rw [if_pos rfl, ngF_yes]
      by_cases q2 : 1 < (48 :: t).length ∧ (48 :: t).head? = some 48 ∧ (r.c = o_none ∨ (r.c = o_eight ∧ 56 ∈ 48 :: t))
      · rw [if_pos q2]
        obtain ⟨l, _, q2⟩ := q2
        rcases q2 with z | z
        · cases t with
          | nil => simp at l
          | cons x y => rw [List.all_cons, decide_eq_true z]; rfl
        · have : 56 ∈ t := by have := z.2; simp at this; exact this
          rw [Bool.eq_false_iff]
          intro h
          rw [List.all_eq_true] at h
          have := h 56 this
          rw [decide_eq_true z.1] at this
          simp at this
      · rw [if_neg q2]
        rw [List.all_eq_true]
        intro x hx
        cases h : (decide (r.c = o_none) || (decide (r.c = o_eight) && decide (x = 56))) with
        | false => rfl
        | true =>
          refine absurd ⟨?_, rfl, ?_⟩ q2
          · cases t with | nil => cases hx | cons y z => simp
          · simp at h
            rcases h with h | h
            · exact .inl h
            · exact .inr ⟨h.1, by rw [← h.2]; simp [hx]⟩
    · rw [if_neg q, ngF_no, if_neg (fun z => q (Option.some.inj z.2.1))]
end DL

set_option Elab.async false
set_option linter.all false
set_option maxRecDepth 100000
set_option maxHeartbeats 4000000
namespace DL
open PySem L2
abbrev dU (l : List Nat) : List Nat := l.dropWhile fun c => decide (c = 95)
theorem isU_mid {p y : List Nat} {c : Nat} : isU (p ++ c :: y) p.length = decide (c = 95) := by
  unfold isU
  rw [List.getElem?_append_right (Nat.le_refl _), Nat.sub_self]
  simp
theorem dU_yes {c : Nat} {l : List Nat} (h : c = 95) : dU (c :: l) = dU l := by unfold dU; rw [List.dropWhile_cons, if_pos (by simp [h])]
theorem dU_no {c : Nat} {l : List Nat} (h : ¬c = 95) : dU (c :: l) = c :: l := by unfold dU; rw [List.dropWhile_cons, if_neg (by simp [h])]
theorem low_is : ∀ (xr z : List Nat), lowI (xr.reverse ++ z) xr.length = (dU xr).length ∧ ((dU xr) ≠ [] → (xr.reverse ++ z)[(dU xr).length - 1]? = (dU xr).head?)
  | [], z => ⟨rfl, fun h => absurd rfl h⟩
  | a :: xs, z => by
    have e : (a :: xs).reverse ++ z = xs.reverse ++ a :: z := by simp
    have u : isU (xs.reverse ++ a :: z) xs.length = decide (a = 95) := by
      have := isU_mid (p := xs.reverse) (c := a) (y := z)
      rw [List.length_reverse] at this
      exact this
    rw [e, List.length_cons, lowI, u]
    by_cases h : a = 95
    · rw [decide_eq_true h, if_pos rfl, dU_yes h]
      exact low_is xs (a :: z)
    · rw [decide_eq_false h, if_neg Bool.false_ne_true, dU_no h]
      refine ⟨rfl, fun _ => ?_⟩
      rw [List.length_cons, Nat.add_sub_cancel, List.getElem?_append_right (by simp)]
      simp
theorem hi_is : ∀ (y p : List Nat), hiI (p ++ y) y.length = (p ++ y).length - (dU y).length ∧ ((dU y) ≠ [] → (p ++ y)[(p ++ y).length - (dU y).length]? = (dU y).head?)
  | [], p => ⟨rfl, fun h => absurd rfl h⟩
  | a :: ys, p => by
    have e : p ++ a :: ys = (p ++ [a]) ++ ys := by simp
    have n : (p ++ a :: ys).length - (ys.length + 1) = p.length := by simp
    rw [List.length_cons, hiI, n, isU_mid]
    by_cases h : a = 95
    · rw [decide_eq_true h, if_pos rfl, dU_yes h, e]
      exact hi_is ys (p ++ [a])
    · rw [decide_eq_false h, if_neg Bool.false_ne_true, dU_no h, List.length_cons, n]
      refine ⟨rfl, fun _ => ?_⟩
      rw [List.getElem?_append_right (Nat.le_refl _), Nat.sub_self]
      rfl
def okE (l : List Nat) : Bool := match (dU l).head? with
  | none => false
  | some c => !decide (c = 46)
def gK (r : Rdr) (xr y : List Nat) : Bool := !(decide (r.d = o_none) || (decide (r.d = o_single) && decide (xr.head? = some 95))) && (okE xr && okE y)
theorem ug_is {r : Rdr} {xr y : List Nat} {c : Nat} : ugK r (xr.reverse ++ c :: y) xr.length = (if c = 95 then gK r xr y else true) := by
  unfold ugK
  have u : isU (xr.reverse ++ c :: y) xr.length = decide (c = 95) := by
    have := isU_mid (p := xr.reverse) (c := c) (y := y)
    rw [List.length_reverse] at this
    exact this
  rw [u]
  by_cases h : c = 95
  · subst h
    rw [if_pos (by rfl), if_pos rfl]
    obtain ⟨l1, l2⟩ := low_is (95 :: xr) y
    obtain ⟨h1, h2⟩ := hi_is (95 :: y) xr.reverse
    have eb : (95 :: xr).reverse ++ y = xr.reverse ++ 95 :: y := by simp
    rw [eb, dU_yes rfl, List.length_cons] at l1
    rw [eb, dU_yes rfl] at l2
    rw [dU_yes rfl] at h1 h2
    have hl : (xr.reverse ++ 95 :: y).length - xr.length = (95 :: y).length := by simp
    rw [hl, l1, h1]
    have e1 : (r.d = o_single ∧ 0 < xr.length ∧ isU (xr.reverse ++ 95 :: y) (xr.length - 1) = true) = (r.d = o_single ∧ xr.head? = some 95) := by
      cases xr with
      | nil => simp
      | cons a xs =>
        have : isU ((a :: xs).reverse ++ 95 :: y) ((a :: xs).length - 1) = decide (a = 95) := by
          have := isU_mid (p := xs.reverse) (c := a) (y := 95 :: y)
          rw [List.length_reverse] at this
          simpa using this
        rw [this]
        simp
    unfold gK
    by_cases q : r.d = o_none ∨ (r.d = o_single ∧ xr.head? = some 95)
    · rw [if_pos (by rw [e1]; exact q)]
      have : (decide (r.d = o_none) || (decide (r.d = o_single) && decide (xr.head? = some 95))) = true := by simpa using q
      rw [this]; rfl
    · rw [if_neg (by rw [e1]; exact q)]
      have : (decide (r.d = o_none) || (decide (r.d = o_single) && decide (xr.head? = some 95))) = false := by
        cases z : (decide (r.d = o_none) || (decide (r.d = o_single) && decide (xr.head? = some 95))) with
        | false => rfl
        | true => exact absurd (by simpa using z) q
      rw [this, Bool.not_false, Bool.true_and]
      unfold okE
      cases ex : dU xr with
      | nil => rw [if_pos (.inl rfl)]; rfl
      | cons a xs =>
        have := l2 (by rw [ex]; simp)
        rw [ex] at this
        rw [this]
        cases ey : dU y with
        | nil => rw [if_pos (.inr (.inl (by simp)))]; simp
        | cons b ys =>
          have h3 := h2 (by rw [ey]; simp)
          rw [ey] at h3
          rw [h3]
          have hle : (dU y).length ≤ y.length := (List.dropWhile_suffix _).length_le
          rw [ey] at hle
          by_cases qa : a = 46
          · rw [if_pos (.inr (.inr (.inl (by rw [qa]; rfl))))]; simp [qa]
          · by_cases qb : b = 46
            · rw [if_pos (.inr (.inr (.inr (by rw [qb]; rfl))))]; simp [qb]
            · rw [if_neg ?_]
              · simp [qa, qb]
              · rintro (z | z | z | z)
                · simp at z
                · simp at z hle; omega
                · exact qa (Option.some.inj z)
                · exact qb (Option.some.inj z)
  · rw [if_neg (by simpa using h), if_neg h]
def ownU (r : Rdr) : List Nat → List Nat → Bool
  | _, [] => true
  | xr, c :: y => (if c = 95 then gK r xr y else true) && ownU r (c :: xr) y
theorem ownU_is {r : Rdr} : ∀ (y xr : List Nat), ownU r xr y = (List.range' xr.length y.length).all (ugK r (xr.reverse ++ y))
  | [], xr => rfl
  | c :: y, xr => by
    rw [ownU, List.length_cons, List.range'_succ, List.all_cons, ug_is, ownU_is y (c :: xr), List.length_cons]
    have : (c :: xr).reverse ++ y = xr.reverse ++ c :: y := by simp
    rw [this]
theorem ugB_is {r : Rdr} (b : List Nat) : ugB r b = ownU r [] b := by
  rw [ownU_is]
  unfold ugB
  rw [List.range_eq_range']
  rfl
def clA (xr : List Nat) : List Nat := match xr with
  | [] => []
  | c :: _ => if c = 95 then [117] else if c = 46 then [112] else [102]
theorem okE_u {l : List Nat} : okE (95 :: l) = okE l := by unfold okE; rw [dU_yes rfl]
theorem okE_p {l : List Nat} : okE (46 :: l) = false := by unfold okE; rw [dU_no (by decide)]; rfl
theorem okE_f {c : Nat} {l : List Nat} (h : ¬c = 95) (h2 : ¬c = 46) : okE (c :: l) = true := by unfold okE; rw [dU_no h]; simp [h2]
theorem under {r : Rdr} (hd : r.d = o_none ∨ r.d = o_single ∨ r.d = o_free) : ∀ (y xr : List Nat), (clA xr = [117] → okE xr = true) →
    (ownU r xr y && (if clA xr = [117] then okE y else true)) = uA r.d (clA xr) y
  | [], xr, _ => by
    unfold ownU uA
    by_cases q : clA xr = [117]
    · rw [if_pos q, decide_eq_true q]; rfl
    · rw [if_neg q, decide_eq_false q]; rfl
  | c :: y, xr, hx => by
    unfold ownU uA
    by_cases h : c = 95
    · subst h
      rw [if_pos rfl, if_pos rfl]
      have c1 : clA (95 :: xr) = [117] := rfl
      by_cases q : r.d = o_none ∨ (¬clA xr = [102] ∧ ¬(clA xr = [117] ∧ r.d = o_free))
      · rw [if_pos q]
        have : (gK r xr y && ownU r (95 :: xr) y && (if clA xr = [117] then okE (95 :: y) else true)) = false := by
          rcases q with q | q
          · have : gK r xr y = false := by unfold gK; rw [decide_eq_true q]; rfl
            rw [this]; rfl
          · cases xr with
            | nil =>
              have : gK r [] y = false := by unfold gK; rw [show okE [] = false from rfl]; simp
              rw [this]; rfl
            | cons a xs =>
              by_cases qa : a = 95
              · subst qa
                have hs : r.d ≠ o_free := fun z => q.2 ⟨rfl, z⟩
                rcases hd with z | z | z
                · have : gK r (95 :: xs) y = false := by unfold gK; rw [decide_eq_true z]; rfl
                  rw [this]; rfl
                · have : gK r (95 :: xs) y = false := by unfold gK; rw [decide_eq_true z]; simp
                  rw [this]; rfl
                · exact absurd z hs
              · by_cases qb : a = 46
                · subst qb
                  have : gK r (46 :: xs) y = false := by unfold gK; rw [okE_p]; simp
                  rw [this]; rfl
                · exact absurd (by unfold clA; simp only; rw [if_neg qa, if_neg qb]) q.1
        exact this
      · rw [if_neg q]
        have ok : okE xr = true := by
          cases xr with
          | nil => exact absurd (.inr ⟨by decide, fun w => absurd w.1 (by decide)⟩) q
          | cons a xs =>
            by_cases qa : a = 95
            · exact hx (by unfold clA; simp only; rw [if_pos qa])
            · by_cases qb : a = 46
              · refine absurd (.inr ⟨?_, ?_⟩) q <;> (unfold clA; simp only; rw [if_neg qa, if_pos qb]; simp)
              · exact okE_f qa qb
        have ih := under hd y (95 :: xr) (fun _ => by rw [okE_u]; exact ok)
        rw [c1, if_pos rfl] at ih
        rw [← ih]
        have g : gK r xr y = okE y := by
          unfold gK
          rw [ok]
          have : (decide (r.d = o_none) || (decide (r.d = o_single) && decide (xr.head? = some 95))) = false := by
            cases z : (decide (r.d = o_none) || (decide (r.d = o_single) && decide (xr.head? = some 95))) with
            | false => rfl
            | true =>
              simp at z
              rcases z with z | z
              · exact absurd (.inl z) q
              · refine absurd (.inr ⟨?_, ?_⟩) q
                · cases xr with
                  | nil => cases z.2
                  | cons a xs => have := Option.some.inj z.2; subst this; show ¬ ([117] : List Nat) = [102]; decide
                · intro w
                  have := w.2
                  rw [z.1] at this
                  exact absurd this (by decide)
          rw [this]; rfl
        rw [g, okE_u]
        cases ownU r (95 :: xr) y <;> cases okE y <;> simp
    · rw [if_neg h, if_neg h, Bool.true_and]
      by_cases h2 : c = 46
      · subst h2
        rw [if_pos rfl, okE_p]
        have c1 : clA (46 :: xr) = [112] := rfl
        have ih := under hd y (46 :: xr) (fun z => by rw [c1] at z; cases z)
        rw [c1, if_neg (by decide), Bool.and_true] at ih
        by_cases q : clA xr = [117]
        · rw [if_pos q, if_pos q, Bool.and_false]
        · rw [if_neg q, if_neg q, Bool.and_true]; exact ih
      · rw [if_neg h2, okE_f h h2]
        have c1 : clA (c :: xr) = [102] := by unfold clA; simp only; rw [if_neg h, if_neg h2]
        have ih := under hd y (c :: xr) (fun z => by rw [c1] at z; cases z)
        rw [c1, if_neg (by decide), Bool.and_true] at ih
        rw [← ih]
        split <;> rw [Bool.and_true]
theorem unders {r : Rdr} (hd : r.d = o_none ∨ r.d = o_single ∨ r.d = o_free) (b : List Nat) : ugB r b = uA r.d [] b := by
  have := under hd b [] (fun z => by cases z)
  change (_ && if ([] : List Nat) = [117] then okE b else true) = uA r.d [] b at this
  rw [if_neg (by decide), Bool.and_true] at this
  rw [ugB_is]
  exact this
end DL

set_option Elab.async false
set_option linter.all false
set_option maxRecDepth 100000
set_option maxHeartbeats 4000000
namespace DL
open PySem L2
structure RdrOk (r : Rdr) : Prop where
  a : r.a = o_none ∨ r.a = o_ends
  b : r.b = o_none ∨ r.b = o_minus ∨ r.b = o_both
  c : r.c = o_none ∨ r.c = o_free ∨ r.c = o_eight
  d : r.d = o_none ∨ r.d = o_single ∨ r.d = o_free
  e : r.e = o_none ∨ r.e = o_part ∨ r.e = o_loose ∨ r.e = o_rows
  ce : r.c = o_eight → r.e = o_none
def Q0 (q : RS) : Prop := (q.ph = h_start ∨ q.ph = h_signed) ∧ q.fi = [] ∧ q.ma = 0 ∧ q.ro = 0 ∧ q.rd = false ∧ q.la = [] ∧ q.po = false
def coreB (r : Rdr) (b : List Nat) : Bool :=
  ugB r b && (!(decide (r.f = o_plain) && decide (116 ∈ b)) && (pgB r (splL 46 [] (clean b)) && noughtB r (wholeL r (splL 46 [] (clean b)))))
theorem clean_bg {b : List Nat} (h : ∀ c ∈ b, c ∈ BGc) : ∀ c ∈ clean b, c = 46 ∨ c ∈ FGc := by
  intro c hc
  obtain ⟨h1, h2⟩ := List.mem_filter.mp hc
  rcases bg_cases (h c h1) with e | e | e
  · exact .inl e
  · simp [e] at h2
  · exact .inr e
theorem pl_clean {r : Rdr} {b : List Nat} : plB r (clean b) = !(decide (r.f = o_plain) && decide (116 ∈ b)) := by
  unfold plB
  have : ((clean b).any fun c => decide (c = 116)) = decide (116 ∈ b) := by
    rw [Bool.eq_iff_iff, List.any_eq_true, decide_eq_true_eq]
    constructor
    · rintro ⟨x, hx, e⟩
      have := of_decide_eq_true e
      subst this
      exact (List.mem_filter.mp hx).1
    · intro h
      exact ⟨116, List.mem_filter.mpr ⟨h, by decide⟩, by decide⟩
  rw [this]
theorem head_tw : ∀ (s acc : List Nat), (splL 46 acc s).headD [] = acc ++ s.takeWhile fun c => !decide (c = 46)
  | [], acc => by rw [splL_nil]; simp
  | c :: s, acc => by
    by_cases h : c = 46
    · subst h; rw [splL_cut]; simp
    · rw [splL_go _ _ _ h, head_tw s, List.takeWhile_cons, if_pos (by simp [h])]; simp
theorem one_row : ∀ (s acc : List Nat), (splL 46 acc s).length = 1 → 46 ∉ s
  | [], acc, _ => by simp
  | c :: s, acc, h => by
    by_cases q : c = 46
    · subst q
      rw [splL_cut, List.length_cons] at h
      exact absurd (List.length_pos_iff.mpr (splL_ne 46 s [])) (by omega)
    · rw [splL_go _ _ _ q] at h
      have := one_row s _ h
      simp [this]; omega
theorem noPt_id {s : List Nat} (h : 46 ∉ s) : noPt s = s := by
  unfold noPt
  rw [List.filter_eq_self]
  intro x hx
  simp
  intro z
  exact h (z ▸ hx)
theorem tw_id {s : List Nat} (h : 46 ∉ s) : (s.takeWhile fun c => !decide (c = 46)) = s := by
  induction s with
  | nil => rfl
  | cons x t ih =>
    have h1 : ¬x = 46 := fun z => h (by simp [z])
    rw [List.takeWhile_cons, if_pos (by simp [h1]), ih (fun z => h (by simp [z]))]
theorem pg_none {r : Rdr} (h : r.e = o_none) {rows : List (List Nat)} (p : pgB r rows = true) : rows.length = 1 := by
  match rows, p with
  | [a], _ => rfl
  | a :: b :: t, p =>
    rw [pgB_two, if_neg (by rw [h]; decide), if_pos (.inr h)] at p
    cases p
theorem core_is {r : Rdr} (ok : RdrOk r) {q : RS} (hq : Q0 q) {b : List Nat} (hb : ∀ c ∈ b, c ∈ BGc) : whole r (run r b (some q)) = coreB r b := by
  obtain ⟨h1, h2, h3, h4, h5, h6, h7⟩ := hq
  have np : ¬q.ph = h_tail := by rcases h1 with h | h <;> rw [h] <;> decide
  have nn : ¬q.ph = h_number := by rcases h1 with h | h <;> rw [h] <;> decide
  rw [body1 b q hb np (fun h => by rw [h6] at h; rcases h with h | h <;> cases h), h6, if_neg (by decide)]
  have cb := clean_bg hb
  rw [body2 (clean b) (q.wl []) cb ⟨(fun h => by have : q.po = true := h; rw [h7] at this; cases this), np, fun _ => nn, fun h => absurd rfl h, .inl rfl⟩]
  show (uA r.d [] b && (plB r (clean b) && ngt r q.fi q.po (clean b) && shp r q.ma q.ro q.rd [] q.po (clean b))) = _
  rw [h2, h3, h4, h5, h7]
  have s := shpA ok.e (clean b) [] cb
  rw [laO_nil] at s
  rw [show shp r 0 0 false [] false (clean b) = pgB r (splL 46 [] (clean b)) from s, pl_clean, ← unders ok.d]
  unfold coreB
  cases hp : pgB r (splL 46 [] (clean b)) with
  | false => cases ugB r b <;> simp
  | true =>
    have hn : ngt r [] false (clean b) = noughtB r (wholeL r (splL 46 [] (clean b))) := by
      rw [← nought]
      unfold wholeL
      by_cases c1 : r.e = o_rows
      · rw [if_pos c1, ngt_rows (by rw [c1]; decide), join0_splL]
        rfl
      · rw [if_neg c1, head_tw, List.nil_append]
        by_cases c2 : r.e = o_none
        · have n46 := one_row _ _ (pg_none c2 hp)
          rw [ngt_rows (by rw [c2]; decide), noPt_id n46, tw_id n46]
        · have hin : r.e ∈ [o_part, o_loose] := by
            rcases ok.e with z | z | z | z
            · exact absurd z c2
            · rw [z]; decide
            · rw [z]; decide
            · exact absurd z c1
          rw [ngt_part hin]
    rw [hn]
    cases ugB r b <;> cases (decide (r.f = o_plain) && decide (116 ∈ b)) <;> cases noughtB r (wholeL r (splL 46 [] (clean b))) <;> rfl
theorem bh_blank {r : Rdr} {st : RS} : bh r (some st) 32 = (if r.a = o_none then none else if st.ph = h_signed then none else if st.ph = h_number then (if whole r (some st) = true then some ⟨h_tail, st.fi, st.ma, st.ro, st.rd, st.la, st.po⟩ else none) else some st) := by
  unfold bh
  simp only
  exact if_pos trivial
theorem bh_nt {r : Rdr} {o : Option RS} {c : Nat} {st : RS} (hc : ¬c = 32) (h : bh r o c = some st) : ¬st.ph = h_tail := by
  unfold bh at h
  cases o with
  | none => cases h
  | some s =>
    simp only at h
    rw [if_neg hc] at h
    split at h
    · cases h
    · rename_i hp
      split at h
      · repeat' split at h
        all_goals first | (cases h; done) | (cases h; show ¬h_signed = h_tail; decide)
      · split at h
        · exact ph_nt (bhF_some h).1
        · split at h
          · exact ph_nt (bhP_some h).1
          · unfold bhU at h
            split at h
            · cases h
            · cases h; exact hp
theorem tail_run {r : Rdr} (ha : ¬r.a = o_none) : ∀ (y : List Nat) (st : RS), st.ph = h_tail → whole r (run r y (some st)) = y.all fun c => decide (c = 32)
  | [], st, h => by
    show (if ¬st.ph = h_number then decide (st.ph = h_tail) else _) = true
    rw [if_pos (by rw [h]; decide), decide_eq_true h]
  | c :: y, st, h => by
    rw [run_cons, List.all_cons]
    by_cases hc : c = 32
    · subst hc
      rw [bh_blank, if_neg ha, if_neg (by rw [h]; decide), if_neg (by rw [h]; decide), decide_eq_true rfl, Bool.true_and]
      exact tail_run ha y st h
    · have : bh r (some st) c = none := by
        unfold bh
        simp only
        rw [if_neg hc, if_pos h]
      rw [this, run_none, decide_eq_false hc]; rfl
theorem blanks_end {r : Rdr} (ha : ¬r.a = o_none) : ∀ (y : List Nat) (st : RS), ¬st.ph = h_tail → (∀ c ∈ y, c = 32) → whole r (run r y (some st)) = whole r (some st)
  | [], st, _, _ => rfl
  | c :: y, st, h, hy => by
    have hc : c = 32 := hy c (by simp)
    subst hc
    have hy' : ∀ c ∈ y, c = 32 := fun c h => hy c (by simp [h])
    rw [run_cons, bh_blank, if_neg ha]
    by_cases h1 : st.ph = h_signed
    · rw [if_pos h1, run_none]
      show false = (if ¬st.ph = h_number then decide (st.ph = h_tail) else _)
      rw [if_pos (by rw [h1]; decide), decide_eq_false h]
    · rw [if_neg h1]
      by_cases h2 : st.ph = h_number
      · rw [if_pos h2]
        cases w : whole r (some st) with
        | true =>
          rw [if_pos rfl, tail_run ha y _ rfl, List.all_eq_true]
          exact fun c hc => decide_eq_true (hy' c hc)
        | false => rw [if_neg Bool.false_ne_true, run_none]; rfl
      · rw [if_neg h2]
        exact blanks_end ha y st h hy'
theorem ownB_is (r : Rdr) (s : List Nat) : ownB r s = (!decide (midL r s = []) && (!((midL r s).any fun c => !decide (c ∈ BGc)) && coreB r (midL r s))) := by
  unfold ownB coreB
  generalize midL r s = b
  by_cases c1 : b = []
  · rw [if_pos c1, decide_eq_true c1]; rfl
  · rw [if_neg c1, decide_eq_false c1]
    cases c2 : (b.any fun c => !decide (c ∈ BGc)) with
    | true => rfl
    | false =>
      rw [if_neg Bool.false_ne_true]
      cases c3 : ugB r b with
      | false => rfl
      | true =>
        rw [if_neg Bool.noConfusion]
        by_cases c4 : r.f = o_plain ∧ 116 ∈ b
        · rw [if_pos c4, decide_eq_true c4.1, decide_eq_true c4.2]; rfl
        · rw [if_neg c4]
          have : (decide (r.f = o_plain) && decide (116 ∈ b)) = false := by
            cases z : (decide (r.f = o_plain) && decide (116 ∈ b)) with
            | false => rfl
            | true => exact absurd (by simpa using z) c4
          rw [this]
          cases pgB r (splL 46 [] (clean b)) <;> rfl
theorem sg_cases {c : Nat} (h : c ∈ SGc) : c = 32 ∨ c = 43 ∨ c = 45 ∨ c ∈ BGc := by
  simp [SGc, BGc] at h ⊢; omega
theorem bh_body {r : Rdr} {st : RS} {c : Nat} (hc : c ∈ BGc) (h : st.ph = h_number) : bh r (some st) c = none ∨ ∃ st', bh r (some st) c = some st' ∧ st'.ph = h_number := by
  rcases bg_cases hc with e | e | e
  · subst e
    rw [bh_pt (ph_nt h)]
    cases q : bhP r st with
    | none => exact .inl rfl
    | some t => exact .inr ⟨t, rfl, (bhP_some q).1⟩
  · subst e
    rw [bh_un (ph_nt h)]
    unfold bhU
    split
    · exact .inl rfl
    · exact .inr ⟨_, rfl, h⟩
  · rw [bh_fig e (ph_nt h)]
    cases q : bhF r st c with
    | none => exact .inl rfl
    | some t => exact .inr ⟨t, rfl, (bhF_some q).1⟩
theorem last_cons {c : Nat} {b : List Nat} (h : (c :: b).reverse.head? ≠ some 32) : b.reverse.head? ≠ some 32 := by
  intro z
  refine h ?_
  rw [List.reverse_cons]
  cases e : b.reverse with
  | nil => rw [e] at z; cases z
  | cons x y => rw [e] at z; simpa using z
theorem bad_num {r : Rdr} : ∀ (b : List Nat) (st : RS), st.ph = h_number → (¬r.a = o_none → b.reverse.head? ≠ some 32) → (b.any fun c => !decide (c ∈ BGc)) = true → (∀ c ∈ b, c ∈ SGc) → whole r (run r b (some st)) = false
  | [], _, _, _, h, _ => by cases h
  | c :: b, st, hp, hl, hbad, hs => by
    rw [run_cons]
    have hs' : ∀ c ∈ b, c ∈ SGc := fun c h => hs c (by simp [h])
    rcases sg_cases (hs c (by simp)) with e | e | e | e
    · subst e
      rw [bh_blank]
      by_cases ha : r.a = o_none
      · rw [if_pos ha, run_none]; rfl
      · rw [if_neg ha, if_neg (by rw [hp]; decide), if_pos hp]
        split
        · rw [tail_run ha b _ rfl, Bool.eq_false_iff]
          intro z
          rw [List.all_eq_true] at z
          have h2 := hl ha
          rw [List.reverse_cons] at h2
          cases eb : b.reverse with
          | nil => rw [eb] at h2; exact h2 rfl
          | cons x y =>
            rw [eb] at h2
            have hx : x ∈ b := by rw [← List.mem_reverse, eb]; simp
            have := of_decide_eq_true (z x hx)
            subst this
            exact h2 rfl
        · rw [run_none]; rfl
    · subst e
      have : bh r (some st) 43 = none := by unfold bh; simp only; rw [if_neg (by decide), if_neg (ph_nt hp), if_pos (by decide), if_pos (by rw [hp]; decide)]
      rw [this, run_none]; rfl
    · subst e
      have : bh r (some st) 45 = none := by unfold bh; simp only; rw [if_neg (by decide), if_neg (ph_nt hp), if_pos (by decide), if_pos (by rw [hp]; decide)]
      rw [this, run_none]; rfl
    · have hb2 : (b.any fun c => !decide (c ∈ BGc)) = true := by
        rw [List.any_cons, decide_eq_true e] at hbad
        exact hbad
      rcases bh_body e hp with q | ⟨t, q, qp⟩
      · rw [q, run_none]; rfl
      · rw [q]
        exact bad_num b t qp (fun ha => last_cons (hl ha)) hb2 hs'
theorem bad_q {r : Rdr} (ok : RdrOk r) {q : RS} (hq : Q0 q) : ∀ (b : List Nat), (q.ph = h_start → ∀ c, b.head? = some c → (c = 45 → r.b = o_none) ∧ (c = 43 → ¬r.b = o_both) ∧ (c = 32 → r.a = o_none)) → (¬r.a = o_none → b.reverse.head? ≠ some 32) → (b.any fun c => !decide (c ∈ BGc)) = true → (∀ c ∈ b, c ∈ SGc) → whole r (run r b (some q)) = false
  | [], _, _, h, _ => by cases h
  | c :: b, hh, hl, hbad, hs => by
    obtain ⟨h1, h2, h3, h4, h5, h6, h7⟩ := hq
    have np : ¬q.ph = h_tail := by rcases h1 with h | h <;> rw [h] <;> decide
    rw [run_cons]
    have hs' : ∀ c ∈ b, c ∈ SGc := fun c h => hs c (by simp [h])
    have sign : ∀ c, c = 43 ∨ c = 45 → (q.ph = h_start → (c = 45 → r.b = o_none) ∧ (c = 43 → ¬r.b = o_both)) → bh r (some q) c = none := by
      intro c hc hh
      unfold bh
      simp only
      rw [if_neg (by omega), if_neg np, if_pos (by simp; exact hc)]
      by_cases s1 : q.ph = h_start
      · obtain ⟨k1, k2⟩ := hh s1
        rw [if_neg (fun z => z s1)]
        by_cases s2 : r.b = o_none
        · rw [if_pos s2]
        · rw [if_neg s2]
          rcases hc with hc | hc
          · rcases ok.b with z | z | z
            · exact absurd z s2
            · rw [if_pos ⟨hc, z⟩]
            · exact absurd z (k2 hc)
          · exact absurd (k1 hc) s2
      · rw [if_pos s1]
    rcases sg_cases (hs c (by simp)) with e | e | e | e
    · subst e
      rw [bh_blank]
      by_cases ha : r.a = o_none
      · rw [if_pos ha, run_none]; rfl
      · rw [if_neg ha]
        rcases h1 with h1 | h1
        · exact absurd ((hh h1 32 rfl).2.2 rfl) ha
        · rw [if_pos h1, run_none]; rfl
    · rw [sign c (.inl e) (fun h => ⟨(hh h c rfl).1, (hh h c rfl).2.1⟩), run_none]; rfl
    · rw [sign c (.inr e) (fun h => ⟨(hh h c rfl).1, (hh h c rfl).2.1⟩), run_none]; rfl
    · have hb2 : (b.any fun c => !decide (c ∈ BGc)) = true := by
        rw [List.any_cons, decide_eq_true e] at hbad
        exact hbad
      have nxt : bh r (some q) c = none ∨ ∃ st', bh r (some q) c = some st' ∧ st'.ph = h_number := by
        rcases bg_cases e with e | e | e
        · subst e
          rw [bh_pt np]
          cases q : bhP r q with
          | none => exact .inl rfl
          | some t => exact .inr ⟨t, rfl, (bhP_some q).1⟩
        · subst e
          rw [bh_un np]
          unfold bhU
          rw [if_pos (.inr ⟨by rw [h6]; decide, fun z => by rw [h6] at z; exact absurd z.1 (by decide)⟩)]
          exact .inl rfl
        · rw [bh_fig e np]
          cases q : bhF r q c with
          | none => exact .inl rfl
          | some t => exact .inr ⟨t, rfl, (bhF_some q).1⟩
      rcases nxt with q | ⟨t, q, qp⟩
      · rw [q, run_none]; rfl
      · rw [q]
        exact bad_num b t qp (fun ha => last_cons (hl ha)) hb2 hs'
theorem q_fst : Q0 fst0 := ⟨.inl rfl, rfl, rfl, rfl, rfl, rfl, rfl⟩
theorem all_q {r : Rdr} (ok : RdrOk r) {q : RS} (hq : Q0 q) (b : List Nat) (hh : q.ph = h_start → ∀ c, b.head? = some c → (c = 45 → r.b = o_none) ∧ (c = 43 → ¬r.b = o_both) ∧ (c = 32 → r.a = o_none)) (hl : ¬r.a = o_none → b.reverse.head? ≠ some 32) (hs : ∀ c ∈ b, c ∈ SGc) :
    whole r (run r b (some q)) = (!decide (b = []) && (!(b.any fun c => !decide (c ∈ BGc)) && coreB r b)) := by
  by_cases c1 : b = []
  · subst c1
    obtain ⟨h1, _⟩ := hq
    rw [decide_eq_true rfl]
    show (if ¬q.ph = h_number then decide (q.ph = h_tail) else _) = false
    rw [if_pos (by rcases h1 with h | h <;> rw [h] <;> decide), decide_eq_false (by rcases h1 with h | h <;> rw [h] <;> decide)]
  · rw [decide_eq_false c1, Bool.not_false, Bool.true_and]
    cases c2 : (b.any fun c => !decide (c ∈ BGc)) with
    | true => rw [bad_q ok hq b hh hl c2 hs]; rfl
    | false =>
      rw [core_is ok hq (fun c hc => ?_)]
      · rfl
      · rw [Bool.eq_false_iff] at c2
        exact Classical.byContradiction fun h => c2 (List.any_eq_true.mpr ⟨c, hc, by simpa using h⟩)
theorem mid_is {r : Rdr} (ok : RdrOk r) (t : List Nat) (h1 : ¬r.a = o_none → t.head? ≠ some 32) (h2 : ¬r.a = o_none → t.reverse.head? ≠ some 32) (hs : ∀ c ∈ t, c ∈ SGc) :
    whole r (run r t (some fst0)) = (!decide (sgL r t = []) && (!((sgL r t).any fun c => !decide (c ∈ BGc)) && coreB r (sgL r t))) := by
  have sgn : ∀ c t', t = c :: t' → (c = 45 ∧ ¬r.b = o_none) ∨ (c = 43 ∧ r.b = o_both) → sgL r t = t' → whole r (run r t (some fst0)) = (!decide (sgL r t = []) && (!((sgL r t).any fun c => !decide (c ∈ BGc)) && coreB r (sgL r t))) := by
    intro c t' et hc es
    rw [es]
    subst et
    rw [run_cons]
    have e : bh r (some fst0) c = some ⟨h_signed, [], 0, 0, false, [], false⟩ := by
      unfold bh
      simp only
      rw [if_neg (by omega), if_neg (by decide), if_pos (by simp; omega), if_neg (fun z => z rfl)]
      rcases hc with ⟨e, z⟩ | ⟨e, z⟩
      · rw [if_neg z, if_neg (by omega)]; rfl
      · rw [if_neg (by rw [z]; decide), if_neg (fun w => by have := w.2; rw [z] at this; exact absurd this (by decide))]; rfl
    rw [e]
    exact all_q ok (q := ⟨h_signed, [], 0, 0, false, [], false⟩) ⟨.inr rfl, rfl, rfl, rfl, rfl, rfl, rfl⟩ t' (fun z => absurd z (by decide)) (fun ha => last_cons (h2 ha)) (fun c h => hs c (by simp [h]))
  have no : sgL r t = t → (∀ c, t.head? = some c → (c = 45 → r.b = o_none) ∧ (c = 43 → ¬r.b = o_both)) → whole r (run r t (some fst0)) = (!decide (sgL r t = []) && (!((sgL r t).any fun c => !decide (c ∈ BGc)) && coreB r (sgL r t))) := by
    intro es hc
    rw [es]
    exact all_q ok q_fst t (fun _ c hcc => ⟨(hc c hcc).1, (hc c hcc).2, fun z => Classical.byContradiction fun ha => h1 ha (by rw [hcc, z])⟩) h2 hs
  cases t with
  | nil => exact no rfl (fun c h => by cases h)
  | cons c t' =>
    unfold sgL at sgn no ⊢
    by_cases c1 : c = 45 ∧ ¬r.b = o_none
    · exact sgn c t' rfl (.inl c1) (by rw [if_pos ⟨by rw [c1.1]; rfl, c1.2⟩]; rfl)
    · by_cases c2 : c = 43 ∧ r.b = o_both
      · exact sgn c t' rfl (.inr c2) (by rw [if_neg (fun z => c1 ⟨Option.some.inj z.1, z.2⟩), if_pos ⟨by rw [c2.1]; rfl, c2.2⟩]; rfl)
      · refine no (by rw [if_neg (fun z => c1 ⟨Option.some.inj z.1, z.2⟩), if_neg (fun z => c2 ⟨Option.some.inj z.1, z.2⟩)]) fun x hx => ?_
        have := Option.some.inj hx
        subst this
        exact ⟨fun z => Classical.byContradiction fun w => c1 ⟨z, w⟩, fun z w => c2 ⟨z, w⟩⟩
theorem strip_parts (s : List Nat) : ∃ p e, s = p ++ (stripL 32 s ++ e) ∧ (∀ c ∈ p, c = 32) ∧ (∀ c ∈ e, c = 32) ∧ (stripL 32 s).head? ≠ some 32 ∧ (stripL 32 s).reverse.head? ≠ some 32 := by
  have tw : ∀ l : List Nat, ∀ c ∈ l.takeWhile (fun x => decide (x = 32)), c = 32 := by
    intro l
    induction l with
    | nil => intro c h; cases h
    | cons x t ih =>
      intro c h
      rw [List.takeWhile_cons] at h
      split at h
      · rename_i hx
        rcases List.mem_cons.mp h with h | h
        · rw [h]; exact of_decide_eq_true hx
        · exact ih c h
      · cases h
  have dw : ∀ l : List Nat, (l.dropWhile (fun x => decide (x = 32))).head? ≠ some 32 := by
    intro l
    induction l with
    | nil => intro h; cases h
    | cons x t ih =>
      rw [List.dropWhile_cons]
      split
      · exact ih
      · rename_i hx
        intro h
        have := Option.some.inj h
        exact hx (decide_eq_true this)
  generalize hD : s.dropWhile (fun x => decide (x = 32)) = D
  have e1 : stripL 32 s = (D.reverse.dropWhile fun x => decide (x = 32)).reverse := by unfold stripL; rw [hD]
  have e2 : D = stripL 32 s ++ (D.reverse.takeWhile fun x => decide (x = 32)).reverse := by
    rw [e1, ← List.reverse_append, List.takeWhile_append_dropWhile, List.reverse_reverse]
  refine ⟨s.takeWhile (fun x => decide (x = 32)), (D.reverse.takeWhile fun x => decide (x = 32)).reverse, ?_, tw s, fun c hc => tw D.reverse c (List.mem_reverse.mp hc), ?_, ?_⟩
  · rw [← e2, ← hD, List.takeWhile_append_dropWhile]
  · intro h
    have : D.head? = some 32 := by
      rw [e2]
      cases q : stripL 32 s with
      | nil => rw [q] at h; cases h
      | cons x t => rw [q] at h; exact h
    rw [← hD] at this
    exact dw s this
  · rw [e1, List.reverse_reverse]
    exact dw _
theorem start_run {r : Rdr} (ha : ¬r.a = o_none) : ∀ (p : List Nat), (∀ c ∈ p, c = 32) → run r p (some fst0) = some fst0
  | [], _ => rfl
  | c :: p, h => by
    have hc : c = 32 := h c (by simp)
    subst hc
    rw [run_cons, bh_blank, if_neg ha, if_neg (by decide), if_neg (by decide)]
    exact start_run ha p (fun c hc => h c (by simp [hc]))
theorem read_is {r : Rdr} (ok : RdrOk r) {s : List Nat} (hs : okT s = true) : rdB r s = ownB r s := by
  rw [okT_mem] at hs
  rw [ownB_is]
  unfold rdB midL
  by_cases ha : r.a = o_none
  · have ne : ¬r.a = o_ends := by rw [ha]; decide
    rw [if_neg ne]
    exact mid_is ok s (fun h => absurd ha h) (fun h => absurd ha h) hs
  · have ya : r.a = o_ends := by rcases ok.a with z | z; exact absurd z ha; exact z
    rw [if_pos ya]
    obtain ⟨p, e, es, hp, he, h1, h2⟩ := strip_parts s
    generalize stripL 32 s = t at es h1 h2
    have hst : ∀ c ∈ t, c ∈ SGc := fun c hc => hs c (by rw [es]; simp [hc])
    rw [← mid_is ok t (fun _ => h1) (fun _ => h2) hst, es, run_app, start_run ha p hp, run_app]
    cases q : run r t (some fst0) with
    | none => rw [run_none]
    | some st =>
      refine blanks_end ha e st ?_ he
      cases qt : t.reverse with
      | nil =>
        have : t = [] := by simpa using qt
        subst this
        have : fst0 = st := Option.some.inj q
        rw [← this]
        decide
      | cons x y =>
        have et : t = y.reverse ++ [x] := by
          have := congrArg List.reverse qt
          simpa using this
        rw [qt] at h2
        have hx : ¬x = 32 := fun z => h2 (by rw [z]; rfl)
        rw [et, run_app] at q
        exact bh_nt hx q
end DL

set_option Elab.async false
set_option linter.all false
set_option maxRecDepth 100000
set_option maxHeartbeats 4000000
namespace DL
open PySem L2
theorem mid_parts (r : Rdr) (s : List Nat) : ∃ p e, s = p ++ (midL r s ++ e) ∧ (∀ c ∈ p, c = 32 ∨ c = 43 ∨ c = 45) ∧ (∀ c ∈ e, c = 32) := by
  have sg : ∀ t : List Nat, ∃ p, t = p ++ sgL r t ∧ (∀ c ∈ p, c = 32 ∨ c = 43 ∨ c = 45) := by
    intro t
    unfold sgL
    cases t with
    | nil => exact ⟨[], by simp, by simp⟩
    | cons c t =>
      split
      · rename_i h
        have := Option.some.inj h.1
        exact ⟨[c], rfl, by simp [this]⟩
      · split
        · rename_i h
          have := Option.some.inj h.1
          exact ⟨[c], rfl, by simp [this]⟩
        · exact ⟨[], rfl, by simp⟩
  unfold midL
  split
  · obtain ⟨p, e, h1, h2, h3, _⟩ := strip_parts s
    obtain ⟨q, h4, h5⟩ := sg (stripL 32 s)
    refine ⟨p ++ q, e, ?_, fun c hc => ?_, h3⟩
    · rw [List.append_assoc, ← List.append_assoc q, ← h4]; exact h1
    · rcases List.mem_append.mp hc with h | h
      · exact .inl (h2 c h)
      · exact h5 c h
  · obtain ⟨q, h4, h5⟩ := sg s
    exact ⟨q, [], by rw [List.append_nil]; exact h4, h5, by simp⟩
theorem figs_app (a b : List Nat) : figs (a ++ b) = figs a ++ figs b := List.filter_append ..
theorem figs_nil {a : List Nat} (h : ∀ c ∈ a, c = 32 ∨ c = 43 ∨ c = 45) : figs a = [] := by
  unfold figs
  rw [List.filter_eq_nil_iff]
  intro c hc
  rcases h c hc with h | h | h <;> subst h <;> decide
theorem figs_clean {b : List Nat} (h : ∀ c ∈ b, c ∈ BGc) : figs b = noPt (clean b) := by
  unfold figs noPt clean
  rw [List.filter_filter]
  refine List.filter_congr fun c hc => ?_
  rcases bg_cases (h c hc) with e | e | e
  · subst e; rfl
  · subst e; rfl
  · have : ¬c = 46 ∧ ¬c = 95 := by simp [FGc] at e; omega
    rw [decide_eq_true e, decide_eq_false this.1, decide_eq_false this.2]; rfl
def gPt (l : List Nat) : List Nat := figs (l.dropWhile fun c => !decide (c = 46))
theorem gPt_no {c : Nat} {l : List Nat} (h : ¬c = 46) : gPt (c :: l) = gPt l := by unfold gPt; rw [List.dropWhile_cons, if_pos (by simp [h])]
theorem gPt_yes {l : List Nat} : gPt (46 :: l) = figs l := by unfold gPt; rw [List.dropWhile_cons, if_neg (by simp)]; rfl
theorem gPt_pre {l : List Nat} : ∀ (p : List Nat), (∀ c ∈ p, c = 32 ∨ c = 43 ∨ c = 45) → gPt (p ++ l) = gPt l
  | [], _ => rfl
  | c :: p, h => by
    rw [List.cons_append, gPt_no (by have := h c (by simp); omega)]
    exact gPt_pre p fun c hc => h c (by simp [hc])
theorem gPt_post {e : List Nat} (he : ∀ c ∈ e, c = 32) : ∀ (b : List Nat), gPt (b ++ e) = gPt b
  | [] => by
    have := gPt_pre (l := []) e fun c hc => .inl (he c hc)
    rw [List.append_nil] at this
    exact this
  | c :: b => by
    rw [List.cons_append]
    by_cases h : c = 46
    · subst h
      rw [gPt_yes, gPt_yes, figs_app, figs_nil (a := e) (fun c hc => .inl (he c hc)), List.append_nil]
    · rw [gPt_no h, gPt_no h]; exact gPt_post he b
theorem figs_cl (b : List Nat) : figs (clean b) = figs b := by
  unfold figs clean
  rw [List.filter_filter]
  refine List.filter_congr fun c _ => ?_
  by_cases h : c = 95
  · subst h; rfl
  · rw [decide_eq_false h]; simp
theorem gPt_clean : ∀ (b : List Nat), gPt (clean b) = gPt b
  | [] => rfl
  | c :: b => by
    by_cases h : c = 95
    · subst h
      rw [show clean (95 :: b) = clean b from rfl, gPt_no (by decide)]
      exact gPt_clean b
    · have e : clean (c :: b) = c :: clean b := by unfold clean; rw [List.filter_cons, if_pos (by simp [h])]
      rw [e]
      by_cases h2 : c = 46
      · subst h2; rw [gPt_yes, gPt_yes, figs_cl]
      · rw [gPt_no h2, gPt_no h2]; exact gPt_clean b
theorem idx_yes {l : List Nat} : idxL 46 (46 :: l) = 0 := by unfold idxL; rw [List.takeWhile_cons, if_neg (by simp)]; rfl
theorem idx_no {c : Nat} {l : List Nat} (h : ¬c = 46) : idxL 46 (c :: l) = idxL 46 l + 1 := by unfold idxL; rw [List.takeWhile_cons, if_pos (by simp [h])]; rfl
theorem gPt_len : ∀ (l acc : List Nat), (∀ c ∈ l, c = 46 ∨ c ∈ FGc) → 46 ∈ l → (splL 46 acc l).length ≤ 2 → (gPt l).length = l.length - idxL 46 l - 1
  | [], _, _, h, _ => by cases h
  | c :: l, acc, hl, hm, hs => by
    have hl' : ∀ c ∈ l, c = 46 ∨ c ∈ FGc := fun c h => hl c (by simp [h])
    by_cases h : c = 46
    · subst h
      rw [splL_cut, List.length_cons] at hs
      have hp := List.length_pos_iff.mpr (splL_ne 46 l [])
      have n := one_row l [] (by omega)
      have : figs l = l := by
        unfold figs
        rw [List.filter_eq_self]
        intro x hx
        rcases hl' x hx with e | e
        · exact absurd (e ▸ hx) n
        · exact decide_eq_true e
      rw [gPt_yes, this, idx_yes, List.length_cons]
      omega
    · rw [splL_go _ _ _ h] at hs
      have hm' : 46 ∈ l := by rcases List.mem_cons.mp hm with e | e; exact absurd e.symm h; exact e
      have := gPt_len l _ hl' hm' hs
      rw [gPt_no h, idx_no h, this, List.length_cons]
      omega
theorem divB_figs : ∀ (l : List Nat) (d : Int), divB d l = d * 10 ^ (figs l).length
  | [], d => by unfold divB figs; simp
  | c :: l, d => by
    show divB (if c ∈ FGc then d * 10 else d) l = _
    by_cases h : c ∈ FGc
    · have e : figs (c :: l) = c :: figs l := by unfold figs; rw [List.filter_cons, if_pos (decide_eq_true h)]
      rw [if_pos h, divB_figs l, e, List.length_cons, Int.pow_succ, Int.mul_assoc, Int.mul_comm 10]
    · have e : figs (c :: l) = figs l := by unfold figs; rw [List.filter_cons, if_neg (by simpa using h)]
      rw [if_neg h, divB_figs l, e]
theorem pg_pos {r : Rdr} {rows : List (List Nat)} (p : pgB r rows = true) : 0 < (rows.map (·.length)).sum := by
  match rows, p with
  | [a], p => rw [pgB_one] at p; simpa using p
  | a :: b :: t, p =>
    rw [pgB_two] at p
    have e : ((a :: b :: t).map (·.length)).sum = a.length + (b.length + (t.map (·.length)).sum) := by simp
    rw [e]
    split at p
    · simp at p; omega
    · split at p
      · cases p
      · split at p
        · simp at p; omega
        · simp at p; omega
theorem own_pg {r : Rdr} {s : List Nat} (h : ownB r s = true) : pgB r (splL 46 [] (clean (midL r s))) = true := by
  rw [ownB_is] at h
  unfold coreB at h
  simp only [Bool.and_eq_true] at h
  exact h.2.2.2.2.1
theorem pg_part {r : Rdr} (h : ¬r.e = o_rows) {rows : List (List Nat)} (p : pgB r rows = true) : rows.length ≤ 2 := by
  match rows, p with
  | [a], _ => simp
  | a :: b :: t, p =>
    rw [pgB_two, if_neg h] at p
    split at p
    · cases p
    · rename_i q
      rw [List.length_cons, List.length_cons]
      exact Nat.le_of_not_lt fun z => q (.inl z)
theorem num_is {r : Rdr} (ok : RdrOk r) {s : List Nat} (h : ownB r s = true) : numR r s = ownN r s ∧ figs s ≠ [] := by
  obtain ⟨p, e, es, hp, he⟩ := mid_parts r s
  have hb := own_mem h
  have hpg := own_pg h
  have f : figs s = noPt (clean (midL r s)) := by
    rw [← figs_clean hb]
    conv => lhs; rw [es]
    rw [figs_app, figs_app, figs_nil hp, figs_nil (a := e) (fun c hc => .inl (he c hc)), List.append_nil, List.nil_append]
  have hcl := clean_bg hb
  have g : gPt s = gPt (clean (midL r s)) := by
    rw [gPt_clean]
    conv => lhs; rw [es]
    rw [gPt_pre p hp, gPt_post he]
  have m : 46 ∈ s ↔ 46 ∈ clean (midL r s) := by
    have : 46 ∈ clean (midL r s) ↔ 46 ∈ midL r s := by unfold clean; rw [List.mem_filter]; simp
    rw [this]
    conv => lhs; rw [es]
    rw [List.mem_append, List.mem_append]
    constructor
    · rintro (z | z | z)
      · have := hp 46 z; omega
      · exact z
      · have := he 46 z; omega
    · exact fun z => .inr (.inl z)
  refine ⟨?_, ?_⟩
  · unfold numR ownN
    dsimp only
    have eb : baseR r (figs s) = baseO r (clean (midL r s)) := by
      unfold baseR baseO
      by_cases c1 : r.c = o_eight
      · rw [f, noPt_id (one_row _ _ (pg_none (ok.ce c1) hpg))]
      · rw [if_neg (fun z => c1 z.1), if_neg (fun z => c1 z.1)]
    have ed : dvR r s = belO r (clean (midL r s)) := by
      unfold dvR belO
      by_cases c1 : r.e ∈ [o_part, o_loose] ∧ 46 ∈ s
      · have nr : ¬r.e = o_rows := fun z => by rw [z] at c1; exact absurd c1.1 (by decide)
        rw [if_pos c1, if_pos ⟨c1.1, m.mp c1.2⟩, divB_figs, Int.one_mul]
        have e0 : s.drop (idxL 46 s) = s.dropWhile fun c => !decide (c = 46) := drop_tw _ s
        rw [e0]
        show (10 : Int) ^ (gPt s).length = _
        rw [g, gPt_len _ [] hcl (m.mp c1.2) (pg_part nr hpg)]
      · rw [if_neg c1, if_neg (fun z => c1 ⟨z.1, m.mpr z.2⟩)]
    rw [eb, ed]
    unfold sgR
    rw [f]
    by_cases c2 : 45 ∈ s
    · rw [if_pos c2, if_pos c2, Int.zero_sub]
    · rw [if_neg c2, if_neg c2]
  · rw [f]
    intro z
    have l := joinL0_len (splL 46 [] (clean (midL r s)))
    rw [join0_splL] at l
    have := pg_pos hpg
    rw [← l] at this
    have e0 : ([] ++ (clean (midL r s)).filter fun x => !decide (x = 46)) = noPt (clean (midL r s)) := rfl
    rw [e0, z] at this
    exact absurd this (by decide)
theorem res_is {r : Rdr} (ok : RdrOk r) {s : List Nat} (hs : okT s = true) : resR r s = ownR r s ∧ (rdB r s = true → figs s ≠ []) := by
  have h := read_is ok hs
  unfold resR ownR
  rw [h]
  refine ⟨?_, fun q => (num_is ok q).2⟩
  by_cases q : ownB r s = true
  · rw [if_pos q, if_pos q, (num_is ok q).1]
  · rw [if_neg q, if_neg q]
theorem res_ok {r : Rdr} {s : List Nat} : ownR r s = .non ∨ ∃ a b : Int, ownR r s = .tup [.int a, .int b] := by
  unfold ownR
  split
  · exact .inr ⟨_, _, rfl⟩
  · exact .inl rfl
end DL

set_option Elab.async false
set_option linter.all false
set_option maxRecDepth 100000
set_option maxHeartbeats 4000000
namespace DL
open PySem L2
theorem mem2 {x a b : List Nat} (h : x ∈ [a, b]) : x = a ∨ x = b := by simpa using h
theorem mem3 {x a b c : List Nat} (h : x ∈ [a, b, c]) : x = a ∨ x = b ∨ x = c := by simpa using h
theorem mem4 {x a b c d : List Nat} (h : x ∈ [a, b, c, d]) : x = a ∨ x = b ∨ x = c ∨ x = d := by simpa using h
theorem rdr_ok {r : Rdr} (h : rf r.D = none) : RdrOk r := by
  have ok : ∀ {i : Nat} {s : List Nat} {o : List (List Nat)} {ds : List D} {os : List (List (List Nat))}, bad1 i (.str s :: ds) (o :: os) = none → s ∈ o ∧ bad1 (i + 1) ds os = none := by
    intro i s o ds os h
    rw [bad1] at h
    by_cases q : s ∈ o
    · rw [if_pos (show okO (.str s) o = true from decide_eq_true q)] at h; exact ⟨q, h⟩
    · rw [if_neg (show ¬ okO (.str s) o = true from fun z => q (of_decide_eq_true z))] at h; cases h
  unfold rf at h
  simp only [Rdr.D] at h
  cases q : bad1 0 [.str r.a, .str r.b, .str r.c, .str r.d, .str r.e, D.str r.f] OPc with
  | some i => rw [q] at h; cases h
  | none =>
    rw [q] at h
    unfold OPc at q
    obtain ⟨h1, q⟩ := ok q
    obtain ⟨h2, q⟩ := ok q
    obtain ⟨h3, q⟩ := ok q
    obtain ⟨h4, q⟩ := ok q
    obtain ⟨h5, q⟩ := ok q
    refine ⟨mem2 h1, mem3 h2, mem3 h3, mem3 h4, mem4 h5, fun e => ?_⟩
    exact Classical.byContradiction fun z => by
      simp only at h
      rw [if_pos ⟨e, z⟩] at h
      cases h
theorem ord_rdr {ss : List (List Nat)} (h : ORd ss) : ∃ r : Rdr, D.tup (ss.map D.str) = r.D ∧ RdrV r := by
  obtain ⟨h1, h2, h3⟩ := h
  match ss, h2, h1, h3 with
  | [a, b, c, d, e, f], _, h1, h3 =>
    refine ⟨⟨a, b, c, d, e, f⟩, rfl, h1, ?_, ?_, ?_, ?_, ?_, ?_⟩
    all_goals exact Nat.le_trans (h3 _ (by simp)).1 (by decide)
def tR02 (A : Ad) : DS := dSeq (dSet 2 (dCall (sp_law_reader A) (dCons (dVar 1) (dNil)))) (dSeq (dFor (dRng1 (dCons (dC (.int 12)) (dNil))) (gN 3) (dSeq (dSet 4 (dCall (sp_law_text A) (dCons (dVar 1) (dCons (dC (.int 9)) (dNil))))) (dIfS (dNot (dTest (dCall (sp_lk1) (dCons (dCall (sp_read A) (dCons (dVar 2) (dCons (dVar 4) (dNil)))) (dCons (dCall (sp_law_read A) (dCons (dVar 2) (dCons (dVar 4) (dNil)))) (dNil)))))) (dRet (dC (.bl false))) (dNext)))) (dRet (dC (.bl true))))
theorem k02_loop {A : Ad} {W : DW} {E : DEnds} {x : Addr} {u : Option D} {r : Rdr} (hr : RdrV r) : ∀ (ks : List Nat) (M : DM) (a b : Option D), DrawsAt M x → (∀ M a b, E.nx [u, some (.ref x), some r.D, a, b] M) →
    dLoop (gN 3) ((dSeq (dSet 4 (dCall (sp_law_text A) (dCons (dVar 1) (dCons (dC (.int 9)) (dNil))))) (dIfS (dNot (dTest (dCall sp_lk1 (dCons (dCall (sp_read A) (dCons (dVar 2) (dCons (dVar 4) (dNil)))) (dCons (dCall (sp_law_read A) (dCons (dVar 2) (dCons (dVar 4) (dNil)))) (dNil)))))) (dRet (dC (.bl false))) (dNext))) W) anyM (ks.map fun i => .int (0 + (i : Nat))) E [u, some (.ref x), some r.D, a, b] M
  | [], M, a, b, _, k => ⟨trivial, k M a b⟩
  | i :: ks, M, a, b, hd, k => by
    refine ⟨trivial, x, 9, rfl, by decide, by decide, hd, fun s M1 hs hl a1 => ?_⟩
    refine ⟨r, s, rfl, hr, by omega, fun _ => ⟨(res_is (rdr_ok hr.1) hs).2, ?_⟩, fun h => absurd hs (by rw [h]; exact Bool.false_ne_true)⟩
    refine ⟨r, s, rfl, by omega, ?_⟩
    rw [(res_is (rdr_ok hr.1) hs).1]
    refine ⟨ownR r s, rfl, res_ok, ?_⟩
    exact k02_loop hr ks M1 _ _ a1.d k
theorem pure_tR02 {A : Ad} {x : Addr} {M : DM} {u : Option D} {W : DW} {E : DEnds} (hd : DrawsAt M x) (k : ∀ M, E.rt (.bl true) M) : tR02 A W E [u, some (.ref x), none, none, none] M := by
  refine ⟨x, rfl, hd, fun ss M1 hss a1 => ?_⟩
  obtain ⟨r, er, hr⟩ := ord_rdr hss
  rw [er]
  refine ⟨⟨by decide, by decide⟩, ?_⟩
  exact k02_loop hr (List.range (12 : Int).toNat) M1 none none a1.d fun M a b => k M
theorem kdw_of {K : PySem.W.Frag} {w : World} {mg : Str → Option Value} {d : Addr} {es : Array DictEntry} {n : Nat} {t0 t1 t8 tt : Tok} (hm : mg "WORTHS" = some (.ref d)) (hl : K.lookup d = some ⟨.type "dict", none, .dict es n, #[]⟩) (hk : PySem.W.KeysLit w.params es.toList)
    (h0 : PySem.W.nsIn K d "0" = some (some (.int 0 t0))) (h1 : PySem.W.nsIn K d "1" = some (some (.int 1 t1))) (h8 : PySem.W.nsIn K d "8" = some (some (.int 8 t8))) (ht : PySem.W.nsIn K d "t" = some (some (.int 3 tt))) : KDW K w mg := by
  refine ⟨d, hm, fun c v h => ?_⟩
  have go : ∀ {x : Str} {i : Int} {t : Tok}, PySem.W.nsIn K d x = some (some (.int i t)) → KDct K w d x (.int i) := fun h => ⟨es, n, _, hl, hk, h, ⟨_, rfl⟩⟩
  unfold wv at h
  by_cases c0 : c = 48
  · rw [if_pos c0] at h; cases h; subst c0
    have := go h0
    rwa [show ("0" : Str) = sV [48] from by first | rfl | decide +kernel] at this
  rw [if_neg c0] at h
  by_cases c1 : c = 49
  · rw [if_pos c1] at h; cases h; subst c1
    have := go h1
    rwa [show ("1" : Str) = sV [49] from by first | rfl | decide +kernel] at this
  rw [if_neg c1] at h
  by_cases c8 : c = 56
  · rw [if_pos c8] at h; cases h; subst c8
    have := go h8
    rwa [show ("8" : Str) = sV [56] from by first | rfl | decide +kernel] at this
  rw [if_neg c8] at h
  by_cases ct : c = 116
  · rw [if_pos ct] at h; cases h; subst ct
    have := go ht
    rwa [show ("t" : Str) = sV [116] from by first | rfl | decide +kernel] at this
  rw [if_neg ct] at h
  cases h
end DL

set_option Elab.async false
set_option linter.all false
set_option maxRecDepth 100000
set_option maxHeartbeats 4000000
namespace KK
open PySem PySem.Spec PyProof.Rows L2 DL
def top (i : Nat) : Stmt := PySem.Challenge.pw_figureread_k02_whole_numbers_read.main.body.getD i (.Pass ⟨0, 0, 0, 0⟩)
abbrev s_BadReader_init : Stmt := inClass (top 3) 0
theorem sc_BadReader_init : FnScope ["self", "index"] ["self", "index"] (defScope s_BadReader_init) := ⟨rfl, rfl, rfl, by decide +kernel, rfl, by decide +kernel, by decide +kernel⟩
abbrev s_is_text : Stmt := top 11
theorem sc_is_text : FnScope ["value", "sign"] ["value"] (defScope s_is_text) := ⟨rfl, rfl, rfl, by decide +kernel, rfl, by decide +kernel, by decide +kernel⟩
abbrev s_check_text : Stmt := top 12
theorem sc_check_text : FnScope ["text"] ["text"] (defScope s_check_text) := ⟨rfl, rfl, rfl, by decide +kernel, rfl, by decide +kernel, by decide +kernel⟩
abbrev s_reader_fault : Stmt := top 13
theorem sc_reader_fault : FnScope ["value", "index", "option"] ["value"] (defScope s_reader_fault) := ⟨rfl, rfl, rfl, by decide +kernel, rfl, by decide +kernel, by decide +kernel⟩
abbrev s_check_reader : Stmt := top 14
theorem sc_check_reader : FnScope ["reader", "index"] ["reader"] (defScope s_check_reader) := ⟨rfl, rfl, rfl, by decide +kernel, rfl, by decide +kernel, by decide +kernel⟩
abbrev s_is_whole : Stmt := top 15
theorem sc_is_whole : FnScope ["reader", "state", "phase", "first", "many", "row", "rowed", "last", "pointed"] ["reader", "state"] (defScope s_is_whole) := ⟨rfl, rfl, rfl, by decide +kernel, rfl, by decide +kernel, by decide +kernel⟩
abbrev s_behind_figure : Stmt := top 16
theorem sc_behind_figure : FnScope ["reader", "state", "sign", "phase", "first", "many", "row", "rowed", "last", "pointed"] ["reader", "state", "sign"] (defScope s_behind_figure) := ⟨rfl, rfl, rfl, by decide +kernel, rfl, by decide +kernel, by decide +kernel⟩
abbrev s_behind_point : Stmt := top 17
theorem sc_behind_point : FnScope ["reader", "state", "phase", "first", "many", "row", "rowed", "last", "pointed"] ["reader", "state"] (defScope s_behind_point) := ⟨rfl, rfl, rfl, by decide +kernel, rfl, by decide +kernel, by decide +kernel⟩
abbrev s_behind_under : Stmt := top 18
theorem sc_behind_under : FnScope ["reader", "state", "phase", "first", "many", "row", "rowed", "last", "pointed"] ["reader", "state"] (defScope s_behind_under) := ⟨rfl, rfl, rfl, by decide +kernel, rfl, by decide +kernel, by decide +kernel⟩
abbrev s_behind : Stmt := top 19
theorem sc_behind : FnScope ["reader", "state", "sign", "phase"] ["reader", "state", "sign"] (defScope s_behind) := ⟨rfl, rfl, rfl, by decide +kernel, rfl, by decide +kernel, by decide +kernel⟩
abbrev s_is_read : Stmt := top 20
theorem sc_is_read : FnScope ["reader", "text", "state", "sign"] ["reader", "text"] (defScope s_is_read) := ⟨rfl, rfl, rfl, by decide +kernel, rfl, by decide +kernel, by decide +kernel⟩
abbrev s_lowest : Stmt := top 21
theorem sc_lowest : FnScope ["p", "q", "one", "other"] ["p", "q"] (defScope s_lowest) := ⟨rfl, rfl, rfl, by decide +kernel, rfl, by decide +kernel, by decide +kernel⟩
abbrev s_number_of : Stmt := top 22
theorem sc_number_of : FnScope ["reader", "text", "figures", "base", "number", "sign", "divisor"] ["reader", "text"] (defScope s_number_of) := ⟨rfl, rfl, rfl, by decide +kernel, rfl, by decide +kernel, by decide +kernel⟩
abbrev s_read : Stmt := top 23
theorem sc_read : FnScope ["reader", "text"] ["reader", "text"] (defScope s_read) := ⟨rfl, rfl, rfl, by decide +kernel, rfl, by decide +kernel, by decide +kernel⟩
abbrev s_law_begin : Stmt := top 25
theorem sc_law_begin : FnScope ["_law_script"] ["_law_script"] (defScope s_law_begin) := ⟨rfl, rfl, rfl, by decide +kernel, rfl, by decide +kernel, by decide +kernel⟩
abbrev s_law_draw : Stmt := top 26
theorem sc_law_draw : FnScope ["_law_draws", "_law_many", "_law_found", "_law_cell"] ["_law_draws", "_law_many"] (defScope s_law_draw) := ⟨rfl, rfl, rfl, by decide +kernel, rfl, by decide +kernel, by decide +kernel⟩
abbrev s_law_reader : Stmt := top 27
theorem sc_law_reader : FnScope ["_law_draws", "_law_noughts", "_law_under", "_law_point", "_law_blanks", "_law_sign"] ["_law_draws"] (defScope s_law_reader) := ⟨rfl, rfl, rfl, by decide +kernel, rfl, by decide +kernel, by decide +kernel⟩
abbrev s_law_text : Stmt := top 28
theorem sc_law_text : FnScope ["_law_draws", "_law_most", "_law_head", "_law_body", "_law_k"] ["_law_draws", "_law_most"] (defScope s_law_text) := ⟨rfl, rfl, rfl, by decide +kernel, rfl, by decide +kernel, by decide +kernel⟩
abbrev s_law_middle : Stmt := top 29
theorem sc_law_middle : FnScope ["_law_reader_here", "_law_text_here"] ["_law_reader_here", "_law_text_here"] (defScope s_law_middle) := ⟨rfl, rfl, rfl, by decide +kernel, rfl, by decide +kernel, by decide +kernel⟩
abbrev s_law_unders_good : Stmt := top 30
theorem sc_law_unders_good : FnScope ["_law_reader_here", "_law_body", "_law_k", "_law_low", "_law_high"] ["_law_reader_here", "_law_body"] (defScope s_law_unders_good) := ⟨rfl, rfl, rfl, by decide +kernel, rfl, by decide +kernel, by decide +kernel⟩
abbrev s_law_points_good : Stmt := top 31
theorem sc_law_points_good : FnScope ["_law_reader_here", "_law_rows", "_law_row"] ["_law_reader_here", "_law_rows"] (defScope s_law_points_good) := ⟨rfl, rfl, rfl, by decide +kernel, rfl, by decide +kernel, by decide +kernel⟩
abbrev s_law_is_read : Stmt := top 32
theorem sc_law_is_read : FnScope ["_law_reader_here", "_law_text_here", "_law_body", "_law_rows", "_law_whole", "_law_sign"] ["_law_reader_here", "_law_text_here"] (defScope s_law_is_read) := ⟨rfl, rfl, rfl, by decide +kernel, rfl, by decide +kernel, by decide +kernel⟩
abbrev s_law_lowest : Stmt := top 33
theorem sc_law_lowest : FnScope ["_law_p", "_law_q", "_law_one", "_law_other"] ["_law_p", "_law_q"] (defScope s_law_lowest) := ⟨rfl, rfl, rfl, by decide +kernel, rfl, by decide +kernel, by decide +kernel⟩
abbrev s_law_read : Stmt := top 34
theorem sc_law_read : FnScope ["_law_reader_here", "_law_text_here", "_law_body", "_law_base", "_law_number", "_law_sign", "_law_below", "_law_k"] ["_law_reader_here", "_law_text_here"] (defScope s_law_read) := ⟨rfl, rfl, rfl, by decide +kernel, rfl, by decide +kernel, by decide +kernel⟩
abbrev s_law_like : Stmt := top 35
theorem sc_law_like : FnScope ["_law_actual", "_law_due", "_law_k"] ["_law_actual", "_law_due"] (defScope s_law_like) := ⟨rfl, rfl, rfl, by decide +kernel, rfl, by decide +kernel, by decide +kernel⟩
abbrev s_law : Stmt := top 36
theorem sc_law : FnScope ["_law_script", "_law_draws", "_law_reader_here", "_law_k", "_law_text_here"] ["_law_script"] (defScope s_law) := ⟨rfl, rfl, rfl, by decide +kernel, rfl, by decide +kernel, by decide +kernel⟩
structure Fd where
  a_BadReader_init : Addr
  d_BadReader_init : FuncData
  a_is_text : Addr
  d_is_text : FuncData
  a_check_text : Addr
  d_check_text : FuncData
  a_reader_fault : Addr
  d_reader_fault : FuncData
  a_check_reader : Addr
  d_check_reader : FuncData
  a_is_whole : Addr
  d_is_whole : FuncData
  a_behind_figure : Addr
  d_behind_figure : FuncData
  a_behind_point : Addr
  d_behind_point : FuncData
  a_behind_under : Addr
  d_behind_under : FuncData
  a_behind : Addr
  d_behind : FuncData
  a_is_read : Addr
  d_is_read : FuncData
  a_lowest : Addr
  d_lowest : FuncData
  a_number_of : Addr
  d_number_of : FuncData
  a_read : Addr
  d_read : FuncData
  a_law_begin : Addr
  d_law_begin : FuncData
  a_law_draw : Addr
  d_law_draw : FuncData
  a_law_reader : Addr
  d_law_reader : FuncData
  a_law_text : Addr
  d_law_text : FuncData
  a_law_middle : Addr
  d_law_middle : FuncData
  a_law_unders_good : Addr
  d_law_unders_good : FuncData
  a_law_points_good : Addr
  d_law_points_good : FuncData
  a_law_is_read : Addr
  d_law_is_read : FuncData
  a_law_lowest : Addr
  d_law_lowest : FuncData
  a_law_read : Addr
  d_law_read : FuncData
  a_law_like : Addr
  d_law_like : FuncData
  a_law : Addr
  d_law : FuncData
structure TX (K : PySem.W.Frag) (w : World) (mg : Str → Option Value) (A : Ad) (B : Fd) : Prop where
  F_BadReader_init : Fun K "__init__" "BadReader.__init__" s_BadReader_init B.a_BadReader_init B.d_BadReader_init
  b_BadReader_init : Binds K B.d_BadReader_init ["self", "index"] []
  F_is_text : Fun K "is_text" "is_text" s_is_text B.a_is_text B.d_is_text
  b_is_text : Binds K B.d_is_text ["value"] []
  m_is_text : mg "is_text" = some (.ref B.a_is_text)
  k_is_text : PySem.W.keepIn K (.ref B.a_is_text) = true
  F_check_text : Fun K "check_text" "check_text" s_check_text B.a_check_text B.d_check_text
  b_check_text : Binds K B.d_check_text ["text"] []
  m_check_text : mg "check_text" = some (.ref B.a_check_text)
  k_check_text : PySem.W.keepIn K (.ref B.a_check_text) = true
  F_reader_fault : Fun K "reader_fault" "reader_fault" s_reader_fault B.a_reader_fault B.d_reader_fault
  b_reader_fault : Binds K B.d_reader_fault ["value"] []
  m_reader_fault : mg "reader_fault" = some (.ref B.a_reader_fault)
  k_reader_fault : PySem.W.keepIn K (.ref B.a_reader_fault) = true
  F_check_reader : Fun K "check_reader" "check_reader" s_check_reader B.a_check_reader B.d_check_reader
  b_check_reader : Binds K B.d_check_reader ["reader"] []
  m_check_reader : mg "check_reader" = some (.ref B.a_check_reader)
  k_check_reader : PySem.W.keepIn K (.ref B.a_check_reader) = true
  F_is_whole : Fun K "is_whole" "is_whole" s_is_whole B.a_is_whole B.d_is_whole
  b_is_whole : Binds K B.d_is_whole ["reader", "state"] []
  m_is_whole : mg "is_whole" = some (.ref B.a_is_whole)
  k_is_whole : PySem.W.keepIn K (.ref B.a_is_whole) = true
  F_behind_figure : Fun K "behind_figure" "behind_figure" s_behind_figure B.a_behind_figure B.d_behind_figure
  b_behind_figure : Binds K B.d_behind_figure ["reader", "state", "sign"] []
  m_behind_figure : mg "behind_figure" = some (.ref B.a_behind_figure)
  k_behind_figure : PySem.W.keepIn K (.ref B.a_behind_figure) = true
  F_behind_point : Fun K "behind_point" "behind_point" s_behind_point B.a_behind_point B.d_behind_point
  b_behind_point : Binds K B.d_behind_point ["reader", "state"] []
  m_behind_point : mg "behind_point" = some (.ref B.a_behind_point)
  k_behind_point : PySem.W.keepIn K (.ref B.a_behind_point) = true
  F_behind_under : Fun K "behind_under" "behind_under" s_behind_under B.a_behind_under B.d_behind_under
  b_behind_under : Binds K B.d_behind_under ["reader", "state"] []
  m_behind_under : mg "behind_under" = some (.ref B.a_behind_under)
  k_behind_under : PySem.W.keepIn K (.ref B.a_behind_under) = true
  F_behind : Fun K "behind" "behind" s_behind B.a_behind B.d_behind
  b_behind : Binds K B.d_behind ["reader", "state", "sign"] []
  m_behind : mg "behind" = some (.ref B.a_behind)
  k_behind : PySem.W.keepIn K (.ref B.a_behind) = true
  F_is_read : Fun K "is_read" "is_read" s_is_read B.a_is_read B.d_is_read
  b_is_read : Binds K B.d_is_read ["reader", "text"] []
  m_is_read : mg "is_read" = some (.ref B.a_is_read)
  k_is_read : PySem.W.keepIn K (.ref B.a_is_read) = true
  F_lowest : Fun K "lowest" "lowest" s_lowest B.a_lowest B.d_lowest
  b_lowest : Binds K B.d_lowest ["p", "q"] []
  m_lowest : mg "lowest" = some (.ref B.a_lowest)
  k_lowest : PySem.W.keepIn K (.ref B.a_lowest) = true
  F_number_of : Fun K "number_of" "number_of" s_number_of B.a_number_of B.d_number_of
  b_number_of : Binds K B.d_number_of ["reader", "text"] []
  m_number_of : mg "number_of" = some (.ref B.a_number_of)
  k_number_of : PySem.W.keepIn K (.ref B.a_number_of) = true
  F_read : Fun K "read" "read" s_read B.a_read B.d_read
  b_read : Binds K B.d_read ["reader", "text"] []
  m_read : mg "read" = some (.ref B.a_read)
  k_read : PySem.W.keepIn K (.ref B.a_read) = true
  F_law_begin : Fun K "_law_begin" "_law_begin" s_law_begin B.a_law_begin B.d_law_begin
  b_law_begin : Binds K B.d_law_begin ["_law_script"] []
  m_law_begin : mg "_law_begin" = some (.ref B.a_law_begin)
  k_law_begin : PySem.W.keepIn K (.ref B.a_law_begin) = true
  F_law_draw : Fun K "_law_draw" "_law_draw" s_law_draw B.a_law_draw B.d_law_draw
  b_law_draw : Binds K B.d_law_draw ["_law_draws", "_law_many"] []
  m_law_draw : mg "_law_draw" = some (.ref B.a_law_draw)
  k_law_draw : PySem.W.keepIn K (.ref B.a_law_draw) = true
  F_law_reader : Fun K "_law_reader" "_law_reader" s_law_reader B.a_law_reader B.d_law_reader
  b_law_reader : Binds K B.d_law_reader ["_law_draws"] []
  m_law_reader : mg "_law_reader" = some (.ref B.a_law_reader)
  k_law_reader : PySem.W.keepIn K (.ref B.a_law_reader) = true
  F_law_text : Fun K "_law_text" "_law_text" s_law_text B.a_law_text B.d_law_text
  b_law_text : Binds K B.d_law_text ["_law_draws", "_law_most"] []
  m_law_text : mg "_law_text" = some (.ref B.a_law_text)
  k_law_text : PySem.W.keepIn K (.ref B.a_law_text) = true
  F_law_middle : Fun K "_law_middle" "_law_middle" s_law_middle B.a_law_middle B.d_law_middle
  b_law_middle : Binds K B.d_law_middle ["_law_reader_here", "_law_text_here"] []
  m_law_middle : mg "_law_middle" = some (.ref B.a_law_middle)
  k_law_middle : PySem.W.keepIn K (.ref B.a_law_middle) = true
  F_law_unders_good : Fun K "_law_unders_good" "_law_unders_good" s_law_unders_good B.a_law_unders_good B.d_law_unders_good
  b_law_unders_good : Binds K B.d_law_unders_good ["_law_reader_here", "_law_body"] []
  m_law_unders_good : mg "_law_unders_good" = some (.ref B.a_law_unders_good)
  k_law_unders_good : PySem.W.keepIn K (.ref B.a_law_unders_good) = true
  F_law_points_good : Fun K "_law_points_good" "_law_points_good" s_law_points_good B.a_law_points_good B.d_law_points_good
  b_law_points_good : Binds K B.d_law_points_good ["_law_reader_here", "_law_rows"] []
  m_law_points_good : mg "_law_points_good" = some (.ref B.a_law_points_good)
  k_law_points_good : PySem.W.keepIn K (.ref B.a_law_points_good) = true
  F_law_is_read : Fun K "_law_is_read" "_law_is_read" s_law_is_read B.a_law_is_read B.d_law_is_read
  b_law_is_read : Binds K B.d_law_is_read ["_law_reader_here", "_law_text_here"] []
  m_law_is_read : mg "_law_is_read" = some (.ref B.a_law_is_read)
  k_law_is_read : PySem.W.keepIn K (.ref B.a_law_is_read) = true
  F_law_lowest : Fun K "_law_lowest" "_law_lowest" s_law_lowest B.a_law_lowest B.d_law_lowest
  b_law_lowest : Binds K B.d_law_lowest ["_law_p", "_law_q"] []
  m_law_lowest : mg "_law_lowest" = some (.ref B.a_law_lowest)
  k_law_lowest : PySem.W.keepIn K (.ref B.a_law_lowest) = true
  F_law_read : Fun K "_law_read" "_law_read" s_law_read B.a_law_read B.d_law_read
  b_law_read : Binds K B.d_law_read ["_law_reader_here", "_law_text_here"] []
  m_law_read : mg "_law_read" = some (.ref B.a_law_read)
  k_law_read : PySem.W.keepIn K (.ref B.a_law_read) = true
  F_law_like : Fun K "_law_like" "_law_like" s_law_like B.a_law_like B.d_law_like
  b_law_like : Binds K B.d_law_like ["_law_actual", "_law_due"] []
  m_law_like : mg "_law_like" = some (.ref B.a_law_like)
  k_law_like : PySem.W.keepIn K (.ref B.a_law_like) = true
  F_law : Fun K "law" "law" s_law B.a_law B.d_law
  b_law : Binds K B.d_law ["_law_script"] []
  m_law : mg "law" = some (.ref B.a_law)
  k_law : PySem.W.keepIn K (.ref B.a_law) = true
  e_cBT : DL.ExcC K mg "BadText" A.cBT
  f_cBR : DL.ExcF K mg "BadReader" A.cBR B.a_BadReader_init "index"
  z_isinstance : mg "isinstance" = none
  z_len : mg "len" = none
  z_enumerate : mg "enumerate" = none
  z_all : mg "all" = none
  z_any : mg "any" = none
  z_str : mg "str" = none
  z_int : mg "int" = none
  z_tuple : mg "tuple" = none
  z_bool : mg "bool" = none
  z_range : mg "range" = none
  z_min : mg "min" = none
  z_abs : mg "abs" = none
  z_list : mg "list" = none
  v_SIGNS : ∃ u, mg "SIGNS" = some u ∧ ItV K c_SIGNS u
  v_FIGURES : ∃ u, mg "FIGURES" = some u ∧ ItV K c_FIGURES u
  v_OPTIONS : ∃ u, mg "OPTIONS" = some u ∧ ItV K c_OPTIONS u
  v_PARTS : ∃ u, mg "PARTS" = some u ∧ ItV K c_PARTS u
  v_FIRST : ∃ u, mg "FIRST" = some u ∧ ItV K c_FIRST u
  kdw : KDW K w mg
section
variable {mg : Str → Option Value} {base : Heap} {Z : ZP} {A : Ad} {B : Fd}
theorem ok_BadReader_init (T : TX Z.K Z.w mg A B) : FnOk Z.P Z.w Z.K mg base (L2.CX Z.P Z.w) 1 B.a_BadReader_init B.d_BadReader_init ["self", "index"] (spInitX A.cBR "index") := ok_initX T.F_BadReader_init sc_BadReader_init T.f_cBR rfl rfl rfl (by decide) (by decide) (fun _ _ => rfl)
theorem ok_is_text (T : TX Z.K Z.w mg A B) : FnOk Z.P Z.w Z.K mg base (L2.CX Z.P Z.w) 1 B.a_is_text B.d_is_text ["value"] (lSp Z (sp_is_text A)) := by
  skip
  exact fn_okD (t := t_is_text A) T.F_is_text sc_is_text (fun ds M R EX h => by obtain ⟨_, rfl, _⟩ := h; rfl) (fun _ _ _ _ _ _ hr => (qss_one (qs_ret (qe_and (qe_isi Tn.str rfl (by decide) (qv 0) T.z_isinstance T.z_str (by decide +kernel)) (qe_one (qe_callB (c_all rfl) T.z_all (by decide +kernel) (qa_cons (qe_lc (own := [("sign", 1)]) (g := gName 1) rfl sc_is_text.nd (qi_any rfl (qv 0)) (blkOk_by rfl) cg_name (fun _ _ _ _ _ => pg_name (i := 1) sc_is_text.nd rfl (.inl rfl)) (fun _ _ _ _ _ => qts_nil) (fun _ _ _ _ _ => (qe_cmp (o := o_in rfl (room65 hr)) (qv 1) (qe_cv T.v_SIGNS) (by rfl)))) qa_nil))))))) (pure_is_text)
theorem ok_check_text (T : TX Z.K Z.w mg A B) : FnOk Z.P Z.w Z.K mg base (L2.CX Z.P Z.w) 3 B.a_check_text B.d_check_text ["text"] (lSp Z (sp_check_text A)) := by
  have G_is_text := ok_is_text (base := base) T
  exact fn_okD (t := t_check_text A) T.F_check_text sc_check_text (fun ds M R EX h => by obtain ⟨_, rfl, _⟩ := h; rfl) (fun _ _ _ _ _ _ hr => (qss_one (qs_if (qt_not (qt_val (qe_call G_is_text (hr.mono (by decide)) T.m_is_text T.k_is_text T.b_is_text (qa_cons (qv 0) qa_nil)))) (qss_one (qs_raise0 rfl T.e_cBT)) qss_nil))) (pure_check_text)
theorem ok_reader_fault (T : TX Z.K Z.w mg A B) : FnOk Z.P Z.w Z.K mg base (L2.CX Z.P Z.w) 1 B.a_reader_fault B.d_reader_fault ["value"] (lSp Z (sp_reader_fault A)) := by
  skip
  exact fn_okD (t := t_reader_fault A) T.F_reader_fault sc_reader_fault (fun ds M R EX h => by obtain ⟨_, rfl, _⟩ := h; rfl) (fun _ _ _ _ _ _ hr => (qss_cons (qs_if (QW.qt (qw_or (qt_not (qt_val (qe_isi Tn.tuple rfl (by decide) (qv 0) T.z_isinstance T.z_tuple (by decide +kernel)))) (qw_or1 (qt_cmp (o := o_ne rfl (room64 hr)) (qe_callB (c_len rfl) T.z_len (by decide +kernel) (qa_cons (qv 0) qa_nil)) (qe_callB (c_len rfl) T.z_len (by decide +kernel) (qa_cons (qe_cv T.v_OPTIONS) qa_nil)))))) (qss_one (qs_ret (qe_callB (c_len rfl) T.z_len (by decide +kernel) (qa_cons (qe_cv T.v_OPTIONS) qa_nil)))) qss_nil)
  (qss_cons (qs_for (passes_of rfl) rfl (qi_enum rfl T.z_enumerate (qa_cons (qv 0) qa_nil)) (qg_tup rfl rfl (qgs_cons (qg_name sc_reader_fault.nd) (qgs_cons (qg_name sc_reader_fault.nd) qgs_nil))) (qss_one (qs_if (QW.qt (qw_or (qt_not (qt_val (qe_isi Tn.str rfl (by decide) (qv 2) T.z_isinstance T.z_str (by decide +kernel)))) (qw_or1 (qt_cmp (o := o_notIn rfl (room65 hr)) (qv 2) (qe_ix rfl (qe_cv T.v_OPTIONS) (qv 1)) (by rfl))))) (qss_one (qs_ret (qv 1))) qss_nil)))
  (qss_cons (qs_if (QW.qt (qw_and (qt_cmp (o := o_eq rfl (room64 hr)) (qe_ix rfl (qv 0) qe_int) (qe_str [101, 105, 103, 104, 116])) (qw_and1 (qt_cmp (o := o_ne rfl (room64 hr)) (qe_ix rfl (qv 0) qe_int) (qe_str [110, 111, 110, 101]))))) (qss_one (qs_ret qe_int)) qss_nil)
  (qss_cons (qs_if (QW.qt (qw_and (qt_cmp (o := o_eq rfl (room64 hr)) (qe_ix rfl (qv 0) qe_int) (qe_str [114, 111, 119, 115])) (qw_and1 (qt_cmp (o := o_ne rfl (room64 hr)) (qe_ix rfl (qv 0) qe_int) (qe_str [110, 111, 110, 101]))))) (qss_one (qs_ret qe_int)) qss_nil)
  (qss_one (qs_ret qe_non))))))) (pure_reader_fault)
theorem ok_check_reader (T : TX Z.K Z.w mg A B) : FnOk Z.P Z.w Z.K mg base (L2.CX Z.P Z.w) 3 B.a_check_reader B.d_check_reader ["reader"] (lSp Z (sp_check_reader A)) := by
  have G_reader_fault := ok_reader_fault (base := base) T
  have G_BadReader_init := ok_BadReader_init (base := base) T
  exact fn_okD (t := t_check_reader A) T.F_check_reader sc_check_reader (fun ds M R EX h => by obtain ⟨_, rfl, _⟩ := h; rfl) (fun _ _ _ _ _ _ hr => (qss_cons (qs_set (i := 1) sc_check_reader.nd (qe_call G_reader_fault (hr.mono (by decide)) T.m_reader_fault T.k_reader_fault T.b_reader_fault (qa_cons (qv 0) qa_nil)))
  (qss_one (qs_if (qt_cmp (o := o_isNot) (qv 1) qe_non) (qss_one (qs_raiseF rfl T.f_cBR G_BadReader_init (hr.mono (by decide)) T.b_BadReader_init (qv 1))) qss_nil)))) (pure_check_reader)
theorem ok_is_whole (T : TX Z.K Z.w mg A B) : FnOk Z.P Z.w Z.K mg base (L2.CX Z.P Z.w) 1 B.a_is_whole B.d_is_whole ["reader", "state"] (lSp Z (sp_is_whole A)) := by
  skip
  exact fn_okD (t := t_is_whole A) T.F_is_whole sc_is_whole (fun ds M R EX h => by obtain ⟨_, _, rfl, _⟩ := h; rfl) (fun _ _ _ _ _ _ hr => (qss_cons (qs_if (qt_cmp (o := o_is) (qv 1) qe_non) (qss_one (qs_ret qe_bl)) qss_nil)
  (qss_cons (qs_asg (qv 1) (qg_tup rfl rfl (qgs_cons (qg_name sc_is_whole.nd) (qgs_cons (qg_name sc_is_whole.nd) (qgs_cons (qg_name sc_is_whole.nd) (qgs_cons (qg_name sc_is_whole.nd) (qgs_cons (qg_name sc_is_whole.nd) (qgs_cons (qg_name sc_is_whole.nd) (qgs_cons (qg_name sc_is_whole.nd) qgs_nil)))))))))
  (qss_cons (qs_if (qt_cmp (o := o_ne rfl (room64 hr)) (qv 2) (qe_str [110, 117, 109, 98, 101, 114])) (qss_one (qs_ret (qe_cmp (o := o_eq rfl (room64 hr)) (qv 2) (qe_str [116, 97, 105, 108])))) qss_nil)
  (qss_cons (qs_if (qt_cmp (o := o_eq rfl (room64 hr)) (qv 7) (qe_str [102])) (qss_one (qs_ret (qe_or (qe_not (qv 6)) (qe_one (qe_cmp (o := o_eq rfl (room64 hr)) (qv 5) qe_int))))) qss_nil)
  (qss_one (qs_ret (qe_and (qe_cmp (o := o_eq rfl (room64 hr)) (qv 7) (qe_str [112])) (qe_and (qe_cmp (o := o_eq rfl (room64 hr)) (qe_ix rfl (qv 0) qe_int) (qe_str [108, 111, 111, 115, 101])) (qe_one (qe_cmp (o := o_gt) (qv 4) qe_int))))))))))) (pure_is_whole)
theorem ok_behind_figure (T : TX Z.K Z.w mg A B) : FnOk Z.P Z.w Z.K mg base (L2.CX Z.P Z.w) 1 B.a_behind_figure B.d_behind_figure ["reader", "state", "sign"] (lSp Z (sp_behind_figure A)) := by
  skip
  exact fn_okD (t := t_behind_figure A) T.F_behind_figure sc_behind_figure (fun ds M R EX h => by obtain ⟨_, _, _, rfl, _⟩ := h; rfl) (fun _ _ _ _ _ _ hr => (qss_cons (qs_asg (qv 1) (qg_tup rfl rfl (qgs_cons (qg_name sc_behind_figure.nd) (qgs_cons (qg_name sc_behind_figure.nd) (qgs_cons (qg_name sc_behind_figure.nd) (qgs_cons (qg_name sc_behind_figure.nd) (qgs_cons (qg_name sc_behind_figure.nd) (qgs_cons (qg_name sc_behind_figure.nd) (qgs_cons (qg_name sc_behind_figure.nd) qgs_nil)))))))))
  (qss_cons (qs_if (QW.qt (qw_and (qt_cmp (o := o_eq rfl (room64 hr)) (qv 2) (qe_str [116])) (qw_and1 (qt_cmp (o := o_eq rfl (room64 hr)) (qe_ix rfl (qv 0) qe_int) (qe_str [112, 108, 97, 105, 110]))))) (qss_one (qs_ret qe_non)) qss_nil)
  (qss_cons (qs_if (qt_val (qv 9)) (qss_one (qs_ret (qe_tup (qa_cons (qe_str [110, 117, 109, 98, 101, 114]) (qa_cons (qv 4) (qa_cons (qv 5) (qa_cons (qv 6) (qa_cons (qv 7) (qa_cons (qe_str [102]) (qa_cons qe_bl qa_nil)))))))))) qss_nil)
  (qss_cons (qs_if (qt_cmp (o := o_eq rfl (room64 hr)) (qv 4) (qe_str [])) (qss_one (qs_set (i := 4) sc_behind_figure.nd (qe_ifExp (qt_cmp (o := o_eq rfl (room64 hr)) (qv 2) (qe_str [48])) (qe_str [48]) (qe_str [49])))) (qss_one (qs_if (QW.qt (qw_and (qt_cmp (o := o_eq rfl (room64 hr)) (qv 4) (qe_str [48])) (qw_and1 (QW.qt (qw_or (qt_cmp (o := o_eq rfl (room64 hr)) (qe_ix rfl (qv 0) qe_int) (qe_str [110, 111, 110, 101])) (qw_or1 (QW.qt (qw_and (qt_cmp (o := o_eq rfl (room64 hr)) (qe_ix rfl (qv 0) qe_int) (qe_str [101, 105, 103, 104, 116])) (qw_and1 (qt_cmp (o := o_eq rfl (room64 hr)) (qv 2) (qe_str [56]))))))))))) (qss_one (qs_ret qe_non)) qss_nil)))
  (qss_cons (qs_if (QW.qt (qw_and (qt_val (qv 7)) (qw_and1 (qt_cmp (o := o_eq rfl (room64 hr)) (qv 6) qe_int)))) (qss_one (qs_ret qe_non)) qss_nil)
  (qss_one (qs_ret (qe_tup (qa_cons (qe_str [110, 117, 109, 98, 101, 114]) (qa_cons (qv 4) (qa_cons (qe_callB (c_min rfl) T.z_min (by decide +kernel) (qa_cons (qe_op (o_add rfl) (qv 5) qe_int) (qa_cons qe_int qa_nil))) (qa_cons (qe_callB (c_min rfl) T.z_min (by decide +kernel) (qa_cons (qe_op (o_add rfl) (qv 6) qe_int) (qa_cons qe_int qa_nil))) (qa_cons (qv 7) (qa_cons (qe_str [102]) (qa_cons qe_bl qa_nil)))))))))))))))) (pure_behind_figure)
theorem ok_behind_point (T : TX Z.K Z.w mg A B) : FnOk Z.P Z.w Z.K mg base (L2.CX Z.P Z.w) 1 B.a_behind_point B.d_behind_point ["reader", "state"] (lSp Z (sp_behind_point A)) := by
  skip
  exact fn_okD (t := t_behind_point A) T.F_behind_point sc_behind_point (fun ds M R EX h => by obtain ⟨_, _, rfl, _⟩ := h; rfl) (fun _ _ _ _ _ _ hr => (qss_cons (qs_asg (qv 1) (qg_tup rfl rfl (qgs_cons (qg_name sc_behind_point.nd) (qgs_cons (qg_name sc_behind_point.nd) (qgs_cons (qg_name sc_behind_point.nd) (qgs_cons (qg_name sc_behind_point.nd) (qgs_cons (qg_name sc_behind_point.nd) (qgs_cons (qg_name sc_behind_point.nd) (qgs_cons (qg_name sc_behind_point.nd) qgs_nil)))))))))
  (qss_cons (qs_if (qt_cmp (o := o_eq rfl (room64 hr)) (qe_ix rfl (qv 0) qe_int) (qe_str [114, 111, 119, 115])) (qss_cons (qs_if (QW.qt (qw_or (qt_cmp (o := o_ne rfl (room64 hr)) (qv 7) (qe_str [102])) (qw_or (qt_cmp (o := o_gt) (qv 5) qe_int) (qw_or1 (QW.qt (qw_and (qt_val (qv 6)) (qw_and1 (qt_cmp (o := o_ne rfl (room64 hr)) (qv 5) qe_int)))))))) (qss_one (qs_ret qe_non)) qss_nil)
  (qss_one (qs_ret (qe_tup (qa_cons (qe_str [110, 117, 109, 98, 101, 114]) (qa_cons (qv 3) (qa_cons (qv 4) (qa_cons qe_int (qa_cons qe_bl (qa_cons (qe_str [112]) (qa_cons qe_bl qa_nil))))))))))) qss_nil)
  (qss_cons (qs_if (QW.qt (qw_or (qt_cmp (o := o_notIn rfl (room65 hr)) (qe_ix rfl (qv 0) qe_int) (qe_cv T.v_PARTS) (by rfl)) (qw_or1 (qt_val (qv 8))))) (qss_one (qs_ret qe_non)) qss_nil)
  (qss_cons (qs_if (QW.qt (qw_or (qt_cmp (o := o_eq rfl (room64 hr)) (qv 7) (qe_str [102])) (qw_or1 (QW.qt (qw_and (qt_cmp (o := o_eq rfl (room64 hr)) (qv 7) (qe_str [])) (qw_and1 (qt_cmp (o := o_eq rfl (room64 hr)) (qe_ix rfl (qv 0) qe_int) (qe_str [108, 111, 111, 115, 101])))))))) (qss_one (qs_ret (qe_tup (qa_cons (qe_str [110, 117, 109, 98, 101, 114]) (qa_cons (qv 3) (qa_cons (qv 4) (qa_cons (qv 5) (qa_cons (qv 6) (qa_cons (qe_str [112]) (qa_cons qe_bl qa_nil)))))))))) qss_nil)
  (qss_one (qs_ret qe_non))))))) (pure_behind_point)
theorem ok_behind_under (T : TX Z.K Z.w mg A B) : FnOk Z.P Z.w Z.K mg base (L2.CX Z.P Z.w) 1 B.a_behind_under B.d_behind_under ["reader", "state"] (lSp Z (sp_behind_under A)) := by
  skip
  exact fn_okD (t := t_behind_under A) T.F_behind_under sc_behind_under (fun ds M R EX h => by obtain ⟨_, _, rfl, _⟩ := h; rfl) (fun _ _ _ _ _ _ hr => (qss_cons (qs_asg (qv 1) (qg_tup rfl rfl (qgs_cons (qg_name sc_behind_under.nd) (qgs_cons (qg_name sc_behind_under.nd) (qgs_cons (qg_name sc_behind_under.nd) (qgs_cons (qg_name sc_behind_under.nd) (qgs_cons (qg_name sc_behind_under.nd) (qgs_cons (qg_name sc_behind_under.nd) (qgs_cons (qg_name sc_behind_under.nd) qgs_nil)))))))))
  (qss_cons (qs_if (QW.qt (qw_or (qt_cmp (o := o_eq rfl (room64 hr)) (qe_ix rfl (qv 0) qe_int) (qe_str [110, 111, 110, 101])) (qw_or1 (QW.qt (qw_and (qt_cmp (o := o_ne rfl (room64 hr)) (qv 7) (qe_str [102])) (qw_and1 (qt_not (QW.qt (qw_and (qt_cmp (o := o_eq rfl (room64 hr)) (qv 7) (qe_str [117])) (qw_and1 (qt_cmp (o := o_eq rfl (room64 hr)) (qe_ix rfl (qv 0) qe_int) (qe_str [102, 114, 101, 101])))))))))))) (qss_one (qs_ret qe_non)) qss_nil)
  (qss_one (qs_ret (qe_tup (qa_cons (qv 2) (qa_cons (qv 3) (qa_cons (qv 4) (qa_cons (qv 5) (qa_cons (qv 6) (qa_cons (qe_str [117]) (qa_cons (qv 8) qa_nil))))))))))))) (pure_behind_under)
theorem ok_behind (T : TX Z.K Z.w mg A B) : FnOk Z.P Z.w Z.K mg base (L2.CX Z.P Z.w) 3 B.a_behind B.d_behind ["reader", "state", "sign"] (lSp Z (sp_behind A)) := by
  have G_is_whole := ok_is_whole (base := base) T
  have G_behind_figure := ok_behind_figure (base := base) T
  have G_behind_point := ok_behind_point (base := base) T
  have G_behind_under := ok_behind_under (base := base) T
  exact fn_okD (t := t_behind A) T.F_behind sc_behind (fun ds M R EX h => by obtain ⟨_, _, _, rfl, _⟩ := h; rfl) (fun _ _ _ _ _ _ hr => (qss_cons (qs_if (qt_cmp (o := o_is) (qv 1) qe_non) (qss_one (qs_ret qe_non)) qss_nil)
  (qss_cons (qs_set (i := 3) sc_behind.nd (qe_ix rfl (qv 1) qe_int))
  (qss_cons (qs_if (qt_cmp (o := o_eq rfl (room64 hr)) (qv 2) (qe_str [32])) (qss_cons (qs_if (QW.qt (qw_or (qt_cmp (o := o_eq rfl (room64 hr)) (qe_ix rfl (qv 0) qe_int) (qe_str [110, 111, 110, 101])) (qw_or1 (qt_cmp (o := o_eq rfl (room64 hr)) (qv 3) (qe_str [115, 105, 103, 110, 101, 100]))))) (qss_one (qs_ret qe_non)) qss_nil)
  (qss_cons (qs_if (qt_cmp (o := o_eq rfl (room64 hr)) (qv 3) (qe_str [110, 117, 109, 98, 101, 114])) (qss_one (qs_ret (qe_ifExp (qt_val (qe_call G_is_whole (hr.mono (by decide)) T.m_is_whole T.k_is_whole T.b_is_whole (qa_cons (qv 0) (qa_cons (qv 1) qa_nil)))) (qe_op (o_add rfl) (qe_tup (qa_cons (qe_str [116, 97, 105, 108]) qa_nil)) (qe_slice rfl (qv 1) (qo_some qe_int) qo_none)) qe_non))) qss_nil)
  (qss_one (qs_ret (qv 1))))) qss_nil)
  (qss_cons (qs_if (qt_cmp (o := o_eq rfl (room64 hr)) (qv 3) (qe_str [116, 97, 105, 108])) (qss_one (qs_ret qe_non)) qss_nil)
  (qss_cons (qs_if (qt_cmp (o := o_in rfl (room65 hr)) (qv 2) (qe_str [43, 45]) (by rfl)) (qss_cons (qs_if (QW.qt (qw_or (qt_cmp (o := o_ne rfl (room64 hr)) (qv 3) (qe_str [115, 116, 97, 114, 116])) (qw_or (qt_cmp (o := o_eq rfl (room64 hr)) (qe_ix rfl (qv 0) qe_int) (qe_str [110, 111, 110, 101])) (qw_or1 (QW.qt (qw_and (qt_cmp (o := o_eq rfl (room64 hr)) (qv 2) (qe_str [43])) (qw_and1 (qt_cmp (o := o_eq rfl (room64 hr)) (qe_ix rfl (qv 0) qe_int) (qe_str [109, 105, 110, 117, 115]))))))))) (qss_one (qs_ret qe_non)) qss_nil)
  (qss_one (qs_ret (qe_op (o_add rfl) (qe_tup (qa_cons (qe_str [115, 105, 103, 110, 101, 100]) qa_nil)) (qe_slice rfl (qv 1) (qo_some qe_int) qo_none))))) qss_nil)
  (qss_cons (qs_if (qt_cmp (o := o_in rfl (room65 hr)) (qv 2) (qe_cv T.v_FIGURES) (by rfl)) (qss_one (qs_ret (qe_call G_behind_figure (hr.mono (by decide)) T.m_behind_figure T.k_behind_figure T.b_behind_figure (qa_cons (qv 0) (qa_cons (qv 1) (qa_cons (qv 2) qa_nil)))))) qss_nil)
  (qss_cons (qs_if (qt_cmp (o := o_eq rfl (room64 hr)) (qv 2) (qe_str [46])) (qss_one (qs_ret (qe_call G_behind_point (hr.mono (by decide)) T.m_behind_point T.k_behind_point T.b_behind_point (qa_cons (qv 0) (qa_cons (qv 1) qa_nil))))) qss_nil)
  (qss_one (qs_ret (qe_call G_behind_under (hr.mono (by decide)) T.m_behind_under T.k_behind_under T.b_behind_under (qa_cons (qv 0) (qa_cons (qv 1) qa_nil))))))))))))) (pure_behind)
theorem ok_is_read (T : TX Z.K Z.w mg A B) : FnOk Z.P Z.w Z.K mg base (L2.CX Z.P Z.w) 5 B.a_is_read B.d_is_read ["reader", "text"] (lSp Z (sp_is_read A)) := by
  have G_behind := ok_behind (base := base) T
  have G_is_whole := ok_is_whole (base := base) T
  exact fn_okD (t := t_is_read A) T.F_is_read sc_is_read (fun ds M R EX h => by obtain ⟨_, _, rfl, _⟩ := h; rfl) (fun _ _ _ _ _ _ hr => (qss_cons (qs_set (i := 2) sc_is_read.nd (qe_cv T.v_FIRST))
  (qss_cons (qs_for (passes_of rfl) rfl (qi_any rfl (qv 1)) (qg_name sc_is_read.nd) (qss_one (qs_set (i := 2) sc_is_read.nd (qe_call G_behind (hr.mono (by decide)) T.m_behind T.k_behind T.b_behind (qa_cons (qv 0) (qa_cons (qv 2) (qa_cons (qv 3) qa_nil)))))))
  (qss_one (qs_ret (qe_call G_is_whole (hr.mono (by decide)) T.m_is_whole T.k_is_whole T.b_is_whole (qa_cons (qv 0) (qa_cons (qv 2) qa_nil)))))))) (pure_is_read)
theorem ok_lowest (T : TX Z.K Z.w mg A B) : FnOk Z.P Z.w Z.K mg base (L2.CX Z.P Z.w) 1 B.a_lowest B.d_lowest ["p", "q"] (lSp Z (sp_lowest A)) := by
  skip
  exact fn_okD (t := t_lowest A) T.F_lowest sc_lowest (fun ds M R EX h => by obtain ⟨_, _, rfl, _⟩ := h; rfl) (fun _ _ _ _ _ _ hr => (qss_cons (qs_par (i := 2) (j := 3) rfl sc_lowest.nd rfl rfl (by decide) rfl rfl (qa_cons (qe_callB (c_abs) T.z_abs (by decide +kernel) (qa_cons (qv 0) qa_nil)) (qa_cons (qv 1) qa_nil)) (by rfl))
  (qss_cons (qs_while (passes_of rfl) (qt_tru rfl (qv 3)) (qss_one (qs_par (i := 2) (j := 3) rfl sc_lowest.nd rfl rfl (by decide) rfl rfl (qa_cons (qv 3) (qa_cons (qe_op (o_mod) (qv 2) (qv 3)) qa_nil)) (by rfl))))
  (qss_one (qs_ret (qe_tup (qa_cons (qe_op (o_fdivW) (qv 0) (qv 2)) (qa_cons (qe_op (o_fdivW) (qv 1) (qv 2)) qa_nil)))))))) (pure_lowest)
theorem ok_number_of (T : TX Z.K Z.w mg A B) : FnOk Z.P Z.w Z.K mg base (L2.CX Z.P Z.w) 3 B.a_number_of B.d_number_of ["reader", "text"] (lSp Z (sp_number_of A)) := by
  have G_lowest := ok_lowest (base := base) T
  exact fn_okD (t := t_number_of A) T.F_number_of sc_number_of (fun ds M R EX h => by obtain ⟨_, _, rfl, _⟩ := h; rfl) (fun _ _ _ _ _ _ hr => (qss_cons (qs_setLc (i := 2) (own := [("sign", 5)]) (g := gName 5) rfl sc_number_of.nd rfl rfl (sw_true rfl rfl rfl (by decide +kernel)) (qi_any rfl (qv 1)) (blkOk_by rfl) cg_name (fun _ _ _ _ _ => pg_name (i := 5) sc_number_of.nd rfl (.inl rfl)) (fun _ _ _ _ _ => (qts_one (qt_cmp (o := o_in rfl (room65 hr)) (qv 5) (qe_cv T.v_FIGURES) (by rfl)))) (fun _ _ _ _ _ => (qv 5)))
  (qss_cons (qs_set (i := 3) sc_number_of.nd (qe_ifExp (QW.qt (qw_and (qt_cmp (o := o_eq rfl (room64 hr)) (qe_ix rfl (qv 0) qe_int) (qe_str [101, 105, 103, 104, 116])) (qw_and1 (qt_cmp (o := o_eq rfl (room64 hr)) (qe_ix rfl (qv 2) qe_int) (qe_str [48]))))) qe_int qe_int))
  (qss_cons (qs_set (i := 4) sc_number_of.nd qe_int)
  (qss_cons (qs_for (passes_of rfl) rfl (qi_any rfl (qv 2)) (qg_name sc_number_of.nd) (qss_one (qs_set (i := 4) sc_number_of.nd (qe_op (o_add rfl) (qe_op (o_mul) (qv 4) (qv 3)) (qe_worth T.kdw (qv 5))))))
  (qss_cons (qs_set (i := 6) sc_number_of.nd qe_int)
  (qss_cons (qs_if (QW.qt (qw_and (qt_cmp (o := o_in rfl (room65 hr)) (qe_ix rfl (qv 0) qe_int) (qe_cv T.v_PARTS) (by rfl)) (qw_and1 (qt_cmp (o := o_in rfl (room65 hr)) (qe_str [46]) (qv 1) (by rfl))))) (qss_one (qs_for (passes_of rfl) rfl (qi_any rfl (qe_slice rfl (qv 1) (qo_some (qe_bm rfl PySem.F.plainAttrs_str PySem.F.slot_str_index PySem.F.type_str_index m_index (qv 1) (qa_cons (qe_str [46]) qa_nil))) qo_none)) (qg_name sc_number_of.nd) (qss_one (qs_set (i := 6) sc_number_of.nd (qe_ifExp (qt_cmp (o := o_in rfl (room65 hr)) (qv 5) (qe_cv T.v_FIGURES) (by rfl)) (qe_op (o_mul) (qv 6) qe_int) (qv 6)))))) qss_nil)
  (qss_one (qs_ret (qe_call G_lowest (hr.mono (by decide)) T.m_lowest T.k_lowest T.b_lowest (qa_cons (qe_ifExp (qt_cmp (o := o_in rfl (room65 hr)) (qe_str [45]) (qv 1) (by rfl)) (qe_neg (qv 4)) (qv 4)) (qa_cons (qv 6) qa_nil)))))))))))) (pure_number_of)
theorem ok_read (T : TX Z.K Z.w mg A B) : FnOk Z.P Z.w Z.K mg base (L2.CX Z.P Z.w) 7 B.a_read B.d_read ["reader", "text"] (lSp Z (sp_read A)) := by
  have G_check_reader := ok_check_reader (base := base) T
  have G_check_text := ok_check_text (base := base) T
  have G_is_read := ok_is_read (base := base) T
  have G_number_of := ok_number_of (base := base) T
  exact fn_okD (t := t_read A) T.F_read sc_read (fun ds M R EX h => by obtain ⟨_, _, rfl, _⟩ := h; rfl) (fun _ _ _ _ _ _ hr => (qss_cons (qs_expr (qe_call G_check_reader (hr.mono (by decide)) T.m_check_reader T.k_check_reader T.b_check_reader (qa_cons (qv 0) qa_nil)))
  (qss_cons (qs_expr (qe_call G_check_text (hr.mono (by decide)) T.m_check_text T.k_check_text T.b_check_text (qa_cons (qv 1) qa_nil)))
  (qss_one (qs_ret (qe_ifExp (qt_val (qe_call G_is_read (hr.mono (by decide)) T.m_is_read T.k_is_read T.b_is_read (qa_cons (qv 0) (qa_cons (qv 1) qa_nil)))) (qe_call G_number_of (hr.mono (by decide)) T.m_number_of T.k_number_of T.b_number_of (qa_cons (qv 0) (qa_cons (qv 1) qa_nil))) qe_non)))))) (pure_read)

theorem ok_law_draw (T : TX Z.K Z.w mg A B) : FnOk Z.P Z.w Z.K mg base (L2.CX Z.P Z.w) 1 B.a_law_draw B.d_law_draw ["_law_draws", "_law_many"] (lSp Z (sp_law_draw A)) := by
  skip
  exact fn_okD (t := t_law_draw A) T.F_law_draw sc_law_draw (fun ds M R EX h => by obtain ⟨_, _, rfl, _⟩ := h; rfl) (fun _ _ _ _ _ _ hr => (qss_cons (qs_if (qt_cmp (o := o_eq rfl (room64 hr)) (qe_ix rfl (qv 0) qe_int) qe_int) (qss_one (qs_if (qt_cmp (o := o_lt) (qe_ix rfl (qv 0) qe_int) (qe_callB (c_len rfl) T.z_len (by decide +kernel) (qa_cons (qe_ix rfl (qv 0) qe_int) qa_nil))) (qss_cons (qs_set (i := 3) sc_law_draw.nd (qe_ix rfl (qe_ix rfl (qv 0) qe_int) (qe_ix rfl (qv 0) qe_int)))
  (qss_cons (qs_asg (qe_op (o_add rfl) (qe_ix rfl (qv 0) qe_int) qe_int) (qg_sub (qv 0) qe_int))
  (qss_one (qs_if (qt_cmp (o := o_ge) (qv 3) (qe_op (o_pow) qe_int qe_int)) (qss_one (qs_asg (qv 3) (qg_sub (qv 0) qe_int))) (qss_one (qs_asg (qe_op (o_mod) (qe_callTy (c_int) T.z_int (by decide +kernel) (qa_cons (qe_op (o_add rfl) (qe_op (o_add rfl) (qe_op (o_mul) (qe_ix rfl (qv 0) qe_int) qe_int) (qe_op (o_mul) (qv 3) qe_int)) qe_int) qa_nil)) qe_int) (qg_sub (qv 0) qe_int))))))) (qss_one (qs_asg (qe_op (o_mod) (qe_callTy (c_int) T.z_int (by decide +kernel) (qa_cons (qe_op (o_add rfl) (qe_op (o_mul) (qe_ix rfl (qv 0) qe_int) qe_int) qe_int) qa_nil)) qe_int) (qg_sub (qv 0) qe_int))))) qss_nil)
  (qss_cons (qs_if (qt_cmp (o := o_gt) (qe_ix rfl (qv 0) qe_int) qe_int) (qss_cons (qs_set (i := 2) sc_law_draw.nd (qe_op (o_mod) (qe_callTy (c_int) T.z_int (by decide +kernel) (qa_cons (qe_ix rfl (qv 0) qe_int) qa_nil)) (qv 1)))
  (qss_cons (qs_asg (qe_op (o_fdiv) (qe_ix rfl (qv 0) qe_int) (qv 1)) (qg_sub (qv 0) qe_int))
  (qss_one (qs_ret (qv 2))))) qss_nil)
  (qss_one (qs_ret (qe_op (o_mod) (qe_op (o_mod) (qe_callTy (c_int) T.z_int (by decide +kernel) (qa_cons (qe_op (o_mul) (qe_ix rfl (qv 0) qe_int) qe_int) qa_nil)) qe_int) (qv 1))))))) (pure_law_draw)
theorem ok_law_reader (T : TX Z.K Z.w mg A B) : FnOk Z.P Z.w Z.K mg base (L2.CX Z.P Z.w) 3 B.a_law_reader B.d_law_reader ["_law_draws"] (lSp Z (sp_law_reader A)) := by
  have G_law_draw := ok_law_draw (base := base) T
  exact fn_okD (t := t_law_reader A) T.F_law_reader sc_law_reader (fun ds M R EX h => by obtain ⟨_, rfl, _⟩ := h; rfl) (fun _ _ _ _ _ _ hr => (qss_cons (qs_set (i := 1) sc_law_reader.nd (qe_ix rfl (qe_lst (qa_cons (qe_str [110, 111, 110, 101]) (qa_cons (qe_str [102, 114, 101, 101]) (qa_cons (qe_str [101, 105, 103, 104, 116]) qa_nil)))) (qe_call G_law_draw (hr.mono (by decide)) T.m_law_draw T.k_law_draw T.b_law_draw (qa_cons (qv 0) (qa_cons qe_int qa_nil)))))
  (qss_cons (qs_set (i := 2) sc_law_reader.nd (qe_ix rfl (qe_lst (qa_cons (qe_str [110, 111, 110, 101]) (qa_cons (qe_str [110, 111, 110, 101]) (qa_cons (qe_str [115, 105, 110, 103, 108, 101]) (qa_cons (qe_str [102, 114, 101, 101]) qa_nil))))) (qe_call G_law_draw (hr.mono (by decide)) T.m_law_draw T.k_law_draw T.b_law_draw (qa_cons (qv 0) (qa_cons qe_int qa_nil)))))
  (qss_cons (qs_set (i := 3) sc_law_reader.nd (qe_ix rfl (qe_lst (qa_cons (qe_str [110, 111, 110, 101]) (qa_cons (qe_str [112, 97, 114, 116]) (qa_cons (qe_str [108, 111, 111, 115, 101]) (qa_cons (qe_str [114, 111, 119, 115]) qa_nil))))) (qe_call G_law_draw (hr.mono (by decide)) T.m_law_draw T.k_law_draw T.b_law_draw (qa_cons (qv 0) (qa_cons qe_int qa_nil)))))
  (qss_cons (qs_if (qt_cmp (o := o_eq rfl (room64 hr)) (qv 1) (qe_str [101, 105, 103, 104, 116])) (qss_one (qs_set (i := 3) sc_law_reader.nd (qe_str [110, 111, 110, 101]))) qss_nil)
  (qss_cons (qs_if (qt_cmp (o := o_eq rfl (room64 hr)) (qv 3) (qe_str [114, 111, 119, 115])) (qss_one (qs_set (i := 2) sc_law_reader.nd (qe_str [110, 111, 110, 101]))) qss_nil)
  (qss_cons (qs_set (i := 4) sc_law_reader.nd (qe_ix rfl (qe_lst (qa_cons (qe_str [110, 111, 110, 101]) (qa_cons (qe_str [101, 110, 100, 115]) qa_nil))) (qe_call G_law_draw (hr.mono (by decide)) T.m_law_draw T.k_law_draw T.b_law_draw (qa_cons (qv 0) (qa_cons qe_int qa_nil)))))
  (qss_cons (qs_set (i := 5) sc_law_reader.nd (qe_ix rfl (qe_lst (qa_cons (qe_str [110, 111, 110, 101]) (qa_cons (qe_str [109, 105, 110, 117, 115]) (qa_cons (qe_str [98, 111, 116, 104]) qa_nil)))) (qe_call G_law_draw (hr.mono (by decide)) T.m_law_draw T.k_law_draw T.b_law_draw (qa_cons (qv 0) (qa_cons qe_int qa_nil)))))
  (qss_one (qs_ret (qe_tup (qa_cons (qv 4) (qa_cons (qv 5) (qa_cons (qv 1) (qa_cons (qv 2) (qa_cons (qv 3) (qa_cons (qe_ix rfl (qe_lst (qa_cons (qe_str [112, 108, 97, 105, 110]) (qa_cons (qe_str [97, 108, 108]) qa_nil))) (qe_call G_law_draw (hr.mono (by decide)) T.m_law_draw T.k_law_draw T.b_law_draw (qa_cons (qv 0) (qa_cons qe_int qa_nil)))) qa_nil))))))))))))))))) (pure_law_reader)
theorem ok_law_text (T : TX Z.K Z.w mg A B) : FnOk Z.P Z.w Z.K mg base (L2.CX Z.P Z.w) 3 B.a_law_text B.d_law_text ["_law_draws", "_law_most"] (lSp Z (sp_law_text A)) := by
  have G_law_draw := ok_law_draw (base := base) T
  exact fn_okD (t := t_law_text A) T.F_law_text sc_law_text (fun ds M R EX h => by obtain ⟨_, _, rfl, _⟩ := h; rfl) (fun _ _ _ _ _ _ hr => (qss_cons (qs_if (qt_cmp (o := o_eq rfl (room64 hr)) (qe_call G_law_draw (hr.mono (by decide)) T.m_law_draw T.k_law_draw T.b_law_draw (qa_cons (qv 0) (qa_cons qe_int qa_nil))) qe_int) (qss_one (qs_ret (qe_bm rfl PySem.F.plainAttrs_str PySem.F.slot_str_join PySem.F.type_str_join (m_join rfl) (qe_str []) (qa_cons (qe_lc (own := [("_law_k", 4)]) (g := gName 4) rfl sc_law_text.nd (qi_range1 T.z_range (qa_cons (qe_call G_law_draw (hr.mono (by decide)) T.m_law_draw T.k_law_draw T.b_law_draw (qa_cons (qv 0) (qa_cons (qe_op (o_add rfl) (qv 1) qe_int) qa_nil))) qa_nil)) (blkOk_by rfl) cg_name (fun _ _ _ _ _ => pg_name (i := 4) sc_law_text.nd rfl (.inl rfl)) (fun _ _ _ _ _ => qts_nil) (fun _ _ _ _ _ => (qe_ix rfl (qe_str [32, 43, 45, 46, 48, 49, 56, 95, 116]) (qe_call G_law_draw (hr.mono (by decide)) T.m_law_draw T.k_law_draw T.b_law_draw (qa_cons (qv 0) (qa_cons qe_int qa_nil)))))) qa_nil)))) qss_nil)
  (qss_cons (qs_set (i := 2) sc_law_text.nd (qe_ix rfl (qe_lst (qa_cons (qe_str []) (qa_cons (qe_str []) (qa_cons (qe_str [45]) (qa_cons (qe_str [43]) (qa_cons (qe_str [32]) (qa_cons (qe_str [32, 45]) qa_nil))))))) (qe_call G_law_draw (hr.mono (by decide)) T.m_law_draw T.k_law_draw T.b_law_draw (qa_cons (qv 0) (qa_cons qe_int qa_nil)))))
  (qss_cons (qs_set (i := 3) sc_law_text.nd (qe_bm rfl PySem.F.plainAttrs_str PySem.F.slot_str_join PySem.F.type_str_join (m_join rfl) (qe_str []) (qa_cons (qe_lc (own := [("_law_k", 4)]) (g := gName 4) rfl sc_law_text.nd (qi_range1 T.z_range (qa_cons (qe_call G_law_draw (hr.mono (by decide)) T.m_law_draw T.k_law_draw T.b_law_draw (qa_cons (qv 0) (qa_cons (qv 1) qa_nil))) qa_nil)) (blkOk_by rfl) cg_name (fun _ _ _ _ _ => pg_name (i := 4) sc_law_text.nd rfl (.inl rfl)) (fun _ _ _ _ _ => qts_nil) (fun _ _ _ _ _ => (qe_ix rfl (qe_str [48, 49, 49, 56, 116, 48, 95, 46]) (qe_call G_law_draw (hr.mono (by decide)) T.m_law_draw T.k_law_draw T.b_law_draw (qa_cons (qv 0) (qa_cons qe_int qa_nil)))))) qa_nil)))
  (qss_one (qs_ret (qe_op (o_add rfl) (qe_op (o_add rfl) (qv 2) (qv 3)) (qe_ix rfl (qe_lst (qa_cons (qe_str []) (qa_cons (qe_str []) (qa_cons (qe_str [32]) qa_nil)))) (qe_call G_law_draw (hr.mono (by decide)) T.m_law_draw T.k_law_draw T.b_law_draw (qa_cons (qv 0) (qa_cons qe_int qa_nil))))))))))) (pure_law_text)
theorem ok_law_middle (T : TX Z.K Z.w mg A B) : FnOk Z.P Z.w Z.K mg base (L2.CX Z.P Z.w) 1 B.a_law_middle B.d_law_middle ["_law_reader_here", "_law_text_here"] (lSp Z (sp_law_middle A)) := by
  skip
  exact fn_okD (t := t_law_middle A) T.F_law_middle sc_law_middle (fun ds M R EX h => by obtain ⟨_, _, rfl, _⟩ := h; rfl) (fun _ _ _ _ _ _ hr => (qss_cons (qs_if (qt_cmp (o := o_eq rfl (room64 hr)) (qe_ix rfl (qv 0) qe_int) (qe_str [101, 110, 100, 115])) (qss_one (qs_set (i := 1) sc_law_middle.nd (qe_bm rfl PySem.F.plainAttrs_str PySem.F.slot_str_strip PySem.F.type_str_strip (m_strip) (qv 1) (qa_cons (qe_str [32]) qa_nil)))) qss_nil)
  (qss_cons (qs_if (QW.qt (qw_and (qt_cmp (o := o_gt) (qe_callB (c_len rfl) T.z_len (by decide +kernel) (qa_cons (qv 1) qa_nil)) qe_int) (qw_and (qt_cmp (o := o_eq rfl (room64 hr)) (qe_ix rfl (qv 1) qe_int) (qe_str [45])) (qw_and1 (qt_cmp (o := o_ne rfl (room64 hr)) (qe_ix rfl (qv 0) qe_int) (qe_str [110, 111, 110, 101])))))) (qss_one (qs_ret (qe_slice rfl (qv 1) (qo_some qe_int) qo_none))) qss_nil)
  (qss_cons (qs_if (QW.qt (qw_and (qt_cmp (o := o_gt) (qe_callB (c_len rfl) T.z_len (by decide +kernel) (qa_cons (qv 1) qa_nil)) qe_int) (qw_and (qt_cmp (o := o_eq rfl (room64 hr)) (qe_ix rfl (qv 1) qe_int) (qe_str [43])) (qw_and1 (qt_cmp (o := o_eq rfl (room64 hr)) (qe_ix rfl (qv 0) qe_int) (qe_str [98, 111, 116, 104])))))) (qss_one (qs_ret (qe_slice rfl (qv 1) (qo_some qe_int) qo_none))) qss_nil)
  (qss_one (qs_ret (qv 1))))))) (pure_law_middle)
theorem ok_law_unders_good (T : TX Z.K Z.w mg A B) : FnOk Z.P Z.w Z.K mg base (L2.CX Z.P Z.w) 1 B.a_law_unders_good B.d_law_unders_good ["_law_reader_here", "_law_body"] (lSp Z (sp_law_unders_good A)) := by
  skip
  exact fn_okD (t := t_law_unders_good A) T.F_law_unders_good sc_law_unders_good (fun ds M R EX h => by obtain ⟨_, _, rfl, _⟩ := h; rfl) (fun _ _ _ _ _ _ hr => (qss_cons (qs_for (passes_of rfl) rfl (qi_range1 T.z_range (qa_cons (qe_callB (c_len rfl) T.z_len (by decide +kernel) (qa_cons (qv 1) qa_nil)) qa_nil)) (qg_name sc_law_unders_good.nd) (qss_one (qs_if (qt_cmp (o := o_eq rfl (room64 hr)) (qe_ix rfl (qv 1) (qv 2)) (qe_str [95])) (qss_cons (qs_if (QW.qt (qw_or (qt_cmp (o := o_eq rfl (room64 hr)) (qe_ix rfl (qv 0) qe_int) (qe_str [110, 111, 110, 101])) (qw_or1 (QW.qt (qw_and (qt_cmp (o := o_eq rfl (room64 hr)) (qe_ix rfl (qv 0) qe_int) (qe_str [115, 105, 110, 103, 108, 101])) (qw_and1 (qt_cmp (o := o_eq rfl (room64 hr)) (qe_slice rfl (qv 1) (qo_some (qe_op (o_sub) (qv 2) qe_int)) (qo_some (qv 2))) (qe_str [95])))))))) (qss_one (qs_ret qe_bl)) qss_nil)
  (qss_cons (qs_set (i := 3) sc_law_unders_good.nd (qv 2))
  (qss_cons (qs_while (passes_of rfl) (QW.qt (qw_and (qt_cmp (o := o_ge) (qv 3) qe_int) (qw_and1 (qt_cmp (o := o_eq rfl (room64 hr)) (qe_ix rfl (qv 1) (qv 3)) (qe_str [95]))))) (qss_one (qs_set (i := 3) sc_law_unders_good.nd (qe_op (o_sub) (qv 3) qe_int))))
  (qss_cons (qs_set (i := 4) sc_law_unders_good.nd (qv 2))
  (qss_cons (qs_while (passes_of rfl) (QW.qt (qw_and (qt_cmp (o := o_lt) (qv 4) (qe_callB (c_len rfl) T.z_len (by decide +kernel) (qa_cons (qv 1) qa_nil))) (qw_and1 (qt_cmp (o := o_eq rfl (room64 hr)) (qe_ix rfl (qv 1) (qv 4)) (qe_str [95]))))) (qss_one (qs_set (i := 4) sc_law_unders_good.nd (qe_op (o_add rfl) (qv 4) qe_int))))
  (qss_one (qs_if (QW.qt (qw_or (qt_cmp (o := o_lt) (qv 3) qe_int) (qw_or (qt_cmp (o := o_eq rfl (room64 hr)) (qv 4) (qe_callB (c_len rfl) T.z_len (by decide +kernel) (qa_cons (qv 1) qa_nil))) (qw_or (qt_cmp (o := o_eq rfl (room64 hr)) (qe_ix rfl (qv 1) (qv 3)) (qe_str [46])) (qw_or1 (qt_cmp (o := o_eq rfl (room64 hr)) (qe_ix rfl (qv 1) (qv 4)) (qe_str [46]))))))) (qss_one (qs_ret qe_bl)) qss_nil))))))) qss_nil)))
  (qss_one (qs_ret qe_bl)))) (pure_law_unders_good)
theorem ok_law_points_good (T : TX Z.K Z.w mg A B) : FnOk Z.P Z.w Z.K mg base (L2.CX Z.P Z.w) 1 B.a_law_points_good B.d_law_points_good ["_law_reader_here", "_law_rows"] (lSp Z (sp_law_points_good A)) := by
  skip
  exact fn_okD (t := t_law_points_good A) T.F_law_points_good sc_law_points_good (fun ds M R EX h => by obtain ⟨_, _, _, rfl, _⟩ := h; rfl) (fun _ _ _ _ _ _ hr => (qss_cons (qs_if (qt_cmp (o := o_eq rfl (room64 hr)) (qe_callB (c_len rfl) T.z_len (by decide +kernel) (qa_cons (qv 1) qa_nil)) qe_int) (qss_one (qs_ret (qe_cmp (o := o_gt) (qe_callB (c_len rfl) T.z_len (by decide +kernel) (qa_cons (qe_ix rfl (qv 1) qe_int) qa_nil)) qe_int))) qss_nil)
  (qss_cons (qs_if (qt_cmp (o := o_eq rfl (room64 hr)) (qe_ix rfl (qv 0) qe_int) (qe_str [114, 111, 119, 115])) (qss_one (qs_ret (qe_and (qe_chain (o_le) (o_le) qe_int (qe_callB (c_len rfl) T.z_len (by decide +kernel) (qa_cons (qe_ix rfl (qv 1) qe_int) qa_nil)) qe_int) (qe_one (qe_callB (c_all rfl) T.z_all (by decide +kernel) (qa_cons (qe_lc (own := [("_law_row", 2)]) (g := gName 2) rfl sc_law_points_good.nd (qi_any rfl (qe_slice rfl (qv 1) (qo_some qe_int) qo_none)) (blkOk_by rfl) cg_name (fun _ _ _ _ _ => pg_name (i := 2) sc_law_points_good.nd rfl (.inl rfl)) (fun _ _ _ _ _ => qts_nil) (fun _ _ _ _ _ => (qe_cmp (o := o_eq rfl (room64 hr)) (qe_callB (c_len rfl) T.z_len (by decide +kernel) (qa_cons (qv 2) qa_nil)) qe_int))) qa_nil)))))) qss_nil)
  (qss_cons (qs_if (QW.qt (qw_or (qt_cmp (o := o_gt) (qe_callB (c_len rfl) T.z_len (by decide +kernel) (qa_cons (qv 1) qa_nil)) qe_int) (qw_or1 (qt_cmp (o := o_eq rfl (room64 hr)) (qe_ix rfl (qv 0) qe_int) (qe_str [110, 111, 110, 101]))))) (qss_one (qs_ret qe_bl)) qss_nil)
  (qss_cons (qs_if (qt_cmp (o := o_eq rfl (room64 hr)) (qe_ix rfl (qv 0) qe_int) (qe_str [112, 97, 114, 116])) (qss_one (qs_ret (qe_and (qe_cmp (o := o_gt) (qe_callB (c_len rfl) T.z_len (by decide +kernel) (qa_cons (qe_ix rfl (qv 1) qe_int) qa_nil)) qe_int) (qe_one (qe_cmp (o := o_gt) (qe_callB (c_len rfl) T.z_len (by decide +kernel) (qa_cons (qe_ix rfl (qv 1) qe_int) qa_nil)) qe_int))))) qss_nil)
  (qss_one (qs_ret (qe_cmp (o := o_gt) (qe_op (o_add rfl) (qe_callB (c_len rfl) T.z_len (by decide +kernel) (qa_cons (qe_ix rfl (qv 1) qe_int) qa_nil)) (qe_callB (c_len rfl) T.z_len (by decide +kernel) (qa_cons (qe_ix rfl (qv 1) qe_int) qa_nil))) qe_int)))))))) (pure_law_points_good)
theorem ok_law_is_read (T : TX Z.K Z.w mg A B) : FnOk Z.P Z.w Z.K mg base (L2.CX Z.P Z.w) 3 B.a_law_is_read B.d_law_is_read ["_law_reader_here", "_law_text_here"] (lSp Z (sp_law_is_read A)) := by
  have G_law_middle := ok_law_middle (base := base) T
  have G_law_unders_good := ok_law_unders_good (base := base) T
  have G_law_points_good := ok_law_points_good (base := base) T
  exact fn_okT (t := t_law_is_read A) T.F_law_is_read sc_law_is_read (by decide +kernel) (by decide) (fun ds M R EX h => by obtain ⟨_, _, rfl, _⟩ := h; rfl) (fun _ _ _ _ _ _ hr => (qsst_cons (QST.of (qs_set (i := 2) sc_law_is_read.nd (qe_call G_law_middle (hr.mono (by decide)) T.m_law_middle T.k_law_middle T.b_law_middle (qa_cons (qv 0) (qa_cons (qv 1) qa_nil)))))
  (qsst_cons (QST.of (qs_if (QW.qt (qw_or (qt_cmp (o := o_eq rfl (room64 hr)) (qe_callB (c_len rfl) T.z_len (by decide +kernel) (qa_cons (qv 2) qa_nil)) qe_int) (qw_or (qt_val (qe_callB (c_any rfl) T.z_any (by decide +kernel) (qa_cons (qe_lc (own := [("_law_sign", 5)]) (g := gName 5) rfl sc_law_is_read.nd (qi_any rfl (qv 2)) (blkOk_by rfl) cg_name (fun _ _ _ _ _ => pg_name (i := 5) sc_law_is_read.nd rfl (.inl rfl)) (fun _ _ _ _ _ => qts_nil) (fun _ _ _ _ _ => (qe_cmp (o := o_notIn rfl (room65 hr)) (qv 5) (qe_str [46, 95, 48, 49, 56, 116]) (by rfl)))) qa_nil))) (qw_or1 (qt_not (qt_val (qe_call G_law_unders_good (hr.mono (by decide)) T.m_law_unders_good T.k_law_unders_good T.b_law_unders_good (qa_cons (qv 0) (qa_cons (qv 2) qa_nil))))))))) (qss_one (qs_ret qe_bl)) qss_nil))
  (qsst_cons (QST.of (qs_if (QW.qt (qw_and (qt_cmp (o := o_eq rfl (room64 hr)) (qe_ix rfl (qv 0) qe_int) (qe_str [112, 108, 97, 105, 110])) (qw_and1 (qt_cmp (o := o_in rfl (room65 hr)) (qe_str [116]) (qv 2) (by rfl))))) (qss_one (qs_ret qe_bl)) qss_nil))
  (qsst_cons (qst_set (i := 3) sc_law_is_read.nd (qet_bm rfl PySem.F.plainAttrs_str PySem.F.slot_str_split PySem.F.type_str_split (m_split) (qet_repl (c := 95) (by first | rfl | decide +kernel) (by first | rfl | decide +kernel) (by decide) (qv 2)) (qa_cons (qe_str [46]) qa_nil)))
  (qsst_cons (QST.of (qs_if (qt_not (qt_val (qe_call G_law_points_good (hr.mono (by decide)) T.m_law_points_good T.k_law_points_good T.b_law_points_good (qa_cons (qv 0) (qa_cons (qv 3) qa_nil))))) (qss_one (qs_ret qe_bl)) qss_nil))
  (qsst_cons (QST.of (qs_set (i := 4) sc_law_is_read.nd (qe_ix rfl (qv 3) qe_int)))
  (qsst_cons (QST.of (qs_if (qt_cmp (o := o_eq rfl (room64 hr)) (qe_ix rfl (qv 0) qe_int) (qe_str [114, 111, 119, 115])) (qss_one (qs_set (i := 4) sc_law_is_read.nd (qe_bm rfl PySem.F.plainAttrs_str PySem.F.slot_str_join PySem.F.type_str_join (m_join rfl) (qe_str []) (qa_cons (qv 3) qa_nil)))) qss_nil))
  (qsst_cons (QST.of (qs_if (QW.qt (qw_and (qt_cmp (o := o_gt) (qe_callB (c_len rfl) T.z_len (by decide +kernel) (qa_cons (qv 4) qa_nil)) qe_int) (qw_and1 (qt_cmp (o := o_eq rfl (room64 hr)) (qe_ix rfl (qv 4) qe_int) (qe_str [48]))))) (qss_one (qs_if (QW.qt (qw_or (qt_cmp (o := o_eq rfl (room64 hr)) (qe_ix rfl (qv 0) qe_int) (qe_str [110, 111, 110, 101])) (qw_or1 (QW.qt (qw_and (qt_cmp (o := o_eq rfl (room64 hr)) (qe_ix rfl (qv 0) qe_int) (qe_str [101, 105, 103, 104, 116])) (qw_and1 (qt_cmp (o := o_in rfl (room65 hr)) (qe_str [56]) (qv 4) (by rfl)))))))) (qss_one (qs_ret qe_bl)) qss_nil)) qss_nil))
  (QSsT.of (qss_one (qs_ret qe_bl)))))))))))) (pure_law_is_read)
theorem ok_law_lowest (T : TX Z.K Z.w mg A B) : FnOk Z.P Z.w Z.K mg base (L2.CX Z.P Z.w) 1 B.a_law_lowest B.d_law_lowest ["_law_p", "_law_q"] (lSp Z (sp_law_lowest A)) := by
  skip
  exact fn_okD (t := t_law_lowest A) T.F_law_lowest sc_law_lowest (fun ds M R EX h => by obtain ⟨_, _, rfl, _⟩ := h; rfl) (fun _ _ _ _ _ _ hr => (qss_cons (qs_set (i := 2) sc_law_lowest.nd (qe_callB (c_abs) T.z_abs (by decide +kernel) (qa_cons (qv 0) qa_nil)))
  (qss_cons (qs_set (i := 3) sc_law_lowest.nd (qv 1))
  (qss_cons (qs_while (passes_of rfl) (qt_cmp (o := o_gt) (qv 3) qe_int) (qss_one (qs_par (i := 2) (j := 3) rfl sc_law_lowest.nd rfl rfl (by decide) rfl rfl (qa_cons (qv 3) (qa_cons (qe_op (o_mod) (qv 2) (qv 3)) qa_nil)) (by rfl))))
  (qss_one (qs_ret (qe_tup (qa_cons (qe_op (o_fdivW) (qv 0) (qv 2)) (qa_cons (qe_op (o_fdivW) (qv 1) (qv 2)) qa_nil))))))))) (pure_law_lowest)
theorem ok_law_read (T : TX Z.K Z.w mg A B) : FnOk Z.P Z.w Z.K mg base (L2.CX Z.P Z.w) 5 B.a_law_read B.d_law_read ["_law_reader_here", "_law_text_here"] (lSp Z (sp_law_read A)) := by
  have G_law_is_read := ok_law_is_read (base := base) T
  have G_law_middle := ok_law_middle (base := base) T
  have G_law_lowest := ok_law_lowest (base := base) T
  exact fn_okT (t := t_law_read A) T.F_law_read sc_law_read (by decide +kernel) (by decide) (fun ds M R EX h => by obtain ⟨_, _, rfl, _⟩ := h; rfl) (fun _ _ _ _ _ _ hr => (qsst_cons (QST.of (qs_if (qt_not (qt_val (qe_call G_law_is_read (hr.mono (by decide)) T.m_law_is_read T.k_law_is_read T.b_law_is_read (qa_cons (qv 0) (qa_cons (qv 1) qa_nil))))) (qss_one (qs_ret qe_non)) qss_nil))
  (qsst_cons (qst_set (i := 2) sc_law_read.nd (qet_repl (c := 95) (by first | rfl | decide +kernel) (by first | rfl | decide +kernel) (by decide) (qe_call G_law_middle (hr.mono (by decide)) T.m_law_middle T.k_law_middle T.b_law_middle (qa_cons (qv 0) (qa_cons (qv 1) qa_nil)))))
  (qsst_cons (QST.of (qs_set (i := 3) sc_law_read.nd qe_int))
  (qsst_cons (QST.of (qs_if (QW.qt (qw_and (qt_cmp (o := o_eq rfl (room64 hr)) (qe_ix rfl (qv 0) qe_int) (qe_str [101, 105, 103, 104, 116])) (qw_and1 (qt_cmp (o := o_eq rfl (room64 hr)) (qe_ix rfl (qv 2) qe_int) (qe_str [48]))))) (qss_one (qs_set (i := 3) sc_law_read.nd qe_int)) qss_nil))
  (qsst_cons (QST.of (qs_set (i := 4) sc_law_read.nd qe_int))
  (qsst_cons (QST.of (qs_for (passes_of rfl) rfl (qi_any rfl (qv 2)) (qg_name sc_law_read.nd) (qss_one (qs_if (qt_cmp (o := o_ne rfl (room64 hr)) (qv 5) (qe_str [46])) (qss_one (qs_set (i := 4) sc_law_read.nd (qe_op (o_add rfl) (qe_op (o_mul) (qv 4) (qv 3)) (qe_ix rfl (qe_lst (qa_cons qe_int (qa_cons qe_int (qa_cons qe_int (qa_cons qe_int qa_nil))))) (qe_bm rfl PySem.F.plainAttrs_str PySem.F.slot_str_index PySem.F.type_str_index m_index (qe_str [48, 49, 56, 116]) (qa_cons (qv 5) qa_nil)))))) qss_nil))))
  (qsst_cons (QST.of (qs_set (i := 6) sc_law_read.nd qe_int))
  (qsst_cons (QST.of (qs_if (QW.qt (qw_and (qt_cmp (o := o_in rfl (room65 hr)) (qe_ix rfl (qv 0) qe_int) (qe_tup (qa_cons (qe_str [112, 97, 114, 116]) (qa_cons (qe_str [108, 111, 111, 115, 101]) qa_nil))) (by rfl)) (qw_and1 (qt_cmp (o := o_in rfl (room65 hr)) (qe_str [46]) (qv 2) (by rfl))))) (qss_one (qs_for (passes_of rfl) rfl (qi_range1 T.z_range (qa_cons (qe_op (o_sub) (qe_op (o_sub) (qe_callB (c_len rfl) T.z_len (by decide +kernel) (qa_cons (qv 2) qa_nil)) (qe_bm rfl PySem.F.plainAttrs_str PySem.F.slot_str_index PySem.F.type_str_index m_index (qv 2) (qa_cons (qe_str [46]) qa_nil))) qe_int) qa_nil)) (qg_name sc_law_read.nd) (qss_one (qs_set (i := 6) sc_law_read.nd (qe_op (o_mul) (qv 6) qe_int))))) qss_nil))
  (qsst_cons (QST.of (qs_if (qt_cmp (o := o_in rfl (room65 hr)) (qe_str [45]) (qv 1) (by rfl)) (qss_one (qs_set (i := 4) sc_law_read.nd (qe_op (o_sub) qe_int (qv 4)))) qss_nil))
  (QSsT.of (qss_one (qs_ret (qe_call G_law_lowest (hr.mono (by decide)) T.m_law_lowest T.k_law_lowest T.b_law_lowest (qa_cons (qv 4) (qa_cons (qv 6) qa_nil)))))))))))))))) (pure_law_read)
theorem ok_law_like0 (T : TX Z.K Z.w mg A B) : FnOk Z.P Z.w Z.K mg base (L2.CX Z.P Z.w) 1 B.a_law_like B.d_law_like ["_law_actual", "_law_due"] (lSp Z (sp_lk0)) := by
  have G_law_like : FnOk Z.P Z.w Z.K mg base (L2.CX Z.P Z.w) 0 B.a_law_like B.d_law_like ["_law_actual", "_law_due"] (lSp Z (spF)) := fn_never (fun _ _ _ _ h => h)
  exact fn_okD (t := t_law_like A spF) T.F_law_like sc_law_like (fun ds M R EX h => by obtain ⟨_, rfl, _⟩ := h; rfl) (fun _ _ _ _ _ _ hr => (qss_cons (qs_if (qt_cmp (o := o_is) (qv 1) qe_non) (qss_one (qs_ret (qe_cmp (o := o_is) (qv 0) qe_non))) qss_nil)
  (qss_cons (qs_if (qt_val (qe_isi Tn.bool rfl (by decide) (qv 1) T.z_isinstance T.z_bool (by decide +kernel))) (qss_one (qs_ret (qe_and (qe_isi Tn.bool rfl (by decide) (qv 0) T.z_isinstance T.z_bool (by decide +kernel)) (qe_one (qe_cmp (o := o_eq rfl (room64 hr)) (qv 0) (qv 1)))))) qss_nil)
  (qss_cons (qs_if (qt_val (qe_isi Tn.int rfl (by decide) (qv 1) T.z_isinstance T.z_int (by decide +kernel))) (qss_one (qs_ret (qe_and (qe_isi Tn.int rfl (by decide) (qv 0) T.z_isinstance T.z_int (by decide +kernel)) (qe_and (qe_not (qe_isi Tn.bool rfl (by decide) (qv 0) T.z_isinstance T.z_bool (by decide +kernel))) (qe_one (qe_cmp (o := o_eq rfl (room64 hr)) (qv 0) (qv 1))))))) qss_nil)
  (qss_cons (qs_if (qt_val (qe_isi Tn.str rfl (by decide) (qv 1) T.z_isinstance T.z_str (by decide +kernel))) (qss_one (qs_ret (qe_and (qe_isi Tn.str rfl (by decide) (qv 0) T.z_isinstance T.z_str (by decide +kernel)) (qe_one (qe_cmp (o := o_eq rfl (room64 hr)) (qv 0) (qv 1)))))) qss_nil)
  (qss_cons (qs_if (qt_val (qe_isi Tn.tuple rfl (by decide) (qv 1) T.z_isinstance T.z_tuple (by decide +kernel))) (qss_one (qs_if (QW.qt (qw_or (qt_not (qt_val (qe_isi Tn.tuple rfl (by decide) (qv 0) T.z_isinstance T.z_tuple (by decide +kernel)))) (qw_or1 (qt_cmp (o := o_ne rfl (room64 hr)) (qe_callB (c_len rfl) T.z_len (by decide +kernel) (qa_cons (qv 0) qa_nil)) (qe_callB (c_len rfl) T.z_len (by decide +kernel) (qa_cons (qv 1) qa_nil)))))) (qss_one (qs_ret qe_bl)) qss_nil)) (qss_one (qs_if (QW.qt (qw_or (qt_not (qt_val (qe_isi Tn.list rfl (by decide) (qv 0) T.z_isinstance T.z_list (by decide +kernel)))) (qw_or1 (qt_cmp (o := o_ne rfl (room64 hr)) (qe_callB (c_len rfl) T.z_len (by decide +kernel) (qa_cons (qv 0) qa_nil)) (qe_callB (c_len rfl) T.z_len (by decide +kernel) (qa_cons (qv 1) qa_nil)))))) (qss_one (qs_ret qe_bl)) qss_nil)))
  (qss_cons (qs_for (passes_of rfl) rfl (qi_range1 T.z_range (qa_cons (qe_callB (c_len rfl) T.z_len (by decide +kernel) (qa_cons (qv 1) qa_nil)) qa_nil)) (qg_name sc_law_like.nd) (qss_one (qs_if (qt_not (qt_val (qe_call G_law_like (hr.mono (by decide)) T.m_law_like T.k_law_like T.b_law_like (qa_cons (qe_ix rfl (qv 0) (qv 2)) (qa_cons (qe_ix rfl (qv 1) (qv 2)) qa_nil))))) (qss_one (qs_ret qe_bl)) qss_nil)))
  (qss_one (qs_ret qe_bl))))))))) (pure_lk0)
theorem ok_law_like1 (T : TX Z.K Z.w mg A B) : FnOk Z.P Z.w Z.K mg base (L2.CX Z.P Z.w) 3 B.a_law_like B.d_law_like ["_law_actual", "_law_due"] (lSp Z (sp_lk1)) := by
  have G_law_like := ok_law_like0 (base := base) T
  exact fn_okD (t := t_law_like A sp_lk0) T.F_law_like sc_law_like (fun ds M R EX h => by obtain ⟨_, rfl, _⟩ := h; rfl) (fun _ _ _ _ _ _ hr => (qss_cons (qs_if (qt_cmp (o := o_is) (qv 1) qe_non) (qss_one (qs_ret (qe_cmp (o := o_is) (qv 0) qe_non))) qss_nil)
  (qss_cons (qs_if (qt_val (qe_isi Tn.bool rfl (by decide) (qv 1) T.z_isinstance T.z_bool (by decide +kernel))) (qss_one (qs_ret (qe_and (qe_isi Tn.bool rfl (by decide) (qv 0) T.z_isinstance T.z_bool (by decide +kernel)) (qe_one (qe_cmp (o := o_eq rfl (room64 hr)) (qv 0) (qv 1)))))) qss_nil)
  (qss_cons (qs_if (qt_val (qe_isi Tn.int rfl (by decide) (qv 1) T.z_isinstance T.z_int (by decide +kernel))) (qss_one (qs_ret (qe_and (qe_isi Tn.int rfl (by decide) (qv 0) T.z_isinstance T.z_int (by decide +kernel)) (qe_and (qe_not (qe_isi Tn.bool rfl (by decide) (qv 0) T.z_isinstance T.z_bool (by decide +kernel))) (qe_one (qe_cmp (o := o_eq rfl (room64 hr)) (qv 0) (qv 1))))))) qss_nil)
  (qss_cons (qs_if (qt_val (qe_isi Tn.str rfl (by decide) (qv 1) T.z_isinstance T.z_str (by decide +kernel))) (qss_one (qs_ret (qe_and (qe_isi Tn.str rfl (by decide) (qv 0) T.z_isinstance T.z_str (by decide +kernel)) (qe_one (qe_cmp (o := o_eq rfl (room64 hr)) (qv 0) (qv 1)))))) qss_nil)
  (qss_cons (qs_if (qt_val (qe_isi Tn.tuple rfl (by decide) (qv 1) T.z_isinstance T.z_tuple (by decide +kernel))) (qss_one (qs_if (QW.qt (qw_or (qt_not (qt_val (qe_isi Tn.tuple rfl (by decide) (qv 0) T.z_isinstance T.z_tuple (by decide +kernel)))) (qw_or1 (qt_cmp (o := o_ne rfl (room64 hr)) (qe_callB (c_len rfl) T.z_len (by decide +kernel) (qa_cons (qv 0) qa_nil)) (qe_callB (c_len rfl) T.z_len (by decide +kernel) (qa_cons (qv 1) qa_nil)))))) (qss_one (qs_ret qe_bl)) qss_nil)) (qss_one (qs_if (QW.qt (qw_or (qt_not (qt_val (qe_isi Tn.list rfl (by decide) (qv 0) T.z_isinstance T.z_list (by decide +kernel)))) (qw_or1 (qt_cmp (o := o_ne rfl (room64 hr)) (qe_callB (c_len rfl) T.z_len (by decide +kernel) (qa_cons (qv 0) qa_nil)) (qe_callB (c_len rfl) T.z_len (by decide +kernel) (qa_cons (qv 1) qa_nil)))))) (qss_one (qs_ret qe_bl)) qss_nil)))
  (qss_cons (qs_for (passes_of rfl) rfl (qi_range1 T.z_range (qa_cons (qe_callB (c_len rfl) T.z_len (by decide +kernel) (qa_cons (qv 1) qa_nil)) qa_nil)) (qg_name sc_law_like.nd) (qss_one (qs_if (qt_not (qt_val (qe_call G_law_like (hr.mono (by decide)) T.m_law_like T.k_law_like T.b_law_like (qa_cons (qe_ix rfl (qv 0) (qv 2)) (qa_cons (qe_ix rfl (qv 1) (qv 2)) qa_nil))))) (qss_one (qs_ret qe_bl)) qss_nil)))
  (qss_one (qs_ret qe_bl))))))))) (pure_lk1)

theorem law_rest (T : TX Z.K Z.w mg A B) (cdv : Value) (Ar : Around) (outer : List PySem.Env) (s : Shared) (H : Hp) (E : XK) (hr : Room 8 (Ar.deeper (envOfC "law" (defScope s_law) s.heap.objs.size B.a_law cdv))) : QSs Z H (cxOf (L2.CX Z.P Z.w) Z.P Z.w Z.K mg base ["_law_script", "_law_draws", "_law_reader_here", "_law_k", "_law_text_here"] "law" (defScope s_law) B.a_law cdv Ar outer s H E) ((defBody s_law).drop 1) (tR02 A) := by
  have G_law_reader := ok_law_reader (base := base) T
  have G_law_text := ok_law_text (base := base) T
  have G_law_like := ok_law_like1 (base := base) T
  have G_read := ok_read (base := base) T
  have G_law_read := ok_law_read (base := base) T
  exact (qss_cons (qs_set (i := 2) sc_law.nd (qe_call G_law_reader (hr.mono (by decide)) T.m_law_reader T.k_law_reader T.b_law_reader (qa_cons (qv 1) qa_nil)))
  (qss_cons (qs_for (passes_of rfl) rfl (qi_range1 T.z_range (qa_cons qe_int qa_nil)) (qg_name sc_law.nd) (qss_cons (qs_set (i := 4) sc_law.nd (qe_call G_law_text (hr.mono (by decide)) T.m_law_text T.k_law_text T.b_law_text (qa_cons (qv 1) (qa_cons qe_int qa_nil))))
  (qss_one (qs_if (qt_not (qt_val (qe_call G_law_like (hr.mono (by decide)) T.m_law_like T.k_law_like T.b_law_like (qa_cons (qe_call G_read (hr.mono (by decide)) T.m_read T.k_read T.b_read (qa_cons (qv 2) (qa_cons (qv 4) qa_nil))) (qa_cons (qe_call G_law_read (hr.mono (by decide)) T.m_law_read T.k_law_read T.b_law_read (qa_cons (qv 2) (qa_cons (qv 4) qa_nil))) qa_nil))))) (qss_one (qs_ret qe_bl)) qss_nil))))
  (qss_one (qs_ret qe_bl))))
end
end KK

set_option Elab.async false
set_option linter.all false
set_option maxRecDepth 100000
set_option maxHeartbeats 4000000
namespace KK
open PySem PySem.Spec PyProof.Rows L2 DL
def spB (K : PySem.W.Frag) : Sp := fun vs H Q _ => ∃ (a : Addr) (ns : List Int), vs = [.ref a] ∧ SqL K H a (ns.map V.int) ∧ ns.length ≤ 100 ∧ ∀ L x : Addr, H L = none → x ≠ L → H x = none → Q (.ref x) (upd (upd H L (.lst (ns.map V.int))) x (.lst [.ref L, .int 0, .int 0, .int 7]))
def spLawL (K : PySem.W.Frag) : Sp := fun vs H Q _ => ∃ (a : Addr) (ns : List Int), vs = [.ref a] ∧ SqL K H a (ns.map V.int) ∧ ns.length ≤ 100 ∧ ∀ H', Q (.bl true) H'
section
variable {P : Program} {w : World} {mg : Str → Option Value} {base : Heap} {K : PySem.W.Frag} {A : Ad} {B : Fd}
theorem ok_begin (T : TX K w mg A B) : FnOk P w K mg base (L2.CX P w) 1 B.a_law_begin B.d_law_begin ["_law_script"] (spB K) := by
  refine T.F_law_begin.okX sc_law_begin (fun vs H Q E ⟨a, ns, e, _⟩ => by rw [e]; rfl) fun cdv Ar outer s H vs Q E hr ⟨a, ns, e, hs, hn, k⟩ => ?_
  subst e
  refine ⟨_, pss_one (ps_ret (pe_lst (pa_cons (pe_callTy call_list_of (by rfl) T.z_list (by decide +kernel) (pa_cons (pe_var (i := 0) rfl (.inl rfl)) pa_nil)) (pa_cons pe_int (pa_cons pe_int (pa_cons pe_int pa_nil)))))), ?_⟩
  refine ⟨_, rfl, a, ns.map V.int, rfl, .inl hs, fun L hL => ⟨by show 4 ≤ sizeLine; decide, fun x hx => ?_⟩⟩
  have ne : x ≠ L := fun z => by subst z; rw [upd_same] at hx; cases hx
  rw [upd_ne ne] at hx
  exact k L x hL ne hx
theorem ok_law (T : TX K w mg A B) : FnOk P w K mg base (L2.CX P w) 9 B.a_law B.d_law ["_law_script"] (spLawL K) := by
  refine T.F_law.okX sc_law (fun vs H Q E ⟨a, ns, e, _⟩ => by rw [e]; rfl) fun cdv Ar outer s H vs Q E hr ⟨a, ns, e, hs, hn, k⟩ => ?_
  subst e
  let Z : ZP := ⟨K, [], P, w⟩
  have hrest := law_rest (Z := Z) (base := base) T cdv Ar outer s H E (hr.mono (by decide))
  refine ⟨_, pss_cons (ps_set (i := 1) sc_law.nd rfl (.inl rfl) (pe_callS (E := fun _ _ _ _ => False) (ok_begin T) (hr.mono (by decide)) (by rfl) T.m_law_begin T.k_law_begin T.b_law_begin (fun σ _ _ _ _ _ _ h => by obtain ⟨_, _, _, _, _, _, _, _, _, _, _, _, z⟩ := h; exact z.elim) (pa_cons (pe_var (i := 0) rfl (.inl rfl)) pa_nil)) (by rfl) (.inr rfl)) (hrest.pss noW takes_no), ?_⟩
  refine ⟨_, rfl, a, ns, rfl, hs, hn, fun L x hL ne hx => ?_⟩
  let M : DM := fun b => if b = x then some (.lst [.ref L, .int 0, .int 0, .int 7]) else if b = L then some (.lst (ns.map D.int)) else none
  have mx : M x = some (.lst [.ref L, .int ((0 : Nat) : Int), .int 0, .int 7]) := if_pos rfl
  have mL : M L = some (.lst (ns.map D.int)) := by show (if L = x then _ else if L = L then _ else _) = _; rw [if_neg ne.symm, if_pos rfl]
  have kp : KeepT K H (upd (upd H L (.lst (ns.map V.int))) x (.lst [.ref L, .int 0, .int 0, .int 7])) := (keepT_new hL).trans (keepT_new (by rw [upd_ne ne]; exact hx))
  have ri : ∀ (H : Hp) (l : List Int), RDs K H (l.map D.int) (l.map V.int) := fun H l => by
    induction l with
    | nil => exact .nil
    | cons z r ih => exact .cons mk_int ih
  have rm : RM Z (upd (upd H L (.lst (ns.map V.int))) x (.lst [.ref L, .int 0, .int 0, .int 7])) M := fun b o eo => by
    by_cases q : b = x
    · subst q
      rw [mx] at eo
      cases eo
      exact ⟨_, upd_same, .cons mk_ref (.cons mk_int (.cons mk_int (.cons mk_int .nil)))⟩
    · by_cases q2 : b = L
      · subst q2
        rw [mL] at eo
        cases eo
        exact ⟨_, by rw [upd_ne q, upd_same], ri _ ns⟩
      · rw [show M b = none from by show (if b = x then _ else if b = L then _ else _) = _; rw [if_neg q, if_neg q2]] at eo
        cases eo
  have d1 : DrawsAt M x := ⟨L, ns, 0, 0, 7, mx, mL, ne.symm, by decide, by decide, hn⟩
  refine ⟨[none, some (.ref x), none, none, none], M, endsOf fun v _ => v = .bl true, ⟨kp, ?_, rm, fun p hp => by cases hp⟩, pure_tR02 d1 (fun M => Wk.self (R := fun v _ => v = D.bl true) (d := .bl true) (M := M) rfl), ?_, ?_, ?_, ?_⟩
  · refine ⟨rfl, fun i d e => ?_⟩
    match i, e with
    | 0, e => cases e
    | 1, e => cases e; exact ⟨_, rfl, mk_ref⟩
    | i + 2, e =>
      have := List.mem_of_getElem? (show ([none, none, none] : List (Option D))[i]? = some (some d) from e)
      simp at this
  · exact fun ρ' M' σ' H' ⟨_, _, h⟩ _ _ => by cases h
  · intro d M' v H' ⟨_, _, h⟩ _ r
    subst h
    rw [rd_bl r]
    exact k H'
  · exact fun _ _ _ _ h => h.elim
  · exact fun _ _ _ _ h => h.elim
end
end KK

set_option Elab.async false
set_option linter.all false
set_option maxRecDepth 100000
set_option maxHeartbeats 4000000
namespace KK
open PySem PySem.Spec PyProof.Rows L2 DL
theorem exm_of {K : PySem.W.Frag} {C S : Addr} {v : Bool} (sup : PySem.W.subIn K (.ref S) (.type "BaseException") = some true) (cls : PySem.W.isClsIn K S = true) (ty : PySem.W.typeIn K (.ref S) = some (.type "type")) (sub : PySem.W.subIn K (.ref C) (.ref S) = some v) : PySem.W.exmOne K (.ref C) (.ref S) = some v := by
  have a : (PySem.W.subIn K (.ref S) (.type "BaseException") == some true) = true := by rw [sup]; decide
  have b : ((PySem.W.clsIn K S).isSome && PySem.W.typeIn K (.ref S) == some (.type "type")) = true := by
    rw [show (PySem.W.clsIn K S).isSome = true from cls, ty]; rfl
  unfold PySem.W.exmOne
  rw [if_pos a]
  exact (if_pos b).trans sub
theorem all_mk {l : PySem.W.OpenLaw} {w : World} {K : PySem.W.Frag} {h : Heap} {mg : Str → Option Value} {fa : Addr}
  {cBR : Addr}
  {cBT : Addr}
  {f_BadReader_init : Addr} {od_BadReader_init an_BadReader_init : Option Addr} {sl_BadReader_init : Array (Option Value)} {oc_BadReader_init kV_BadReader_init dc_BadReader_init pm_BadReader_init cd_BadReader_init ct_BadReader_init : Value}
  {f_is_text : Addr} {od_is_text an_is_text : Option Addr} {sl_is_text : Array (Option Value)} {oc_is_text kV_is_text dc_is_text pm_is_text cd_is_text ct_is_text : Value}
  {f_check_text : Addr} {od_check_text an_check_text : Option Addr} {sl_check_text : Array (Option Value)} {oc_check_text kV_check_text dc_check_text pm_check_text cd_check_text ct_check_text : Value}
  {f_reader_fault : Addr} {od_reader_fault an_reader_fault : Option Addr} {sl_reader_fault : Array (Option Value)} {oc_reader_fault kV_reader_fault dc_reader_fault pm_reader_fault cd_reader_fault ct_reader_fault : Value}
  {f_check_reader : Addr} {od_check_reader an_check_reader : Option Addr} {sl_check_reader : Array (Option Value)} {oc_check_reader kV_check_reader dc_check_reader pm_check_reader cd_check_reader ct_check_reader : Value}
  {f_is_whole : Addr} {od_is_whole an_is_whole : Option Addr} {sl_is_whole : Array (Option Value)} {oc_is_whole kV_is_whole dc_is_whole pm_is_whole cd_is_whole ct_is_whole : Value}
  {f_behind_figure : Addr} {od_behind_figure an_behind_figure : Option Addr} {sl_behind_figure : Array (Option Value)} {oc_behind_figure kV_behind_figure dc_behind_figure pm_behind_figure cd_behind_figure ct_behind_figure : Value}
  {f_behind_point : Addr} {od_behind_point an_behind_point : Option Addr} {sl_behind_point : Array (Option Value)} {oc_behind_point kV_behind_point dc_behind_point pm_behind_point cd_behind_point ct_behind_point : Value}
  {f_behind_under : Addr} {od_behind_under an_behind_under : Option Addr} {sl_behind_under : Array (Option Value)} {oc_behind_under kV_behind_under dc_behind_under pm_behind_under cd_behind_under ct_behind_under : Value}
  {f_behind : Addr} {od_behind an_behind : Option Addr} {sl_behind : Array (Option Value)} {oc_behind kV_behind dc_behind pm_behind cd_behind ct_behind : Value}
  {f_is_read : Addr} {od_is_read an_is_read : Option Addr} {sl_is_read : Array (Option Value)} {oc_is_read kV_is_read dc_is_read pm_is_read cd_is_read ct_is_read : Value}
  {f_lowest : Addr} {od_lowest an_lowest : Option Addr} {sl_lowest : Array (Option Value)} {oc_lowest kV_lowest dc_lowest pm_lowest cd_lowest ct_lowest : Value}
  {f_number_of : Addr} {od_number_of an_number_of : Option Addr} {sl_number_of : Array (Option Value)} {oc_number_of kV_number_of dc_number_of pm_number_of cd_number_of ct_number_of : Value}
  {f_read : Addr} {od_read an_read : Option Addr} {sl_read : Array (Option Value)} {oc_read kV_read dc_read pm_read cd_read ct_read : Value}
  {f_law_begin : Addr} {od_law_begin an_law_begin : Option Addr} {sl_law_begin : Array (Option Value)} {oc_law_begin kV_law_begin dc_law_begin pm_law_begin cd_law_begin ct_law_begin : Value}
  {f_law_draw : Addr} {od_law_draw an_law_draw : Option Addr} {sl_law_draw : Array (Option Value)} {oc_law_draw kV_law_draw dc_law_draw pm_law_draw cd_law_draw ct_law_draw : Value}
  {f_law_reader : Addr} {od_law_reader an_law_reader : Option Addr} {sl_law_reader : Array (Option Value)} {oc_law_reader kV_law_reader dc_law_reader pm_law_reader cd_law_reader ct_law_reader : Value}
  {f_law_text : Addr} {od_law_text an_law_text : Option Addr} {sl_law_text : Array (Option Value)} {oc_law_text kV_law_text dc_law_text pm_law_text cd_law_text ct_law_text : Value}
  {f_law_middle : Addr} {od_law_middle an_law_middle : Option Addr} {sl_law_middle : Array (Option Value)} {oc_law_middle kV_law_middle dc_law_middle pm_law_middle cd_law_middle ct_law_middle : Value}
  {f_law_unders_good : Addr} {od_law_unders_good an_law_unders_good : Option Addr} {sl_law_unders_good : Array (Option Value)} {oc_law_unders_good kV_law_unders_good dc_law_unders_good pm_law_unders_good cd_law_unders_good ct_law_unders_good : Value}
  {f_law_points_good : Addr} {od_law_points_good an_law_points_good : Option Addr} {sl_law_points_good : Array (Option Value)} {oc_law_points_good kV_law_points_good dc_law_points_good pm_law_points_good cd_law_points_good ct_law_points_good : Value}
  {f_law_is_read : Addr} {od_law_is_read an_law_is_read : Option Addr} {sl_law_is_read : Array (Option Value)} {oc_law_is_read kV_law_is_read dc_law_is_read pm_law_is_read cd_law_is_read ct_law_is_read : Value}
  {f_law_lowest : Addr} {od_law_lowest an_law_lowest : Option Addr} {sl_law_lowest : Array (Option Value)} {oc_law_lowest kV_law_lowest dc_law_lowest pm_law_lowest cd_law_lowest ct_law_lowest : Value}
  {f_law_read : Addr} {od_law_read an_law_read : Option Addr} {sl_law_read : Array (Option Value)} {oc_law_read kV_law_read dc_law_read pm_law_read cd_law_read ct_law_read : Value}
  {f_law_like : Addr} {od_law_like an_law_like : Option Addr} {sl_law_like : Array (Option Value)} {oc_law_like kV_law_like dc_law_like pm_law_like cd_law_like ct_law_like : Value}
  {f_law : Addr} {od_law an_law : Option Addr} {sl_law : Array (Option Value)} {oc_law kV_law dc_law pm_law cd_law ct_law : Value}
  {FE : Addr}
  {nm_cBR q_cBR : Str} {N_cBR : Addr} {bs_cBR : List Value} {sn_cBR : List Str} {sub_cBR : List Value} {ab_cBR : Bool} {col_cBR : Option Bool} {dd_cBR : Option Addr} {m0_cBR m1_cBR m2_cBR m3_cBR m5_cBR : Option Value}
  {tk1 : Tok}
  {tk2 : Tok}
  {a_OPTIONS : Addr} {oda_OPTIONS : Option Addr} {na_OPTIONS : Nat} {sla_OPTIONS : Array (Option Value)}
  {a_OPTIONS0 : Addr} {oda_OPTIONS0 : Option Addr} {na_OPTIONS0 : Nat} {sla_OPTIONS0 : Array (Option Value)}
  {tk3 : Tok}
  {tk4 : Tok}
  {a_OPTIONS1 : Addr} {oda_OPTIONS1 : Option Addr} {na_OPTIONS1 : Nat} {sla_OPTIONS1 : Array (Option Value)}
  {tk5 : Tok}
  {tk6 : Tok}
  {tk7 : Tok}
  {a_OPTIONS2 : Addr} {oda_OPTIONS2 : Option Addr} {na_OPTIONS2 : Nat} {sla_OPTIONS2 : Array (Option Value)}
  {tk8 : Tok}
  {tk9 : Tok}
  {tk10 : Tok}
  {a_OPTIONS3 : Addr} {oda_OPTIONS3 : Option Addr} {na_OPTIONS3 : Nat} {sla_OPTIONS3 : Array (Option Value)}
  {tk11 : Tok}
  {tk12 : Tok}
  {tk13 : Tok}
  {a_OPTIONS4 : Addr} {oda_OPTIONS4 : Option Addr} {na_OPTIONS4 : Nat} {sla_OPTIONS4 : Array (Option Value)}
  {tk14 : Tok}
  {tk15 : Tok}
  {tk16 : Tok}
  {tk17 : Tok}
  {a_OPTIONS5 : Addr} {oda_OPTIONS5 : Option Addr} {na_OPTIONS5 : Nat} {sla_OPTIONS5 : Array (Option Value)}
  {tk18 : Tok}
  {tk19 : Tok}
  {a_PARTS : Addr} {oda_PARTS : Option Addr} {na_PARTS : Nat} {sla_PARTS : Array (Option Value)}
  {tk20 : Tok}
  {tk21 : Tok}
  {a_FIRST : Addr} {oda_FIRST : Option Addr} {na_FIRST : Nat} {sla_FIRST : Array (Option Value)}
  {tk22 : Tok}
  {tk23 : Tok}
  {tk24 : Tok}
  {tk25 : Tok}
  {tk26 : Tok}
  {wd : Addr} {wes : Array DictEntry} {wn : Nat} {tw0 tw1 tw8 twt : Tok}
  (X : K.In h) (G : h.Ns mainGlobals mg) (hfa : mg "law" = some (.ref fa))
  (n_cBR : PySem.W.nsIn K mainGlobals "BadReader" = some (some (.ref cBR)))
  (n_cBT : PySem.W.nsIn K mainGlobals "BadText" = some (some (.ref cBT)))
  (n_BadReader_init : PySem.W.findIn K (.ref cBR) "__init__" = some (some (.ref f_BadReader_init)))
  (i_BadReader_init : PySem.W.typeIn K (.ref f_BadReader_init) = some (.type "function"))
  (l_BadReader_init : K.lookup f_BadReader_init = some ⟨oc_BadReader_init, od_BadReader_init, .func (PySem.W.fnOf "__init__" "BadReader.__init__" (defArgs s_BadReader_init) (defBody s_BadReader_init) (defScope s_BadReader_init) .none kV_BadReader_init dc_BadReader_init pm_BadReader_init an_BadReader_init cd_BadReader_init ct_BadReader_init), sl_BadReader_init⟩)
  (c_BadReader_init : PySem.W.codeIn K cd_BadReader_init "BadReader.__init__" = true)
  (k_BadReader_init : PySem.W.keepIn K (.ref f_BadReader_init) = true)
  (n_is_text : PySem.W.nsIn K mainGlobals "is_text" = some (some (.ref f_is_text)))
  (l_is_text : K.lookup f_is_text = some ⟨oc_is_text, od_is_text, .func (PySem.W.fnOf "is_text" "is_text" (defArgs s_is_text) (defBody s_is_text) (defScope s_is_text) .none kV_is_text dc_is_text pm_is_text an_is_text cd_is_text ct_is_text), sl_is_text⟩)
  (c_is_text : PySem.W.codeIn K cd_is_text "is_text" = true)
  (k_is_text : PySem.W.keepIn K (.ref f_is_text) = true)
  (n_check_text : PySem.W.nsIn K mainGlobals "check_text" = some (some (.ref f_check_text)))
  (l_check_text : K.lookup f_check_text = some ⟨oc_check_text, od_check_text, .func (PySem.W.fnOf "check_text" "check_text" (defArgs s_check_text) (defBody s_check_text) (defScope s_check_text) .none kV_check_text dc_check_text pm_check_text an_check_text cd_check_text ct_check_text), sl_check_text⟩)
  (c_check_text : PySem.W.codeIn K cd_check_text "check_text" = true)
  (k_check_text : PySem.W.keepIn K (.ref f_check_text) = true)
  (n_reader_fault : PySem.W.nsIn K mainGlobals "reader_fault" = some (some (.ref f_reader_fault)))
  (l_reader_fault : K.lookup f_reader_fault = some ⟨oc_reader_fault, od_reader_fault, .func (PySem.W.fnOf "reader_fault" "reader_fault" (defArgs s_reader_fault) (defBody s_reader_fault) (defScope s_reader_fault) .none kV_reader_fault dc_reader_fault pm_reader_fault an_reader_fault cd_reader_fault ct_reader_fault), sl_reader_fault⟩)
  (c_reader_fault : PySem.W.codeIn K cd_reader_fault "reader_fault" = true)
  (k_reader_fault : PySem.W.keepIn K (.ref f_reader_fault) = true)
  (n_check_reader : PySem.W.nsIn K mainGlobals "check_reader" = some (some (.ref f_check_reader)))
  (l_check_reader : K.lookup f_check_reader = some ⟨oc_check_reader, od_check_reader, .func (PySem.W.fnOf "check_reader" "check_reader" (defArgs s_check_reader) (defBody s_check_reader) (defScope s_check_reader) .none kV_check_reader dc_check_reader pm_check_reader an_check_reader cd_check_reader ct_check_reader), sl_check_reader⟩)
  (c_check_reader : PySem.W.codeIn K cd_check_reader "check_reader" = true)
  (k_check_reader : PySem.W.keepIn K (.ref f_check_reader) = true)
  (n_is_whole : PySem.W.nsIn K mainGlobals "is_whole" = some (some (.ref f_is_whole)))
  (l_is_whole : K.lookup f_is_whole = some ⟨oc_is_whole, od_is_whole, .func (PySem.W.fnOf "is_whole" "is_whole" (defArgs s_is_whole) (defBody s_is_whole) (defScope s_is_whole) .none kV_is_whole dc_is_whole pm_is_whole an_is_whole cd_is_whole ct_is_whole), sl_is_whole⟩)
  (c_is_whole : PySem.W.codeIn K cd_is_whole "is_whole" = true)
  (k_is_whole : PySem.W.keepIn K (.ref f_is_whole) = true)
  (n_behind_figure : PySem.W.nsIn K mainGlobals "behind_figure" = some (some (.ref f_behind_figure)))
  (l_behind_figure : K.lookup f_behind_figure = some ⟨oc_behind_figure, od_behind_figure, .func (PySem.W.fnOf "behind_figure" "behind_figure" (defArgs s_behind_figure) (defBody s_behind_figure) (defScope s_behind_figure) .none kV_behind_figure dc_behind_figure pm_behind_figure an_behind_figure cd_behind_figure ct_behind_figure), sl_behind_figure⟩)
  (c_behind_figure : PySem.W.codeIn K cd_behind_figure "behind_figure" = true)
  (k_behind_figure : PySem.W.keepIn K (.ref f_behind_figure) = true)
  (n_behind_point : PySem.W.nsIn K mainGlobals "behind_point" = some (some (.ref f_behind_point)))
  (l_behind_point : K.lookup f_behind_point = some ⟨oc_behind_point, od_behind_point, .func (PySem.W.fnOf "behind_point" "behind_point" (defArgs s_behind_point) (defBody s_behind_point) (defScope s_behind_point) .none kV_behind_point dc_behind_point pm_behind_point an_behind_point cd_behind_point ct_behind_point), sl_behind_point⟩)
  (c_behind_point : PySem.W.codeIn K cd_behind_point "behind_point" = true)
  (k_behind_point : PySem.W.keepIn K (.ref f_behind_point) = true)
  (n_behind_under : PySem.W.nsIn K mainGlobals "behind_under" = some (some (.ref f_behind_under)))
  (l_behind_under : K.lookup f_behind_under = some ⟨oc_behind_under, od_behind_under, .func (PySem.W.fnOf "behind_under" "behind_under" (defArgs s_behind_under) (defBody s_behind_under) (defScope s_behind_under) .none kV_behind_under dc_behind_under pm_behind_under an_behind_under cd_behind_under ct_behind_under), sl_behind_under⟩)
  (c_behind_under : PySem.W.codeIn K cd_behind_under "behind_under" = true)
  (k_behind_under : PySem.W.keepIn K (.ref f_behind_under) = true)
  (n_behind : PySem.W.nsIn K mainGlobals "behind" = some (some (.ref f_behind)))
  (l_behind : K.lookup f_behind = some ⟨oc_behind, od_behind, .func (PySem.W.fnOf "behind" "behind" (defArgs s_behind) (defBody s_behind) (defScope s_behind) .none kV_behind dc_behind pm_behind an_behind cd_behind ct_behind), sl_behind⟩)
  (c_behind : PySem.W.codeIn K cd_behind "behind" = true)
  (k_behind : PySem.W.keepIn K (.ref f_behind) = true)
  (n_is_read : PySem.W.nsIn K mainGlobals "is_read" = some (some (.ref f_is_read)))
  (l_is_read : K.lookup f_is_read = some ⟨oc_is_read, od_is_read, .func (PySem.W.fnOf "is_read" "is_read" (defArgs s_is_read) (defBody s_is_read) (defScope s_is_read) .none kV_is_read dc_is_read pm_is_read an_is_read cd_is_read ct_is_read), sl_is_read⟩)
  (c_is_read : PySem.W.codeIn K cd_is_read "is_read" = true)
  (k_is_read : PySem.W.keepIn K (.ref f_is_read) = true)
  (n_lowest : PySem.W.nsIn K mainGlobals "lowest" = some (some (.ref f_lowest)))
  (l_lowest : K.lookup f_lowest = some ⟨oc_lowest, od_lowest, .func (PySem.W.fnOf "lowest" "lowest" (defArgs s_lowest) (defBody s_lowest) (defScope s_lowest) .none kV_lowest dc_lowest pm_lowest an_lowest cd_lowest ct_lowest), sl_lowest⟩)
  (c_lowest : PySem.W.codeIn K cd_lowest "lowest" = true)
  (k_lowest : PySem.W.keepIn K (.ref f_lowest) = true)
  (n_number_of : PySem.W.nsIn K mainGlobals "number_of" = some (some (.ref f_number_of)))
  (l_number_of : K.lookup f_number_of = some ⟨oc_number_of, od_number_of, .func (PySem.W.fnOf "number_of" "number_of" (defArgs s_number_of) (defBody s_number_of) (defScope s_number_of) .none kV_number_of dc_number_of pm_number_of an_number_of cd_number_of ct_number_of), sl_number_of⟩)
  (c_number_of : PySem.W.codeIn K cd_number_of "number_of" = true)
  (k_number_of : PySem.W.keepIn K (.ref f_number_of) = true)
  (n_read : PySem.W.nsIn K mainGlobals "read" = some (some (.ref f_read)))
  (l_read : K.lookup f_read = some ⟨oc_read, od_read, .func (PySem.W.fnOf "read" "read" (defArgs s_read) (defBody s_read) (defScope s_read) .none kV_read dc_read pm_read an_read cd_read ct_read), sl_read⟩)
  (c_read : PySem.W.codeIn K cd_read "read" = true)
  (k_read : PySem.W.keepIn K (.ref f_read) = true)
  (n_law_begin : PySem.W.nsIn K mainGlobals "_law_begin" = some (some (.ref f_law_begin)))
  (l_law_begin : K.lookup f_law_begin = some ⟨oc_law_begin, od_law_begin, .func (PySem.W.fnOf "_law_begin" "_law_begin" (defArgs s_law_begin) (defBody s_law_begin) (defScope s_law_begin) .none kV_law_begin dc_law_begin pm_law_begin an_law_begin cd_law_begin ct_law_begin), sl_law_begin⟩)
  (c_law_begin : PySem.W.codeIn K cd_law_begin "_law_begin" = true)
  (k_law_begin : PySem.W.keepIn K (.ref f_law_begin) = true)
  (n_law_draw : PySem.W.nsIn K mainGlobals "_law_draw" = some (some (.ref f_law_draw)))
  (l_law_draw : K.lookup f_law_draw = some ⟨oc_law_draw, od_law_draw, .func (PySem.W.fnOf "_law_draw" "_law_draw" (defArgs s_law_draw) (defBody s_law_draw) (defScope s_law_draw) .none kV_law_draw dc_law_draw pm_law_draw an_law_draw cd_law_draw ct_law_draw), sl_law_draw⟩)
  (c_law_draw : PySem.W.codeIn K cd_law_draw "_law_draw" = true)
  (k_law_draw : PySem.W.keepIn K (.ref f_law_draw) = true)
  (n_law_reader : PySem.W.nsIn K mainGlobals "_law_reader" = some (some (.ref f_law_reader)))
  (l_law_reader : K.lookup f_law_reader = some ⟨oc_law_reader, od_law_reader, .func (PySem.W.fnOf "_law_reader" "_law_reader" (defArgs s_law_reader) (defBody s_law_reader) (defScope s_law_reader) .none kV_law_reader dc_law_reader pm_law_reader an_law_reader cd_law_reader ct_law_reader), sl_law_reader⟩)
  (c_law_reader : PySem.W.codeIn K cd_law_reader "_law_reader" = true)
  (k_law_reader : PySem.W.keepIn K (.ref f_law_reader) = true)
  (n_law_text : PySem.W.nsIn K mainGlobals "_law_text" = some (some (.ref f_law_text)))
  (l_law_text : K.lookup f_law_text = some ⟨oc_law_text, od_law_text, .func (PySem.W.fnOf "_law_text" "_law_text" (defArgs s_law_text) (defBody s_law_text) (defScope s_law_text) .none kV_law_text dc_law_text pm_law_text an_law_text cd_law_text ct_law_text), sl_law_text⟩)
  (c_law_text : PySem.W.codeIn K cd_law_text "_law_text" = true)
  (k_law_text : PySem.W.keepIn K (.ref f_law_text) = true)
  (n_law_middle : PySem.W.nsIn K mainGlobals "_law_middle" = some (some (.ref f_law_middle)))
  (l_law_middle : K.lookup f_law_middle = some ⟨oc_law_middle, od_law_middle, .func (PySem.W.fnOf "_law_middle" "_law_middle" (defArgs s_law_middle) (defBody s_law_middle) (defScope s_law_middle) .none kV_law_middle dc_law_middle pm_law_middle an_law_middle cd_law_middle ct_law_middle), sl_law_middle⟩)
  (c_law_middle : PySem.W.codeIn K cd_law_middle "_law_middle" = true)
  (k_law_middle : PySem.W.keepIn K (.ref f_law_middle) = true)
  (n_law_unders_good : PySem.W.nsIn K mainGlobals "_law_unders_good" = some (some (.ref f_law_unders_good)))
  (l_law_unders_good : K.lookup f_law_unders_good = some ⟨oc_law_unders_good, od_law_unders_good, .func (PySem.W.fnOf "_law_unders_good" "_law_unders_good" (defArgs s_law_unders_good) (defBody s_law_unders_good) (defScope s_law_unders_good) .none kV_law_unders_good dc_law_unders_good pm_law_unders_good an_law_unders_good cd_law_unders_good ct_law_unders_good), sl_law_unders_good⟩)
  (c_law_unders_good : PySem.W.codeIn K cd_law_unders_good "_law_unders_good" = true)
  (k_law_unders_good : PySem.W.keepIn K (.ref f_law_unders_good) = true)
  (n_law_points_good : PySem.W.nsIn K mainGlobals "_law_points_good" = some (some (.ref f_law_points_good)))
  (l_law_points_good : K.lookup f_law_points_good = some ⟨oc_law_points_good, od_law_points_good, .func (PySem.W.fnOf "_law_points_good" "_law_points_good" (defArgs s_law_points_good) (defBody s_law_points_good) (defScope s_law_points_good) .none kV_law_points_good dc_law_points_good pm_law_points_good an_law_points_good cd_law_points_good ct_law_points_good), sl_law_points_good⟩)
  (c_law_points_good : PySem.W.codeIn K cd_law_points_good "_law_points_good" = true)
  (k_law_points_good : PySem.W.keepIn K (.ref f_law_points_good) = true)
  (n_law_is_read : PySem.W.nsIn K mainGlobals "_law_is_read" = some (some (.ref f_law_is_read)))
  (l_law_is_read : K.lookup f_law_is_read = some ⟨oc_law_is_read, od_law_is_read, .func (PySem.W.fnOf "_law_is_read" "_law_is_read" (defArgs s_law_is_read) (defBody s_law_is_read) (defScope s_law_is_read) .none kV_law_is_read dc_law_is_read pm_law_is_read an_law_is_read cd_law_is_read ct_law_is_read), sl_law_is_read⟩)
  (c_law_is_read : PySem.W.codeIn K cd_law_is_read "_law_is_read" = true)
  (k_law_is_read : PySem.W.keepIn K (.ref f_law_is_read) = true)
  (n_law_lowest : PySem.W.nsIn K mainGlobals "_law_lowest" = some (some (.ref f_law_lowest)))
  (l_law_lowest : K.lookup f_law_lowest = some ⟨oc_law_lowest, od_law_lowest, .func (PySem.W.fnOf "_law_lowest" "_law_lowest" (defArgs s_law_lowest) (defBody s_law_lowest) (defScope s_law_lowest) .none kV_law_lowest dc_law_lowest pm_law_lowest an_law_lowest cd_law_lowest ct_law_lowest), sl_law_lowest⟩)
  (c_law_lowest : PySem.W.codeIn K cd_law_lowest "_law_lowest" = true)
  (k_law_lowest : PySem.W.keepIn K (.ref f_law_lowest) = true)
  (n_law_read : PySem.W.nsIn K mainGlobals "_law_read" = some (some (.ref f_law_read)))
  (l_law_read : K.lookup f_law_read = some ⟨oc_law_read, od_law_read, .func (PySem.W.fnOf "_law_read" "_law_read" (defArgs s_law_read) (defBody s_law_read) (defScope s_law_read) .none kV_law_read dc_law_read pm_law_read an_law_read cd_law_read ct_law_read), sl_law_read⟩)
  (c_law_read : PySem.W.codeIn K cd_law_read "_law_read" = true)
  (k_law_read : PySem.W.keepIn K (.ref f_law_read) = true)
  (n_law_like : PySem.W.nsIn K mainGlobals "_law_like" = some (some (.ref f_law_like)))
  (l_law_like : K.lookup f_law_like = some ⟨oc_law_like, od_law_like, .func (PySem.W.fnOf "_law_like" "_law_like" (defArgs s_law_like) (defBody s_law_like) (defScope s_law_like) .none kV_law_like dc_law_like pm_law_like an_law_like cd_law_like ct_law_like), sl_law_like⟩)
  (c_law_like : PySem.W.codeIn K cd_law_like "_law_like" = true)
  (k_law_like : PySem.W.keepIn K (.ref f_law_like) = true)
  (n_law : PySem.W.nsIn K mainGlobals "law" = some (some (.ref f_law)))
  (l_law : K.lookup f_law = some ⟨oc_law, od_law, .func (PySem.W.fnOf "law" "law" (defArgs s_law) (defBody s_law) (defScope s_law) .none kV_law dc_law pm_law an_law cd_law ct_law), sl_law⟩)
  (c_law : PySem.W.codeIn K cd_law "law" = true)
  (k_law : PySem.W.keepIn K (.ref f_law) = true)
  (ke_cBT : PySem.W.keepIn K (.ref cBT) = true)
  (be_cBT : PySem.W.subIn K (.ref cBT) (.type "BaseException") = some true)
  (te_cBT : PySem.W.typeIn K (.ref cBT) = some (.type "type"))
  (ke_cBR : PySem.W.keepIn K (.ref cBR) = true)
  (be_cBR : PySem.W.subIn K (.ref cBR) (.type "BaseException") = some true)
  (te_cBR : PySem.W.typeIn K (.ref cBR) = some (.type "type"))
  (qe_cBT : PySem.W.excIn K cBT [.type "ValueError", .type "Exception", .type "BaseException", .type "object"] "ValueError.__new__" = true)
  (xl_cBR : K.lookup cBR = some (excClassObj nm_cBR q_cBR cBR N_cBR bs_cBR [.ref FE, .type "ValueError", .type "Exception", .type "BaseException", .type "object"] true sn_cBR sub_cBR ab_cBR col_cBR dd_cBR m0_cBR m1_cBR m2_cBR m3_cBR m5_cBR "ValueError.__new__"))
  (se_cBR : PySem.W.findIn K (.ref cBR) "__setattr__" = some (some (.builtin "object.__setattr__")))
  (ne_cBR : PySem.W.findIn K (.ref cBR) "index" = some none)
  (z_isinstance : PySem.W.nsIn K mainGlobals "isinstance" = some none)
  (z_len : PySem.W.nsIn K mainGlobals "len" = some none)
  (z_enumerate : PySem.W.nsIn K mainGlobals "enumerate" = some none)
  (z_all : PySem.W.nsIn K mainGlobals "all" = some none)
  (z_any : PySem.W.nsIn K mainGlobals "any" = some none)
  (z_str : PySem.W.nsIn K mainGlobals "str" = some none)
  (z_int : PySem.W.nsIn K mainGlobals "int" = some none)
  (z_tuple : PySem.W.nsIn K mainGlobals "tuple" = some none)
  (z_bool : PySem.W.nsIn K mainGlobals "bool" = some none)
  (z_range : PySem.W.nsIn K mainGlobals "range" = some none)
  (z_min : PySem.W.nsIn K mainGlobals "min" = some none)
  (z_abs : PySem.W.nsIn K mainGlobals "abs" = some none)
  (z_list : PySem.W.nsIn K mainGlobals "list" = some none)
  (v_SIGNS : PySem.W.nsIn K mainGlobals "SIGNS" = some (some (.str " +-.018_t" tk1)))
  (v_FIGURES : PySem.W.nsIn K mainGlobals "FIGURES" = some (some (.str "018t" tk2)))
  (v_OPTIONS : PySem.W.nsIn K mainGlobals "OPTIONS" = some (some (.ref a_OPTIONS)))
  (w_OPTIONS : K.lookup a_OPTIONS = some ⟨.type "tuple", oda_OPTIONS, .seq #[.ref a_OPTIONS0, .ref a_OPTIONS1, .ref a_OPTIONS2, .ref a_OPTIONS3, .ref a_OPTIONS4, .ref a_OPTIONS5] na_OPTIONS, sla_OPTIONS⟩)
  (w_OPTIONS0 : K.lookup a_OPTIONS0 = some ⟨.type "tuple", oda_OPTIONS0, .seq #[.str "none" tk3, .str "ends" tk4] na_OPTIONS0, sla_OPTIONS0⟩)
  (w_OPTIONS1 : K.lookup a_OPTIONS1 = some ⟨.type "tuple", oda_OPTIONS1, .seq #[.str "none" tk5, .str "minus" tk6, .str "both" tk7] na_OPTIONS1, sla_OPTIONS1⟩)
  (w_OPTIONS2 : K.lookup a_OPTIONS2 = some ⟨.type "tuple", oda_OPTIONS2, .seq #[.str "none" tk8, .str "free" tk9, .str "eight" tk10] na_OPTIONS2, sla_OPTIONS2⟩)
  (w_OPTIONS3 : K.lookup a_OPTIONS3 = some ⟨.type "tuple", oda_OPTIONS3, .seq #[.str "none" tk11, .str "single" tk12, .str "free" tk13] na_OPTIONS3, sla_OPTIONS3⟩)
  (w_OPTIONS4 : K.lookup a_OPTIONS4 = some ⟨.type "tuple", oda_OPTIONS4, .seq #[.str "none" tk14, .str "part" tk15, .str "loose" tk16, .str "rows" tk17] na_OPTIONS4, sla_OPTIONS4⟩)
  (w_OPTIONS5 : K.lookup a_OPTIONS5 = some ⟨.type "tuple", oda_OPTIONS5, .seq #[.str "plain" tk18, .str "all" tk19] na_OPTIONS5, sla_OPTIONS5⟩)
  (v_PARTS : PySem.W.nsIn K mainGlobals "PARTS" = some (some (.ref a_PARTS)))
  (w_PARTS : K.lookup a_PARTS = some ⟨.type "tuple", oda_PARTS, .seq #[.str "part" tk20, .str "loose" tk21] na_PARTS, sla_PARTS⟩)
  (v_FIRST : PySem.W.nsIn K mainGlobals "FIRST" = some (some (.ref a_FIRST)))
  (w_FIRST : K.lookup a_FIRST = some ⟨.type "tuple", oda_FIRST, .seq #[.str "start" tk22, .str "" tk23, .int 0 tk24, .int 0 tk25, .bool false, .str "" tk26, .bool false] na_FIRST, sla_FIRST⟩)
  (n_WORTHS : PySem.W.nsIn K mainGlobals "WORTHS" = some (some (.ref wd)))
  (wl_WORTHS : K.lookup wd = some ⟨.type "dict", none, .dict wes wn, #[]⟩)
  (kl_WORTHS : PySem.W.KeysLit w.params wes.toList)
  (wv_0 : PySem.W.nsIn K wd "0" = some (some (.int 0 tw0)))
  (wv_1 : PySem.W.nsIn K wd "1" = some (some (.int 1 tw1)))
  (wv_8 : PySem.W.nsIn K wd "8" = some (some (.int 8 tw8)))
  (wv_t : PySem.W.nsIn K wd "t" = some (some (.int 3 twt)))
  : ∃ fd : FuncData, (∀ (s : Shared) (v : Value), BindsTo s fd ⟨[v], []⟩ [("_law_script", v)]) ∧ ∀ base : Heap, K.In base → base.Ns mainGlobals mg → FnOk l.prog w K mg base (L2.CX l.prog w) 9 fa fd ["_law_script"] (spLawL K) := by
  have e := hfa.symm.trans (PySem.W.mg_of X G n_law)
  cases e
  have KT_OPTIONS0 := kt_mk (ds := [.str [110, 111, 110, 101], .str [101, 110, 100, 115]]) w_OPTIONS0 (by show 2 ≤ sizeLine; decide) (ivs_all ⟨_, _, rfl, iv_str (s := [110, 111, 110, 101]) (by first | rfl | decide +kernel), ⟨_, _, rfl, iv_str (s := [101, 110, 100, 115]) (by first | rfl | decide +kernel), rfl⟩⟩)
  have KT_OPTIONS1 := kt_mk (ds := [.str [110, 111, 110, 101], .str [109, 105, 110, 117, 115], .str [98, 111, 116, 104]]) w_OPTIONS1 (by show 3 ≤ sizeLine; decide) (ivs_all ⟨_, _, rfl, iv_str (s := [110, 111, 110, 101]) (by first | rfl | decide +kernel), ⟨_, _, rfl, iv_str (s := [109, 105, 110, 117, 115]) (by first | rfl | decide +kernel), ⟨_, _, rfl, iv_str (s := [98, 111, 116, 104]) (by first | rfl | decide +kernel), rfl⟩⟩⟩)
  have KT_OPTIONS2 := kt_mk (ds := [.str [110, 111, 110, 101], .str [102, 114, 101, 101], .str [101, 105, 103, 104, 116]]) w_OPTIONS2 (by show 3 ≤ sizeLine; decide) (ivs_all ⟨_, _, rfl, iv_str (s := [110, 111, 110, 101]) (by first | rfl | decide +kernel), ⟨_, _, rfl, iv_str (s := [102, 114, 101, 101]) (by first | rfl | decide +kernel), ⟨_, _, rfl, iv_str (s := [101, 105, 103, 104, 116]) (by first | rfl | decide +kernel), rfl⟩⟩⟩)
  have KT_OPTIONS3 := kt_mk (ds := [.str [110, 111, 110, 101], .str [115, 105, 110, 103, 108, 101], .str [102, 114, 101, 101]]) w_OPTIONS3 (by show 3 ≤ sizeLine; decide) (ivs_all ⟨_, _, rfl, iv_str (s := [110, 111, 110, 101]) (by first | rfl | decide +kernel), ⟨_, _, rfl, iv_str (s := [115, 105, 110, 103, 108, 101]) (by first | rfl | decide +kernel), ⟨_, _, rfl, iv_str (s := [102, 114, 101, 101]) (by first | rfl | decide +kernel), rfl⟩⟩⟩)
  have KT_OPTIONS4 := kt_mk (ds := [.str [110, 111, 110, 101], .str [112, 97, 114, 116], .str [108, 111, 111, 115, 101], .str [114, 111, 119, 115]]) w_OPTIONS4 (by show 4 ≤ sizeLine; decide) (ivs_all ⟨_, _, rfl, iv_str (s := [110, 111, 110, 101]) (by first | rfl | decide +kernel), ⟨_, _, rfl, iv_str (s := [112, 97, 114, 116]) (by first | rfl | decide +kernel), ⟨_, _, rfl, iv_str (s := [108, 111, 111, 115, 101]) (by first | rfl | decide +kernel), ⟨_, _, rfl, iv_str (s := [114, 111, 119, 115]) (by first | rfl | decide +kernel), rfl⟩⟩⟩⟩)
  have KT_OPTIONS5 := kt_mk (ds := [.str [112, 108, 97, 105, 110], .str [97, 108, 108]]) w_OPTIONS5 (by show 2 ≤ sizeLine; decide) (ivs_all ⟨_, _, rfl, iv_str (s := [112, 108, 97, 105, 110]) (by first | rfl | decide +kernel), ⟨_, _, rfl, iv_str (s := [97, 108, 108]) (by first | rfl | decide +kernel), rfl⟩⟩)
  have KT_OPTIONS := kt_mk (ds := [.tup [.str [110, 111, 110, 101], .str [101, 110, 100, 115]], .tup [.str [110, 111, 110, 101], .str [109, 105, 110, 117, 115], .str [98, 111, 116, 104]], .tup [.str [110, 111, 110, 101], .str [102, 114, 101, 101], .str [101, 105, 103, 104, 116]], .tup [.str [110, 111, 110, 101], .str [115, 105, 110, 103, 108, 101], .str [102, 114, 101, 101]], .tup [.str [110, 111, 110, 101], .str [112, 97, 114, 116], .str [108, 111, 111, 115, 101], .str [114, 111, 119, 115]], .tup [.str [112, 108, 97, 105, 110], .str [97, 108, 108]]]) w_OPTIONS (by show 6 ≤ sizeLine; decide) (ivs_all ⟨_, _, rfl, iv_kt KT_OPTIONS0, ⟨_, _, rfl, iv_kt KT_OPTIONS1, ⟨_, _, rfl, iv_kt KT_OPTIONS2, ⟨_, _, rfl, iv_kt KT_OPTIONS3, ⟨_, _, rfl, iv_kt KT_OPTIONS4, ⟨_, _, rfl, iv_kt KT_OPTIONS5, rfl⟩⟩⟩⟩⟩⟩)
  have KT_PARTS := kt_mk (ds := [.str [112, 97, 114, 116], .str [108, 111, 111, 115, 101]]) w_PARTS (by show 2 ≤ sizeLine; decide) (ivs_all ⟨_, _, rfl, iv_str (s := [112, 97, 114, 116]) (by first | rfl | decide +kernel), ⟨_, _, rfl, iv_str (s := [108, 111, 111, 115, 101]) (by first | rfl | decide +kernel), rfl⟩⟩)
  have KT_FIRST := kt_mk (ds := [.str [115, 116, 97, 114, 116], .str [], .int 0, .int 0, .bl false, .str [], .bl false]) w_FIRST (by show 7 ≤ sizeLine; decide) (ivs_all ⟨_, _, rfl, iv_str (s := [115, 116, 97, 114, 116]) (by first | rfl | decide +kernel), ⟨_, _, rfl, iv_str (s := []) (by first | rfl | decide +kernel), ⟨_, _, rfl, ⟨.int 0, ⟨_, rfl⟩, fun H => by rw [RD]⟩, ⟨_, _, rfl, ⟨.int 0, ⟨_, rfl⟩, fun H => by rw [RD]⟩, ⟨_, _, rfl, ⟨.bl false, rfl, fun H => by rw [RD]⟩, ⟨_, _, rfl, iv_str (s := []) (by first | rfl | decide +kernel), ⟨_, _, rfl, ⟨.bl false, rfl, fun H => by rw [RD]⟩, rfl⟩⟩⟩⟩⟩⟩⟩)
  let A : Ad := { cPr := cBR, cRd := cBR, cSc := cBR, cFE := cBR, cBT := cBT, cBC := cBR, cNU := cBR, cBR := cBR, cBL := cBR }
  let B : Fd := { a_BadReader_init := f_BadReader_init, d_BadReader_init := PySem.W.fnOf "__init__" "BadReader.__init__" (defArgs s_BadReader_init) (defBody s_BadReader_init) (defScope s_BadReader_init) .none kV_BadReader_init dc_BadReader_init pm_BadReader_init an_BadReader_init cd_BadReader_init ct_BadReader_init, a_is_text := f_is_text, d_is_text := PySem.W.fnOf "is_text" "is_text" (defArgs s_is_text) (defBody s_is_text) (defScope s_is_text) .none kV_is_text dc_is_text pm_is_text an_is_text cd_is_text ct_is_text, a_check_text := f_check_text, d_check_text := PySem.W.fnOf "check_text" "check_text" (defArgs s_check_text) (defBody s_check_text) (defScope s_check_text) .none kV_check_text dc_check_text pm_check_text an_check_text cd_check_text ct_check_text, a_reader_fault := f_reader_fault, d_reader_fault := PySem.W.fnOf "reader_fault" "reader_fault" (defArgs s_reader_fault) (defBody s_reader_fault) (defScope s_reader_fault) .none kV_reader_fault dc_reader_fault pm_reader_fault an_reader_fault cd_reader_fault ct_reader_fault, a_check_reader := f_check_reader, d_check_reader := PySem.W.fnOf "check_reader" "check_reader" (defArgs s_check_reader) (defBody s_check_reader) (defScope s_check_reader) .none kV_check_reader dc_check_reader pm_check_reader an_check_reader cd_check_reader ct_check_reader, a_is_whole := f_is_whole, d_is_whole := PySem.W.fnOf "is_whole" "is_whole" (defArgs s_is_whole) (defBody s_is_whole) (defScope s_is_whole) .none kV_is_whole dc_is_whole pm_is_whole an_is_whole cd_is_whole ct_is_whole, a_behind_figure := f_behind_figure, d_behind_figure := PySem.W.fnOf "behind_figure" "behind_figure" (defArgs s_behind_figure) (defBody s_behind_figure) (defScope s_behind_figure) .none kV_behind_figure dc_behind_figure pm_behind_figure an_behind_figure cd_behind_figure ct_behind_figure, a_behind_point := f_behind_point, d_behind_point := PySem.W.fnOf "behind_point" "behind_point" (defArgs s_behind_point) (defBody s_behind_point) (defScope s_behind_point) .none kV_behind_point dc_behind_point pm_behind_point an_behind_point cd_behind_point ct_behind_point, a_behind_under := f_behind_under, d_behind_under := PySem.W.fnOf "behind_under" "behind_under" (defArgs s_behind_under) (defBody s_behind_under) (defScope s_behind_under) .none kV_behind_under dc_behind_under pm_behind_under an_behind_under cd_behind_under ct_behind_under, a_behind := f_behind, d_behind := PySem.W.fnOf "behind" "behind" (defArgs s_behind) (defBody s_behind) (defScope s_behind) .none kV_behind dc_behind pm_behind an_behind cd_behind ct_behind, a_is_read := f_is_read, d_is_read := PySem.W.fnOf "is_read" "is_read" (defArgs s_is_read) (defBody s_is_read) (defScope s_is_read) .none kV_is_read dc_is_read pm_is_read an_is_read cd_is_read ct_is_read, a_lowest := f_lowest, d_lowest := PySem.W.fnOf "lowest" "lowest" (defArgs s_lowest) (defBody s_lowest) (defScope s_lowest) .none kV_lowest dc_lowest pm_lowest an_lowest cd_lowest ct_lowest, a_number_of := f_number_of, d_number_of := PySem.W.fnOf "number_of" "number_of" (defArgs s_number_of) (defBody s_number_of) (defScope s_number_of) .none kV_number_of dc_number_of pm_number_of an_number_of cd_number_of ct_number_of, a_read := f_read, d_read := PySem.W.fnOf "read" "read" (defArgs s_read) (defBody s_read) (defScope s_read) .none kV_read dc_read pm_read an_read cd_read ct_read, a_law_begin := f_law_begin, d_law_begin := PySem.W.fnOf "_law_begin" "_law_begin" (defArgs s_law_begin) (defBody s_law_begin) (defScope s_law_begin) .none kV_law_begin dc_law_begin pm_law_begin an_law_begin cd_law_begin ct_law_begin, a_law_draw := f_law_draw, d_law_draw := PySem.W.fnOf "_law_draw" "_law_draw" (defArgs s_law_draw) (defBody s_law_draw) (defScope s_law_draw) .none kV_law_draw dc_law_draw pm_law_draw an_law_draw cd_law_draw ct_law_draw, a_law_reader := f_law_reader, d_law_reader := PySem.W.fnOf "_law_reader" "_law_reader" (defArgs s_law_reader) (defBody s_law_reader) (defScope s_law_reader) .none kV_law_reader dc_law_reader pm_law_reader an_law_reader cd_law_reader ct_law_reader, a_law_text := f_law_text, d_law_text := PySem.W.fnOf "_law_text" "_law_text" (defArgs s_law_text) (defBody s_law_text) (defScope s_law_text) .none kV_law_text dc_law_text pm_law_text an_law_text cd_law_text ct_law_text, a_law_middle := f_law_middle, d_law_middle := PySem.W.fnOf "_law_middle" "_law_middle" (defArgs s_law_middle) (defBody s_law_middle) (defScope s_law_middle) .none kV_law_middle dc_law_middle pm_law_middle an_law_middle cd_law_middle ct_law_middle, a_law_unders_good := f_law_unders_good, d_law_unders_good := PySem.W.fnOf "_law_unders_good" "_law_unders_good" (defArgs s_law_unders_good) (defBody s_law_unders_good) (defScope s_law_unders_good) .none kV_law_unders_good dc_law_unders_good pm_law_unders_good an_law_unders_good cd_law_unders_good ct_law_unders_good, a_law_points_good := f_law_points_good, d_law_points_good := PySem.W.fnOf "_law_points_good" "_law_points_good" (defArgs s_law_points_good) (defBody s_law_points_good) (defScope s_law_points_good) .none kV_law_points_good dc_law_points_good pm_law_points_good an_law_points_good cd_law_points_good ct_law_points_good, a_law_is_read := f_law_is_read, d_law_is_read := PySem.W.fnOf "_law_is_read" "_law_is_read" (defArgs s_law_is_read) (defBody s_law_is_read) (defScope s_law_is_read) .none kV_law_is_read dc_law_is_read pm_law_is_read an_law_is_read cd_law_is_read ct_law_is_read, a_law_lowest := f_law_lowest, d_law_lowest := PySem.W.fnOf "_law_lowest" "_law_lowest" (defArgs s_law_lowest) (defBody s_law_lowest) (defScope s_law_lowest) .none kV_law_lowest dc_law_lowest pm_law_lowest an_law_lowest cd_law_lowest ct_law_lowest, a_law_read := f_law_read, d_law_read := PySem.W.fnOf "_law_read" "_law_read" (defArgs s_law_read) (defBody s_law_read) (defScope s_law_read) .none kV_law_read dc_law_read pm_law_read an_law_read cd_law_read ct_law_read, a_law_like := f_law_like, d_law_like := PySem.W.fnOf "_law_like" "_law_like" (defArgs s_law_like) (defBody s_law_like) (defScope s_law_like) .none kV_law_like dc_law_like pm_law_like an_law_like cd_law_like ct_law_like, a_law := fa, d_law := PySem.W.fnOf "law" "law" (defArgs s_law) (defBody s_law) (defScope s_law) .none kV_law dc_law pm_law an_law cd_law ct_law }
  have T : TX K w mg A B := {
    F_BadReader_init := fun_mk (st := s_BadReader_init) l_BadReader_init c_BadReader_init k_BadReader_init,
    b_BadReader_init := (fun_mk (st := s_BadReader_init) l_BadReader_init c_BadReader_init k_BadReader_init).binds (ps := ["self", "index"]) fun _ _ _ _ _ _ us hl => match us, hl with | [_, _], _ => rfl,
    F_is_text := fun_mk (st := s_is_text) l_is_text c_is_text k_is_text,
    b_is_text := (fun_mk (st := s_is_text) l_is_text c_is_text k_is_text).binds (ps := ["value"]) fun _ _ _ _ _ _ us hl => match us, hl with | [_], _ => rfl,
    m_is_text := PySem.W.mg_of X G n_is_text,
    k_is_text := k_is_text,
    F_check_text := fun_mk (st := s_check_text) l_check_text c_check_text k_check_text,
    b_check_text := (fun_mk (st := s_check_text) l_check_text c_check_text k_check_text).binds (ps := ["text"]) fun _ _ _ _ _ _ us hl => match us, hl with | [_], _ => rfl,
    m_check_text := PySem.W.mg_of X G n_check_text,
    k_check_text := k_check_text,
    F_reader_fault := fun_mk (st := s_reader_fault) l_reader_fault c_reader_fault k_reader_fault,
    b_reader_fault := (fun_mk (st := s_reader_fault) l_reader_fault c_reader_fault k_reader_fault).binds (ps := ["value"]) fun _ _ _ _ _ _ us hl => match us, hl with | [_], _ => rfl,
    m_reader_fault := PySem.W.mg_of X G n_reader_fault,
    k_reader_fault := k_reader_fault,
    F_check_reader := fun_mk (st := s_check_reader) l_check_reader c_check_reader k_check_reader,
    b_check_reader := (fun_mk (st := s_check_reader) l_check_reader c_check_reader k_check_reader).binds (ps := ["reader"]) fun _ _ _ _ _ _ us hl => match us, hl with | [_], _ => rfl,
    m_check_reader := PySem.W.mg_of X G n_check_reader,
    k_check_reader := k_check_reader,
    F_is_whole := fun_mk (st := s_is_whole) l_is_whole c_is_whole k_is_whole,
    b_is_whole := (fun_mk (st := s_is_whole) l_is_whole c_is_whole k_is_whole).binds (ps := ["reader", "state"]) fun _ _ _ _ _ _ us hl => match us, hl with | [_, _], _ => rfl,
    m_is_whole := PySem.W.mg_of X G n_is_whole,
    k_is_whole := k_is_whole,
    F_behind_figure := fun_mk (st := s_behind_figure) l_behind_figure c_behind_figure k_behind_figure,
    b_behind_figure := (fun_mk (st := s_behind_figure) l_behind_figure c_behind_figure k_behind_figure).binds (ps := ["reader", "state", "sign"]) fun _ _ _ _ _ _ us hl => match us, hl with | [_, _, _], _ => rfl,
    m_behind_figure := PySem.W.mg_of X G n_behind_figure,
    k_behind_figure := k_behind_figure,
    F_behind_point := fun_mk (st := s_behind_point) l_behind_point c_behind_point k_behind_point,
    b_behind_point := (fun_mk (st := s_behind_point) l_behind_point c_behind_point k_behind_point).binds (ps := ["reader", "state"]) fun _ _ _ _ _ _ us hl => match us, hl with | [_, _], _ => rfl,
    m_behind_point := PySem.W.mg_of X G n_behind_point,
    k_behind_point := k_behind_point,
    F_behind_under := fun_mk (st := s_behind_under) l_behind_under c_behind_under k_behind_under,
    b_behind_under := (fun_mk (st := s_behind_under) l_behind_under c_behind_under k_behind_under).binds (ps := ["reader", "state"]) fun _ _ _ _ _ _ us hl => match us, hl with | [_, _], _ => rfl,
    m_behind_under := PySem.W.mg_of X G n_behind_under,
    k_behind_under := k_behind_under,
    F_behind := fun_mk (st := s_behind) l_behind c_behind k_behind,
    b_behind := (fun_mk (st := s_behind) l_behind c_behind k_behind).binds (ps := ["reader", "state", "sign"]) fun _ _ _ _ _ _ us hl => match us, hl with | [_, _, _], _ => rfl,
    m_behind := PySem.W.mg_of X G n_behind,
    k_behind := k_behind,
    F_is_read := fun_mk (st := s_is_read) l_is_read c_is_read k_is_read,
    b_is_read := (fun_mk (st := s_is_read) l_is_read c_is_read k_is_read).binds (ps := ["reader", "text"]) fun _ _ _ _ _ _ us hl => match us, hl with | [_, _], _ => rfl,
    m_is_read := PySem.W.mg_of X G n_is_read,
    k_is_read := k_is_read,
    F_lowest := fun_mk (st := s_lowest) l_lowest c_lowest k_lowest,
    b_lowest := (fun_mk (st := s_lowest) l_lowest c_lowest k_lowest).binds (ps := ["p", "q"]) fun _ _ _ _ _ _ us hl => match us, hl with | [_, _], _ => rfl,
    m_lowest := PySem.W.mg_of X G n_lowest,
    k_lowest := k_lowest,
    F_number_of := fun_mk (st := s_number_of) l_number_of c_number_of k_number_of,
    b_number_of := (fun_mk (st := s_number_of) l_number_of c_number_of k_number_of).binds (ps := ["reader", "text"]) fun _ _ _ _ _ _ us hl => match us, hl with | [_, _], _ => rfl,
    m_number_of := PySem.W.mg_of X G n_number_of,
    k_number_of := k_number_of,
    F_read := fun_mk (st := s_read) l_read c_read k_read,
    b_read := (fun_mk (st := s_read) l_read c_read k_read).binds (ps := ["reader", "text"]) fun _ _ _ _ _ _ us hl => match us, hl with | [_, _], _ => rfl,
    m_read := PySem.W.mg_of X G n_read,
    k_read := k_read,
    F_law_begin := fun_mk (st := s_law_begin) l_law_begin c_law_begin k_law_begin,
    b_law_begin := (fun_mk (st := s_law_begin) l_law_begin c_law_begin k_law_begin).binds (ps := ["_law_script"]) fun _ _ _ _ _ _ us hl => match us, hl with | [_], _ => rfl,
    m_law_begin := PySem.W.mg_of X G n_law_begin,
    k_law_begin := k_law_begin,
    F_law_draw := fun_mk (st := s_law_draw) l_law_draw c_law_draw k_law_draw,
    b_law_draw := (fun_mk (st := s_law_draw) l_law_draw c_law_draw k_law_draw).binds (ps := ["_law_draws", "_law_many"]) fun _ _ _ _ _ _ us hl => match us, hl with | [_, _], _ => rfl,
    m_law_draw := PySem.W.mg_of X G n_law_draw,
    k_law_draw := k_law_draw,
    F_law_reader := fun_mk (st := s_law_reader) l_law_reader c_law_reader k_law_reader,
    b_law_reader := (fun_mk (st := s_law_reader) l_law_reader c_law_reader k_law_reader).binds (ps := ["_law_draws"]) fun _ _ _ _ _ _ us hl => match us, hl with | [_], _ => rfl,
    m_law_reader := PySem.W.mg_of X G n_law_reader,
    k_law_reader := k_law_reader,
    F_law_text := fun_mk (st := s_law_text) l_law_text c_law_text k_law_text,
    b_law_text := (fun_mk (st := s_law_text) l_law_text c_law_text k_law_text).binds (ps := ["_law_draws", "_law_most"]) fun _ _ _ _ _ _ us hl => match us, hl with | [_, _], _ => rfl,
    m_law_text := PySem.W.mg_of X G n_law_text,
    k_law_text := k_law_text,
    F_law_middle := fun_mk (st := s_law_middle) l_law_middle c_law_middle k_law_middle,
    b_law_middle := (fun_mk (st := s_law_middle) l_law_middle c_law_middle k_law_middle).binds (ps := ["_law_reader_here", "_law_text_here"]) fun _ _ _ _ _ _ us hl => match us, hl with | [_, _], _ => rfl,
    m_law_middle := PySem.W.mg_of X G n_law_middle,
    k_law_middle := k_law_middle,
    F_law_unders_good := fun_mk (st := s_law_unders_good) l_law_unders_good c_law_unders_good k_law_unders_good,
    b_law_unders_good := (fun_mk (st := s_law_unders_good) l_law_unders_good c_law_unders_good k_law_unders_good).binds (ps := ["_law_reader_here", "_law_body"]) fun _ _ _ _ _ _ us hl => match us, hl with | [_, _], _ => rfl,
    m_law_unders_good := PySem.W.mg_of X G n_law_unders_good,
    k_law_unders_good := k_law_unders_good,
    F_law_points_good := fun_mk (st := s_law_points_good) l_law_points_good c_law_points_good k_law_points_good,
    b_law_points_good := (fun_mk (st := s_law_points_good) l_law_points_good c_law_points_good k_law_points_good).binds (ps := ["_law_reader_here", "_law_rows"]) fun _ _ _ _ _ _ us hl => match us, hl with | [_, _], _ => rfl,
    m_law_points_good := PySem.W.mg_of X G n_law_points_good,
    k_law_points_good := k_law_points_good,
    F_law_is_read := fun_mk (st := s_law_is_read) l_law_is_read c_law_is_read k_law_is_read,
    b_law_is_read := (fun_mk (st := s_law_is_read) l_law_is_read c_law_is_read k_law_is_read).binds (ps := ["_law_reader_here", "_law_text_here"]) fun _ _ _ _ _ _ us hl => match us, hl with | [_, _], _ => rfl,
    m_law_is_read := PySem.W.mg_of X G n_law_is_read,
    k_law_is_read := k_law_is_read,
    F_law_lowest := fun_mk (st := s_law_lowest) l_law_lowest c_law_lowest k_law_lowest,
    b_law_lowest := (fun_mk (st := s_law_lowest) l_law_lowest c_law_lowest k_law_lowest).binds (ps := ["_law_p", "_law_q"]) fun _ _ _ _ _ _ us hl => match us, hl with | [_, _], _ => rfl,
    m_law_lowest := PySem.W.mg_of X G n_law_lowest,
    k_law_lowest := k_law_lowest,
    F_law_read := fun_mk (st := s_law_read) l_law_read c_law_read k_law_read,
    b_law_read := (fun_mk (st := s_law_read) l_law_read c_law_read k_law_read).binds (ps := ["_law_reader_here", "_law_text_here"]) fun _ _ _ _ _ _ us hl => match us, hl with | [_, _], _ => rfl,
    m_law_read := PySem.W.mg_of X G n_law_read,
    k_law_read := k_law_read,
    F_law_like := fun_mk (st := s_law_like) l_law_like c_law_like k_law_like,
    b_law_like := (fun_mk (st := s_law_like) l_law_like c_law_like k_law_like).binds (ps := ["_law_actual", "_law_due"]) fun _ _ _ _ _ _ us hl => match us, hl with | [_, _], _ => rfl,
    m_law_like := PySem.W.mg_of X G n_law_like,
    k_law_like := k_law_like,
    F_law := fun_mk (st := s_law) l_law c_law k_law,
    b_law := (fun_mk (st := s_law) l_law c_law k_law).binds (ps := ["_law_script"]) fun _ _ _ _ _ _ us hl => match us, hl with | [_], _ => rfl,
    m_law := PySem.W.mg_of X G n_law,
    k_law := k_law,
    e_cBT := ⟨PySem.W.mg_of X G n_cBT, qe_cBT, ke_cBT, be_cBT, te_cBT⟩,
    f_cBR := ⟨PySem.W.mg_of X G n_cBR, ⟨⟨nm_cBR, q_cBR, N_cBR, bs_cBR, _, sn_cBR, sub_cBR, ab_cBR, col_cBR, dd_cBR, m0_cBR, m1_cBR, m2_cBR, m3_cBR, m5_cBR, xl_cBR, by rfl⟩, se_cBR, be_cBR, te_cBR, ke_cBR⟩, n_BadReader_init, i_BadReader_init, ne_cBR⟩,
    z_isinstance := PySem.W.mg_none_of X G z_isinstance,
    z_len := PySem.W.mg_none_of X G z_len,
    z_enumerate := PySem.W.mg_none_of X G z_enumerate,
    z_all := PySem.W.mg_none_of X G z_all,
    z_any := PySem.W.mg_none_of X G z_any,
    z_str := PySem.W.mg_none_of X G z_str,
    z_int := PySem.W.mg_none_of X G z_int,
    z_tuple := PySem.W.mg_none_of X G z_tuple,
    z_bool := PySem.W.mg_none_of X G z_bool,
    z_range := PySem.W.mg_none_of X G z_range,
    z_min := PySem.W.mg_none_of X G z_min,
    z_abs := PySem.W.mg_none_of X G z_abs,
    z_list := PySem.W.mg_none_of X G z_list,
    v_SIGNS := ⟨_, PySem.W.mg_of X G v_SIGNS, iv_str (s := [32, 43, 45, 46, 48, 49, 56, 95, 116]) (by first | rfl | decide +kernel)⟩,
    v_FIGURES := ⟨_, PySem.W.mg_of X G v_FIGURES, iv_str (s := [48, 49, 56, 116]) (by first | rfl | decide +kernel)⟩,
    v_OPTIONS := ⟨_, PySem.W.mg_of X G v_OPTIONS, iv_kt KT_OPTIONS⟩,
    v_PARTS := ⟨_, PySem.W.mg_of X G v_PARTS, iv_kt KT_PARTS⟩,
    v_FIRST := ⟨_, PySem.W.mg_of X G v_FIRST, iv_kt KT_FIRST⟩,
    kdw := kdw_of (PySem.W.mg_of X G n_WORTHS) wl_WORTHS kl_WORTHS wv_0 wv_1 wv_8 wv_t }
  exact ⟨B.d_law, fun s v => .of_eq rfl, fun base _ _ => ok_law T⟩
theorem walk {l : PySem.W.OpenLaw} {q : Program} {loose : List Str} {XP : (Str → Option Value) → Heap → Prop} {YP : World → Heap → Prop} {d : DefRec} {K : Params → PySem.W.Frag} (hn : l.most = some 63) (hdf : d.params.defaults = [])
    (hY : ∀ (w : World) (h : Heap), YP w h → (K w.params).In h)
    (F : ∀ (w : World) (mg : Str → Option Value) (fa : Addr) (h : Heap), (K w.params).In h → h.Ns mainGlobals mg → mg d.name = some (.ref fa) →
      ∃ fd : FuncData, (∀ (s : Shared) (u : Value), BindsTo s fd ⟨[u], []⟩ [("_law_script", u)]) ∧ ∀ base : Heap, (K w.params).In base → base.Ns mainGlobals mg → FnOk l.prog w (K w.params) mg base (L2.CX l.prog w) 9 fa fd ["_law_script"] (spLawL (K w.params))) :
    PySem.W.WalkO q loose XP YP l.row.toRowW d [] (fun f vs => PySem.call f vs) :=
  L2.walk_of (n := 63) (k := 9) (x := "_law_script") (CX := fun w => L2.CX l.prog w) (sp := fun w => spLawL (K w.params)) hn (by decide) hdf ⟨rfl, by decide, by decide⟩ hY F (fun _ _ a ns hl _ hS => ⟨a, ns, rfl, hS, by omega, fun _ => rfl⟩) fun _ _ _ _ _ h => by
    obtain ⟨_, _, _, _, _, _, _, _, _, _, _, _, z⟩ := h
    exact z.elim
end KK

set_option Elab.async false
open PySem PySem.W PyProof.Rows
set_option maxRecDepth 100000 in
set_option maxHeartbeats 0 in
theorem PySem.Challenge.cw_figureread_k02_whole_numbers_read_holds : PySem.Challenge.rw_figureread_k02_whole_numbers_read.Holds := by
  w_on; o_law; k_head; (case hw => w_witness2)
  k_fill
  refine KK.walk (l := PySem.Challenge.rw_figureread_k02_whole_numbers_read) rfl rfl (fun w h Y => PySem.W.kIn_of Y) ?F
  case F =>
    intro w mg fa h KX G hmg
    refine' KK.all_mk KX G hmg ?n_cBR ?n_cBT ?n_BadReader_init ?i_BadReader_init ?l_BadReader_init ?c_BadReader_init ?k_BadReader_init ?n_is_text ?l_is_text ?c_is_text ?k_is_text ?n_check_text ?l_check_text ?c_check_text ?k_check_text ?n_reader_fault ?l_reader_fault ?c_reader_fault ?k_reader_fault ?n_check_reader ?l_check_reader ?c_check_reader ?k_check_reader ?n_is_whole ?l_is_whole ?c_is_whole ?k_is_whole ?n_behind_figure ?l_behind_figure ?c_behind_figure ?k_behind_figure ?n_behind_point ?l_behind_point ?c_behind_point ?k_behind_point ?n_behind_under ?l_behind_under ?c_behind_under ?k_behind_under ?n_behind ?l_behind ?c_behind ?k_behind ?n_is_read ?l_is_read ?c_is_read ?k_is_read ?n_lowest ?l_lowest ?c_lowest ?k_lowest ?n_number_of ?l_number_of ?c_number_of ?k_number_of ?n_read ?l_read ?c_read ?k_read ?n_law_begin ?l_law_begin ?c_law_begin ?k_law_begin ?n_law_draw ?l_law_draw ?c_law_draw ?k_law_draw ?n_law_reader ?l_law_reader ?c_law_reader ?k_law_reader ?n_law_text ?l_law_text ?c_law_text ?k_law_text ?n_law_middle ?l_law_middle ?c_law_middle ?k_law_middle ?n_law_unders_good ?l_law_unders_good ?c_law_unders_good ?k_law_unders_good ?n_law_points_good ?l_law_points_good ?c_law_points_good ?k_law_points_good ?n_law_is_read ?l_law_is_read ?c_law_is_read ?k_law_is_read ?n_law_lowest ?l_law_lowest ?c_law_lowest ?k_law_lowest ?n_law_read ?l_law_read ?c_law_read ?k_law_read ?n_law_like ?l_law_like ?c_law_like ?k_law_like ?n_law ?l_law ?c_law ?k_law ?ke_cBT ?be_cBT ?te_cBT ?ke_cBR ?be_cBR ?te_cBR ?qe_cBT ?xl_cBR ?se_cBR ?ne_cBR ?z_isinstance ?z_len ?z_enumerate ?z_all ?z_any ?z_str ?z_int ?z_tuple ?z_bool ?z_range ?z_min ?z_abs ?z_list ?v_SIGNS ?v_FIGURES ?v_OPTIONS ?w_OPTIONS ?w_OPTIONS0 ?w_OPTIONS1 ?w_OPTIONS2 ?w_OPTIONS3 ?w_OPTIONS4 ?w_OPTIONS5 ?v_PARTS ?w_PARTS ?v_FIRST ?w_FIRST ?n_WORTHS ?wl_WORTHS ?kl_WORTHS ?wv_0 ?wv_1 ?wv_8 ?wv_t
    (case n_cBR => k_is)
    (case n_cBT => k_is)
    (case n_BadReader_init => k_is)
    (case i_BadReader_init => k_is)
    (case l_BadReader_init => k_is)
    (case c_BadReader_init => k_is)
    (case k_BadReader_init => k_is)
    (case n_is_text => k_is)
    (case l_is_text => k_is)
    (case c_is_text => k_is)
    (case k_is_text => k_is)
    (case n_check_text => k_is)
    (case l_check_text => k_is)
    (case c_check_text => k_is)
    (case k_check_text => k_is)
    (case n_reader_fault => k_is)
    (case l_reader_fault => k_is)
    (case c_reader_fault => k_is)
    (case k_reader_fault => k_is)
    (case n_check_reader => k_is)
    (case l_check_reader => k_is)
    (case c_check_reader => k_is)
    (case k_check_reader => k_is)
    (case n_is_whole => k_is)
    (case l_is_whole => k_is)
    (case c_is_whole => k_is)
    (case k_is_whole => k_is)
    (case n_behind_figure => k_is)
    (case l_behind_figure => k_is)
    (case c_behind_figure => k_is)
    (case k_behind_figure => k_is)
    (case n_behind_point => k_is)
    (case l_behind_point => k_is)
    (case c_behind_point => k_is)
    (case k_behind_point => k_is)
    (case n_behind_under => k_is)
    (case l_behind_under => k_is)
    (case c_behind_under => k_is)
    (case k_behind_under => k_is)
    (case n_behind => k_is)
    (case l_behind => k_is)
    (case c_behind => k_is)
    (case k_behind => k_is)
    (case n_is_read => k_is)
    (case l_is_read => k_is)
    (case c_is_read => k_is)
    (case k_is_read => k_is)
    (case n_lowest => k_is)
    (case l_lowest => k_is)
    (case c_lowest => k_is)
    (case k_lowest => k_is)
    (case n_number_of => k_is)
    (case l_number_of => k_is)
    (case c_number_of => k_is)
    (case k_number_of => k_is)
    (case n_read => k_is)
    (case l_read => k_is)
    (case c_read => k_is)
    (case k_read => k_is)
    (case n_law_begin => k_is)
    (case l_law_begin => k_is)
    (case c_law_begin => k_is)
    (case k_law_begin => k_is)
    (case n_law_draw => k_is)
    (case l_law_draw => k_is)
    (case c_law_draw => k_is)
    (case k_law_draw => k_is)
    (case n_law_reader => k_is)
    (case l_law_reader => k_is)
    (case c_law_reader => k_is)
    (case k_law_reader => k_is)
    (case n_law_text => k_is)
    (case l_law_text => k_is)
    (case c_law_text => k_is)
    (case k_law_text => k_is)
    (case n_law_middle => k_is)
    (case l_law_middle => k_is)
    (case c_law_middle => k_is)
    (case k_law_middle => k_is)
    (case n_law_unders_good => k_is)
    (case l_law_unders_good => k_is)
    (case c_law_unders_good => k_is)
    (case k_law_unders_good => k_is)
    (case n_law_points_good => k_is)
    (case l_law_points_good => k_is)
    (case c_law_points_good => k_is)
    (case k_law_points_good => k_is)
    (case n_law_is_read => k_is)
    (case l_law_is_read => k_is)
    (case c_law_is_read => k_is)
    (case k_law_is_read => k_is)
    (case n_law_lowest => k_is)
    (case l_law_lowest => k_is)
    (case c_law_lowest => k_is)
    (case k_law_lowest => k_is)
    (case n_law_read => k_is)
    (case l_law_read => k_is)
    (case c_law_read => k_is)
    (case k_law_read => k_is)
    (case n_law_like => k_is)
    (case l_law_like => k_is)
    (case c_law_like => k_is)
    (case k_law_like => k_is)
    (case n_law => k_is)
    (case l_law => k_is)
    (case c_law => k_is)
    (case k_law => k_is)
    (case ke_cBT => k_is)
    (case be_cBT => k_is)
    (case te_cBT => k_is)
    (case ke_cBR => k_is)
    (case be_cBR => k_is)
    (case te_cBR => k_is)
    (case qe_cBT => k_exc)
    (case xl_cBR => k_is)
    (case se_cBR => k_is)
    (case ne_cBR => k_is)
    (case z_isinstance => k_is)
    (case z_len => k_is)
    (case z_enumerate => k_is)
    (case z_all => k_is)
    (case z_any => k_is)
    (case z_str => k_is)
    (case z_int => k_is)
    (case z_tuple => k_is)
    (case z_bool => k_is)
    (case z_range => k_is)
    (case z_min => k_is)
    (case z_abs => k_is)
    (case z_list => k_is)
    (case v_SIGNS => k_is)
    (case v_FIGURES => k_is)
    (case v_OPTIONS => k_is)
    (case w_OPTIONS => k_is)
    (case w_OPTIONS0 => k_is)
    (case w_OPTIONS1 => k_is)
    (case w_OPTIONS2 => k_is)
    (case w_OPTIONS3 => k_is)
    (case w_OPTIONS4 => k_is)
    (case w_OPTIONS5 => k_is)
    (case v_PARTS => k_is)
    (case w_PARTS => k_is)
    (case v_FIRST => k_is)
    (case w_FIRST => k_is)
    (case n_WORTHS => k_is)
    (case wl_WORTHS => k_is)
    (case kl_WORTHS => k_keys)
    (case wv_0 => k_is)
    (case wv_1 => k_is)
    (case wv_8 => k_is)
    (case wv_t => k_is)
#print axioms PySem.Challenge.cw_figureread_k02_whole_numbers_read_holds

