import PyProof.Rows.All
import Wide.All
import OpenK.AllK
import Wide.FinOn
import HandS.ForMost
import HandS.ForExc
import HandS.CallSlots
import HandS.Nested
import HandS.Flow
import KE.KDictDisplayH
import HandS.TupAny
import HandS.IsInst
import HandS.TryMany
import HandS.Small
import HandS.ExcInit
import HandS.ExcField
import HandS.Wide
import HandS.Deep
import HandS.Zip
import PyProof.Rows.RegReprOcc
import HandS.Property
import HandS.OwnEq
import HandS.Replace
import HandS.ReplaceLit
import HandS.ReplaceList
import PyProof.EnumMake
import HandS.Zip0
import HandS.Dict
import HandS.StrMore
import HandS.More
import HandS.ReplaceDef
import KE.KDictWalk
import KE.KDictCopyH
import KE.KDictSum
import HandS.SortRule
import HandS.Lambda
import HandS.EndTab
import HandS.HeadWalk
import PySem.Challenge.RW_figureread_k01_readers_refused
set_option Elab.async false
set_option linter.all false
set_option maxRecDepth 100000
namespace DL
open PySem PySem.Spec PyProof.Rows L2

inductive D where
  | non | bl (b : Bool) | int (i : Int) | str (x : List Nat) | tup (xs : List D) | ref (a : Addr)

inductive MO where
  | lst (xs : List D)
  | ins (C dx : Addr) (ns : List Str) (ds : List D)
  | dcK (kvs : List (Key × D))
  | dcN (kvs : List (D × D))
  | xd (f : Str) (d : D)
  | raw (o : HO)

abbrev Env := List (Option D)
abbrev DM := Addr → Option MO
abbrev DQ := D → DM → Prop
abbrev DW := Addr → List D → Env → DM → Prop
abbrev DX := Addr → List D → DM → Prop
abbrev DE := DW → Env → DM → DQ → Prop
abbrev DT := DW → Env → DM → (Bool → DM → Prop) → Prop
abbrev DA := DW → Env → DM → (List D → DM → Prop) → Prop
structure DEnds where
  nx : Env → DM → Prop
  rt : DQ
  bk : Env → DM → Prop
  ct : Env → DM → Prop
abbrev DS := DW → DEnds → Env → DM → Prop
abbrev DSp := List D → DM → DQ → DX → Prop
def mupd (M : DM) (a : Addr) (o : MO) : DM := fun b => if b = a then some o else M b
theorem mupd_same {M : DM} {a : Addr} {o : MO} : mupd M a o a = some o := if_pos rfl
theorem mupd_ne {M : DM} {a b : Addr} {o : MO} (h : b ≠ a) : mupd M a o b = M b := if_neg h
theorem mupd_upd {M : DM} {a : Addr} {o u : MO} : mupd (mupd M a o) a u = mupd M a u := by
  funext b; unfold mupd; split <;> rfl
def MSub (M M' : DM) : Prop := ∀ a o, M a = some o → M' a = some o
theorem MSub.refl (M : DM) : MSub M M := fun _ _ h => h
theorem MSub.trans {M1 M2 M3 : DM} (h : MSub M1 M2) (g : MSub M2 M3) : MSub M1 M3 := fun a o e => g a o (h a o e)
theorem MSub.new {M : DM} {a : Addr} {o : MO} (h : M a = none) : MSub M (mupd M a o) := fun b u e => by
  by_cases hb : b = a
  · subst hb; rw [h] at e; cases e
  · rw [mupd_ne hb]; exact e

def sV (x : List Nat) : Str := ⟨x.toArray⟩

structure ZP where
  K : PySem.W.Frag
  T : List NdefX.NTab
  P : Program
  w : World
mutual
def nk : D → NestedKey
  | .non => .none
  | .bl b => .num (if b then 1 else 0)
  | .int i => .num i
  | .str x => .text (sV x)
  | .tup ds => .tup (nks ds)
  | .ref _ => .none
def nks : List D → List NestedKey
  | [] => []
  | d :: ds => nk d :: nks ds
end
mutual
def kdB : D → Bool
  | .ref _ => false
  | .tup ds => kdsB ds
  | _ => true
def kdsB : List D → Bool
  | [] => true
  | d :: ds => kdB d && kdsB ds
end
def DNo (P : Program) (w : World) (a : Addr) (xs : List (NestedKey × Addr × V)) : HO := .ext fun h => xs.length ≤ sizeLine ∧ (a == sysModules) = false ∧
  ∃ ys : List (NestedKey × Addr × Value), Paired (fun (p : NestedKey × Addr × V) (q : NestedKey × Addr × Value) => p.1 = q.1 ∧ p.2.1 = q.2.1 ∧ RelV p.2.2 q.2.2) xs ys ∧
    ∃ o es ep, h.get? a = some o ∧ o.ExactDict ∧ o.data = .dict es ep ∧ es.toList = ys.map (entryOfKey (nestedKind P w)) ∧ (ys.map (·.1)).Nodup

section
variable (K : PySem.W.Frag) (H : Hp)
mutual
def RD : D → V → Prop
  | .non, v => v = .non
  | .bl b, v => v = .bl b
  | .int i, v => v = .int i
  | .str x, v => v = .str (sV x)
  | .ref a, v => v = .ref a
  | .tup ds, v => ∃ a vs, v = .ref a ∧ SqT K H a vs ∧ RDs ds vs
def RDs : List D → List V → Prop
  | [], vs => vs = []
  | d :: ds, vs => ∃ v r, vs = v :: r ∧ RD d v ∧ RDs ds r
end
def RSt (σ : L2.St) (ρ : Env) : Prop := σ.length = ρ.length ∧ ∀ (i : Nat) (d : D), ρ[i]? = some (some d) → ∃ v, σ[i]? = some (some v) ∧ RD K H d v
def RX (d : Option Addr) (fs : List D) : Prop := (d = none ∧ fs = []) ∨ ∃ dx, d = some dx ∧ fs = [D.ref dx]
end
def RO (Z : ZP) (H : Hp) (a : Addr) : Option HO → MO → Prop
  | o, .lst xs => ∃ vs, o = some (.lst vs) ∧ RDs Z.K H xs vs
  | o, .ins C dx ns ds => ∃ vs, o = some (.ins C dx (ns.zip vs)) ∧ RDs Z.K H ds vs ∧ ns.length = ds.length ∧ ns.Nodup
  | o, .dcK kvs => ∃ vs, o = some (.dK ((kvs.map (·.1)).zip vs)) ∧ RDs Z.K H (kvs.map (·.2)) vs
  | o, .dcN kvs => ∃ xs : List (NestedKey × Addr × V), o = some (DNo Z.P Z.w a xs) ∧ xs.map (·.1) = kvs.map (fun p => nk p.1) ∧ RDs Z.K H (kvs.map (·.1)) (xs.map fun x => V.ref x.2.1) ∧ RDs Z.K H (kvs.map (·.2)) (xs.map fun x => x.2.2) ∧ ∀ p ∈ kvs, kdB p.1 = true ∧ (nk p.1).depth ≤ 8
  | o, .xd f d => ∃ v, o = some (.xd [(f, v)]) ∧ RD Z.K H d v
  | o, .raw u => o = some u ∧ ∀ ps, u ≠ .tbl ps
def RM (Z : ZP) (H : Hp) (M : DM) : Prop := ∀ a o, M a = some o → RO Z H a (H a) o
def KeepT (K : PySem.W.Frag) (H H' : Hp) : Prop := ∀ a xs, SqT K H a xs → SqT K H' a xs
theorem KeepT.refl {K : PySem.W.Frag} {H : Hp} : KeepT K H H := fun _ _ h => h
theorem KeepT.trans {K : PySem.W.Frag} {H1 H2 H3 : Hp} (h : KeepT K H1 H2) (g : KeepT K H2 H3) : KeepT K H1 H3 := fun a xs e => g a xs (h a xs e)
theorem sqt_ne {K : PySem.W.Frag} {H : Hp} {a : Addr} {o : HO} (h : H a = none ∨ H a = some o) (ho : ∀ xs, o ≠ .tup xs) (hf : ∀ b u, o ≠ .frz b u) (u : HO) : ∀ b ys, SqT K H b ys → SqT K (upd H a u) b ys := fun b ys e => by
  have key : ∀ w, H b = some w → (w = .tup ys ∨ ∃ o' , w = .frz o' (.tup ys)) → b ≠ a := fun w e1 e2 z => by
    subst z
    rcases h with h | h
    · rw [h] at e1; cases e1
    · rw [h] at e1; cases e1
      rcases e2 with e2 | ⟨o', e2⟩
      · exact ho _ e2
      · exact hf _ _ e2
  rcases e with (e | ⟨o', e⟩) | e
  · exact .inl (.inl (by rw [upd_ne (key _ e (.inl rfl))]; exact e))
  · exact .inl (.inr ⟨o', by rw [upd_ne (key _ e (.inr ⟨o', rfl⟩))]; exact e⟩)
  · exact .inr e
theorem keepT_new {K : PySem.W.Frag} {H : Hp} {a : Addr} {u : HO} (h : H a = none) : KeepT K H (upd H a u) := fun b ys e => sqt_ne (o := .lst []) (.inl h) (fun _ z => nomatch z) (fun _ _ z => nomatch z) u b ys e

section
variable {K : PySem.W.Frag} {H H' : Hp}
mutual
theorem RD.keep (k : KeepT K H H') : ∀ (d : D) (v : V), RD K H d v → RD K H' d v
  | .non, _, h => h
  | .bl _, _, h => h
  | .int _, _, h => h
  | .str _, _, h => h
  | .ref _, _, h => h
  | .tup ds, _, h => by
    rw [RD] at h ⊢
    obtain ⟨a, vs, e, s, r⟩ := h
    exact ⟨a, vs, e, k _ _ s, RDs.keep k ds vs r⟩
theorem RDs.keep (k : KeepT K H H') : ∀ (ds : List D) (vs : List V), RDs K H ds vs → RDs K H' ds vs
  | [], _, h => h
  | d :: ds, _, h => by
    rw [RDs] at h ⊢
    obtain ⟨v, r, e, h1, h2⟩ := h
    exact ⟨v, r, e, RD.keep k d v h1, RDs.keep k ds r h2⟩
end
theorem RDs.length : ∀ {ds : List D} {vs : List V}, RDs K H ds vs → vs.length = ds.length
  | [], _, h => by rw [RDs] at h; rw [h]; rfl
  | d :: ds, _, h => by
    rw [RDs] at h
    obtain ⟨v, r, e, h1, h2⟩ := h
    rw [e, List.length_cons, List.length_cons, RDs.length h2]
theorem RDs.get : ∀ {ds : List D} {vs : List V} {i : Nat} {d : D}, RDs K H ds vs → ds[i]? = some d → ∃ v, vs[i]? = some v ∧ RD K H d v
  | [], _, i, d, h, e => by simp at e
  | d' :: ds, _, i, d, h, e => by
    rw [RDs] at h
    obtain ⟨v, r, e', h1, h2⟩ := h
    subst e'
    cases i with
    | zero => simp at e; subst e; exact ⟨v, rfl, h1⟩
    | succ i => simpa using RDs.get (i := i) h2 (by simpa using e)
theorem RDs.cons {d : D} {v : V} {ds : List D} {vs : List V} (h : RD K H d v) (g : RDs K H ds vs) : RDs K H (d :: ds) (v :: vs) := by
  rw [RDs]; exact ⟨v, vs, rfl, h, g⟩
theorem RDs.nil : RDs K H [] [] := by rw [RDs]
theorem RDs.append : ∀ {ds es : List D} {vs ws : List V}, RDs K H ds vs → RDs K H es ws → RDs K H (ds ++ es) (vs ++ ws)
  | [], _, _, _, h, g => by rw [RDs] at h; subst h; exact g
  | d :: ds, _, _, _, h, g => by
    rw [RDs] at h
    obtain ⟨v, r, e', h1, h2⟩ := h
    subst e'
    exact RDs.cons h1 (RDs.append h2 g)
theorem RDs.set : ∀ {ds : List D} {vs : List V} {d : D} {v : V} (i : Nat), RDs K H ds vs → RD K H d v → RDs K H (ds.set i d) (vs.set i v)
  | [], _, _, _, _, h, g => by rw [RDs] at h; subst h; exact RDs.nil
  | d' :: ds, _, d, v, i, h, g => by
    rw [RDs] at h
    obtain ⟨v', r, e', h1, h2⟩ := h
    subst e'
    cases i with
    | zero => exact RDs.cons g h2
    | succ i => exact RDs.cons h1 (RDs.set i h2 g)
theorem RDs.take : ∀ {ds : List D} {vs : List V} (i : Nat), RDs K H ds vs → RDs K H (ds.take i) (vs.take i)
  | [], _, i, h => by rw [RDs] at h; subst h; simp; exact RDs.nil
  | d' :: ds, _, i, h => by
    rw [RDs] at h
    obtain ⟨v', r, e', h1, h2⟩ := h
    subst e'
    cases i with
    | zero => exact RDs.nil
    | succ i => exact RDs.cons h1 (RDs.take i h2)
theorem RDs.drop : ∀ {ds : List D} {vs : List V} (i : Nat), RDs K H ds vs → RDs K H (ds.drop i) (vs.drop i)
  | [], _, i, h => by rw [RDs] at h; subst h; simp; exact RDs.nil
  | d' :: ds, _, i, h => by
    rw [RDs] at h
    obtain ⟨v', r, e', h1, h2⟩ := h
    subst e'
    cases i with
    | zero => exact RDs.cons h1 h2
    | succ i => exact RDs.drop i h2
theorem RSt.keep (k : KeepT K H H') {σ : L2.St} {ρ : Env} (h : RSt K H σ ρ) : RSt K H' σ ρ :=
  ⟨h.1, fun i d e => let ⟨v, e1, r⟩ := h.2 i d e; ⟨v, e1, RD.keep k _ _ r⟩⟩
theorem RSt.set {σ : L2.St} {ρ : Env} {i : Nat} {d : D} {v : V} (h : RSt K H σ ρ) (r : RD K H d v) : RSt K H (σ.set i (some v)) (ρ.set i (some d)) := by
  refine ⟨by simpa using h.1, fun (j : Nat) e he => ?_⟩
  by_cases hj : i = j
  · subst hj
    by_cases hi : i < ρ.length
    · rw [List.getElem?_set_self hi] at he
      cases he
      exact ⟨v, List.getElem?_set_self (by rw [h.1]; exact hi), r⟩
    · rw [List.getElem?_eq_none (by simpa using Nat.le_of_not_lt hi)] at he
      cases he
  · rw [List.getElem?_set_ne hj] at he ⊢
    exact h.2 j e he
end

section
variable {Z : ZP} {H H' : Hp}
theorem RO.keep {Z : ZP} {H H' : Hp} {a : Addr} (k : KeepT Z.K H H') : ∀ {o : Option HO} {m : MO}, RO Z H a o m → RO Z H' a o m
  | o, .lst xs, h => let ⟨vs, e, r⟩ := h; ⟨vs, e, RDs.keep k _ _ r⟩
  | o, .ins C dx ns ds, h => let ⟨vs, e, r, q⟩ := h; ⟨vs, e, RDs.keep k _ _ r, q⟩
  | o, .dcK kvs, h => let ⟨vs, e, r⟩ := h; ⟨vs, e, RDs.keep k _ _ r⟩
  | o, .dcN kvs, h => let ⟨xs, e, e2, r1, r2, q⟩ := h; ⟨xs, e, e2, RDs.keep k _ _ r1, RDs.keep k _ _ r2, q⟩
  | o, .xd f d, h => let ⟨v, e, r⟩ := h; ⟨v, e, RD.keep k _ _ r⟩
  | o, .raw u, h => h
theorem RO.some {Z : ZP} {H : Hp} {a : Addr} : ∀ {o : Option HO} {m : MO}, RO Z H a o m → ∃ u, o = some u
  | o, .lst xs, h => let ⟨vs, e, r⟩ := h; ⟨_, e⟩
  | o, .ins C dx ns ds, h => let ⟨vs, e, r⟩ := h; ⟨_, e⟩
  | o, .dcK kvs, h => let ⟨vs, e, r⟩ := h; ⟨_, e⟩
  | o, .dcN kvs, h => let ⟨xs, e, r⟩ := h; ⟨_, e⟩
  | o, .xd f d, h => let ⟨v, e, r⟩ := h; ⟨_, e⟩
  | o, .raw u, h => ⟨_, h.1⟩
theorem RM.sub {M M' : DM} (h : RM Z H M') (s : MSub M M') : RM Z H M := fun a o e => h a o (s a o e)
theorem RM.free {M : DM} {a : Addr} (h : RM Z H M) (e : H a = none) : M a = none := by
  cases q : M a with
  | none => rfl
  | some o =>
    obtain ⟨u, z⟩ := (h a o q).some
    rw [e] at z; cases z
theorem RM.upd {M : DM} {a : Addr} {o : MO} {u : HO} (h : RM Z H M) (k : KeepT Z.K H (L2.upd H a u)) (r : RO Z (L2.upd H a u) a (some u) o) : RM Z (L2.upd H a u) (mupd M a o) := fun b p e => by
  by_cases hb : b = a
  · subst hb
    rw [mupd_same] at e; cases e
    rw [upd_same]; exact r
  · rw [mupd_ne hb] at e
    rw [upd_ne hb]
    exact (h b p e).keep k
theorem RM.laid {M : DM} {a : Addr} {u : HO} (h : RM Z H M) (hn : H a = none) : RM Z (L2.upd H a u) M := fun b p e => by
  have hb : b ≠ a := fun z => by
    subst z
    obtain ⟨u, z⟩ := (h b p e).some
    rw [hn] at z; cases z
  rw [upd_ne hb]
  exact (h b p e).keep (keepT_new hn)
end
structure Nx (Z : ZP) (H H' : Hp) (M' : DM) : Prop where
  kp : KeepT Z.K H H'
  mm : RM Z H' M'
  tb : NdefX.TabsN Z.T H'
structure Rel (Z : ZP) (G : Hp) (σ : L2.St) (H : Hp) (ρ : Env) (M : DM) : Prop where
  kp : KeepT Z.K G H
  st : RSt Z.K H σ ρ
  mm : RM Z H M
  tb : NdefX.TabsN Z.T H
theorem Rel.nx {Z : ZP} {G : Hp} {σ : L2.St} {H H' : Hp} {ρ : Env} {M M' : DM} (r : Rel Z G σ H ρ M) (n : Nx Z H H' M') : Rel Z G σ H' ρ M' :=
  ⟨r.kp.trans n.kp, r.st.keep n.kp, n.mm, n.tb⟩
theorem Rel.stay {Z : ZP} {G : Hp} {σ : L2.St} {H : Hp} {ρ : Env} {M : DM} (r : Rel Z G σ H ρ M) : Nx Z H H M := ⟨KeepT.refl, r.mm, r.tb⟩
theorem Nx.trans {Z : ZP} {H H1 H2 : Hp} {M1 M2 : DM} (a : Nx Z H H1 M1) (b : Nx Z H1 H2 M2) : Nx Z H H2 M2 := ⟨a.kp.trans b.kp, b.mm, b.tb⟩
theorem Nx.sub {Z : ZP} {H H1 : Hp} {M1 M2 : DM} (a : Nx Z H H1 M1) (s : MSub M2 M1) : Nx Z H H1 M2 := ⟨a.kp, a.mm.sub s, a.tb⟩

section
variable (Z : ZP) (G : Hp)
def lE (t : Env → DM → DQ → Prop) : TE := fun σ H Q => ∃ ρ M R, Rel Z G σ H ρ M ∧ t ρ M R ∧ ∀ d M' v H', R d M' → Nx Z H H' M' → RD Z.K H' d v → Q v H'
def lT (t : Env → DM → (Bool → DM → Prop) → Prop) : TT := fun σ H Q => ∃ ρ M R, Rel Z G σ H ρ M ∧ t ρ M R ∧ ∀ b M' H', R b M' → Nx Z H H' M' → Q b H'
def lA (t : Env → DM → (List D → DM → Prop) → Prop) : TA := fun σ H Q => ∃ ρ M R, Rel Z G σ H ρ M ∧ t ρ M R ∧ ∀ ds M' vs H', R ds M' → Nx Z H H' M' → RDs Z.K H' ds vs → Q vs H'
def lS (t : DEnds → Env → DM → Prop) : TS := fun D σ H => ∃ ρ M E, Rel Z G σ H ρ M ∧ t E ρ M ∧
  (∀ ρ' M' σ' H', E.nx ρ' M' → KeepT Z.K H H' → Rel Z G σ' H' ρ' M' → D.nx σ' H') ∧
  (∀ d M' v H', E.rt d M' → Nx Z H H' M' → RD Z.K H' d v → D.rt v H') ∧
  (∀ ρ' M' σ' H', E.bk ρ' M' → KeepT Z.K H H' → Rel Z G σ' H' ρ' M' → D.bk σ' H') ∧
  (∀ ρ' M' σ' H', E.ct ρ' M' → KeepT Z.K H H' → Rel Z G σ' H' ρ' M' → D.ct σ' H')
def lW (W : DW) : WX := fun cls d σ H => ∃ C fs ρ M, cls = .ref C ∧ RX d fs ∧ Rel Z G σ H ρ M ∧ W C fs ρ M
def lSp (sp : DSp) : Sp := fun vs H Q E => ∃ ds M R EX, RDs Z.K H ds vs ∧ RM Z H M ∧ NdefX.TabsN Z.T H ∧ sp ds M R EX ∧
  (∀ d M' v H', R d M' → Nx Z H H' M' → RD Z.K H' d v → Q v H') ∧ (∀ C fs M' d H', EX C fs M' → Nx Z H H' M' → RX d fs → E (.ref C) d H')
end

structure QE (Z : ZP) (G : Hp) (X : Cx) (e : Expr) (t : DE) : Prop where
  pe : ∀ W, Takes X (lW Z G W) → PE X e (lE Z G (t W))
structure QT (Z : ZP) (G : Hp) (X : Cx) (e : Expr) (t : DT) : Prop where
  pt : ∀ W, Takes X (lW Z G W) → PT X e (lT Z G (t W))
structure QW (Z : ZP) (G : Hp) (X : Cx) (e : Expr) (t : DT) : Prop where
  pw : ∀ W, Takes X (lW Z G W) → PW X e (lT Z G (t W))
structure QA (Z : ZP) (G : Hp) (X : Cx) (es : List Expr) (t : DA) : Prop where
  pa : ∀ W, Takes X (lW Z G W) → PA X es (lA Z G (t W))
structure QS (Z : ZP) (G : Hp) (X : Cx) (s : Stmt) (t : DS) : Prop where
  ps : ∀ W, Takes X (lW Z G W) → PS X s (lS Z G (t W))
structure QSs (Z : ZP) (G : Hp) (X : Cx) (s : List Stmt) (t : DS) : Prop where
  pss : ∀ W, Takes X (lW Z G W) → PSs X s (lS Z G (t W))

theorem pe_of {X : Cx} {e : Expr} {t t' : TE} (h : PE X e t) (w : ∀ σ H Q, t' σ H Q → t σ H Q) : PE X e t' := ⟨fun pins s σ H Q I q => h.run pins s σ H Q I (w σ H Q q)⟩
theorem pt_of {X : Cx} {e : Expr} {t t' : TT} (h : PT X e t) (w : ∀ σ H Q, t' σ H Q → t σ H Q) : PT X e t' := ⟨fun pins s σ H Q I q => h.run pins s σ H Q I (w σ H Q q)⟩
theorem pw_of {X : Cx} {e : Expr} {t t' : TT} (h : PW X e t) (w : ∀ σ H Q, t' σ H Q → t σ H Q) : PW X e t' := ⟨fun wh pins s σ H Q I q => h.run wh pins s σ H Q I (w σ H Q q)⟩
theorem pa_of {X : Cx} {e : List Expr} {t t' : TA} (h : PA X e t) (w : ∀ σ H Q, t' σ H Q → t σ H Q) : PA X e t' := ⟨fun pos pins s σ H Q I q => h.run pos pins s σ H Q I (w σ H Q q)⟩
theorem ps_of {X : Cx} {e : Stmt} {t t' : TS} (h : PS X e t) (w : ∀ D σ H, t' D σ H → t D σ H) : PS X e t' := ⟨fun pins s σ H D I q => h.run pins s σ H D I (w D σ H q)⟩
theorem pss_of {X : Cx} {e : List Stmt} {t t' : TS} (h : PSs X e t) (w : ∀ D σ H, t' D σ H → t D σ H) : PSs X e t' := ⟨fun pins s σ H D I q => h.run pins s σ H D I (w D σ H q)⟩
end DL

set_option Elab.async false
set_option linter.all false
set_option maxRecDepth 100000
namespace DL
open PySem PySem.Spec PyProof.Rows L2

structure Here (Z : ZP) (H : Hp) (M : DM) : Prop where
  mm : RM Z H M
  tb : NdefX.TabsN Z.T H
section
variable {Z : ZP} {G H H' : Hp} {M M' : DM} {σ : L2.St} {ρ : Env}
theorem Rel.here (r : Rel Z G σ H ρ M) : Here Z H M := ⟨r.mm, r.tb⟩
theorem Nx.here (n : Nx Z H H' M') : Here Z H' M' := ⟨n.mm, n.tb⟩
theorem Here.stay (h : Here Z H M) : Nx Z H H M := ⟨KeepT.refl, h.mm, h.tb⟩
theorem tabs_new {T : List NdefX.NTab} {p : Addr} {o : HO} (t : NdefX.TabsN T H) (h : H p = none) : NdefX.TabsN T (upd H p o) :=
  t.ext fun b u e => by rw [upd_ne (ne_of_none e h)]; exact e
theorem Here.laid (h : Here Z H M) {p : Addr} {o : HO} (hp : H p = none) : Nx Z H (upd H p o) M :=
  ⟨keepT_new hp, h.mm.laid hp, tabs_new h.tb hp⟩
theorem rd_tup {ds : List D} {vs : List V} {p : Addr} (h : H p = none) (r : RDs Z.K H ds vs) : RD Z.K (upd H p (.tup vs)) (.tup ds) (.ref p) := by
  rw [RD]
  exact ⟨p, vs, rfl, SqT.of upd_same, RDs.keep (keepT_new h) _ _ r⟩
theorem Here.lst (h : Here Z H M) {p : Addr} {ds : List D} {vs : List V} (hp : H p = none) (r : RDs Z.K H ds vs) : Nx Z H (upd H p (.lst vs)) (mupd M p (.lst ds)) :=
  ⟨keepT_new hp, h.mm.upd (keepT_new hp) ⟨vs, rfl, RDs.keep (keepT_new hp) _ _ r⟩, tabs_new h.tb hp⟩
theorem Here.free (h : Here Z H M) {p : Addr} (hp : H p = none) : M p = none := h.mm.free hp
theorem Here.at_lst (h : Here Z H M) {p : Addr} {ds : List D} (e : M p = some (.lst ds)) : ∃ vs, H p = some (.lst vs) ∧ RDs Z.K H ds vs := h.mm p _ e
theorem Here.at_ins (h : Here Z H M) {p C dx : Addr} {ns : List Str} {ds : List D} (e : M p = some (.ins C dx ns ds)) : ∃ vs, H p = some (.ins C dx (ns.zip vs)) ∧ RDs Z.K H ds vs ∧ ns.length = ds.length ∧ ns.Nodup := h.mm p _ e
def isMut : HO → Bool
  | .lst _ => true | .ins _ _ _ => true | .dK _ => true | .dT _ => true | .set _ _ => true
  | _ => false
theorem keepT_mut {K : PySem.W.Frag} {p : Addr} {o u : HO} (e : H p = some o) (m : isMut o = true) : KeepT K H (upd H p u) := fun b ys q =>
  sqt_ne (o := o) (.inr e) (fun _ z => by subst z; cases m) (fun _ _ z => by subst z; cases m) u b ys q
theorem tabs_mut {T : List NdefX.NTab} {p : Addr} {o u : HO} (t : NdefX.TabsN T H) (e : H p = some o) (m : isMut o = true) : NdefX.TabsN T (upd H p u) := fun x hx => by
  obtain ⟨ps, h1, h2, h3⟩ := t x hx
  have n1 : x.1 ≠ p := fun z => by rw [z, e] at h1; cases h1; cases m
  refine ⟨ps, by rw [upd_ne n1]; exact h1, h2, fun pos cv hc => ?_⟩
  obtain ⟨c, e1, e2⟩ := h3 pos cv hc
  have n2 : c ≠ p := fun z => by
    rw [z, e] at e2
    have e3 := Option.some.inj e2
    rw [e3] at m
    exact absurd (show false = true from m) Bool.false_ne_true
  exact ⟨c, e1, by rw [upd_ne n2]; exact e2⟩
theorem Here.mut (h : Here Z H M) {p : Addr} {o u : HO} {m : MO} (e : H p = some o) (im : isMut o = true) (r : RO Z (upd H p u) p (some u) m) : Nx Z H (upd H p u) (mupd M p m) :=
  ⟨keepT_mut e im, h.mm.upd (keepT_mut e im) r, tabs_mut h.tb e im⟩
end

def dVar (i : Nat) : DE := fun _ ρ M R => match ρ[i]? with
  | some (some d) => R d M
  | _ => False
def dC (d : D) : DE := fun _ _ M R => R d M
section
variable {Z : ZP} {G : Hp} {X : Cx} {pos : Pos}
theorem qv (i : Nat) {x : Str} (hN : X.N[i]? = some x := by rfl) (hv : Vis X.env.scope x := by first | exact Or.inl rfl | exact Or.inr (Or.inl rfl) | exact Or.inr (Or.inr rfl)) (hd : (x == ("__debug__" : Str)) = false := by decide)
    (hcd : (x == ("__classdict__" : Str)) = false := by decide) : QE Z G X (.Name x pos) (dVar i) := by
  refine ⟨fun W tk => pe_of (pe_var hN hv hd hcd) fun σ H Q ⟨ρ, M, R, r, h, k⟩ => ?_⟩
  unfold dVar at h
  split at h
  · rename_i d e
    obtain ⟨v, e1, rd⟩ := r.st.2 i d e
    exact ⟨v, e1, k d M v H h r.stay rd⟩
  · exact h.elim
theorem qe_const {e : Expr} {d : D} {v : V} (h : PE X e (tC v)) (rd : ∀ H, RD Z.K H d v) : QE Z G X e (dC d) :=
  ⟨fun W tk => pe_of h fun σ H Q ⟨ρ, M, R, r, q, k⟩ => k d M v H q r.stay (rd H)⟩
theorem qe_int {i : Int} {j} : QE Z G X (.Constant (.int i) j pos) (dC (.int i)) := qe_const pe_int fun _ => rfl
theorem qe_bl {b : Bool} {j} : QE Z G X (.Constant (.bool b) j pos) (dC (.bl b)) := qe_const pe_bl fun _ => rfl
theorem qe_non {j} : QE Z G X (.Constant .none j pos) (dC .non) := qe_const pe_non fun _ => rfl
theorem qe_str {x : Str} (y : List Nat) {j} (e : x = sV y := by rfl) : QE Z G X (.Constant (.str x) j pos) (dC (.str y)) := qe_const pe_str fun _ => by rw [RD, e]
theorem qe_glob {x : Str} {v : V} {u : Value} {d : D} (hm : X.mg x = some u) (r : RelV v u) (rd : ∀ H, RD Z.K H d v) (hg : Gl X x := by rfl) (hd : (x == ("__debug__" : Str)) = false := by decide) : QE Z G X (.Name x pos) (dC d) :=
  qe_const (pe_glob hg hm r hd) rd
end

def OpD (Z : ZP) (X : Cx) (f : Value → Value → Sem Value) (g : D → D → DM → DQ → Prop) : Prop :=
  ∃ r, OpR X f r ∧ ∀ (H : Hp) (M : DM) (x y : V) (dx dy : D) (R : DQ) (Q : VK), Here Z H M → RD Z.K H dx x → RD Z.K H dy y → g dx dy M R →
    (∀ d M' v H', R d M' → Nx Z H H' M' → RD Z.K H' d v → Q v H') → r x y H Q
def dOp (g : D → D → DM → DQ → Prop) (ta tb : DE) : DE := fun W ρ M R => ta W ρ M fun x M1 => tb W ρ M1 fun y M2 => g x y M2 R
section
variable {Z : ZP} {G : Hp} {X : Cx} {pos : Pos} {a b c : Expr} {ta tb tc : DE}
theorem dop_lift {f : Value → Value → Sem Value} {r : R2} {g : D → D → DM → DQ → Prop} {W : DW} (hr : ∀ (H : Hp) (M : DM) (x y : V) (dx dy : D) (R : DQ) (Q : VK), Here Z H M → RD Z.K H dx x → RD Z.K H dy y → g dx dy M R →
    (∀ d M' v H', R d M' → Nx Z H H' M' → RD Z.K H' d v → Q v H') → r x y H Q) (σ : L2.St) (H : Hp) (Q : VK) (h : lE Z G (dOp g ta tb W) σ H Q) : tOp r (lE Z G (ta W)) (lE Z G (tb W)) σ H Q := by
  obtain ⟨ρ, M, R, rl, h, k⟩ := h
  refine ⟨ρ, M, _, rl, h, fun x M1 v1 H1 h1 n1 r1 => ⟨ρ, M1, _, rl.nx n1, h1, fun y M2 v2 H2 h2 n2 r2 => ?_⟩⟩
  exact hr H2 M2 v1 v2 x y R Q n2.here (RD.keep n2.kp _ _ r1) r2 h2 fun d M' v H' q n rd => k d M' v H' q ((n1.trans n2).trans n) rd
theorem qe_op {op : Operator} {g} (o : OpD Z X (binaryOp op) g) (ha : QE Z G X a ta) (hb : QE Z G X b tb) : QE Z G X (.BinOp a op b pos) (dOp g ta tb) := by
  obtain ⟨r, ho, hr⟩ := o
  exact ⟨fun W tk => pe_of (pe_op ho (ha.pe W tk) (hb.pe W tk)) (dop_lift (f := binaryOp op) hr)⟩
theorem qe_cmp {op : CmpOp} {g} (o : OpD Z X (compareOp op) g) (ha : QE Z G X a ta) (hb : QE Z G X b tb) (hm : behindInMarks op b = false := by first | exact nomark _ | rfl) : QE Z G X (.Compare a [op] [b] pos) (dOp g ta tb) := by
  obtain ⟨r, ho, hr⟩ := o
  exact ⟨fun W tk => pe_of (pe_cmpR ho (ha.pe W tk) (hb.pe W tk) hm) (dop_lift (f := compareOp op) hr)⟩
def dTest (t : DE) : DT := fun W ρ M R => t W ρ M fun d M1 => match d with
  | .bl b => R b M1
  | _ => False
theorem lT_test {t : DE} {W : DW} {te : TE} (w : ∀ σ H Q, lE Z G (t W) σ H Q → te σ H Q) (σ : L2.St) (H : Hp) (Q : Bool → Hp → Prop) (h : lT Z G (dTest t W) σ H Q) : tTest te σ H Q := by
  obtain ⟨ρ, M, R, rl, h, k⟩ := h
  refine w σ H _ ⟨ρ, M, _, rl, h, fun d M1 v H1 h1 n1 r1 => ?_⟩
  cases d with
  | bl b => exact ⟨b, r1, k b M1 H1 h1 n1⟩
  | _ => exact h1.elim
theorem qt_cmp {op : CmpOp} {g} (o : OpD Z X (compareOp op) g) (ha : QE Z G X a ta) (hb : QE Z G X b tb) (hm : behindInMarks op b = false := by first | exact nomark _ | rfl) : QT Z G X (.Compare a [op] [b] pos) (dTest (dOp g ta tb)) := by
  obtain ⟨r, ho, hr⟩ := o
  exact ⟨fun W tk => pt_of (pt_cmpR ho (ha.pe W tk) (hb.pe W tk) hm) (lT_test (dop_lift (f := compareOp op) hr))⟩
theorem qt_val {e : Expr} {t : DE} (h : QE Z G X e t) (he : ∀ whole, isTrue e X.env whole = (do let v ← whole; standAt e.pos; holding [v] (truthy v)) := by intro _; rfl) : QT Z G X e (dTest t) :=
  ⟨fun W tk => pt_of (pt_val (h.pe W tk) he) (lT_test (te := lE Z G (t W)) fun _ _ _ q => q)⟩
def dChain (g g' : D → D → DM → DQ → Prop) (ta tb tc : DE) : DE := fun W ρ M R => ta W ρ M fun x M1 => tb W ρ M1 fun y M2 => g x y M2 fun z M3 => match z with
  | .bl true => tc W ρ M3 fun w M4 => g' y w M4 R
  | .bl false => R (.bl false) M3
  | _ => False
theorem chain_lift {r r' : R2} {g g' : D → D → DM → DQ → Prop} {W : DW} (hr : ∀ (H : Hp) (M : DM) (x y : V) (dx dy : D) (R : DQ) (Q : VK), Here Z H M → RD Z.K H dx x → RD Z.K H dy y → g dx dy M R →
    (∀ d M' v H', R d M' → Nx Z H H' M' → RD Z.K H' d v → Q v H') → r x y H Q) (hr' : ∀ (H : Hp) (M : DM) (x y : V) (dx dy : D) (R : DQ) (Q : VK), Here Z H M → RD Z.K H dx x → RD Z.K H dy y → g' dx dy M R →
    (∀ d M' v H', R d M' → Nx Z H H' M' → RD Z.K H' d v → Q v H') → r' x y H Q) (σ : L2.St) (H : Hp) (Q : VK) (h : lE Z G (dChain g g' ta tb tc W) σ H Q) : tChain r r' (lE Z G (ta W)) (lE Z G (tb W)) (lE Z G (tc W)) σ H Q := by
  obtain ⟨ρ, M, R, rl, h, k⟩ := h
  refine ⟨ρ, M, _, rl, h, fun x M1 v1 H1 h1 n1 r1 => ⟨ρ, M1, _, rl.nx n1, h1, fun y M2 v2 H2 h2 n2 r2 => ?_⟩⟩
  refine hr H2 M2 v1 v2 x y _ _ n2.here (RD.keep n2.kp _ _ r1) r2 h2 fun d M' v H' q n rd => ?_
  cases d with
  | bl bb =>
    cases bb with
    | true =>
      refine ⟨true, rd, ?_⟩
      rw [if_pos rfl]
      refine ⟨ρ, M', _, ((rl.nx n1).nx n2).nx n, q, fun w M4 v4 H4 h4 n4 r4 => ?_⟩
      exact hr' H4 M4 v2 v4 y w R Q n4.here (RD.keep n4.kp _ _ (RD.keep n.kp _ _ r2)) r4 h4 fun d M' v H' q n' rd => k d M' v H' q ((((n1.trans n2).trans n).trans n4).trans n') rd
    | false =>
      refine ⟨false, rd, ?_⟩
      rw [if_neg Bool.false_ne_true]
      exact k _ _ _ _ q ((n1.trans n2).trans n) (by rw [RD])
  | _ => exact q.elim
theorem qe_chain {op op' : CmpOp} {g g'} (o : OpD Z X (compareOp op) g) (o' : OpD Z X (compareOp op') g') (ha : QE Z G X a ta) (hb : QE Z G X b tb) (hc : QE Z G X c tc)
    (hm : lastMarks [op, op'] [b, c] = false := by rfl) : QE Z G X (.Compare a [op, op'] [b, c] pos) (dChain g g' ta tb tc) := by
  obtain ⟨r, ho, hr⟩ := o
  obtain ⟨r', ho', hr'⟩ := o'
  exact ⟨fun W tk => pe_of (pe_chain ho ho' (ha.pe W tk) (hb.pe W tk) (hc.pe W tk) hm) (chain_lift hr hr')⟩
end

def dAnd (t u : DT) : DT := fun W ρ M R => t W ρ M fun c M1 => match c with
  | true => u W ρ M1 R
  | false => R false M1
def dOr (t u : DT) : DT := fun W ρ M R => t W ρ M fun c M1 => match c with
  | true => R true M1
  | false => u W ρ M1 R
def dNot (t : DT) : DT := fun W ρ M R => t W ρ M fun c M1 => R (!c) M1
def dAndV (ta tb : DE) : DE := fun W ρ M R => ta W ρ M fun x M1 => match x with
  | .bl true => tb W ρ M1 R
  | .bl false => R (.bl false) M1
  | _ => False
def dOrV (ta tb : DE) : DE := fun W ρ M R => ta W ρ M fun x M1 => match x with
  | .bl true => R (.bl true) M1
  | .bl false => tb W ρ M1 R
  | _ => False
def dNotV (ta : DE) : DE := fun W ρ M R => ta W ρ M fun x M1 => match x with
  | .bl b => R (.bl (!b)) M1
  | _ => False
def dIfE (t : DT) (ta tb : DE) : DE := fun W ρ M R => t W ρ M fun c M1 => match c with
  | true => ta W ρ M1 R
  | false => tb W ρ M1 R
section
variable {Z : ZP} {G : Hp} {X : Cx} {pos : Pos} {a b c : Expr} {rest : List Expr} {ta tb : DE} {tA tB : DT}
theorem QW.qt (h : QW Z G X a tA) : QT Z G X a tA := ⟨fun W tk => (h.pw W tk).pt⟩
theorem qw_and1 (ha : QT Z G X a tA) : QW Z G X (.BoolOp .And [a] pos) tA := ⟨fun W tk => pw_and1 (ha.pt W tk)⟩
theorem qw_or1 (ha : QT Z G X a tA) : QW Z G X (.BoolOp .Or [a] pos) tA := ⟨fun W tk => pw_or1 (ha.pt W tk)⟩
theorem qw_and (ha : QT Z G X a tA) (hb : QW Z G X (.BoolOp .And (b :: rest) pos) tB) : QW Z G X (.BoolOp .And (a :: b :: rest) pos) (dAnd tA tB) := by
  refine ⟨fun W tk => pw_of (pw_and (ha.pt W tk) (hb.pw W tk)) fun σ H Q ⟨ρ, M, R, rl, h, k⟩ => ?_⟩
  refine ⟨ρ, M, _, rl, h, fun c M1 H1 h1 n1 => ?_⟩
  cases c with
  | true => rw [if_pos rfl]; exact ⟨ρ, M1, R, rl.nx n1, h1, fun b M' H' q n => k b M' H' q (n1.trans n)⟩
  | false => rw [if_neg Bool.false_ne_true]; exact k false M1 H1 h1 n1
theorem qw_or (ha : QT Z G X a tA) (hb : QW Z G X (.BoolOp .Or (b :: rest) pos) tB) : QW Z G X (.BoolOp .Or (a :: b :: rest) pos) (dOr tA tB) := by
  refine ⟨fun W tk => pw_of (pw_or (ha.pt W tk) (hb.pw W tk)) fun σ H Q ⟨ρ, M, R, rl, h, k⟩ => ?_⟩
  refine ⟨ρ, M, _, rl, h, fun c M1 H1 h1 n1 => ?_⟩
  cases c with
  | true => rw [if_pos rfl]; exact k true M1 H1 h1 n1
  | false => rw [if_neg Bool.false_ne_true]; exact ⟨ρ, M1, R, rl.nx n1, h1, fun b M' H' q n => k b M' H' q (n1.trans n)⟩
theorem qt_not (ha : QT Z G X a tA) : QT Z G X (.UnaryOp .Not a pos) (dNot tA) :=
  ⟨fun W tk => pt_of (pt_not (ha.pt W tk)) fun σ H Q ⟨ρ, M, R, rl, h, k⟩ => ⟨ρ, M, _, rl, h, fun c M1 H1 h1 n1 => k _ M1 H1 h1 n1⟩⟩
theorem qe_one {op} (ha : QE Z G X a ta) : QE Z G X (.BoolOp op [a] pos) ta := ⟨fun W tk => pe_one (ha.pe W tk)⟩
theorem qe_and (ha : QE Z G X a ta) (hb : QE Z G X (.BoolOp .And (b :: rest) pos) tb) : QE Z G X (.BoolOp .And (a :: b :: rest) pos) (dAndV ta tb) := by
  refine ⟨fun W tk => pe_of (pe_and (ha.pe W tk) (hb.pe W tk)) fun σ H Q ⟨ρ, M, R, rl, h, k⟩ => ?_⟩
  refine ⟨ρ, M, _, rl, h, fun c M1 v1 H1 h1 n1 r1 => ?_⟩
  cases c with
  | bl bb =>
    refine ⟨bb, r1, ?_⟩
    cases bb with
    | true => rw [if_pos rfl]; exact ⟨ρ, M1, R, rl.nx n1, h1, fun d M' v H' q n => k d M' v H' q (n1.trans n)⟩
    | false => rw [if_neg Bool.false_ne_true]; exact k _ M1 _ H1 h1 n1 (by rw [RD])
  | _ => exact h1.elim
theorem qe_or (ha : QE Z G X a ta) (hb : QE Z G X (.BoolOp .Or (b :: rest) pos) tb) : QE Z G X (.BoolOp .Or (a :: b :: rest) pos) (dOrV ta tb) := by
  refine ⟨fun W tk => pe_of (pe_or (ha.pe W tk) (hb.pe W tk)) fun σ H Q ⟨ρ, M, R, rl, h, k⟩ => ?_⟩
  refine ⟨ρ, M, _, rl, h, fun c M1 v1 H1 h1 n1 r1 => ?_⟩
  cases c with
  | bl bb =>
    refine ⟨bb, r1, ?_⟩
    cases bb with
    | true => rw [if_pos rfl]; exact k _ M1 _ H1 h1 n1 (by rw [RD])
    | false => rw [if_neg Bool.false_ne_true]; exact ⟨ρ, M1, R, rl.nx n1, h1, fun d M' v H' q n => k d M' v H' q (n1.trans n)⟩
  | _ => exact h1.elim
theorem qe_not (ha : QE Z G X a ta) : QE Z G X (.UnaryOp .Not a pos) (dNotV ta) := by
  refine ⟨fun W tk => pe_of (pe_not (ha.pe W tk)) fun σ H Q ⟨ρ, M, R, rl, h, k⟩ => ?_⟩
  refine ⟨ρ, M, _, rl, h, fun c M1 v1 H1 h1 n1 r1 => ?_⟩
  cases c with
  | bl bb => exact ⟨bb, r1, k _ M1 _ H1 h1 n1 (by rw [RD])⟩
  | _ => exact h1.elim
theorem qe_ifExp (hc : QT Z G X c tA) (ha : QE Z G X a ta) (hb : QE Z G X b tb) : QE Z G X (.IfExp c a b pos) (dIfE tA ta tb) := by
  refine ⟨fun W tk => pe_of (pe_ifExp (hc.pt W tk) (ha.pe W tk) (hb.pe W tk)) fun σ H Q ⟨ρ, M, R, rl, h, k⟩ => ?_⟩
  refine ⟨ρ, M, _, rl, h, fun c M1 H1 h1 n1 => ?_⟩
  cases c with
  | true => rw [if_pos rfl]; exact ⟨ρ, M1, R, rl.nx n1, h1, fun d M' v H' q n => k d M' v H' q (n1.trans n)⟩
  | false => rw [if_neg Bool.false_ne_true]; exact ⟨ρ, M1, R, rl.nx n1, h1, fun d M' v H' q n => k d M' v H' q (n1.trans n)⟩
end

def dNil : DA := fun _ _ M R => R [] M
def dCons (ta : DE) (tr : DA) : DA := fun W ρ M R => ta W ρ M fun x M1 => tr W ρ M1 fun xs M2 => R (x :: xs) M2
def dTup (t : DA) : DE := fun W ρ M R => t W ρ M fun ds M1 => ds.length ≤ sizeLine ∧ R (.tup ds) M1
def dLst (t : DA) : DE := fun W ρ M R => t W ρ M fun ds M1 => ds.length ≤ sizeLine ∧ ∀ p, M1 p = none → R (.ref p) (mupd M1 p (.lst ds))
section
variable {Z : ZP} {G : Hp} {X : Cx} {pos : Pos} {e : Expr} {es : List Expr} {te : DE} {t : DA}
theorem qa_nil : QA Z G X [] dNil := ⟨fun W tk => pa_of pa_nil fun σ H Q ⟨ρ, M, R, rl, h, k⟩ => k [] M [] H h rl.stay RDs.nil⟩
theorem qa_cons (ha : QE Z G X e te) (hr : QA Z G X es t) (hs : starEach (e :: es) X.env = (false, eval e X.env) :: starEach es X.env := by rfl) : QA Z G X (e :: es) (dCons te t) := by
  refine ⟨fun W tk => pa_of (pa_cons (ha.pe W tk) (hr.pa W tk) hs) fun σ H Q ⟨ρ, M, R, rl, h, k⟩ => ?_⟩
  refine ⟨ρ, M, _, rl, h, fun x M1 v1 H1 h1 n1 r1 => ⟨ρ, M1, _, rl.nx n1, h1, fun xs M2 vs H2 h2 n2 r2 => ?_⟩⟩
  exact k _ M2 _ H2 h2 (n1.trans n2) (RDs.cons (RD.keep n2.kp _ _ r1) r2)
theorem qe_tup {x1} (h : QA Z G X es t) : QE Z G X (.Tuple es x1 pos) (dTup t) := by
  refine ⟨fun W tk => pe_of (pe_tup (h.pa W tk)) fun σ H Q ⟨ρ, M, R, rl, h, k⟩ => ?_⟩
  refine ⟨ρ, M, _, rl, h, fun ds M1 vs H1 h1 n1 r1 => ⟨by rw [r1.length]; exact h1.1, fun p hp => ?_⟩⟩
  exact k _ M1 _ _ h1.2 (n1.trans (n1.here.laid hp)) (rd_tup hp r1)
theorem qe_lst (h : QA Z G X es t) : QE Z G X (.List es pos) (dLst t) := by
  refine ⟨fun W tk => pe_of (pe_lst (h.pa W tk)) fun σ H Q ⟨ρ, M, R, rl, h, k⟩ => ?_⟩
  refine ⟨ρ, M, _, rl, h, fun ds M1 vs H1 h1 n1 r1 => ⟨by rw [r1.length]; exact h1.1, fun p hp => ?_⟩⟩
  exact k _ _ _ _ (h1.2 p (n1.here.free hp)) (n1.trans (n1.here.lst hp r1)) (by rw [RD])
end
end DL

set_option Elab.async false
set_option linter.all false
set_option maxRecDepth 100000
namespace DL
open PySem PySem.Spec PyProof.Rows L2

def dNext : DS := fun _ E ρ M => E.nx ρ M
def dSeq (t u : DS) : DS := fun W E ρ M => t W { E with nx := fun ρ' M' => u W E ρ' M' } ρ M
def dIfS (c : DT) (t u : DS) : DS := fun W E ρ M => c W ρ M fun b M1 => match b with
  | true => t W E ρ M1
  | false => u W E ρ M1
def dRet (te : DE) : DS := fun W E ρ M => te W ρ M E.rt
def dRetN : DS := fun _ E _ M => E.rt .non M
def dExpr (te : DE) : DS := fun W E ρ M => te W ρ M fun _ M1 => E.nx ρ M1
def dBrk : DS := fun _ E ρ M => E.bk ρ M
def dCnt : DS := fun _ E ρ M => E.ct ρ M
def dSet (i : Nat) (te : DE) : DS := fun W E ρ M => te W ρ M fun d M1 => E.nx (ρ.set i (some d)) M1
def dNever : DS := fun _ _ _ _ => False
section
variable {Z : ZP} {G : Hp} {X : Cx} {pos : Pos} {e : Expr} {st : Stmt} {rest a b : List Stmt} {te : DE} {t u : DS} {tc : DT}
theorem Rel.go {σ σ' : L2.St} {H H' : Hp} {ρ ρ' : Env} {M M' : DM} (n : Nx Z H H' M') (r : Rel Z G σ H ρ M) (s : RSt Z.K H' σ' ρ') : Rel Z G σ' H' ρ' M' := ⟨r.kp.trans n.kp, s, n.mm, n.tb⟩
theorem qss_nil : QSs Z G X [] dNext := ⟨fun W tk => pss_of pss_nil fun D σ H ⟨ρ, M, E, rl, h, k1, _⟩ => k1 ρ M σ H h KeepT.refl rl⟩
theorem qss_one (h : QS Z G X st t) : QSs Z G X [st] t := ⟨fun W tk => pss_one (h.ps W tk)⟩
theorem qss_cons (h1 : QS Z G X st t) (h2 : QSs Z G X rest u) : QSs Z G X (st :: rest) (dSeq t u) := by
  refine ⟨fun W tk => pss_of (pss_cons (h1.ps W tk) (h2.pss W tk)) fun D σ H ⟨ρ, M, E, rl, h, k1, k2, k3, k4⟩ => ?_⟩
  refine ⟨ρ, M, _, rl, h, fun ρ' M' σ' H' q kp r => ?_, k2, k3, k4⟩
  exact ⟨ρ', M', E, r, q, fun _ _ _ _ q' kp' r' => k1 _ _ _ _ q' (kp.trans kp') r', fun _ _ _ _ q' n' r' => k2 _ _ _ _ q' ⟨kp.trans n'.kp, n'.mm, n'.tb⟩ r', fun _ _ _ _ q' kp' r' => k3 _ _ _ _ q' (kp.trans kp') r', fun _ _ _ _ q' kp' r' => k4 _ _ _ _ q' (kp.trans kp') r'⟩
theorem lS_go {Z : ZP} {G : Hp} {t : DEnds → Env → DM → Prop} {D : Ends} {σ : L2.St} {H H1 : Hp} {ρ : Env} {M1 : DM} {E : DEnds} (rl : Rel Z G σ H1 ρ M1) (kp : KeepT Z.K H H1) (h : t E ρ M1)
    (k1 : ∀ ρ' M' σ' H', E.nx ρ' M' → KeepT Z.K H H' → Rel Z G σ' H' ρ' M' → D.nx σ' H') (k2 : ∀ d M' v H', E.rt d M' → Nx Z H H' M' → RD Z.K H' d v → D.rt v H')
    (k3 : ∀ ρ' M' σ' H', E.bk ρ' M' → KeepT Z.K H H' → Rel Z G σ' H' ρ' M' → D.bk σ' H') (k4 : ∀ ρ' M' σ' H', E.ct ρ' M' → KeepT Z.K H H' → Rel Z G σ' H' ρ' M' → D.ct σ' H') : lS Z G t D σ H1 :=
  ⟨ρ, M1, E, rl, h, fun _ _ _ _ q' kp' r' => k1 _ _ _ _ q' (kp.trans kp') r', fun _ _ _ _ q' n' r' => k2 _ _ _ _ q' ⟨kp.trans n'.kp, n'.mm, n'.tb⟩ r', fun _ _ _ _ q' kp' r' => k3 _ _ _ _ q' (kp.trans kp') r', fun _ _ _ _ q' kp' r' => k4 _ _ _ _ q' (kp.trans kp') r'⟩
theorem qs_if {c : Expr} (hc : QT Z G X c tc) (ha : QSs Z G X a t) (hb : QSs Z G X b u) : QS Z G X (.If c a b pos) (dIfS tc t u) := by
  refine ⟨fun W tk => ps_of (ps_if (hc.pt W tk) (ha.pss W tk) (hb.pss W tk)) fun D σ H ⟨ρ, M, E, rl, h, k1, k2, k3, k4⟩ => ?_⟩
  refine ⟨ρ, M, _, rl, h, fun c M1 H1 h1 n1 => ?_⟩
  cases c with
  | true => rw [if_pos rfl]; exact lS_go (rl.nx n1) n1.kp h1 k1 k2 k3 k4
  | false => rw [if_neg Bool.false_ne_true]; exact lS_go (rl.nx n1) n1.kp h1 k1 k2 k3 k4
theorem qs_ret (he : QE Z G X e te) : QS Z G X (.Return (some e) pos) (dRet te) :=
  ⟨fun W tk => ps_of (ps_ret (he.pe W tk)) fun D σ H ⟨ρ, M, E, rl, h, k1, k2, k3, k4⟩ => ⟨ρ, M, _, rl, h, k2⟩⟩
theorem qs_retN : QS Z G X (.Return none pos) dRetN :=
  ⟨fun W tk => ps_of ps_retN fun D σ H ⟨ρ, M, E, rl, h, k1, k2, k3, k4⟩ => k2 .non M .non H h rl.stay (by rw [RD])⟩
theorem qs_expr (he : QE Z G X e te) (hs : swapsWith e none pos.line X.env = pure false := by rfl) : QS Z G X (.Expr e pos) (dExpr te) :=
  ⟨fun W tk => ps_of (ps_expr (he.pe W tk) hs) fun D σ H ⟨ρ, M, E, rl, h, k1, k2, k3, k4⟩ => ⟨ρ, M, _, rl, h, fun d M' v H' q n r => k1 _ _ _ _ q n.kp (rl.nx n)⟩⟩
theorem qs_break : QS Z G X (.Break pos) dBrk := ⟨fun W tk => ps_of ps_break fun D σ H ⟨ρ, M, E, rl, h, k1, k2, k3, k4⟩ => k3 _ _ _ _ h KeepT.refl rl⟩
theorem qs_continue : QS Z G X (.Continue pos) dCnt := ⟨fun W tk => ps_of ps_continue fun D σ H ⟨ρ, M, E, rl, h, k1, k2, k3, k4⟩ => k4 _ _ _ _ h KeepT.refl rl⟩
theorem qs_pass : QS Z G X (.Pass pos) dNext := ⟨fun W tk => ps_of ps_pass fun D σ H ⟨ρ, M, E, rl, h, k1, k2, k3, k4⟩ => k1 _ _ _ _ h KeepT.refl rl⟩
theorem qs_never : QS Z G X st dNever := ⟨fun W tk => ps_of ps_never fun D σ H ⟨ρ, M, E, rl, h, k1, k2, k3, k4⟩ => h⟩
theorem qss_never {sts : List Stmt} : QSs Z G X sts dNever := ⟨fun W tk => pss_of pss_never fun D σ H ⟨ρ, M, E, rl, h, k1, k2, k3, k4⟩ => h⟩
theorem qs_set {i : Nat} {x : Str} {pos' : Pos} (hN : X.N.Nodup) (he : QE Z G X e te) (hi : X.N[i]? = some x := by rfl) (hx : Loc X.env.scope x := by first | exact Or.inl rfl | exact Or.inr rfl)
    (hs : swapsWith e (some (.Name x pos')) pos.line X.env = pure false := by rfl) (hf : X.fn x = true ∨ X.env.scope.names.lookup x = some .local := by first | exact .inl rfl | exact .inr rfl | assumption) :
    QS Z G X (.Assign [.Name x pos'] e pos) (dSet i te) := by
  refine ⟨fun W tk => ps_of (ps_set hN hi hx (he.pe W tk) hs hf) fun D σ H ⟨ρ, M, E, rl, h, k1, k2, k3, k4⟩ => ?_⟩
  exact ⟨ρ, M, _, rl, h, fun d M' v H' q n r => k1 _ _ _ _ q n.kp ⟨rl.kp.trans n.kp, (rl.st.keep n.kp).set r, n.mm, n.tb⟩⟩
end

abbrev DG := D → Env → DM → (Env → DM → Prop) → Prop
abbrev DGs := List D → Env → DM → (Env → DM → Prop) → Prop
def lG (Z : ZP) (G : Hp) (g : DG) : TG := fun v σ H Q => ∃ d ρ M R, Rel Z G σ H ρ M ∧ RD Z.K H d v ∧ g d ρ M R ∧ ∀ ρ' M' σ' H', R ρ' M' → KeepT Z.K H H' → Rel Z G σ' H' ρ' M' → Q σ' H'
def lGs (Z : ZP) (G : Hp) (g : DGs) : TGs := fun vs σ H Q => ∃ ds ρ M R, Rel Z G σ H ρ M ∧ RDs Z.K H ds vs ∧ g ds ρ M R ∧ ∀ ρ' M' σ' H', R ρ' M' → KeepT Z.K H H' → Rel Z G σ' H' ρ' M' → Q σ' H'
structure QG (Z : ZP) (G : Hp) (X : Cx) (e : Expr) (g : DG) : Prop where
  pg : PG X e (lG Z G g)
structure QGs (Z : ZP) (G : Hp) (X : Cx) (es : List Expr) (g : DGs) : Prop where
  pgs : PGs X es (lGs Z G g)
theorem pg_of {X : Cx} {e : Expr} {t t' : TG} (h : PG X e t) (w : ∀ v σ H Q, t' v σ H Q → t v σ H Q) : PG X e t' := ⟨fun pz s σ H v u Q I r q => h.run pz s σ H v u Q I r (w v σ H Q q)⟩
theorem pgs_of {X : Cx} {e : List Expr} {t t' : TGs} (h : PGs X e t) (w : ∀ v σ H Q, t' v σ H Q → t v σ H Q) : PGs X e t' := ⟨fun pz s σ H v u Q I r q => h.run pz s σ H v u Q I r (w v σ H Q q)⟩
def gN (i : Nat) : DG := fun d ρ M Q => Q (ρ.set i (some d)) M
def gsNil : DGs := fun ds ρ M Q => match ds with
  | [] => Q ρ M
  | _ => False
def gsCons (t : DG) (u : DGs) : DGs := fun ds ρ M Q => match ds with
  | d :: r => t d ρ M fun ρ' M' => u r ρ' M' Q
  | _ => False
def gTp (n : Nat) (t : DGs) : DG := fun d ρ M Q => match d with
  | .tup ds => ds.length = n ∧ t ds ρ M Q
  | _ => False
def gLs (n : Nat) (t : DGs) : DG := fun d ρ M Q => match d with
  | .ref a => ∃ ds, M a = some (.lst ds) ∧ ds.length = n ∧ t ds ρ M Q
  | _ => False
section
variable {Z : ZP} {G : Hp} {X : Cx} {pos : Pos} {e : Expr} {es : List Expr} {t : DG} {u : DGs}
theorem qg_name {i : Nat} {x : Str} (hN : X.N.Nodup) (hi : X.N[i]? = some x := by rfl) (hx : Loc X.env.scope x := by first | exact Or.inl rfl | exact Or.inr rfl) (hf : X.fn x = true ∨ X.env.scope.names.lookup x = some .local := by first | exact .inl rfl | exact .inr rfl | assumption) : QG Z G X (.Name x pos) (gN i) :=
  ⟨pg_of (pg_name hN hi hx hf) fun v σ H Q ⟨d, ρ, M, R, rl, rd, h, k⟩ => k _ _ _ _ h KeepT.refl ⟨rl.kp, rl.st.set rd, rl.mm, rl.tb⟩⟩
theorem qgs_nil : QGs Z G X [] gsNil := ⟨pgs_of pgs_nil fun v σ H Q ⟨ds, ρ, M, R, rl, rd, h, k⟩ => by
  cases ds with
  | nil => rw [RDs] at rd; exact ⟨rd, k _ _ _ _ h KeepT.refl rl⟩
  | cons d r => exact h.elim⟩
theorem qgs_cons (h1 : QG Z G X e t) (h2 : QGs Z G X es u) (hs : (assignEach (e :: es) X.env).map (·.2) = assign e X.env :: (assignEach es X.env).map (·.2) := by rfl) : QGs Z G X (e :: es) (gsCons t u) := ⟨pgs_of (pgs_cons h1.pg h2.pgs hs) fun v σ H Q ⟨ds, ρ, M, R, rl, rd, h, k⟩ => by
  cases ds with
  | nil => exact h.elim
  | cons d r =>
    rw [RDs] at rd
    obtain ⟨v, vr, rfl, r1, r2⟩ := rd
    refine ⟨v, vr, rfl, d, ρ, M, _, rl, r1, h, fun ρ' M' σ' H' q kp r' => ?_⟩
    exact ⟨r, ρ', M', R, r', RDs.keep kp _ _ r2, q, fun _ _ _ _ q' kp' r'' => k _ _ _ _ q' (kp.trans kp') r''⟩⟩
theorem qg_tup {k : Nat} {n : Nat} (hK : X.K = Z.K) (hc : X.calm = true) (h : QGs Z G X es u) (hn : (assignEach es X.env).length = n := by rfl) (hst : (assignEach es X.env).findIdx? (·.1) = none := by rfl) : QG Z G X (.Tuple es k pos) (gTp n u) := ⟨pg_of (pg_tup hc h.pgs hn hst) fun v σ H Q ⟨d, ρ, M, R, rl, rd, h, k⟩ => by
  cases d with
  | tup ds =>
    rw [RD] at rd
    obtain ⟨a, vs, rfl, s, r⟩ := rd
    exact ⟨a, vs, rfl, hK ▸ s, by rw [r.length]; exact h.1, ds, ρ, M, R, rl, r, h.2, k⟩
  | _ => exact h.elim⟩
theorem qg_lst {k : Nat} {n : Nat} (hc : X.calm = true) (h : QGs Z G X es u) (hn : (assignEach es X.env).length = n := by rfl) (hst : (assignEach es X.env).findIdx? (·.1) = none := by rfl) : QG Z G X (.Tuple es k pos) (gLs n u) := ⟨pg_of (pg_lst hc h.pgs hn hst) fun v σ H Q ⟨d, ρ, M, R, rl, rd, h, k⟩ => by
  cases d with
  | ref a =>
    obtain ⟨ds, e, l, h⟩ := h
    obtain ⟨vs, e1, r⟩ := rl.here.at_lst e
    rw [RD] at rd
    exact ⟨a, vs, rd, SqL.of e1, by rw [r.length]; exact l, ds, ρ, M, R, rl, r, h, k⟩
  | _ => exact h.elim⟩
def dAsg (te : DE) (g : DG) : DS := fun W E ρ M => te W ρ M fun d M1 => g d ρ M1 E.nx
theorem qs_asg {tg : Expr} {te : DE} {g : DG} (he : QE Z G X e te) (hg : QG Z G X tg g) (hs : swapsWithSole [tg] e pos.line X.env = pure false := by rfl) (hw : swappedStores [tg] e X.env = pure none := by rfl)
    (h1 : (assignEach [tg] X.env).map (·.2) = [assign tg X.env] := by rfl) : QS Z G X (.Assign [tg] e pos) (dAsg te g) := by
  refine ⟨fun W tk => ps_of (ps_asg (he.pe W tk) hg.pg hs hw h1) fun D σ H ⟨ρ, M, E, rl, h, k1, k2, k3, k4⟩ => ?_⟩
  refine ⟨ρ, M, _, rl, h, fun d M1 v H1 q n r => ⟨d, ρ, M1, E.nx, rl.nx n, r, q, fun _ _ _ _ q' kp' r' => k1 _ _ _ _ q' (n.kp.trans kp') r'⟩⟩
end

def ItD (Z : ZP) (H0 : Hp) (J : It) (xs : List D) (g : DM → Prop) : Prop := ∀ i H M, KeepT Z.K H0 H → Here Z H M → g M →
  (i < xs.length → J.go i H) ∧ (xs.length ≤ i → J.stop i H) ∧ ∀ x H', i < xs.length → J.yld i H x H' → ∃ d, xs[i]? = some d ∧ Nx Z H H' M ∧ RD Z.K H' d x
abbrev DI := DW → Env → DM → (List D → (DM → Prop) → DM → Prop) → Prop
def lI (Z : ZP) (G : Hp) (t : Env → DM → (List D → (DM → Prop) → DM → Prop) → Prop) : TI := fun σ H R => ∃ ρ M Rd, Rel Z G σ H ρ M ∧ t ρ M Rd ∧ ∀ xs g M' J H', Rd xs g M' → Nx Z H H' M' → ItD Z H' J xs g → R J H'
structure QI (Z : ZP) (G : Hp) (X : Cx) (tg iter : Expr) (t : DI) : Prop where
  pi : ∀ W, Takes X (lW Z G W) → PI X tg iter (lI Z G (t W))
theorem pi_of {X : Cx} {tg e : Expr} {t t' : TI} (h : PI X tg e t) (w : ∀ σ H Q, t' σ H Q → t σ H Q) : PI X tg e t' := ⟨fun pz s σ H Q I q => h.run pz s σ H Q I (w σ H Q q)⟩
def dLoop (g : DG) (tb : DEnds → Env → DM → Prop) (gd : DM → Prop) : List D → DEnds → Env → DM → Prop
  | [], E, ρ, M => gd M ∧ E.nx ρ M
  | x :: r, E, ρ, M => gd M ∧ g x ρ M fun ρ1 M1 => tb { E with nx := fun ρ' M' => dLoop g tb gd r E ρ' M', ct := fun ρ' M' => dLoop g tb gd r E ρ' M', bk := E.nx } ρ1 M1
def dFor (ti : DI) (g : DG) (tb : DS) : DS := fun W E ρ M => ti W ρ M fun xs gd M1 => dLoop g (tb W) gd xs E ρ M1
def dWhile (c : DT) (tb : DS) : DS := fun W E ρ M => ∃ J : Nat → Env → DM → Prop, (∃ n, J n ρ M) ∧ ∀ n ρ M, J n ρ M → c W ρ M fun b M1 => match b with
  | true => tb W { E with nx := fun ρ' M' => ∃ n', n' < n ∧ J n' ρ' M', ct := fun ρ' M' => ∃ n', n' < n ∧ J n' ρ' M', bk := E.nx } ρ M1
  | false => E.nx ρ M1
section
variable {Z : ZP} {G : Hp} {X : Cx} {pos : Pos} {tg iter : Expr} {body : List Stmt}
theorem qs_for {ti : DI} {g : DG} {tb : DS} (hp : PassesOwn (model X.prog X.w) X.A X.env X.xe) (hc : X.calm = true) (hi : QI Z G X tg iter ti) (hg : QG Z G X tg g) (hb : QSs Z G X body tb)
    (hs : ∀ x, foldedSetIterable iter X.env x = pure x := by intro _; rfl) : QS Z G X (.For tg iter body [] pos) (dFor ti g tb) := by
  refine ⟨fun W tk => ps_of (ps_for hp hc (hi.pi W tk) hg.pg (hb.pss W tk) hs) fun D σ H ⟨ρ, M, E, rl, h, k1, k2, k3, k4⟩ => ?_⟩
  refine ⟨ρ, M, _, rl, h, fun xs gd M1 J H1 h1 n1 it => ?_⟩
  refine ⟨fun i m σ' H' => ∃ ρ' M', m = xs.length - i ∧ i ≤ xs.length ∧ KeepT Z.K H1 H' ∧ Rel Z G σ' H' ρ' M' ∧ dLoop g (tb W) gd (xs.drop i) E ρ' M', ⟨xs.length, ρ, M1, by simp, Nat.zero_le _, KeepT.refl, rl.nx n1, by simpa using h1⟩, ?_⟩
  rintro i m σ' H' ⟨ρ', M', rfl, hi', kp, r', hl⟩
  by_cases hlt : i < xs.length
  · rw [List.drop_eq_getElem_cons hlt] at hl
    obtain ⟨gd', hl⟩ := hl
    obtain ⟨i1, i2, i3⟩ := it i H' M' kp r'.here gd'
    refine .inr ⟨i1 hlt, fun σ2 H2 => ∃ ρ2 M2, KeepT Z.K H1 H2 ∧ Rel Z G σ2 H2 ρ2 M2 ∧ dLoop g (tb W) gd (xs.drop (i + 1)) E ρ2 M2, fun σ2 H2 ⟨ρ2, M2, kp2, r2, l2⟩ => ⟨xs.length - (i + 1), by omega, ρ2, M2, rfl, hlt, kp2, r2, l2⟩, fun x Hx hx => ?_⟩
    obtain ⟨d, e1, n2, rd⟩ := i3 x Hx hlt hx
    have e2 : xs[i] = d := by rw [List.getElem?_eq_getElem hlt] at e1; exact Option.some.inj e1
    subst e2
    refine ⟨_, ρ', M', _, r'.nx n2, rd, hl, fun ρ3 M3 σ3 H3 q3 kp3 r3 => ?_⟩
    have kpA : KeepT Z.K H1 H3 := (kp.trans n2.kp).trans kp3
    have kpB : KeepT Z.K H H3 := n1.kp.trans kpA
    exact ⟨ρ3, M3, _, r3, q3, fun ρ4 M4 σ4 H4 q4 kp4 r4 => ⟨ρ4, M4, kpA.trans kp4, r4, q4⟩, fun _ _ _ _ q' n' r' => k2 _ _ _ _ q' ⟨kpB.trans n'.kp, n'.mm, n'.tb⟩ r', fun _ _ _ _ q' kp' r' => k1 _ _ _ _ q' (kpB.trans kp') r',
      fun ρ4 M4 σ4 H4 q4 kp4 r4 => ⟨ρ4, M4, kpA.trans kp4, r4, q4⟩⟩
  · have e : i = xs.length := by omega
    subst e
    rw [List.drop_length] at hl
    obtain ⟨gd', hl⟩ := hl
    exact .inl ⟨(it _ H' M' kp r'.here gd').2.1 (Nat.le_refl _), k1 _ _ _ _ hl (n1.kp.trans kp) r'⟩
theorem qs_while {c : Expr} {tc : DT} {tb : DS} (hp : PassesOwn (model X.prog X.w) X.A X.env X.xe) (hc : QT Z G X c tc) (hb : QSs Z G X body tb) : QS Z G X (.While c body [] pos) (dWhile tc tb) := by
  refine ⟨fun W tk => ps_of (ps_while hp (hc.pt W tk) (hb.pss W tk)) fun D σ H ⟨ρ, M, E, rl, ⟨J, ⟨n0, j0⟩, turn⟩, k1, k2, k3, k4⟩ => ?_⟩
  refine ⟨fun m σ' H' => ∃ ρ' M', KeepT Z.K H H' ∧ Rel Z G σ' H' ρ' M' ∧ J m ρ' M', ⟨n0, ρ, M, KeepT.refl, rl, j0⟩, ?_⟩
  rintro m σ' H' ⟨ρ', M', kp, r', j'⟩
  refine ⟨ρ', M', _, r', turn m ρ' M' j', fun b M1 H1 h1 n1 => ?_⟩
  cases b with
  | true =>
    rw [if_pos rfl]
    refine ⟨fun σ2 H2 => ∃ m', m' < m ∧ ∃ ρ2 M2, KeepT Z.K H H2 ∧ Rel Z G σ2 H2 ρ2 M2 ∧ J m' ρ2 M2, fun σ2 H2 q => q, ?_⟩
    have kpA : KeepT Z.K H H1 := kp.trans n1.kp
    exact ⟨ρ', M1, _, r'.nx n1, h1, fun ρ4 M4 σ4 H4 ⟨n', l', q4⟩ kp4 r4 => ⟨n', l', ρ4, M4, kpA.trans kp4, r4, q4⟩, fun _ _ _ _ q' n' r' => k2 _ _ _ _ q' ⟨kpA.trans n'.kp, n'.mm, n'.tb⟩ r', fun _ _ _ _ q' kp' r' => k1 _ _ _ _ q' (kpA.trans kp') r',
      fun ρ4 M4 σ4 H4 ⟨n', l', q4⟩ kp4 r4 => ⟨n', l', ρ4, M4, kpA.trans kp4, r4, q4⟩⟩
  | false =>
    rw [if_neg Bool.false_ne_true]
    exact k1 _ _ _ _ h1 (kp.trans n1.kp) (r'.nx n1)
end

def startD (N : List Str) (ds : List D) : Env := ds.map some ++ List.replicate (N.length - ds.length) none
def Wk (R : DQ) : DQ := fun d M' => ∃ M, MSub M M' ∧ R d M
theorem Wk.self {R : DQ} {d : D} {M : DM} (h : R d M) : Wk R d M := ⟨M, MSub.refl M, h⟩
def WkX (R : DX) : DX := fun C fs M' => ∃ M, MSub M M' ∧ R C fs M
theorem WkX.self {R : DX} {C : Addr} {fs : List D} {M : DM} (h : R C fs M) : WkX R C fs M := ⟨M, MSub.refl M, h⟩
theorem rst_start {K : PySem.W.Frag} {H : Hp} {N : List Str} {ds : List D} {vs : List V} (r : RDs K H ds vs) : RSt K H (start N vs) (startD N ds) := by
  have hl := r.length
  refine ⟨by unfold L2.start startD; simp [hl], fun i d e => ?_⟩
  unfold startD at e
  by_cases hi : i < ds.length
  · rw [List.getElem?_append_left (by simpa using hi), List.getElem?_map] at e
    cases q : ds[i]? with
    | none => rw [q] at e; cases e
    | some d' =>
      rw [q] at e
      cases e
      obtain ⟨v, e1, rd⟩ := r.get q
      refine ⟨v, ?_, rd⟩
      unfold L2.start
      rw [List.getElem?_append_left (by simpa [hl] using hi), List.getElem?_map, e1]
      rfl
  · rw [List.getElem?_append_right (by simpa using hi), List.getElem?_replicate] at e
    split at e <;> cases e
def endsOf (R : DQ) : DEnds := { nx := fun _ M' => Wk R .non M', rt := Wk R, bk := fun _ _ => False, ct := fun _ _ => False }
section
variable {mg : Str → Option Value} {base : Heap} {Z : ZP}
theorem fn_okD {x qual : Str} {st : Stmt} {f : Addr} {fd : FuncData} {N ps : List Str} {k : Nat} {sp : DSp} {t : DS} (F : Fun Z.K x qual st f fd) (S : FnScope N ps (defScope st)) (len : ∀ ds M R EX, sp ds M R EX → ds.length = ps.length)
    (hb : ∀ (cdv : Value) (A : Around) (outer : List PySem.Env) (s : Shared) (H : Hp) (E : XK), Room k (A.deeper (envOfC qual (defScope st) s.heap.objs.size f cdv)) → QSs Z H (cxOf (L2.CX Z.P Z.w) Z.P Z.w Z.K mg base N qual (defScope st) f cdv A outer s H E) (defBody st) t)
    (pure : ∀ ds M R EX, sp ds M R EX → t (fun C fs _ M' => WkX EX C fs M') (endsOf R) (startD N ds) M) : FnOk Z.P Z.w Z.K mg base (L2.CX Z.P Z.w) (k + 1) f fd ps (lSp Z sp) := by
  refine F.okX S (fun vs H Q E ⟨ds, M, R, EX, rd, _, _, hs, _, _⟩ => by rw [rd.length]; exact len _ _ _ _ hs) fun cdv A outer s H vs Q E hr ⟨ds, M, R, EX, rd, mm, tb, hs, kq, kx⟩ => ?_
  have tk : Takes (cxOf (L2.CX Z.P Z.w) Z.P Z.w Z.K mg base N qual (defScope st) f cdv A outer s H E) (lW Z H fun C fs _ M' => WkX EX C fs M') := by
    refine Takes.imp (takes_of rfl rfl rfl rfl) fun c d σ H' ⟨C, fs, ρ, M', ec, rx, rl, M2, sb, h⟩ => ?_
    subst ec
    exact kx C fs M2 d H' h ⟨rl.kp, rl.mm.sub sb, rl.tb⟩ rx
  refine ⟨_, (hb cdv A outer s H E hr).pss _ tk, startD N ds, M, endsOf R, ⟨KeepT.refl, rst_start rd, mm, tb⟩, pure ds M R EX hs, fun ρ' M' σ' H' ⟨M2, sb, h⟩ kp r => ?_, fun d M' v H' ⟨M2, sb, h⟩ n r => ?_, fun _ _ _ _ h => h.elim, fun _ _ _ _ h => h.elim⟩
  · exact kq .non M2 .non H' h ⟨kp, r.mm.sub sb, r.tb⟩ (by rw [RD])
  · exact kq d M2 v H' h (n.sub sb) r
end

def dCall (sp : DSp) (ta : DA) : DE := fun W ρ M R => ta W ρ M fun ds M1 => sp ds M1 R fun C fs M2 => W C fs ρ M2
section
variable {Z : ZP} {G : Hp} {X : Cx} {pos p : Pos} {e : Expr} {es : List Expr} {ta : DA} {f : Addr} {fd : FuncData} {ps : List Str} {k : Nat} {sp : DSp} {x : Str}
theorem sp_lift {W : DW} {ρ : Env} {M1 : DM} {H1 : Hp} {σ : L2.St} {ds : List D} {vs : List V} {R : DQ} {Q : VK} (rl : Rel Z G σ H1 ρ M1) (rd : RDs Z.K H1 ds vs) (h : sp ds M1 R fun C fs M2 => W C fs ρ M2)
    (kq : ∀ d M' v H', R d M' → Nx Z H1 H' M' → RD Z.K H' d v → Q v H') : lSp Z sp vs H1 Q (WE (lW Z G W) σ) :=
  ⟨ds, M1, R, _, rd, rl.mm, rl.tb, h, kq, fun C fs M' d H' q n rx => ⟨C, fs, ρ, M', rfl, rx, rl.nx n, q⟩⟩
theorem qe_call (F : FnOk X.prog X.w X.K X.mg X.base (L2.CX X.prog X.w) k f fd ps (lSp Z sp)) (hr : Room k X.A) (hm : X.mg x = some (.ref f)) (hk : PySem.W.keepIn X.K (.ref f) = true) (hb : Binds X.K fd ps []) (ha : QA Z G X (e :: es) ta)
    (hg : Gl X x := by rfl) (hdb : (x == ("__debug__" : Str)) = false := by decide) (he : starEach (e :: es) X.env = (false, eval e X.env) :: starEach es X.env := by rfl) (hpl : (backTo pos (starEach es X.env)).any (·.1) = false := by rfl) :
    QE Z G X (.Call (.Name x p) (e :: es) [] pos) (dCall sp ta) := by
  refine ⟨fun W tk => pe_of (pe_callS F hr hg hm hk hb (fun σ => passAt tk σ) (ha.pa W tk) hdb he hpl) fun σ H Q ⟨ρ, M, R, rl, h, k⟩ => ?_⟩
  exact ⟨ρ, M, _, rl, h, fun ds M1 vs H1 h1 n1 r1 => sp_lift (rl.nx n1) r1 h1 fun d M' v H' q n r => k d M' v H' q (n1.trans n) r⟩
end

section
variable {X : Cx} {C : Addr} {bmB : List Value} {B newId initId : String}
theorem pmk_own0 {x : Str} {p pos : Pos} (F : ExcBaseFacts B newId initId bmB) (q : PySem.W.excIn X.K C bmB newId = true) (gC : X.mg x = some (.ref C)) (kC : PySem.W.keepIn X.K (.ref C) = true) (r : Raises X (.ref C)) (hg : Gl X x)
    (hdb : (x == ("__debug__" : Str)) = false := by decide) : PMk X (.Call (.Name x p) [] [] pos) (fun _ H Q => Q (.ref C) none H) := by
  intro pz s σ H Q I h
  refine wpAny_Call_Name_kw (ld_glob I hg gC ?_ hdb)
  refine PySem.W.callWith_K0 I.kIn kC ?_
  obtain ⟨bm, N, nm, qn, bs, hdct, sn, sub, ab, col, dd, k0, k1, k2, k3, k5, mN, hC, hN, hni, T⟩ := exc_obj I.kIn q
  refine wpAny_call_exc_subT F T hC hN hni (fun h' e hm => ?_) (by show 0 ≤ sizeLine; exact Nat.zero_le _)
  exact mk_of I hm r h (I.hok.gone hm.new)
end
def dRaise (C : Addr) : DS := fun W _ ρ M => W C [] ρ M
def dRaiseF (C : Addr) (f : Str) (te : DE) : DS := fun W _ ρ M => te W ρ M fun d M1 => ∀ dx, M1 dx = none → W C [.ref dx] ρ (mupd M1 dx (.xd f d))
structure ExcC (K : PySem.W.Frag) (mg : Str → Option Value) (x : Str) (C : Addr) : Prop where
  g : mg x = some (.ref C)
  q : PySem.W.excIn K C [.type "ValueError", .type "Exception", .type "BaseException", .type "object"] "ValueError.__new__" = true
  k : PySem.W.keepIn K (.ref C) = true
  b : PySem.W.subIn K (.ref C) (.type "BaseException") = some true
  t : PySem.W.typeIn K (.ref C) = some (.type "type")
section
variable {Z : ZP} {G : Hp} {X : Cx} {pos pos' p : Pos} {C : Addr} {x : Str}
theorem qs_raise0 (hc : X.calm = true) (c : ExcC X.K X.mg x C) (hg : Gl X x := by rfl) (hdb : (x == ("__debug__" : Str)) = false := by decide) : QS Z G X (.Raise (some (.Call (.Name x p) [] [] pos)) none pos') (dRaise C) := by
  refine ⟨fun W tk => ps_of (ps_raise hc tk (pmk_own0 PySem.F.excBase_ValueError c.q c.g c.k (raises_own c.b c.t) hg hdb)) fun D σ H ⟨ρ, M, E, rl, h, _⟩ => ?_⟩
  exact ⟨C, [], ρ, M, rfl, .inl ⟨rfl, rfl⟩, rl, h⟩
end
end DL

set_option Elab.async false
set_option linter.all false
set_option maxRecDepth 100000
namespace DL
open PySem PySem.Spec PyProof.Rows L2

def pf (f : D → D → Option D) : D → D → DM → DQ → Prop := fun x y M R => match f x y with
  | some z => R z M
  | none => False
theorem sV_inj {a b : List Nat} (h : sV a = sV b) : a = b := by
  have := congrArg (fun s : Str => s.cps.toList) h
  simpa [sV] using this
theorem sV_len (a : List Nat) : (sV a).length = a.length := by simp [sV, Str.length]
theorem sV_cps (a : List Nat) : (sV a).cps.toList = a := by simp [sV]
theorem sV_app (a b : List Nat) : sV a ++ sV b = sV (a ++ b) := by
  show Str.mk ((sV a).cps ++ (sV b).cps) = _
  simp [sV]
theorem dec_sV {a b : List Nat} : decide (V.str (sV a) = V.str (sV b)) = decide (a = b) := by
  by_cases e : a = b
  · subst e; simp
  · rw [decide_eq_false e, decide_eq_false]
    intro h; exact e (sV_inj (V.str.inj h))

section
variable {K : PySem.W.Frag} {H : Hp} {v : V} {Z : ZP} {M : DM}
theorem rd_int {i : Int} (h : RD K H (.int i) v) : v = .int i := by rw [RD] at h; exact h
theorem rd_bl {i : Bool} (h : RD K H (.bl i) v) : v = .bl i := by rw [RD] at h; exact h
theorem rd_non (h : RD K H .non v) : v = .non := by rw [RD] at h; exact h
theorem rd_str {x : List Nat} (h : RD K H (.str x) v) : v = .str (sV x) := by rw [RD] at h; exact h
theorem rd_ref {a : Addr} (h : RD K H (.ref a) v) : v = .ref a := by rw [RD] at h; exact h
theorem rd_tp {ds : List D} (h : RD K H (.tup ds) v) : ∃ a vs, v = .ref a ∧ SqT K H a vs ∧ RDs K H ds vs := by rw [RD] at h; exact h
theorem mk_int {i : Int} : RD K H (.int i) (.int i) := by rw [RD]
theorem mk_bl {i : Bool} : RD K H (.bl i) (.bl i) := by rw [RD]
theorem mk_non : RD K H .non .non := by rw [RD]
theorem mk_str {x : List Nat} : RD K H (.str x) (.str (sV x)) := by rw [RD]
theorem mk_ref {a : Addr} : RD K H (.ref a) (.ref a) := by rw [RD]
theorem mk_tup {ds : List D} {a : Addr} {vs : List V} (s : SqT K H a vs) (r : RDs K H ds vs) : RD K H (.tup ds) (.ref a) := by rw [RD]; exact ⟨a, vs, rfl, s, r⟩
theorem RDs.nil_iff {ds : List D} {vs : List V} (r : RDs K H ds vs) : vs = [] ↔ ds = [] := by
  have := r.length
  cases ds <;> cases vs <;> simp_all
end

def addD : D → D → DM → DQ → Prop := fun x y M R => match x, y with
  | .int i, .int j => R (.int (i + j)) M
  | .str a, .str b => a.length + b.length ≤ sizeLine ∧ R (.str (a ++ b)) M
  | .tup a, .tup b => a.length + b.length ≤ sizeLine ∧ R (.tup (a ++ b)) M
  | .ref a, .ref b => ∃ xs ys, M a = some (.lst xs) ∧ M b = some (.lst ys) ∧ xs.length + ys.length ≤ sizeLine ∧ ∀ p, M p = none → R (.ref p) (mupd M p (.lst (xs ++ ys)))
  | _, _ => False
section
variable {Z : ZP} {X : Cx}
theorem o_add (hK : X.K = Z.K) : OpD Z X (binaryOp .Add) addD := by
  refine ⟨_, OpR.or op_add (OpR.or op_add_str (OpR.or op_catA op_cat)), fun H M x y dx dy R Q hr rx ry g k => ?_⟩
  cases dx <;> cases dy <;> first | exact g.elim | skip
  · rw [rd_int rx, rd_int ry]
    exact .inl ⟨_, _, rfl, rfl, k _ _ _ _ g hr.stay mk_int⟩
  · rw [rd_str rx, rd_str ry]
    refine .inr (.inl ⟨_, _, rfl, rfl, by rw [sV_len, sV_len]; exact g.1, ?_⟩)
    rw [sV_app]
    exact k _ _ _ _ g.2 hr.stay mk_str
  · obtain ⟨a, vs, rfl, sa, ra⟩ := rd_tp rx
    obtain ⟨b, ws, rfl, sb, rb⟩ := rd_tp ry
    refine .inr (.inr (.inl ⟨a, b, vs, ws, rfl, rfl, hK ▸ sa, hK ▸ sb, by rw [ra.length, rb.length]; exact g.1, fun e => ?_, fun _ e => ?_, fun _ _ p hp => ?_⟩))
    · have e' := ra.nil_iff.mp e
      subst e'
      exact k _ _ _ _ g.2 hr.stay (mk_tup sb rb)
    · have e' := rb.nil_iff.mp e
      subst e'
      have g2 : R (.tup _) M := g.2
      rw [List.append_nil] at g2
      exact k _ _ _ _ g2 hr.stay (mk_tup sa ra)
    · exact k _ _ _ _ g.2 (hr.laid hp) (rd_tup hp (ra.append rb))
  · obtain ⟨xs, ys, e1, e2, z, g⟩ := g
    obtain ⟨vs, h1, r1⟩ := hr.at_lst e1
    obtain ⟨ws, h2, r2⟩ := hr.at_lst e2
    rw [rd_ref rx, rd_ref ry]
    refine .inr (.inr (.inr ⟨_, _, vs, ws, rfl, rfl, h1, h2, by rw [r1.length, r2.length]; exact z, fun p hp => ?_⟩))
    exact k _ _ _ _ (g p (hr.free hp)) (hr.lst hp (r1.append r2)) mk_ref
def intI (C : Int → Int → Prop) (f : Int → Int → Int) : D → D → DM → DQ → Prop := fun x y M R => match x, y with
  | .int i, .int j => C i j ∧ R (.int (f i j)) M
  | _, _ => False
def cmpI (f : Int → Int → Bool) : D → D → DM → DQ → Prop := fun x y M R => match x, y with
  | .int i, .int j => R (.bl (f i j)) M
  | _, _ => False
theorem o_int {op : Operator} {C : Int → Int → Prop} {f : Int → Int → Int} (h : OpR X (binaryOp op) (rI C fun i j => .int (f i j))) : OpD Z X (binaryOp op) (intI C f) := by
  refine ⟨_, h, fun H M x y dx dy R Q hr rx ry g k => ?_⟩
  cases dx <;> cases dy <;> first | exact g.elim | skip
  rw [rd_int rx, rd_int ry]
  exact ⟨_, _, rfl, rfl, g.1, k _ _ _ _ g.2 hr.stay mk_int⟩
theorem o_int0 {op : Operator} {f : Int → Int → Int} (h : OpR X (binaryOp op) (rI0 fun i j => .int (f i j))) : OpD Z X (binaryOp op) (intI (fun _ _ => True) f) := by
  refine ⟨_, h, fun H M x y dx dy R Q hr rx ry g k => ?_⟩
  cases dx <;> cases dy <;> first | exact g.elim | skip
  rw [rd_int rx, rd_int ry]
  exact ⟨_, _, rfl, rfl, k _ _ _ _ g.2 hr.stay mk_int⟩
theorem o_cmp {op : CmpOp} {f : Int → Int → Bool} (h : OpR X (compareOp op) (rI0 fun i j => .bl (f i j))) : OpD Z X (compareOp op) (cmpI f) := by
  refine ⟨_, h, fun H M x y dx dy R Q hr rx ry g k => ?_⟩
  cases dx <;> cases dy <;> first | exact g.elim | skip
  rw [rd_int rx, rd_int ry]
  exact ⟨_, _, rfl, rfl, k _ _ _ _ g hr.stay mk_bl⟩
abbrev subD := intI (fun _ _ => True) fun i j => i - j
abbrev mulD := intI CMul fun i j => i * j
abbrev mulWD := intI CMulW fun i j => i * j
abbrev fdivD := intI CDiv fun i j => i / j
abbrev fdivWD := intI CDivW fun i j => i / j
abbrev modD := intI (fun _ j => 0 < j) fun i j => i % j
abbrev powD := intI CPow fun i j => i ^ j.toNat
abbrev ltD := cmpI fun i j => decide (i < j)
abbrev leD := cmpI fun i j => decide (i ≤ j)
abbrev gtD := cmpI fun i j => decide (j < i)
abbrev geD := cmpI fun i j => decide (j ≤ i)
theorem o_sub : OpD Z X (binaryOp .Sub) subD := o_int0 op_sub
theorem o_mul : OpD Z X (binaryOp .Mult) mulD := o_int op_mul
theorem o_mulW : OpD Z X (binaryOp .Mult) mulWD := o_int op_mulW
theorem o_fdiv : OpD Z X (binaryOp .FloorDiv) fdivD := o_int op_fdiv
theorem o_fdivW : OpD Z X (binaryOp .FloorDiv) fdivWD := o_int op_fdivW
theorem o_mod : OpD Z X (binaryOp .Mod) modD := o_int op_mod
theorem o_pow : OpD Z X (binaryOp .Pow) powD := o_int op_pow
theorem o_lt : OpD Z X (compareOp .Lt) ltD := o_cmp op_lt
theorem o_le : OpD Z X (compareOp .LtE) leD := o_cmp op_le
theorem o_gt : OpD Z X (compareOp .Gt) gtD := o_cmp op_gt
theorem o_ge : OpD Z X (compareOp .GtE) geD := o_cmp op_ge

def isN : D → Bool
  | .non => true
  | _ => false
def isD : D → D → DM → DQ → Prop := fun x y M R => match y with
  | .non => R (.bl (isN x)) M
  | _ => False
def isNotD : D → D → DM → DQ → Prop := fun x y M R => match y with
  | .non => R (.bl (!isN x)) M
  | _ => False
theorem isN_of {K : PySem.W.Frag} {H : Hp} {d : D} {v : V} (r : RD K H d v) : decide (v = V.non) = isN d := by
  cases d with
  | non => rw [rd_non r]; rfl
  | bl b => rw [rd_bl r]; rfl
  | int b => rw [rd_int r]; rfl
  | str b => rw [rd_str r]; rfl
  | ref b => rw [rd_ref r]; rfl
  | tup b => obtain ⟨a, vs, rfl, _⟩ := rd_tp r; rfl
theorem o_is : OpD Z X (compareOp .Is) isD := by
  refine ⟨_, op_isN, fun H M x y dx dy R Q hr rx ry g k => ?_⟩
  cases dy <;> first | exact g.elim | skip
  refine ⟨rd_non ry, ?_⟩
  rw [isN_of rx]
  exact k _ _ _ _ g hr.stay mk_bl
theorem o_isNot : OpD Z X (compareOp .IsNot) isNotD := by
  refine ⟨_, op_notN, fun H M x y dx dy R Q hr rx ry g k => ?_⟩
  cases dy <;> first | exact g.elim | skip
  refine ⟨rd_non ry, ?_⟩
  rw [isN_of rx]
  exact k _ _ _ _ g hr.stay mk_bl

mutual
inductive PyOf (M : DM) : D → PyData → Prop
  | non : PyOf M .non .none
  | bl (b : Bool) : PyOf M (.bl b) (.bool b)
  | int (i : Int) : PyOf M (.int i) (.int i)
  | str (x : List Nat) : PyOf M (.str x) (.str (sV x))
  | tup {ds : List D} {ps : List PyData} : PyAll M ds ps → PyOf M (.tup ds) (.tuple ps)
  | lst {a : Addr} {ds : List D} {ps : List PyData} : M a = some (.lst ds) → PyAll M ds ps → PyOf M (.ref a) (.list ps)
inductive PyAll (M : DM) : List D → List PyData → Prop
  | nil : PyAll M [] []
  | cons {d : D} {p : PyData} {ds : List D} {ps : List PyData} : PyOf M d p → PyAll M ds ps → PyAll M (d :: ds) (p :: ps)
end
mutual
theorem PyOf.dp {Z : ZP} {H : Hp} {M : DM} (hr : RM Z H M) : ∀ (p : PyData) (d : D) (v : V), PyOf M d p → RD Z.K H d v → Dp Z.K H v p
  | .none, _, v, h, r => by cases h; rw [rd_non r]; exact .non
  | .bool b, _, v, h, r => by cases h; rw [rd_bl r]; exact .bl b
  | .int b, _, v, h, r => by cases h; rw [rd_int r]; exact .int b
  | .str b, _, v, h, r => by cases h; rw [rd_str r]; exact .str _
  | .tuple ps, _, v, h, r => by
    cases h with
    | tup h => obtain ⟨a, vs, rfl, s, rs⟩ := rd_tp r; exact .tup s (PyAll.dp hr ps _ vs h rs)
  | .list ps, _, v, h, r => by
    cases h with
    | lst e h => obtain ⟨vs, e1, rs⟩ := hr _ _ e; rw [rd_ref r]; exact .lst (SqL.of e1) (PyAll.dp hr ps _ vs h rs)
  | .dict _, _, v, h, r => by cases h
theorem PyAll.dp {Z : ZP} {H : Hp} {M : DM} (hr : RM Z H M) : ∀ (ps : List PyData) (ds : List D) (vs : List V), PyAll M ds ps → RDs Z.K H ds vs → DpAll Z.K H vs ps
  | [], _, vs, h, r => by cases h; rw [RDs] at r; subst r; exact .nil
  | p :: ps, _, vs, h, r => by
    cases h with
    | cons h1 h2 =>
      rw [RDs] at r
      obtain ⟨v, w, rfl, r1, r2⟩ := r
      exact .cons (PyOf.dp hr p _ v h1 r1) (PyAll.dp hr ps _ w h2 r2)
end
def eqS : D → D → Option Bool
  | .non, .non => some true
  | .int i, .int j => some (decide (i = j))
  | .bl i, .bl j => some (decide (i = j))
  | .str i, .str j => some (decide (i = j))
  | .non, .int _ => some false | .int _, .non => some false | .non, .bl _ => some false | .bl _, .non => some false | .non, .str _ => some false | .str _, .non => some false
  | .int _, .str _ => some false | .str _, .int _ => some false | .bl _, .str _ => some false | .str _, .bl _ => some false
  | _, _ => none
def eqD : D → D → DM → DQ → Prop := fun x y M R => match eqS x y with
  | some b => R (.bl b) M
  | none => ∃ p q, PyOf M x p ∧ PyOf M y q ∧ SeqAt.shaped p = true ∧ SeqAt.shaped q = true ∧ R (.bl (PyData.eqv p q)) M
def neD : D → D → DM → DQ → Prop := fun x y M R => match eqS x y with
  | some b => R (.bl (!b)) M
  | none => ∃ p q, PyOf M x p ∧ PyOf M y q ∧ SeqAt.shaped p = true ∧ SeqAt.shaped q = true ∧ R (.bl (!PyData.eqv p q)) M
theorem eqS_of {K : PySem.W.Frag} {H : Hp} {x y : D} {v u : V} {b : Bool} (rx : RD K H x v) (ry : RD K H y u) (e : eqS x y = some b) : scal v u = true ∧ decide (v = u) = b := by
  cases x <;> cases y <;> first | (simp [eqS] at e; done) | skip
  all_goals (simp only [eqS, Option.some.injEq] at e; subst e)
  all_goals (simp only [RD] at rx ry; subst rx; subst ry)
  all_goals first
    | exact ⟨rfl, dec_sV⟩
    | exact ⟨rfl, rfl⟩
    | exact ⟨rfl, by simp⟩
theorem o_eq (hK : X.K = Z.K) (hu : X.A.units + 64 < cLine) : OpD Z X (compareOp .Eq) eqD := by
  refine ⟨_, OpR.or op_eq (op_eqD hu), fun H M x y dx dy R Q hr rx ry g k => ?_⟩
  unfold eqD at g
  split at g
  · rename_i b e
    obtain ⟨s, d⟩ := eqS_of rx ry e
    refine .inl ⟨s, ?_⟩
    rw [d]
    exact k _ _ _ _ g hr.stay mk_bl
  · obtain ⟨p, q, hp, hq, sp, sq, g⟩ := g
    exact .inr ⟨p, q, hK ▸ PyOf.dp hr.mm p _ _ hp rx, hK ▸ PyOf.dp hr.mm q _ _ hq ry, sp, sq, k _ _ _ _ g hr.stay mk_bl⟩
theorem o_ne (hK : X.K = Z.K) (hu : X.A.units + 64 < cLine) : OpD Z X (compareOp .NotEq) neD := by
  refine ⟨_, OpR.or op_ne (op_neD hu), fun H M x y dx dy R Q hr rx ry g k => ?_⟩
  unfold neD at g
  split at g
  · rename_i b e
    obtain ⟨s, d⟩ := eqS_of rx ry e
    refine .inl ⟨s, ?_⟩
    rw [d]
    exact k _ _ _ _ g hr.stay mk_bl
  · obtain ⟨p, q, hp, hq, sp, sq, g⟩ := g
    exact .inr ⟨p, q, hK ▸ PyOf.dp hr.mm p _ _ hp rx, hK ▸ PyOf.dp hr.mm q _ _ hq ry, sp, sq, k _ _ _ _ g hr.stay mk_bl⟩

def flatD : D → Bool
  | .non => true | .bl _ => true | .int _ => true | .str _ => true
  | _ => false
def eqF : D → D → Bool
  | .non, .non => true
  | .bl a, .bl b => a == b
  | .bl a, .int b => (if a then 1 else 0) == b
  | .int a, .bl b => a == (if b then 1 else 0)
  | .int a, .int b => a == b
  | .str a, .str b => a == b
  | _, _ => false
def inF (x : D) (ds : List D) : Bool := ds.any fun y => eqF y x
theorem flatV_of {K : PySem.W.Frag} {H : Hp} {d : D} {v : V} (r : RD K H d v) (f : flatD d = true) : flatV v = true := by
  cases d <;> first | (simp [flatD] at f; done) | (simp only [RD] at r; subst r; rfl)
theorem eqV_of {K : PySem.W.Frag} {H : Hp} {d e : D} {v u : V} (r : RD K H d v) (q : RD K H e u) (f : flatD d = true) (g : flatD e = true) : eqV v u = eqF d e := by
  cases d <;> cases e <;> first | (simp [flatD] at f; done) | (simp [flatD] at g; done) | skip
  all_goals (simp only [RD] at r q; subst r; subst q)
  all_goals first
    | rfl
    | (simp only [eqV, eqF]; rw [Bool.eq_iff_iff]; simp only [beq_iff_eq]; exact ⟨fun h => sV_inj h, fun h => by rw [h]⟩)
theorem inV_of {K : PySem.W.Frag} {H : Hp} {x : D} {u : V} (q : RD K H x u) (g : flatD x = true) : ∀ {ds : List D} {vs : List V}, RDs K H ds vs → ds.all flatD = true → vs.all flatV = true ∧ inV u vs = inF x ds
  | [], vs, r, _ => by rw [RDs] at r; subst r; exact ⟨rfl, rfl⟩
  | d :: ds, vs, r, f => by
    rw [RDs] at r
    obtain ⟨v, w, rfl, r1, r2⟩ := r
    rw [List.all_cons, Bool.and_eq_true] at f
    obtain ⟨i1, i2⟩ := inV_of q g r2 f.2
    refine ⟨by rw [List.all_cons, flatV_of r1 f.1, i1]; rfl, ?_⟩
    unfold inV inF at *
    rw [List.any_cons, List.any_cons, eqV_of r1 q f.1 g, i2]
def inG (neg : Bool) : D → D → DM → DQ → Prop := fun x y M R => match y with
  | .str s => (match x with
    | .str [c] => R (.bl (if neg then !decide (c ∈ s) else decide (c ∈ s))) M
    | _ => False)
  | .tup ds => if flatD x && ds.all flatD then R (.bl (if neg then !inF x ds else inF x ds)) M else
      ∃ p q, PyOf M x p ∧ PyAll M ds q ∧ SeqAt.shaped p = true ∧ SeqAt.shaped (.tuple q) = true ∧ R (.bl (if neg then !(q.any fun z => PyData.eqv z p) else q.any fun z => PyData.eqv z p)) M
  | .ref a => ∃ ds, M a = some (.lst ds) ∧ flatD x = true ∧ ds.all flatD = true ∧ R (.bl (if neg then !inF x ds else inF x ds)) M
  | _ => False
abbrev inD := inG false
abbrev notInD := inG true
def rInT (K : PySem.W.Frag) (neg : Bool) : R2 := fun x y H Q => ∃ d ds, Dp K H x d ∧ Dp K H y (.tuple ds) ∧ SeqAt.shaped d = true ∧ SeqAt.shaped (.tuple ds) = true ∧ Q (.bl (if neg then !(ds.any fun z => PyData.eqv z d) else ds.any fun z => PyData.eqv z d)) H
theorem op_inT (hu : X.A.units + 65 < cLine) : OpR X (compareOp .In) (rInT X.K false) := by
  intro pz s σ H x y v u Q I rx ry h
  obtain ⟨d, ds, hd, he, sd, se, q⟩ := h
  obtain ⟨as, r1⟩ := Dp.reads I d x v hd rx
  obtain ⟨bs, r2⟩ := Dp.reads I (.tuple ds) y u he ry
  exact SeqAt.in_tuple_reads r2 r1 (SeqAt.canLay_of_shaped se) (SeqAt.canLay_of_shaped sd) (room_in_shaped sd hu) ⟨.bl _, H, I, rfl, q⟩
theorem op_notInT (hu : X.A.units + 65 < cLine) : OpR X (compareOp .NotIn) (rInT X.K true) := by
  intro pz s σ H x y v u Q I rx ry h
  obtain ⟨d, ds, hd, he, sd, se, q⟩ := h
  obtain ⟨as, r1⟩ := Dp.reads I d x v hd rx
  obtain ⟨bs, r2⟩ := Dp.reads I (.tuple ds) y u he ry
  exact SeqAt.notIn_tuple_reads r2 r1 (SeqAt.canLay_of_shaped se) (SeqAt.canLay_of_shaped sd) (room_in_shaped sd hu) ⟨.bl _, H, I, rfl, q⟩
theorem one_sV (c : Nat) : sV [c] = ⟨#[c]⟩ := rfl
theorem in_lift {neg : Bool} {K : PySem.W.Frag} {s : R2} (hs : ∀ (c : Nat) (z : Str) H Q, Q (.bl (if neg then !decide (c ∈ z.cps.toList) else decide (c ∈ z.cps.toList))) H → s (.str ⟨#[c]⟩) (.str z) H Q)
    (H : Hp) (M : DM) (x y : V) (dx dy : D) (R : DQ) (Q : VK) (hr : Here Z H M) (rx : RD Z.K H dx x) (ry : RD Z.K H dy y) (g : inG neg dx dy M R) (k : ∀ d M' v H', R d M' → Nx Z H H' M' → RD Z.K H' d v → Q v H') :
    s x y H Q ∨ rIn Z.K neg x y H Q ∨ rInT Z.K neg x y H Q := by
  unfold inG at g
  split at g
  · rename_i z
    split at g
    · rename_i c
      rw [rd_str rx, rd_str ry]
      refine .inl (hs c (sV z) H Q ?_)
      rw [sV_cps]
      exact k _ _ _ _ g hr.stay mk_bl
    · exact g.elim
  · rename_i ds
    obtain ⟨a, vs, rfl, sa, ra⟩ := rd_tp ry
    split at g
    · rename_i hf
      rw [Bool.and_eq_true] at hf
      obtain ⟨i1, i2⟩ := inV_of rx hf.1 ra hf.2
      refine .inr (.inl ⟨a, vs, rfl, .inr sa, flatV_of rx hf.1, i1, ?_⟩)
      rw [i2]
      exact k _ _ _ _ g hr.stay mk_bl
    · obtain ⟨p, q, hp, hq, sp, sq, g⟩ := g
      exact .inr (.inr ⟨p, q, PyOf.dp hr.mm p _ _ hp rx, .tup sa (PyAll.dp hr.mm q _ _ hq ra), sp, sq, k _ _ _ _ g hr.stay mk_bl⟩)
  · obtain ⟨ds, e, f1, f2, g⟩ := g
    obtain ⟨vs, e1, r1⟩ := hr.at_lst e
    obtain ⟨i1, i2⟩ := inV_of rx f1 r1 f2
    rw [rd_ref ry]
    refine .inr (.inl ⟨_, vs, rfl, .inl (SqL.of e1), flatV_of rx f1, i1, ?_⟩)
    rw [i2]
    exact k _ _ _ _ g hr.stay mk_bl
  · exact g.elim
theorem o_in (hK : X.K = Z.K) (hu : X.A.units + 65 < cLine) : OpD Z X (compareOp .In) inD := by
  refine ⟨_, OpR.or op_in_sign (OpR.or op_in_seq (op_inT hu)), fun H M x y dx dy R Q hr rx ry g k => ?_⟩
  rw [hK]
  exact in_lift (neg := false) (K := Z.K) (s := fun x y H Q => ∃ (c : Nat) (z : Str), x = .str ⟨#[c]⟩ ∧ y = .str z ∧ Q (.bl (decide (c ∈ z.cps.toList))) H) (fun c z H Q q => ⟨c, z, rfl, rfl, q⟩) H M x y dx dy R Q hr rx ry g k
theorem o_notIn (hK : X.K = Z.K) (hu : X.A.units + 65 < cLine) : OpD Z X (compareOp .NotIn) notInD := by
  refine ⟨_, OpR.or op_notIn_sign (OpR.or op_notIn_seq (op_notInT hu)), fun H M x y dx dy R Q hr rx ry g k => ?_⟩
  rw [hK]
  exact in_lift (neg := true) (K := Z.K) (s := fun x y H Q => ∃ (c : Nat) (z : Str), x = .str ⟨#[c]⟩ ∧ y = .str z ∧ Q (.bl (!decide (c ∈ z.cps.toList))) H) (fun c z H Q q => ⟨c, z, rfl, rfl, q⟩) H M x y dx dy R Q hr rx ry g k
end
end DL

set_option Elab.async false
set_option linter.all false
set_option maxRecDepth 100000
namespace DL
open PySem PySem.Spec PyProof.Rows L2

def ixD : D → D → DM → DQ → Prop := fun x y M R => match x, y with
  | .tup ds, .int i => (match atI ds i with
    | some d => R d M
    | none => False)
  | .ref a, .int i => ∃ ds d, M a = some (.lst ds) ∧ atI ds i = some d ∧ R d M
  | .str s, .int i => s.length ≤ sizeLine ∧ (match atI s i with
    | some c => R (.str [c]) M
    | none => False)
  | _, _ => False
theorem atI_rd {K : PySem.W.Frag} {H : Hp} {ds : List D} {vs : List V} {i : Int} {d : D} (r : RDs K H ds vs) (e : atI ds i = some d) : ∃ v, atI vs i = some v ∧ RD K H d v := by
  unfold atI at e ⊢
  rw [r.length]
  cases q : ixN ds.length i with
  | none => rw [q] at e; cases e
  | some j =>
    rw [q] at e
    exact r.get e
section
variable {Z : ZP} {G : Hp} {X : Cx} {pos : Pos} {a b : Expr} {ta tb : DE}
theorem qe_ix (hK : X.K = Z.K) (ha : QE Z G X a ta) (hb : QE Z G X b tb) (hs : PlainIx b := by exact fun _ _ => rfl) : QE Z G X (.Subscript a b pos) (dOp ixD ta tb) := by
  refine ⟨fun W tk => pe_of (pe_ix (IxR.or ix_tup (IxR.or ix_list ix_str)) (ha.pe W tk) (hb.pe W tk) hs) (dop_lift (f := fun v u => getItem v u) fun H M x y dx dy R Q hr rx ry g k => ?_)⟩
  unfold ixD at g
  split at g
  · rename_i ds i
    obtain ⟨p, vs, rfl, s, r⟩ := rd_tp rx
    split at g
    · rename_i d e
      obtain ⟨v, e1, rd⟩ := atI_rd r e
      rw [rd_int ry]
      exact .inl ⟨p, vs, i, v, rfl, rfl, hK ▸ s, e1, k _ _ _ _ g hr.stay rd⟩
    · exact g.elim
  · rename_i p i
    obtain ⟨ds, d, e0, e, g⟩ := g
    obtain ⟨vs, h1, r⟩ := hr.at_lst e0
    obtain ⟨v, e1, rd⟩ := atI_rd r e
    rw [rd_int ry, rd_ref rx]
    exact .inr (.inl ⟨p, vs, i, v, rfl, rfl, SqL.of h1, e1, k _ _ _ _ g hr.stay rd⟩)
  · rename_i z i
    obtain ⟨hz, g⟩ := g
    split at g
    · rename_i c e
      rw [rd_int ry, rd_str rx]
      exact .inr (.inr ⟨sV z, i, c, rfl, rfl, by rw [sV_len]; exact hz, by rw [sV_cps]; exact e, k _ _ _ _ g hr.stay mk_str⟩)
    · exact g.elim
  · exact g.elim

def cutL {α : Type} (xs : List α) (lo hi : Option Int) : List α := (xs.drop (HT.sIx xs.length 0 lo)).take (HT.sIx xs.length xs.length hi - HT.sIx xs.length 0 lo)
theorem cutL_whole {α : Type} {xs : List α} {lo hi : Option Int} (h : HT.sIx xs.length 0 lo = 0 ∧ HT.sIx xs.length xs.length hi = xs.length) : cutL xs lo hi = xs := by
  unfold cutL
  rw [h.1, h.2]
  simp
theorem RDs.cut {K : PySem.W.Frag} {H : Hp} {ds : List D} {vs : List V} (r : RDs K H ds vs) (lo hi : Option Int) : RDs K H (cutL ds lo hi) (cutV vs lo hi) := by
  unfold cutL cutV
  rw [r.length]
  exact (r.drop _).take _
abbrev DO := DW → Env → DM → (Option Int → DM → Prop) → Prop
def dNoPart : DO := fun _ _ M R => R none M
def dPart (t : DE) : DO := fun W ρ M R => t W ρ M fun d M1 => match d with
  | .int i => R (some i) M1
  | _ => False
def lO (Z : ZP) (G : Hp) (t : Env → DM → (Option Int → DM → Prop) → Prop) : TO := fun σ H Q => ∃ ρ M R, Rel Z G σ H ρ M ∧ t ρ M R ∧ ∀ o M' H', R o M' → Nx Z H H' M' → Q o H'
structure QO (Z : ZP) (G : Hp) (X : Cx) (e : Option Expr) (t : DO) : Prop where
  po : ∀ W, Takes X (lW Z G W) → PO X e (lO Z G (t W))
theorem po_of {X : Cx} {e : Option Expr} {t t' : TO} (h : PO X e t) (w : ∀ σ H Q, t' σ H Q → t σ H Q) : PO X e t' := ⟨fun pz s σ H Q I q => h.run pz s σ H Q I (w σ H Q q)⟩
theorem qo_none : QO Z G X none dNoPart := ⟨fun W tk => po_of po_none fun σ H Q ⟨ρ, M, R, rl, h, k⟩ => k none M H h rl.stay⟩
theorem qo_some (h : QE Z G X a ta) : QO Z G X (some a) (dPart ta) := ⟨fun W tk => po_of (po_some (h.pe W tk)) fun σ H Q ⟨ρ, M, R, rl, h, k⟩ => ⟨ρ, M, _, rl, h, fun d M1 v H1 h1 n1 r1 => by
  split at h1
  · rename_i i
    exact ⟨i, rd_int r1, k _ _ _ h1 n1⟩
  · exact h1.elim⟩⟩
def slD : D → Option Int → Option Int → DM → DQ → Prop := fun x lo hi M R => match x with
  | .tup ds => R (.tup (cutL ds lo hi)) M
  | .str s => s.length ≤ sizeLine ∧ R (.str (cutL s lo hi)) M
  | .ref a => ∃ ds, M a = some (.lst ds) ∧ ∀ p, M p = none → R (.ref p) (mupd M p (.lst (cutL ds lo hi)))
  | _ => False
def dSl (te : DE) (tl th : DO) : DE := fun W ρ M R => te W ρ M fun x M1 => tl W ρ M1 fun l M2 => th W ρ M2 fun u M3 => slD x l u M3 R
theorem cutS_sV (z : List Nat) (lo hi : Option Int) : cutS (sV z) lo hi = sV (cutL z lo hi) := by
  unfold cutS cutL
  rw [sV_cps, sV_len]
  rfl
theorem qe_slice {lo hi : Option Expr} {p2 : Pos} {tl th : DO} (hK : X.K = Z.K) (he : QE Z G X a ta) (hl : QO Z G X lo tl) (hh : QO Z G X hi th) : QE Z G X (.Subscript a (.Slice lo hi none p2) pos) (dSl ta tl th) := by
  refine ⟨fun W tk => pe_of (pe_slice (SlR.or sl_tupA (SlR.or sl_list sl_str)) (he.pe W tk) (hl.po W tk) (hh.po W tk)) fun σ H Q ⟨ρ, M, R, rl, h, k⟩ => ?_⟩
  refine ⟨ρ, M, _, rl, h, fun x M1 v1 H1 h1 n1 r1 => ⟨ρ, M1, _, rl.nx n1, h1, fun l M2 H2 h2 n2 => ⟨ρ, M2, _, (rl.nx n1).nx n2, h2, fun u M3 H3 h3 n3 => ?_⟩⟩⟩
  have n := (n1.trans n2).trans n3
  have r3 := RD.keep n3.kp _ _ (RD.keep n2.kp _ _ r1)
  have hr := n3.here
  unfold slD at h3
  split at h3
  · rename_i ds
    obtain ⟨p, vs, rfl, s, r⟩ := rd_tp r3
    refine .inl ⟨p, vs, rfl, hK ▸ s, fun e => ?_, fun _ q hq => k _ _ _ _ h3 (n.trans (hr.laid hq)) (rd_tup hq (r.cut l u))⟩
    rw [r.length] at e
    rw [cutL_whole e] at h3
    exact k _ _ _ _ h3 n (mk_tup s r)
  · rename_i z
    obtain ⟨hz, h3⟩ := h3
    rw [rd_str r3]
    refine .inr (.inr ⟨sV z, rfl, by rw [sV_len]; exact hz, ?_⟩)
    rw [cutS_sV]
    exact k _ _ _ _ h3 n mk_str
  · rename_i p
    obtain ⟨ds, e0, h3⟩ := h3
    obtain ⟨vs, e1, r⟩ := hr.at_lst e0
    rw [rd_ref r3]
    exact .inr (.inl ⟨p, vs, rfl, SqL.of e1, fun q hq => k _ _ _ _ (h3 q (hr.free hq)) (n.trans (hr.lst hq (r.cut l u))) mk_ref⟩)
  · exact h3.elim
end

def CallD (Z : ZP) (X : Cx) (f : Value) (g : List D → DM → DQ → Prop) : Prop :=
  ∃ r, CallR X f r ∧ ∀ (H : Hp) (M : DM) (vs : List V) (ds : List D) (R : DQ) (Q : VK), Here Z H M → RDs Z.K H ds vs → g ds M R → (∀ d M' v H', R d M' → Nx Z H H' M' → RD Z.K H' d v → Q v H') → r vs H Q
def dCB (g : List D → DM → DQ → Prop) (ta : DA) : DE := fun W ρ M R => ta W ρ M fun ds M1 => g ds M1 R
section
variable {Z : ZP} {G : Hp} {X : Cx} {pos p : Pos} {e : Expr} {es : List Expr} {ta : DA} {x : Str} {id T : String} {g : List D → DM → DQ → Prop}
theorem dcb_lift {f : Value} {W : DW} {r : List V → Hp → VK → Prop} (hr : ∀ (H : Hp) (M : DM) (vs : List V) (ds : List D) (R : DQ) (Q : VK), Here Z H M → RDs Z.K H ds vs → g ds M R → (∀ d M' v H', R d M' → Nx Z H H' M' → RD Z.K H' d v → Q v H') → r vs H Q)
    (σ : L2.St) (H : Hp) (Q : VK) (h : lE Z G (dCB g ta W) σ H Q) : tCB r (lA Z G (ta W)) σ H Q := by
  obtain ⟨ρ, M, R, rl, h, k⟩ := h
  exact ⟨ρ, M, _, rl, h, fun ds M1 vs H1 h1 n1 r1 => hr H1 M1 vs ds R Q n1.here r1 h1 fun d M' v H' q n rd => k d M' v H' q (n1.trans n) rd⟩
theorem qe_callB (c : CallD Z X (.builtin id) g) (hm : X.mg x = none) (hv : bootBuiltins x = some (.builtin id)) (ha : QA Z G X (e :: es) ta) (hg : Gl X x := by rfl) (hn : x ≠ "__name__" := by decide) (hdb : (x == ("__debug__" : Str)) = false := by decide)
    (he : starEach (e :: es) X.env = (false, eval e X.env) :: starEach es X.env := by rfl) (hpl : (backTo pos (starEach es X.env)).any (·.1) = false := by rfl) : QE Z G X (.Call (.Name x p) (e :: es) [] pos) (dCB g ta) := by
  obtain ⟨r, hc, hr⟩ := c
  exact ⟨fun W tk => pe_of (pe_callB hc hg hm hv (ha.pa W tk) hn hdb he hpl) (dcb_lift (f := .builtin id) hr)⟩
theorem qe_callTy (c : CallD Z X (.type T) g) (hm : X.mg x = none) (hv : bootBuiltins x = some (.type T)) (ha : QA Z G X (e :: es) ta) (hg : Gl X x := by rfl) (hn : x ≠ "__name__" := by decide) (hdb : (x == ("__debug__" : Str)) = false := by decide)
    (he : starEach (e :: es) X.env = (false, eval e X.env) :: starEach es X.env := by rfl) (hpl : (backTo pos (starEach es X.env)).any (·.1) = false := by rfl) : QE Z G X (.Call (.Name x p) (e :: es) [] pos) (dCB g ta) := by
  obtain ⟨r, hc, hr⟩ := c
  exact ⟨fun W tk => pe_of (pe_callTy hc hg hm hv (ha.pa W tk) hn hdb he hpl) (dcb_lift (f := .type T) hr)⟩
theorem rds_one {K : PySem.W.Frag} {H : Hp} {d : D} {vs : List V} (r : RDs K H [d] vs) : ∃ v, vs = [v] ∧ RD K H d v := by
  rw [RDs] at r
  obtain ⟨v, w, rfl, r1, r2⟩ := r
  rw [RDs] at r2
  subst r2
  exact ⟨v, rfl, r1⟩
theorem rds_two {K : PySem.W.Frag} {H : Hp} {d e : D} {vs : List V} (r : RDs K H [d, e] vs) : ∃ v u, vs = [v, u] ∧ RD K H d v ∧ RD K H e u := by
  rw [RDs] at r
  obtain ⟨v, w, rfl, r1, r2⟩ := r
  obtain ⟨u, rfl, r3⟩ := rds_one r2
  exact ⟨v, u, rfl, r1, r3⟩
def lenD : List D → DM → DQ → Prop := fun ds M R => match ds with
  | [.str s] => s.length ≤ sizeLine ∧ R (.int s.length) M
  | [.tup xs] => R (.int xs.length) M
  | [.ref a] => ∃ xs, M a = some (.lst xs) ∧ R (.int xs.length) M
  | _ => False
theorem c_len (hK : X.K = Z.K) : CallD Z X (.builtin "len") lenD := by
  refine ⟨_, call_len, fun H M vs ds R Q hr rd g k => ?_⟩
  unfold lenD at g
  split at g
  · rename_i s
    obtain ⟨v, rfl, r1⟩ := rds_one rd
    rw [rd_str r1]
    refine ⟨_, s.length, rfl, ⟨by rw [sV_len]; exact g.1, (sV_len s)⟩, k _ _ _ _ g.2 hr.stay mk_int⟩
  · rename_i xs
    obtain ⟨v, rfl, r1⟩ := rds_one rd
    obtain ⟨p, vs, rfl, s, r⟩ := rd_tp r1
    exact ⟨_, xs.length, rfl, .inr ⟨vs, hK ▸ s, r.length.symm⟩, k _ _ _ _ g hr.stay mk_int⟩
  · rename_i a
    obtain ⟨v, rfl, r1⟩ := rds_one rd
    obtain ⟨xs, e, g⟩ := g
    obtain ⟨vs, e1, r⟩ := hr.at_lst e
    rw [rd_ref r1]
    exact ⟨_, xs.length, rfl, .inl ⟨vs, SqL.of e1, r.length.symm⟩, k _ _ _ _ g hr.stay mk_int⟩
  · exact g.elim
def minD : List D → DM → DQ → Prop := fun ds M R => match ds with
  | [.int i, .int j] => R (.int (if j < i then j else i)) M
  | _ => False
def maxD : List D → DM → DQ → Prop := fun ds M R => match ds with
  | [.int i, .int j] => R (.int (if j > i then j else i)) M
  | _ => False
def absD : List D → DM → DQ → Prop := fun ds M R => match ds with
  | [.int i] => R (.int (if i < 0 then -i else i)) M
  | _ => False
def intD : List D → DM → DQ → Prop := fun ds M R => match ds with
  | [.int i] => R (.int i) M
  | [.bl b] => R (.int (if b then 1 else 0)) M
  | [.str s] => ∃ n, PySem.intText? (sV s) = some n ∧ s.length ≤ 640 ∧ R (.int n) M
  | _ => False
def strInt (i : Int) : List Nat := (toString i : Str).cps.toList
def strD : List D → DM → DQ → Prop := fun ds M R => match ds with
  | [.int i] => i.natAbs.log2 < 1920 ∧ R (.str (strInt i)) M
  | _ => False
theorem c_min (hc : X.calm = true) : CallD Z X (.builtin "min") minD := by
  refine ⟨_, call_min2 hc, fun H M vs ds R Q hr rd g k => ?_⟩
  unfold minD at g
  split at g
  · obtain ⟨v, u, rfl, r1, r2⟩ := rds_two rd
    rw [rd_int r1, rd_int r2]
    exact ⟨_, _, rfl, k _ _ _ _ g hr.stay mk_int⟩
  · exact g.elim
theorem c_max (hc : X.calm = true) : CallD Z X (.builtin "max") maxD := by
  refine ⟨_, call_max2 hc, fun H M vs ds R Q hr rd g k => ?_⟩
  unfold maxD at g
  split at g
  · obtain ⟨v, u, rfl, r1, r2⟩ := rds_two rd
    rw [rd_int r1, rd_int r2]
    exact ⟨_, _, rfl, k _ _ _ _ g hr.stay mk_int⟩
  · exact g.elim
theorem c_abs : CallD Z X (.builtin "abs") absD := by
  refine ⟨_, call_abs, fun H M vs ds R Q hr rd g k => ?_⟩
  unfold absD at g
  split at g
  · obtain ⟨v, rfl, r1⟩ := rds_one rd
    rw [rd_int r1]
    exact ⟨_, rfl, k _ _ _ _ g hr.stay mk_int⟩
  · exact g.elim
theorem CallR.or {f : Value} {r r' : List V → Hp → VK → Prop} (h : CallR X f r) (h' : CallR X f r') : CallR X f (fun vs H Q => r vs H Q ∨ r' vs H Q) := by
  intro pz s σ H xs uz Q I rs q
  rcases q with q | q
  · exact h pz s σ H xs uz Q I rs q
  · exact h' pz s σ H xs uz Q I rs q
theorem c_int : CallD Z X (.type "int") intD := by
  refine ⟨_, CallR.or call_int1 call_int_str, fun H M vs ds R Q hr rd g k => ?_⟩
  unfold intD at g
  split at g
  · obtain ⟨v, rfl, r1⟩ := rds_one rd
    rw [rd_int r1]
    exact .inl (.inl ⟨_, rfl, k _ _ _ _ g hr.stay mk_int⟩)
  · obtain ⟨v, rfl, r1⟩ := rds_one rd
    rw [rd_bl r1]
    exact .inl (.inr ⟨_, rfl, k _ _ _ _ g hr.stay mk_int⟩)
  · rename_i s
    obtain ⟨v, rfl, r1⟩ := rds_one rd
    obtain ⟨n, e, l, g⟩ := g
    rw [rd_str r1]
    exact .inr ⟨_, n, rfl, e, by rw [sV_len]; exact l, k _ _ _ _ g hr.stay mk_int⟩
  · exact g.elim
theorem sV_back (x : Str) : sV x.cps.toList = x := by cases x; simp [sV]
theorem c_str : CallD Z X (.type "str") strD := by
  refine ⟨_, call_str_int, fun H M vs ds R Q hr rd g k => ?_⟩
  unfold strD at g
  split at g
  · obtain ⟨v, rfl, r1⟩ := rds_one rd
    rw [rd_int r1]
    refine ⟨_, rfl, g.1, k _ _ _ _ g.2 hr.stay ?_⟩
    rw [RD, strInt, sV_back]
  · exact g.elim
def tupleD : List D → DM → DQ → Prop := fun ds M R => match ds with
  | [.tup xs] => R (.tup xs) M
  | [.ref a] => ∃ xs M2, M a = some (.lst xs) ∧ MSub M2 M ∧ R (.tup xs) M2
  | _ => False
theorem c_tuple (hK : X.K = Z.K) : CallD Z X (.type "tuple") tupleD := by
  refine ⟨_, call_tuple_of, fun H M vs ds R Q hr rd g k => ?_⟩
  unfold tupleD at g
  split at g
  · rename_i xs
    obtain ⟨v, rfl, r1⟩ := rds_one rd
    obtain ⟨p, vs, rfl, s, r⟩ := rd_tp r1
    exact ⟨p, vs, rfl, .inr ⟨hK ▸ s, k _ _ _ _ g hr.stay (mk_tup s r)⟩⟩
  · rename_i a
    obtain ⟨v, rfl, r1⟩ := rds_one rd
    obtain ⟨xs, M2, e, sb, g⟩ := g
    obtain ⟨vs, e1, r⟩ := hr.at_lst e
    rw [rd_ref r1]
    exact ⟨a, vs, rfl, .inl ⟨SqL.of e1, fun l hl => k _ _ _ _ g ((hr.laid hl).sub sb) (rd_tup hl r)⟩⟩
  · exact g.elim
def listD : List D → DM → DQ → Prop := fun ds M R => match ds with
  | [.tup xs] => ∀ p, M p = none → R (.ref p) (mupd M p (.lst xs))
  | [.ref a] => ∃ xs, M a = some (.lst xs) ∧ ∀ p, M p = none → R (.ref p) (mupd M p (.lst xs))
  | _ => False
theorem c_list (hK : X.K = Z.K) : CallD Z X (.type "list") listD := by
  refine ⟨_, call_list_of, fun H M vs ds R Q hr rd g k => ?_⟩
  unfold listD at g
  split at g
  · rename_i xs
    obtain ⟨v, rfl, r1⟩ := rds_one rd
    obtain ⟨p, vs, rfl, s, r⟩ := rd_tp r1
    exact ⟨p, vs, rfl, .inr (hK ▸ s), fun l hl => k _ _ _ _ (g l (hr.free hl)) (hr.lst hl r) mk_ref⟩
  · rename_i a
    obtain ⟨v, rfl, r1⟩ := rds_one rd
    obtain ⟨xs, e, g⟩ := g
    obtain ⟨vs, e1, r⟩ := hr.at_lst e
    rw [rd_ref r1]
    exact ⟨a, vs, rfl, .inl (SqL.of e1), fun l hl => k _ _ _ _ (g l (hr.free hl)) (hr.lst hl r) mk_ref⟩
  · exact g.elim
end
end DL

set_option Elab.async false
set_option linter.all false
set_option maxRecDepth 100000
namespace DL
open PySem PySem.Spec PyProof.Rows L2

section
variable {Z : ZP} {G : Hp} {X : Cx} {pos p : Pos} {tg e e2 : Expr} {te : DE} {ta : DA}
def anyM : DM → Prop := fun _ => True
def dIter (te : DE) : DI := fun W ρ M R => te W ρ M fun d M1 => match d with
  | .tup ds => R ds anyM M1
  | .ref a => ∃ ds, M1 a = some (.lst ds) ∧ R ds (fun M => M a = some (.lst ds)) M1
  | .str s => R (s.map fun c => .str [c]) anyM M1
  | _ => False
theorem it_tup {H0 : Hp} {a : Addr} {ds : List D} {vs : List V} (s : SqT Z.K H0 a vs) (r : RDs Z.K H0 ds vs) : ItD Z H0 (Itt Z.K a) ds anyM := fun i H M kp hr _ => by
  have s' := kp _ _ s
  have r' := RDs.keep kp _ _ r
  have hl := r.length
  refine ⟨fun hi => ⟨vs, vs[i], s', by rw [List.getElem?_eq_getElem]⟩, fun hi => ⟨vs, s', by omega⟩, fun x H' _ ⟨eH, hx⟩ => ?_⟩
  subst eH
  have e1 := hx vs s'
  have hi : i < ds.length := by rw [← hl]; exact (List.getElem?_eq_some_iff.mp e1).1
  obtain ⟨v, e2, rd⟩ := r'.get (List.getElem?_eq_getElem hi)
  rw [e1] at e2; cases e2
  exact ⟨_, List.getElem?_eq_getElem hi, hr.stay, rd⟩
theorem it_lst {H0 : Hp} {a : Addr} {ds : List D} : ItD Z H0 (Itl Z.K a) ds (fun M => M a = some (.lst ds)) := fun i H M kp hr g => by
  obtain ⟨vs, e0, r'⟩ := hr.at_lst g
  have s' : SqL Z.K H a vs := SqL.of e0
  have hl := r'.length
  refine ⟨fun hi => ⟨vs, vs[i], s', by rw [List.getElem?_eq_getElem]⟩, fun hi => ⟨vs, s', by omega⟩, fun x H' _ ⟨eH, hx⟩ => ?_⟩
  subst eH
  have e1 := hx vs s'
  have hi : i < ds.length := by rw [← hl]; exact (List.getElem?_eq_some_iff.mp e1).1
  obtain ⟨v, e2, rd⟩ := r'.get (List.getElem?_eq_getElem hi)
  rw [e1] at e2; cases e2
  exact ⟨_, List.getElem?_eq_getElem hi, hr.stay, rd⟩
theorem it_str {H0 : Hp} {s : List Nat} : ItD Z H0 (Its (sV s)) (s.map fun c => .str [c]) anyM := fun i H M kp hr _ => by
  have hz : (sV s).cps.size = s.length := by simp [sV]
  refine ⟨fun hi => ?_, fun hi => ?_, fun x H' _ ⟨eH, c, hc, ex⟩ => ?_⟩
  · show i < (sV s).cps.size
    rw [hz]; simpa using hi
  · show (sV s).cps.size ≤ i
    rw [hz]; simpa using hi
  · subst eH
    have hc' : s[i]? = some c := by simpa [sV] using hc
    exact ⟨.str [c], by rw [List.getElem?_map, hc']; rfl, hr.stay, by rw [RD, ex]; rfl⟩
theorem it_rng {H0 : Hp} {lo : Int} {n : Nat} : ItD Z H0 (Itr lo n) ((List.range n).map fun i => D.int (lo + (i : Nat))) anyM := fun i H M kp hr _ => by
  refine ⟨fun hi => ?_, fun hi => ?_, fun x H' hi ⟨eH, ex⟩ => ?_⟩
  · show i < n
    simpa using hi
  · show n ≤ i
    simpa using hi
  · subst eH
    have hi' : i < n := by simpa using hi
    exact ⟨.int (lo + i), by rw [List.getElem?_map, List.getElem?_range hi']; rfl, hr.stay, by rw [RD]; exact ex⟩
theorem qi_any (hK : X.K = Z.K) (he : QE Z G X e te) : QI Z G X tg e (dIter te) := by
  refine ⟨fun W tk => ⟨fun pz s σ H R I h => ?_⟩⟩
  obtain ⟨ρ, M, Rd, rl, h, k⟩ := h
  refine thn ((he.pe W tk).run pz s σ H (fun v H1 => ∃ d M1, (match d with
    | .tup ds => Rd ds anyM M1
    | .ref a => ∃ ds, M1 a = some (.lst ds) ∧ Rd ds (fun M => M a = some (.lst ds)) M1
    | .str s => Rd (s.map fun c => .str [c]) anyM M1
    | _ => False) ∧ Nx Z H H1 M1 ∧ RD Z.K H1 d v) I ⟨ρ, M, _, rl, h, fun d M1 v H1 h1 n1 r1 => ⟨d, M1, h1, n1, r1⟩⟩) fun v s1 ⟨x, H1, J1, r1, d, M1, h1, n1, rd⟩ => ?_
  split at h1
  · rename_i ds
    obtain ⟨a, vs, rfl, sq, r⟩ := rd_tp rd
    have q := k ds anyM M1 (Itt X.K a) H1 h1 n1 (by rw [hK]; exact it_tup sq r)
    have sq' : SqT X.K H1 a vs := hK ▸ sq
    cases r1
    obtain ⟨iz, rv, p, hz⟩ := J1.tuple sq'
    refine wpAny_pyIter_tuple (show s1.heap.IsTuple a iz.toArray from p) ?_
    refine ⟨s1.heap.objs.size, [s1.heap.objs.size], _, _, H1, rfl, J1.kept (t' := s1.toks) fun b o e => Heap.get?_push_of_some _ e, turn_tuple a _, ⟨_, Heap.get?_push_size _ rfl, rfl, rfl⟩, fun b hb => ?_, q⟩
    have e : b = s1.heap.objs.size := by simpa using hb
    subst e
    exact J1.fpOk (Nat.le_refl _) (J1.hok.fresh (Nat.le_refl _))
  · rename_i a
    obtain ⟨ds, e0, h1⟩ := h1
    obtain ⟨vs, e1, r⟩ := n1.here.at_lst e0
    have q := k ds _ M1 (Itl X.K a) H1 h1 n1 (by rw [hK]; exact it_lst)
    rw [rd_ref rd] at r1
    cases r1
    obtain ⟨iz, rv, p, hz⟩ := J1.list (SqL.of e1)
    refine wpAny_pyIter_list p.isList ?_
    refine ⟨s1.heap.objs.size, [s1.heap.objs.size], _, _, H1, rfl, J1.kept (t' := s1.toks) fun b o e => Heap.get?_push_of_some _ e, turn_list a _, ⟨_, Heap.get?_push_size _ rfl, rfl, rfl⟩, fun b hb => ?_, q⟩
    have e : b = s1.heap.objs.size := by simpa using hb
    subst e
    exact J1.fpOk (Nat.le_refl _) (J1.hok.fresh (Nat.le_refl _))
  · rename_i z
    have q := k _ anyM M1 (Its (sV z)) H1 h1 n1 it_str
    rw [rd_str rd] at r1
    obtain ⟨t, rfl⟩ := r1
    cases ha : (sV z).cps.all (· < 128)
    · exact wpAny_pyIter_wide ha (pi_one (tk := s1.toks) J1 _ (turn_str _ (sV z) t "str_iterator" (.inr rfl)) ⟨_, Heap.get?_push_size _ rfl, rfl, rfl⟩ q)
    · exact wpAny_pyIter_ascii ha (pi_one (tk := s1.toks) J1 _ (turn_str _ (sV z) t "str_ascii_iterator" (.inl rfl)) ⟨_, Heap.get?_push_size _ rfl, rfl, rfl⟩ q)
  · exact h1.elim
def dRng1 (ta : DA) : DI := fun W ρ M R => ta W ρ M fun ds M1 => match ds with
  | [.int j] => (-(2 ^ 62) ≤ j ∧ j < 2 ^ 62) ∧ R ((List.range j.toNat).map fun i => D.int (0 + (i : Nat))) anyM M1
  | _ => False
def dRng2 (ta : DA) : DI := fun W ρ M R => ta W ρ M fun ds M1 => match ds with
  | [.int i, .int j] => (-(2 ^ 62) ≤ i ∧ i < 2 ^ 62 ∧ -(2 ^ 62) ≤ j ∧ j < 2 ^ 62) ∧ R ((List.range (j - i).toNat).map fun k => D.int (i + (k : Nat))) anyM M1
  | _ => False
theorem qi_range1 (hm : X.mg "range" = none) (ha : QA Z G X [e] ta) (hg : Gl X "range" := by rfl) (hs : starEach [e] X.env = [(false, eval e X.env)] := by rfl) : QI Z G X tg (.Call (.Name "range" p) [e] [] pos) (dRng1 ta) := by
  refine ⟨fun W tk => pi_of (pi_range1 hg hm (ha.pa W tk) hs) fun σ H R ⟨ρ, M, Rd, rl, h, k⟩ => ?_⟩
  refine ⟨ρ, M, _, rl, h, fun ds M1 vs H1 h1 n1 r1 => ?_⟩
  split at h1
  · rename_i j
    obtain ⟨v, rfl, rv⟩ := rds_one r1
    rw [rd_int rv]
    exact ⟨j, rfl, h1.1.1, h1.1.2, k _ _ _ _ _ h1.2 n1 it_rng⟩
  · exact h1.elim
theorem qi_range2 (hm : X.mg "range" = none) (ha : QA Z G X [e, e2] ta) (hg : Gl X "range" := by rfl) (hs : starEach [e, e2] X.env = [(false, eval e X.env), (false, eval e2 X.env)] := by rfl) (hs2 : starEach [e2] X.env = [(false, eval e2 X.env)] := by rfl) : QI Z G X tg (.Call (.Name "range" p) [e, e2] [] pos) (dRng2 ta) := by
  refine ⟨fun W tk => pi_of (pi_range2 hg hm (ha.pa W tk) hs hs2) fun σ H R ⟨ρ, M, Rd, rl, h, k⟩ => ?_⟩
  refine ⟨ρ, M, _, rl, h, fun ds M1 vs H1 h1 n1 r1 => ?_⟩
  split at h1
  · rename_i i j
    obtain ⟨v, u, rfl, rv, ru⟩ := rds_two r1
    rw [rd_int rv, rd_int ru]
    exact ⟨i, j, rfl, h1.1, k _ _ _ _ _ h1.2 n1 it_rng⟩
  · exact h1.elim
def zipD (xs ys : List D) : List D := (xs.zip ys).map fun p => .tup [p.1, p.2]
def dZip (ta : DA) : DI := fun W ρ M R => ta W ρ M fun ds M1 => match ds with
  | [.tup xs, .tup ys] => R (zipD xs ys) anyM M1
  | [.ref a, .ref b] => ∃ xs ys, M1 a = some (.lst xs) ∧ M1 b = some (.lst ys) ∧ R (zipD xs ys) (fun M => M a = some (.lst xs) ∧ M b = some (.lst ys)) M1
  | _ => False
theorem zipD_get {xs ys : List D} {i : Nat} {x y : D} (hx : xs[i]? = some x) (hy : ys[i]? = some y) : (zipD xs ys)[i]? = some (.tup [x, y]) := by
  unfold zipD
  rw [List.getElem?_map, List.getElem?_zip_eq_some (z := (x, y)) |>.mpr ⟨hx, hy⟩]
  rfl
theorem zipD_length (xs ys : List D) : (zipD xs ys).length = min xs.length ys.length := by simp [zipD]
theorem it_zip {H0 : Hp} {xs ys : List D} {J : It} {g : DM → Prop} {SA SB : Hp → List V → Prop}
    (hg : ∀ H M, KeepT Z.K H0 H → Here Z H M → g M → ∃ vs uz, SA H vs ∧ SB H uz ∧ RDs Z.K H xs vs ∧ RDs Z.K H ys uz)
    (go : ∀ i H vs uz x y, SA H vs → SB H uz → vs[i]? = some x → uz[i]? = some y → J.go i H) (st : ∀ i H vs uz, SA H vs → SB H uz → (vs.length ≤ i ∨ uz.length ≤ i) → J.stop i H)
    (yl : ∀ i H v H', J.yld i H v H' → ∃ T x y, v = .ref T ∧ H T = none ∧ H' = upd H T (.tup [x, y]) ∧ (∀ xs, SA H xs → xs[i]? = some x) ∧ ∀ ys, SB H ys → ys[i]? = some y) : ItD Z H0 J (zipD xs ys) g := fun i H M kp hr q => by
  obtain ⟨vs, uz, s1, s2, r1, r2⟩ := hg H M kp hr q
  have h1 := r1.length
  have h2 := r2.length
  rw [zipD_length]
  refine ⟨fun hi => ?_, fun hi => st i H vs uz s1 s2 (by omega), fun x H' hi hy => ?_⟩
  · have i1 : i < vs.length := by omega
    have i2 : i < uz.length := by omega
    exact go i H vs uz _ _ s1 s2 (List.getElem?_eq_getElem i1) (List.getElem?_eq_getElem i2)
  · obtain ⟨T, v, u, rfl, hT, rfl, hv, hu⟩ := yl i H x H' hy
    have i1 : i < xs.length := by omega
    have i2 : i < ys.length := by omega
    obtain ⟨v', e1, rd1⟩ := r1.get (List.getElem?_eq_getElem i1)
    obtain ⟨u', e2, rd2⟩ := r2.get (List.getElem?_eq_getElem i2)
    rw [hv vs s1] at e1; cases e1
    rw [hu uz s2] at e2; cases e2
    exact ⟨_, zipD_get (List.getElem?_eq_getElem i1) (List.getElem?_eq_getElem i2), hr.laid hT, rd_tup hT (RDs.cons rd1 (RDs.cons rd2 RDs.nil))⟩
theorem qi_zip {elts : List Expr} {kk : Nat} {tpos : Pos} (hK : X.K = Z.K) (hm : X.mg "zip" = none) (ha : QA Z G X [e, e2] ta) (hg : Gl X "zip" := by rfl)
    (hs : starEach [e, e2] X.env = (false, eval e X.env) :: starEach [e2] X.env := by rfl) (hpl : (backTo pos (starEach [e2] X.env)).any (·.1) = false := by rfl) : QI Z G X (.Tuple elts kk tpos) (.Call (.Name "zip" p) [e, e2] [] pos) (dZip ta) := by
  refine ⟨fun W tk => pi_of (RZ.pi_zipA hg hm (ha.pa W tk) hs hpl) fun σ H R ⟨ρ, M, Rd, rl, h, k⟩ => ?_⟩
  refine ⟨ρ, M, _, rl, h, fun ds M1 vs H1 h1 n1 r1 => ?_⟩
  split at h1
  · rename_i xs ys
    obtain ⟨v, u, rfl, rv, ru⟩ := rds_two r1
    obtain ⟨a, ws, rfl, s1, q1⟩ := rd_tp rv
    obtain ⟨b, zs, rfl, s2, q2⟩ := rd_tp ru
    refine ⟨a, b, ws, zs, rfl, .inr ⟨hK ▸ s1, hK ▸ s2, k _ anyM M1 _ _ h1 n1 ?_⟩⟩
    rw [hK]
    refine it_zip (SA := fun H vs => SqT Z.K H a vs) (SB := fun H vs => SqT Z.K H b vs) (fun H M kp hr _ => ⟨ws, zs, kp _ _ s1, kp _ _ s2, RDs.keep kp _ _ q1, RDs.keep kp _ _ q2⟩) (fun i H vs uz x y g1 g2 g3 g4 => ⟨vs, uz, x, y, g1, g2, g3, g4⟩) (fun i H vs uz g1 g2 g3 => ⟨vs, uz, g1, g2, g3⟩) (fun i H v H' q => q)
  · rename_i a b
    obtain ⟨v, u, rfl, rv, ru⟩ := rds_two r1
    obtain ⟨xs, ys, e1, e2, h1⟩ := h1
    obtain ⟨ws, f1, q1⟩ := n1.here.at_lst e1
    obtain ⟨zs, f2, q2⟩ := n1.here.at_lst e2
    rw [rd_ref rv, rd_ref ru]
    refine ⟨a, b, ws, zs, rfl, .inl ⟨SqL.of f1, SqL.of f2, k _ _ M1 _ _ h1 n1 ?_⟩⟩
    refine it_zip (SA := fun H vs => SqL X.K H a vs) (SB := fun H vs => SqL X.K H b vs) (fun H M kp hr g => ?_) (fun i H vs uz x y g1 g2 g3 g4 => ⟨vs, uz, x, y, g1, g2, g3, g4⟩) (fun i H vs uz g1 g2 g3 => ⟨vs, uz, g1, g2, g3⟩) (fun i H v H' q => q)
    obtain ⟨vs, f3, q3⟩ := hr.at_lst g.1
    obtain ⟨uz, f4, q4⟩ := hr.at_lst g.2
    exact ⟨vs, uz, SqL.of f3, SqL.of f4, q3, q4⟩
  · exact h1.elim
end
end DL

set_option Elab.async false
set_option linter.all false
set_option maxRecDepth 100000
namespace DL
open PySem PySem.Spec PyProof.Rows L2

def wipeD (ρ : Env) : List Nat → Env
  | [] => ρ
  | v :: vs => (wipeD ρ vs).set v none
theorem wipe_get {σ : L2.St} {j : Nat} : ∀ {vs : List Nat}, (wipe σ vs)[j]? = if j ∈ vs ∧ j < σ.length then some none else σ[j]?
  | [] => by simp [wipe]
  | v :: vs => by
    unfold wipe
    have ih := wipe_get (σ := σ) (j := j) (vs := vs)
    by_cases hv : v = j
    · subst hv
      by_cases hl : v < σ.length
      · rw [List.getElem?_set_self (by rw [wipe_length]; exact hl), if_pos ⟨List.mem_cons_self, hl⟩]
      · rw [List.getElem?_eq_none (by rw [List.length_set, wipe_length]; omega), if_neg (fun h => hl h.2), List.getElem?_eq_none (by omega)]
    · rw [List.getElem?_set_ne hv, ih]
      have e : (j ∈ v :: vs) ↔ j ∈ vs := by simp [Ne.symm hv]
      by_cases h : j ∈ vs ∧ j < σ.length
      · rw [if_pos h, if_pos ⟨e.mpr h.1, h.2⟩]
      · rw [if_neg h, if_neg (fun q => h ⟨e.mp q.1, q.2⟩)]
theorem wipe_wipe {σ : L2.St} {vs : List Nat} : wipe (wipe σ vs) vs = wipe σ vs := by
  apply List.ext_getElem?
  intro j
  rw [wipe_get, wipe_length]
  by_cases h : j ∈ vs ∧ j < σ.length
  · rw [if_pos h, wipe_get, if_pos h]
  · rw [if_neg h]
theorem wipe_set {σ : L2.St} {vs : List Nat} {i : Nat} {x : Option V} (h : i ∈ vs) : wipe (σ.set i x) vs = wipe σ vs := by
  apply List.ext_getElem?
  intro j
  rw [wipe_get, wipe_get, List.length_set]
  by_cases hj : j ∈ vs ∧ j < σ.length
  · rw [if_pos hj, if_pos hj]
  · rw [if_neg hj, if_neg hj]
    by_cases e : i = j
    · subst e
      have : ¬ i < σ.length := fun q => hj ⟨h, q⟩
      rw [List.getElem?_eq_none (by rw [List.length_set]; omega), List.getElem?_eq_none (by omega)]
    · rw [List.getElem?_set_ne e]
section
variable {K : PySem.W.Frag} {H : Hp}
theorem RSt.wipe {σ : L2.St} {ρ : Env} (h : RSt K H σ ρ) : ∀ vs, RSt K H (L2.wipe σ vs) (wipeD ρ vs)
  | [] => h
  | v :: vs => by
    have ih := RSt.wipe h vs
    refine ⟨by unfold L2.wipe wipeD; rw [List.length_set, List.length_set]; exact ih.1, fun i d e => ?_⟩
    unfold wipeD at e
    unfold L2.wipe
    by_cases hv : v = i
    · subst hv
      by_cases hl : v < (wipeD ρ vs).length
      · rw [List.getElem?_set_self hl] at e; cases e
      · rw [List.getElem?_eq_none (by rw [List.length_set]; omega)] at e; cases e
    · rw [List.getElem?_set_ne hv] at e ⊢
      exact ih.2 i d e
end
def CGok (Z : ZP) (vs : List Nat) (g : TG) (gd : DG) : Prop := ∀ (σ : L2.St) (H : Hp) (ρ : Env) (M : DM) (v : V) (d : D) (R : Env → DM → Prop) (Q : L2.St → Hp → Prop), wipe σ vs = σ → RSt Z.K H σ ρ → RD Z.K H d v → gd d ρ M R →
  (∀ σ2 ρ2, wipe σ2 vs = σ → RSt Z.K H σ2 ρ2 → R ρ2 M → Q σ2 H) → g v σ H Q
theorem cg_name {Z : ZP} {i : Nat} : CGok Z [i] (gName i) (gN i) := fun σ H ρ M v d R Q hw hs rd h k => by
  refine k _ _ ?_ (hs.set rd) h
  rw [wipe_set (by simp), hw]
def gAll : List Nat → TGs
  | [] => gNil
  | i :: is => gCons (gName i) (gAll is)
def gdAll : List Nat → DGs
  | [] => gsNil
  | i :: is => gsCons (gN i) (gdAll is)
theorem cg_all {Z : ZP} {vs0 : List Nat} : ∀ (is : List Nat), (∀ i ∈ is, i ∈ vs0) → ∀ (σ0 σ : L2.St) (H : Hp) (ρ : Env) (M : DM) (vs : List V) (ds : List D) (R : Env → DM → Prop) (Q : L2.St → Hp → Prop), wipe σ vs0 = σ0 → RSt Z.K H σ ρ → RDs Z.K H ds vs → gdAll is ds ρ M R →
    (∀ σ2 ρ2, wipe σ2 vs0 = σ0 → RSt Z.K H σ2 ρ2 → R ρ2 M → Q σ2 H) → gAll is vs σ H Q
  | [], _, σ0, σ, H, ρ, M, vs, ds, R, Q, hw, hs, rd, h, k => by
    cases ds with
    | nil => rw [RDs] at rd; exact ⟨rd, k σ ρ hw hs h⟩
    | cons d r => exact h.elim
  | i :: is, hi, σ0, σ, H, ρ, M, vs, ds, R, Q, hw, hs, rd, h, k => by
    cases ds with
    | nil => exact h.elim
    | cons d r =>
      rw [RDs] at rd
      obtain ⟨v, w, rfl, r1, r2⟩ := rd
      exact ⟨v, w, rfl, cg_all is (fun j hj => hi j (List.mem_cons_of_mem _ hj)) σ0 _ H _ M w r R Q (by rw [wipe_set (hi i List.mem_cons_self)]; exact hw) (hs.set r1) r2 h k⟩
theorem cg_tup {Z : ZP} {n : Nat} {is : List Nat} : CGok Z is (gTup Z.K n (gAll is)) (gTp n (gdAll is)) := fun σ H ρ M v d R Q hw hs rd h k => by
  cases d with
  | tup ds =>
    obtain ⟨a, vs, rfl, s, r⟩ := rd_tp rd
    exact ⟨a, vs, rfl, s, by rw [r.length]; exact h.1, cg_all is (fun i hi => hi) σ σ H ρ M vs ds R Q hw hs r h.2 k⟩
  | _ => exact h.elim
abbrev noW : DW := fun _ _ _ _ => False
theorem takes_no {Z : ZP} {G : Hp} {X : Cx} : Takes X (lW Z G noW) := fun _ _ x => by
  obtain ⟨_, _, _, _, _, _, _, _, _, _, _, _, _, _, _, _, _, _, _, _, _, _, _, z⟩ := x
  exact z.elim
structure QTs (Z : ZP) (G : Hp) (X : Cx) (ifs : List Expr) (t : DT) : Prop where
  pts : PTs X ifs (lT Z G (t noW))
def dYes : DT := fun _ _ M R => R true M
theorem qts_nil {Z : ZP} {G : Hp} {X : Cx} : QTs Z G X [] dYes := ⟨⟨fun pins s σ H Q I ⟨ρ, M, R, rl, h, k⟩ => wpAny_tests_nil ⟨H, I, k true M H h rl.stay⟩⟩⟩
theorem qts_one {Z : ZP} {G : Hp} {X : Cx} {c : Expr} {t : DT} (h : QT Z G X c t) : QTs Z G X [c] t := ⟨pts_one (h.pt noW takes_no)⟩
def lcF (g : DG) (tt : DT) (te : DE) (gd : DM → Prop) (D0 : Addr) (ρ : Env) (K : DM → Prop) : List D → DM → Prop
  | [], M => gd M ∧ K M
  | x :: r, M => gd M ∧ g x ρ M fun ρ1 M1 => tt noW ρ1 M1 fun b M2 => match b with
    | true => te noW ρ1 M2 fun d M3 => ∃ acc, M3 D0 = some (.lst acc) ∧ acc.length < sizeLine ∧ lcF g tt te gd D0 ρ K r (mupd M3 D0 (.lst (acc ++ [d])))
    | false => lcF g tt te gd D0 ρ K r M2
def dLc (ti : DI) (g : DG) (tt : DT) (te : DE) (vs : List Nat) : DE := fun W ρ M R => ti W ρ M fun xs gd M1 => ∀ D0, M1 D0 = none → lcF g tt te gd D0 (wipeD ρ vs) (fun M2 => R (.ref D0) M2) xs (mupd M1 D0 (.lst []))
section
variable {Z : ZP} {G : Hp} {X : Cx} {pos : Pos} {elt tg iter : Expr} {ifs : List Expr} {scope : Scope} {own : List (Str × Nat)} {ti : DI} {gd : DG} {g : TG} {tt : DT} {te : DE}
theorem lc_lift {W : DW} {vs : List Nat} (cg : CGok Z vs g gd) (σ : L2.St) (H : Hp) (Q : VK) (h : lE Z G (dLc ti gd tt te vs W) σ H Q) : tLc (lI Z G (ti W)) g (lT Z G (tt noW)) (lE Z G (te noW)) vs σ H Q := by
  obtain ⟨ρ, M, R, rl, h, k⟩ := h
  refine ⟨ρ, M, _, rl, h, fun xs gg M1 J H1 h1 n1 it D0 hD => ?_⟩
  have h2 := h1 D0 (n1.here.free hD)
  have nD := n1.here.lst hD (RDs.nil (K := Z.K) (H := H1))
  have r1 := (rl.nx n1).nx nD
  refine ⟨fun i m H' => ∃ M', m = xs.length - i ∧ i ≤ xs.length ∧ KeepT Z.K H1 H' ∧ Rel Z G (wipe σ vs) H' (wipeD ρ vs) M' ∧ lcF gd tt te gg D0 (wipeD ρ vs) (fun M2 => R (.ref D0) M2) (xs.drop i) M', ⟨xs.length, _, by simp, Nat.zero_le _, nD.kp, ⟨r1.kp, r1.st.wipe vs, r1.mm, r1.tb⟩, by simpa using h2⟩, ?_⟩
  rintro i m H' ⟨M', rfl, hi', kp, r', hl⟩
  by_cases hlt : i < xs.length
  · rw [List.drop_eq_getElem_cons hlt] at hl
    obtain ⟨gd', hl⟩ := hl
    obtain ⟨i1, i2, i3⟩ := it i H' M' kp r'.here gd'
    refine .inr ⟨i1 hlt, fun H2 => ∃ M2, KeepT Z.K H1 H2 ∧ Rel Z G (wipe σ vs) H2 (wipeD ρ vs) M2 ∧ lcF gd tt te gg D0 (wipeD ρ vs) (fun M2 => R (.ref D0) M2) (xs.drop (i + 1)) M2, fun H2 ⟨M2, kp2, r2, l2⟩ => ⟨xs.length - (i + 1), by omega, M2, rfl, hlt, kp2, r2, l2⟩, fun x Hx hx => ?_⟩
    obtain ⟨d, e1, n2, rd⟩ := i3 x Hx hlt hx
    have e2 : xs[i] = d := by rw [List.getElem?_eq_getElem hlt] at e1; exact Option.some.inj e1
    subst e2
    have rx := r'.nx n2
    refine cg (wipe σ vs) Hx (wipeD ρ vs) M' x _ _ _ wipe_wipe rx.st rd hl fun σ2 ρ2 hw hs hq => ⟨hw, ?_⟩
    have kpx := kp.trans n2.kp
    refine ⟨ρ2, M', _, ⟨rx.kp, hs, rx.mm, rx.tb⟩, hq, fun b M2 H2 h2 nx2 => ?_⟩
    cases b with
    | true =>
      rw [if_pos rfl]
      refine ⟨ρ2, M2, _, ⟨rx.kp.trans nx2.kp, hs.keep nx2.kp, nx2.mm, nx2.tb⟩, h2, fun d M3 v H3 h3 n3 rd3 => ?_⟩
      obtain ⟨acc, e3, hz, l3⟩ := h3
      obtain ⟨ws, e4, r4⟩ := n3.here.at_lst e3
      have k3 : KeepT Z.K H3 (L2.upd H3 D0 (.lst (ws ++ [v]))) := keepT_mut e4 rfl
      have n4 := n3.here.mut (u := .lst (ws ++ [v])) (m := .lst (acc ++ [d])) e4 rfl ⟨_, rfl, RDs.keep k3 _ _ (r4.append (RDs.cons rd3 RDs.nil))⟩
      refine ⟨ws, e4, by rw [r4.length]; exact hz, _, ((kpx.trans nx2.kp).trans n3.kp).trans n4.kp, ?_, l3⟩
      exact ⟨((rx.kp.trans nx2.kp).trans n3.kp).trans n4.kp, ((rx.st.keep nx2.kp).keep n3.kp).keep n4.kp, n4.mm, n4.tb⟩
    | false =>
      rw [if_neg Bool.false_ne_true]
      exact ⟨M2, kpx.trans nx2.kp, rx.nx nx2, h2⟩
  · have e : i = xs.length := by omega
    subst e
    rw [List.drop_length] at hl
    obtain ⟨gd', hl⟩ := hl
    exact .inl ⟨(it _ H' M' kp r'.here gd').2.1 (Nat.le_refl _), k _ _ _ _ hl ⟨n1.kp.trans kp, r'.mm, r'.tb⟩ mk_ref⟩
theorem qe_lc (hc : X.calm = true) (hN : X.N.Nodup) (hi : QI Z G X tg iter ti) (ok : BlkOk X.N X.env.scope scope own) (cg : CGok Z (own.map (·.2)) g gd)
    (hg : ∀ (s : Shared) (H : Hp) (C : Addr) (cl : List (Str × Addr)) (fp : List Addr), PG (X.blk s H scope (compEnvC scope cl C X.env) fp) tg g) (ht : ∀ (s : Shared) (H : Hp) (C : Addr) (cl : List (Str × Addr)) (fp : List Addr), QTs Z G (X.blk s H scope (compEnvC scope cl C X.env) fp) ifs tt)
    (he : ∀ (s : Shared) (H : Hp) (C : Addr) (cl : List (Str × Addr)) (fp : List Addr), QE Z G (X.blk s H scope (compEnvC scope cl C X.env) fp) elt te) (hs : ∀ x, foldedSetIterable iter X.env x = pure x := by intro _; rfl) :
    QE Z G X (.ListComp elt [⟨tg, iter, ifs, 0⟩] scope pos) (dLc ti gd tt te (own.map (·.2))) :=
  ⟨fun W tk => pe_of (pe_lc hc hN (hi.pi W tk) ok hg (fun s H C cl fp => (ht s H C cl fp).pts) (fun s H C cl fp => (he s H C cl fp).pe noW takes_no) hs) (lc_lift cg)⟩
theorem qs_setLc {i : Nat} {y : Str} {py spos : Pos} (hc : X.calm = true) (hN : X.N.Nodup) (hy : X.N[i]? = some y) (hyl : X.env.scope.names.lookup y = some .local)
    (hsw : swapsWith (.ListComp elt [⟨tg, iter, ifs, 0⟩] scope pos) (some (.Name y py)) spos.line X.env = pure true) (hi : QI Z G X tg iter ti) (ok : BlkOk X.N X.env.scope scope own) (cg : CGok Z (own.map (·.2)) g gd)
    (hg : ∀ (s : Shared) (H : Hp) (C : Addr) (cl : List (Str × Addr)) (fp : List Addr), PG (X.blk s H scope (compEnvC scope cl C X.env) fp) tg g) (ht : ∀ (s : Shared) (H : Hp) (C : Addr) (cl : List (Str × Addr)) (fp : List Addr), QTs Z G (X.blk s H scope (compEnvC scope cl C X.env) fp) ifs tt)
    (he : ∀ (s : Shared) (H : Hp) (C : Addr) (cl : List (Str × Addr)) (fp : List Addr), QE Z G (X.blk s H scope (compEnvC scope cl C X.env) fp) elt te) (hs : ∀ x, foldedSetIterable iter X.env x = pure x := by intro _; rfl) :
    QS Z G X (.Assign [.Name y py] (.ListComp elt [⟨tg, iter, ifs, 0⟩] scope pos) spos) (dSet i (dLc ti gd tt te (own.map (·.2)))) := by
  refine ⟨fun W tk => ps_of (ps_setLc hc hN hy hyl hsw (hi.pi W tk) ok hg (fun s H C cl fp => (ht s H C cl fp).pts) (fun s H C cl fp => (he s H C cl fp).pe noW takes_no) hs) fun D σ H ⟨ρ, M, E, rl, h, k1, k2, k3, k4⟩ => ?_⟩
  exact lc_lift cg σ H _ ⟨ρ, M, _, rl, h, fun d M' v H' q n r => k1 _ _ _ _ q n.kp ⟨rl.kp.trans n.kp, (rl.st.keep n.kp).set r, n.mm, n.tb⟩⟩
end
theorem lcF_pure {g : DG} {tt : DT} {te : DE} {gd : DM → Prop} {D0 : Addr} {ρ : Env} {K : DM → Prop} {f : D → D} {M : DM} : ∀ (xs acc : List D), acc.length + xs.length < sizeLine → (∀ acc, gd (mupd M D0 (.lst acc))) →
    (∀ x ∈ xs, ∀ acc R, R (f x) (mupd M D0 (.lst acc)) → g x ρ (mupd M D0 (.lst acc)) fun ρ1 M1 => tt noW ρ1 M1 fun b M2 => match b with
      | true => te noW ρ1 M2 R
      | false => False) → K (mupd M D0 (.lst (acc ++ xs.map f))) → (∀ x (ρ ρ' : Env) M (P Q : Env → DM → Prop), (∀ ρ1 M1, P ρ1 M1 → Q ρ1 M1) → g x ρ M P → g x ρ M Q) → (∀ (ρ : Env) M (P Q : Bool → DM → Prop), (∀ b M1, P b M1 → Q b M1) → tt noW ρ M P → tt noW ρ M Q) →
    lcF g tt te gd D0 ρ K xs (mupd M D0 (.lst acc))
  | [], acc, hz, hg, hf, hk, m1, m2 => ⟨hg _, by simpa using hk⟩
  | x :: r, acc, hz, hg, hf, hk, m1, m2 => by
    refine ⟨hg _, ?_⟩
    have ih := lcF_pure (g := g) (tt := tt) (te := te) (gd := gd) (D0 := D0) (ρ := ρ) (K := K) (f := f) (M := M) r (acc ++ [f x]) (by simp at hz ⊢; omega) hg (fun y hy => hf y (List.mem_cons_of_mem _ hy)) (by simpa using hk) m1 m2
    refine m1 x ρ ρ _ _ _ (fun ρ1 M1 h => m2 ρ1 M1 _ _ (fun b M2 h2 => ?_) h) (hf x List.mem_cons_self acc (fun d M3 => ∃ acc', M3 D0 = some (.lst acc') ∧ acc'.length < sizeLine ∧ lcF g tt te gd D0 ρ K r (mupd M3 D0 (.lst (acc' ++ [d])))) ⟨acc, mupd_same, by simp at hz; omega, by rw [mupd_upd]; exact ih⟩)
    cases b with
    | true => exact h2
    | false => exact h2.elim
end DL

set_option Elab.async false
set_option linter.all false
set_option maxRecDepth 100000
namespace DL
open PySem PySem.Spec PyProof.Rows L2

section
variable {Z : ZP} {G : Hp} {X : Cx} {pos p : Pos} {e : Expr} {es : List Expr} {te : DE} {ta : DA}
def allD : List D → DM → DQ → Prop := fun ds M R => match ds with
  | [.ref a] => ∃ (bs : List Bool) (M2 : DM), M a = some (.lst (bs.map D.bl)) ∧ MSub M2 M ∧ R (.bl (bs.all id)) M2
  | _ => False
def anyD : List D → DM → DQ → Prop := fun ds M R => match ds with
  | [.ref a] => ∃ (bs : List Bool) (M2 : DM), M a = some (.lst (bs.map D.bl)) ∧ MSub M2 M ∧ R (.bl (bs.any id)) M2
  | _ => False
theorem rds_bls {K : PySem.W.Frag} {H : Hp} : ∀ {bs : List Bool} {vs : List V}, RDs K H (bs.map D.bl) vs → vs = bs.map V.bl
  | [], vs, r => by rw [List.map_nil, RDs] at r; exact r
  | b :: bs, vs, r => by
    rw [List.map_cons, RDs] at r
    obtain ⟨v, w, rfl, r1, r2⟩ := r
    rw [rd_bl r1, rds_bls r2]
    rfl
theorem c_all (hc : X.calm = true) : CallD Z X (.builtin "all") allD := by
  refine ⟨_, cr_all hc, fun H M vs ds R Q hr rd g k => ?_⟩
  unfold allD at g
  split at g
  · rename_i a
    obtain ⟨v, rfl, r1⟩ := rds_one rd
    obtain ⟨bs, M2, e, sb, g⟩ := g
    obtain ⟨ws, e1, r⟩ := hr.at_lst e
    rw [rd_ref r1]
    rw [rds_bls r] at e1
    exact ⟨a, bs, rfl, SqL.of e1, k _ _ _ _ g (hr.stay.sub sb) mk_bl⟩
  · exact g.elim
theorem c_any (hc : X.calm = true) : CallD Z X (.builtin "any") anyD := by
  refine ⟨_, cr_any hc, fun H M vs ds R Q hr rd g k => ?_⟩
  unfold anyD at g
  split at g
  · rename_i a
    obtain ⟨v, rfl, r1⟩ := rds_one rd
    obtain ⟨bs, M2, e, sb, g⟩ := g
    obtain ⟨ws, e1, r⟩ := hr.at_lst e
    rw [rd_ref r1]
    rw [rds_bls r] at e1
    exact ⟨a, bs, rfl, SqL.of e1, k _ _ _ _ g (hr.stay.sub sb) mk_bl⟩
  · exact g.elim

def tyD (T : String) (x : D) (M : DM) : Prop := match x with
  | .str _ => T = "str"
  | .ref a => (T = "list" ∧ ∃ xs, M a = some (.lst xs)) ∨ (T = "dict" ∧ ∃ kvs, M a = some (.dcK kvs))
  | _ => False
theorem tyV_of {H : Hp} {M : DM} {x : D} {v : V} {T : String} (hr : Here Z H M) (rd : RD Z.K H x v) (t : tyD T x M) : tyV Z.K T v H := by
  unfold tyD at t
  split at t
  · rw [rd_str rd]; exact t
  · rename_i a
    rw [rd_ref rd]
    rcases t with ⟨e, xs, h⟩ | ⟨e, kvs, h⟩
    · obtain ⟨vs, e1, _⟩ := hr.at_lst h
      exact .inl ⟨e, vs, SqL.of e1⟩
    · obtain ⟨vs, e1, _⟩ := hr.mm _ _ h
      exact .inr (.inr (.inl ⟨e, .inl ⟨_, e1⟩⟩))
  · exact t.elim
def MtD (Z : ZP) (X : Cx) (id : String) (g : D → List D → DM → DQ → Prop) : Prop :=
  ∃ r, MtR X id r ∧ ∀ (H : Hp) (M : DM) (v : V) (x : D) (vs : List V) (ds : List D) (R : DQ) (Q : VK), Here Z H M → RD Z.K H x v → RDs Z.K H ds vs → g x ds M R → (∀ d M' v H', R d M' → Nx Z H H' M' → RD Z.K H' d v → Q v H') → r v vs H Q
def dMt (T : String) (g : D → List D → DM → DQ → Prop) (te : DE) (ta : DA) : DE := fun W ρ M R => te W ρ M fun x M1 => tyD T x M1 ∧ ta W ρ M1 fun ds M2 => g x ds M2 R
def dMt0 (T : String) (g : D → List D → DM → DQ → Prop) (te : DE) : DE := fun W ρ M R => te W ρ M fun x M1 => tyD T x M1 ∧ g x [] M1 R
section
variable {o : Expr} {name : Str} {apos cpos : Pos} {T id : String} {g : D → List D → DM → DQ → Prop}
theorem qe_bm (hK : X.K = Z.K) (pa : PlainAttrs T) (slot : Slot T name id) (hty : typeOf (.builtin id) = pure (.type "method_descriptor")) (hm : MtD Z X id g) (ho : QE Z G X o te) (ha : QA Z G X (e :: es) ta)
    (hbase : attributeBase o name X.env (eval o X.env) = eval o X.env := by rfl)
    (hfew : ((backTo cpos (starEach (e :: es) X.env)).all (fun x => !x.1) && (backToKw cpos (keywordEach [] X.env)).all (fun x => x.1.isSome)
      && decide ((e :: es).length + ([] : List Keyword).length + (if ([] : List Keyword).isEmpty then 0 else 1) < 30)) = true := by rfl)
    (hline : (apos.endLine == cpos.line) = true := by rfl) (hs : starEach (e :: es) X.env = (false, eval e X.env) :: starEach es X.env := by rfl) (hplain : (backTo cpos (starEach es X.env)).any (·.1) = false := by rfl) :
    QE Z G X (.Call (.Attribute o name apos) (e :: es) [] cpos) (dMt T g te ta) := by
  obtain ⟨r, hr, hg⟩ := hm
  refine ⟨fun W tk => pe_of (pe_bm pa slot hty hr (ho.pe W tk) (ha.pa W tk) hbase hfew hline hs hplain) fun σ H Q ⟨ρ, M, R, rl, h, k⟩ => ?_⟩
  refine ⟨ρ, M, _, rl, h, fun x M1 v1 H1 h1 n1 r1 => ⟨by rw [hK]; exact tyV_of n1.here r1 h1.1, ρ, M1, _, rl.nx n1, h1.2, fun ds M2 vs H2 h2 n2 r2 => ?_⟩⟩
  exact hg H2 M2 v1 x vs ds R Q n2.here (RD.keep n2.kp _ _ r1) r2 h2 fun d M' v H' q n rd => k d M' v H' q ((n1.trans n2).trans n) rd
theorem qe_bm0 (hK : X.K = Z.K) (pa : PlainAttrs T) (slot : Slot T name id) (hty : typeOf (.builtin id) = pure (.type "method_descriptor")) (hm : MtD Z X id g) (ho : QE Z G X o te)
    (hbase : attributeBase o name X.env (eval o X.env) = eval o X.env := by rfl) (hline : (apos.endLine == cpos.line) = true := by rfl) :
    QE Z G X (.Call (.Attribute o name apos) [] [] cpos) (dMt0 T g te) := by
  obtain ⟨r, hr, hg⟩ := hm
  refine ⟨fun W tk => pe_of (pe_bm0 pa slot hty hr (ho.pe W tk) hbase hline) fun σ H Q ⟨ρ, M, R, rl, h, k⟩ => ?_⟩
  refine ⟨ρ, M, _, rl, h, fun x M1 v1 H1 h1 n1 r1 => ⟨by rw [hK]; exact tyV_of n1.here r1 h1.1, ?_⟩⟩
  exact hg H1 M1 v1 x [] [] R Q n1.here r1 RDs.nil h1.2 fun d M' v H' q n rd => k d M' v H' q (n1.trans n) rd
end
def appendD : D → List D → DM → DQ → Prop := fun x ds M R => match x, ds with
  | .ref a, [d] => ∃ xs, M a = some (.lst xs) ∧ xs.length < sizeLine ∧ R .non (mupd M a (.lst (xs ++ [d])))
  | _, _ => False
def popD : D → List D → DM → DQ → Prop := fun x ds M R => match x, ds with
  | .ref a, [] => ∃ xs d, M a = some (.lst (xs ++ [d])) ∧ R d (mupd M a (.lst xs))
  | _, _ => False
theorem m_append : MtD Z X "list.append" appendD := by
  refine ⟨_, mt_append, fun H M v x vs ds R Q hr rx rd g k => ?_⟩
  unfold appendD at g
  split at g
  · rename_i a d
    obtain ⟨xs, e, hz, g⟩ := g
    obtain ⟨u, rfl, r1⟩ := rds_one rd
    obtain ⟨ws, e1, r⟩ := hr.at_lst e
    rw [rd_ref rx]
    have k3 : KeepT Z.K H (L2.upd H a (.lst (ws ++ [u]))) := keepT_mut e1 rfl
    exact ⟨a, ws, u, rfl, rfl, e1, by rw [r.length]; exact hz, k _ _ _ _ g (hr.mut e1 rfl ⟨_, rfl, RDs.keep k3 _ _ (r.append (RDs.cons r1 RDs.nil))⟩) mk_non⟩
  · exact g.elim
theorem m_pop : MtD Z X "list.pop" popD := by
  refine ⟨_, mt_pop, fun H M v x vs ds R Q hr rx rd g k => ?_⟩
  unfold popD at g
  split at g
  · rename_i a
    obtain ⟨xs, d, e, g⟩ := g
    rw [RDs] at rd
    subst rd
    obtain ⟨ws, e1, r⟩ := hr.at_lst e
    rw [rd_ref rx]
    have hl := r.length
    rw [List.length_append, List.length_singleton] at hl
    obtain ⟨u, e2, r2⟩ := r.get (i := xs.length) (d := d) (by simp)
    have e3 : ws[ws.length - 1]? = some u := by rw [hl]; exact e2
    have e4 : ws.dropLast = ws.take xs.length := by rw [List.dropLast_eq_take, hl]; rfl
    have r4 : RDs Z.K H xs (ws.take xs.length) := by
      have := r.take xs.length
      rwa [List.take_left] at this
    have k3 : KeepT Z.K H (L2.upd H a (.lst ws.dropLast)) := keepT_mut e1 rfl
    exact ⟨a, ws, u, rfl, rfl, e1, e3, k _ _ _ _ g (hr.mut e1 rfl ⟨_, rfl, RDs.keep k3 _ _ (e4 ▸ r4)⟩) (RD.keep k3 _ _ r2)⟩
  · exact g.elim

inductive Tn where
  | non | bool | int | str | tuple | list
  deriving DecidableEq
def Tn.nm : Tn → String
  | .non => "NoneType" | .bool => "bool" | .int => "int" | .str => "str" | .tuple => "tuple" | .list => "list"
def tnD (M : DM) : D → Option Tn
  | .non => some .non | .bl _ => some .bool | .int _ => some .int | .str _ => some .str | .tup _ => some .tuple
  | .ref a => match M a with
    | some (.lst _) => some .list
    | _ => none
def isiT (t T : Tn) : Bool := decide (t = T) || (decide (t = .bool) && decide (T = .int))
theorem kit_tn : ∀ t T : Tn, T ≠ .non → kitB t.nm T.nm = some (isiT t T) := by
  intro t T h
  cases T with
  | non => exact absurd rfl h
  | _ => cases t <;> decide +kernel
theorem tyX_of {H : Hp} {M : DM} {d : D} {v : V} {t : Tn} (hr : Here Z H M) (rd : RD Z.K H d v) (e : tnD M d = some t) : TyX Z.K H v (.type t.nm) := by
  cases d with
  | non => cases e; rw [rd_non rd]; exact .base .non
  | bl b => cases e; rw [rd_bl rd]; exact .base (.bl b)
  | int b => cases e; rw [rd_int rd]; exact .base (.int b)
  | str b => cases e; rw [rd_str rd]; exact .base (.str _)
  | tup ds =>
    cases e
    obtain ⟨a, vs, rfl, s, _⟩ := rd_tp rd
    rcases s with (s | ⟨o, s⟩) | ⟨o, iz, n, s, c, _⟩
    · exact .base (.tup s)
    · exact .fTuple s
    · exact .kTuple s c
  | ref a =>
    unfold tnD at e
    simp only at e
    split at e
    · rename_i xs q
      cases e
      obtain ⟨vs, e1, _⟩ := hr.at_lst q
      rw [rd_ref rd]
      exact .base (.lst e1)
    · cases e
def dIsi (T : Tn) (te : DE) : DE := fun W ρ M R => te W ρ M fun d M1 => match tnD M1 d with
  | some t => R (.bl (isiT t T)) M1
  | none => False
theorem qe_isi {x : Str} {pT : Pos} (T : Tn) (hK : X.K = Z.K) (hT : T ≠ .non) (he : QE Z G X e te) (hm : X.mg "isinstance" = none) (hmT : X.mg x = none) (hv : bootBuiltins x = some (.type T.nm)) (hg : Gl X "isinstance" := by rfl) (hgT : Gl X x := by rfl)
    (hn : x ≠ "__name__" := by decide) (hdb : (x == ("__debug__" : Str)) = false := by decide)
    (hs : starEach [e, .Name x pT] X.env = (false, eval e X.env) :: starEach [.Name x pT] X.env := by rfl) (hs2 : starEach [.Name x pT] X.env = (false, eval (.Name x pT) X.env) :: starEach [] X.env := by rfl) (hpl : (backTo pos (starEach [.Name x pT] X.env)).any (·.1) = false := by rfl) :
    QE Z G X (.Call (.Name "isinstance" p) [e, .Name x pT] [] pos) (dIsi T te) := by
  refine ⟨fun W tk => pe_of (pe_callB call_isi hg hm PyProof.Rows.boot_isinstance (pa_cons (he.pe W tk) (pa_cons (pe_bltn hgT hmT hv (v := .ty T.nm) rfl hn hdb) pa_nil hs2) hs) (by decide) (by decide) hs hpl) fun σ H Q ⟨ρ, M, R, rl, h, k⟩ => ?_⟩
  refine ⟨ρ, M, _, rl, h, fun d M1 v H1 h1 n1 r1 => ?_⟩
  split at h1
  · rename_i t e1
    exact ⟨v, .ty T.nm, .type t.nm, .type T.nm, isiT t T, rfl, .ty _, by rw [hK]; exact tyX_of n1.here r1 e1, kit_ty (kit_tn t T hT), k _ _ _ _ h1 n1 mk_bl⟩
  · exact h1.elim

def setL (o i v : D) (M : DM) (Q : DM → Prop) : Prop := match o, i with
  | .ref a, .int i => ∃ ds j, M a = some (.lst ds) ∧ ixN ds.length i = some j ∧ Q (mupd M a (.lst (ds.set j v)))
  | _, _ => False
def gSb (to ti : DE) : DG := fun v ρ M Q => to noW ρ M fun o M1 => ti noW ρ M1 fun i M2 => setL o i v M2 fun M3 => Q ρ M3
theorem qg_sub {o i : Expr} {to ti : DE} (ho : QE Z G X o to) (hi : QE Z G X i ti) (ha : ∀ v, assign (.Subscript o i pos) X.env v = (do
      let ov ← holding [v] (eval o X.env)
      let iv ← holding [v, ov] (eval i X.env)
      standAt pos
      holding [v, ov, iv] (setItem ov iv v)
      release [v, ov, iv] []) := by intro _; rfl) : QG Z G X (.Subscript o i pos) (gSb to ti) := by
  refine ⟨pg_of (pg_sub (ho.pe noW takes_no) (hi.pe noW takes_no) set_list ha) fun v σ H Q ⟨d, ρ, M, R, rl, rd, h, k⟩ => ?_⟩
  refine ⟨ρ, M, _, rl, h, fun ov M1 v1 H1 h1 n1 r1 => ⟨ρ, M1, _, rl.nx n1, h1, fun iv M2 v2 H2 h2 n2 r2 => ?_⟩⟩
  have n := n1.trans n2
  have r1' := RD.keep n2.kp _ _ r1
  have rd' := RD.keep n.kp _ _ rd
  unfold setL at h2
  split at h2
  · rename_i a ix
    obtain ⟨ds, j, e, hj, h2⟩ := h2
    obtain ⟨ws, e1, r⟩ := n2.here.at_lst e
    have k3 : KeepT Z.K H2 (L2.upd H2 a (.lst (ws.set j v))) := keepT_mut e1 rfl
    have n3 := n2.here.mut (u := .lst (ws.set j v)) (m := .lst (ds.set j d)) e1 rfl ⟨_, rfl, RDs.keep k3 _ _ (r.set j rd')⟩
    rw [rd_ref r1', rd_int r2]
    exact ⟨a, ws, ix, j, rfl, rfl, e1, by rw [r.length]; exact hj, k _ _ _ _ h2 (n.trans n3).kp (((rl.nx n1).nx n2).nx n3)⟩
  · exact h2.elim
end
end DL

set_option Elab.async false
set_option linter.all false
set_option maxRecDepth 100000
namespace DL
open PySem PySem.Spec PyProof.Rows L2

theorem lookup_zip {f : Str} : ∀ {ns : List Str} {vs : List V} {j : Nat} {v : V}, ns.Nodup → ns[j]? = some f → vs[j]? = some v → (ns.zip vs).lookup f = some v
  | [], _, j, v, _, e, _ => by simp at e
  | n :: ns, [], j, v, _, _, e => by simp at e
  | n :: ns, w :: vs, 0, v, nd, e1, e2 => by
    simp at e1 e2
    subst e1; subst e2
    simp [List.lookup]
  | n :: ns, w :: vs, j + 1, v, nd, e1, e2 => by
    rw [List.nodup_cons] at nd
    have hm : f ∈ ns := List.mem_of_getElem? (by simpa using e1)
    have hn : (f == n) = false := beq_eq_false_iff_ne.mpr fun z => nd.1 (z ▸ hm)
    rw [List.zip_cons_cons, List.lookup, hn]
    exact lookup_zip nd.2 (by simpa using e1) (by simpa using e2)
theorem lookup_zip_none {f : Str} : ∀ {ns : List Str} {vs : List V}, f ∉ ns → (ns.zip vs).lookup f = none
  | [], _, _ => rfl
  | n :: ns, [], _ => rfl
  | n :: ns, w :: vs, h => by
    have hn : (f == n) = false := beq_eq_false_iff_ne.mpr fun z => h (z ▸ List.mem_cons_self)
    rw [List.zip_cons_cons, List.lookup, hn]
    exact lookup_zip_none fun q => h (List.mem_cons_of_mem _ q)
theorem putF_zip {f : Str} {y : V} : ∀ {ns : List Str} {vs : List V} {j : Nat}, ns.Nodup → ns[j]? = some f → vs.length = ns.length → putF f y (ns.zip vs) = ns.zip (vs.set j y)
  | [], _, j, _, e, _ => by simp at e
  | n :: ns, [], j, _, _, e => by simp at e
  | n :: ns, w :: vs, 0, nd, e1, e2 => by
    simp at e1
    subst e1
    simp [putF]
  | n :: ns, w :: vs, j + 1, nd, e1, e2 => by
    rw [List.nodup_cons] at nd
    have hm : f ∈ ns := List.mem_of_getElem? (by simpa using e1)
    have hn : ¬ n = f := fun z => nd.1 (z ▸ hm)
    rw [List.zip_cons_cons, putF, if_neg hn, putF_zip nd.2 (by simpa using e1) (by simpa using e2)]
    rfl
theorem putF_zip_new {f : Str} {y : V} : ∀ {ns : List Str} {vs : List V}, f ∉ ns → vs.length = ns.length → putF f y (ns.zip vs) = (ns ++ [f]).zip (vs ++ [y])
  | [], [], _, _ => rfl
  | [], _ :: _, _, e => by simp at e
  | n :: ns, [], _, e => by simp at e
  | n :: ns, w :: vs, h, e => by
    have hn : ¬ n = f := fun z => h (z ▸ List.mem_cons_self)
    rw [List.zip_cons_cons, putF, if_neg hn, putF_zip_new (fun q => h (List.mem_cons_of_mem _ q)) (by simpa using e)]
    rfl

def dFld (C : Addr) (f : Str) (te : DE) : DE := fun W ρ M R => te W ρ M fun x M1 => ∃ (a dx : Addr) (ns : List Str) (ds : List D) (j : Nat) (d : D), x = .ref a ∧ M1 a = some (.ins C dx ns ds) ∧ ns[j]? = some f ∧ ds[j]? = some d ∧ R d M1
def dFldSet (C : Addr) (f : Str) (to te : DE) : DS := fun W E ρ M => te W ρ M fun y M1 => to W ρ M1 fun x M2 => ∃ a dx ns ds, x = .ref a ∧ M2 a = some (.ins C dx ns ds) ∧ ds.length < 1000 ∧
  ((∃ j, ns[j]? = some f ∧ E.nx ρ (mupd M2 a (.ins C dx ns (ds.set j y)))) ∨ (f ∉ ns ∧ E.nx ρ (mupd M2 a (.ins C dx (ns ++ [f]) (ds ++ [y])))))
section
variable {Z : ZP} {G : Hp} {X : Cx} {pos pos' : Pos} {e o value : Expr} {te to : DE} {f : Str} {C : Addr}
theorem qe_fld (cl : Cls X.K C) (na : NoAttr X.K C f) (he : QE Z G X e te) (hb : attributeBase e f X.env (eval e X.env) = eval e X.env := by rfl) : QE Z G X (.Attribute e f pos) (dFld C f te) := by
  refine ⟨fun W tk => pe_of (pe_fld (he.pe W tk) hb) fun σ H Q ⟨ρ, M, R, rl, h, k⟩ => ?_⟩
  refine ⟨ρ, M, _, rl, h, fun x M1 v1 H1 h1 n1 r1 => ?_⟩
  obtain ⟨a, dx, ns, ds, j, d, rfl, e1, e2, e3, q⟩ := h1
  obtain ⟨vs, e4, r, hl, nd⟩ := n1.here.at_ins e1
  obtain ⟨v, e5, rd⟩ := r.get e3
  exact ⟨a, C, dx, _, v, rd_ref r1, e4, cl, na, lookup_zip nd e2 e5, k _ _ _ _ q n1 rd⟩
theorem qs_fld (cl : Cls X.K C) (na : NoAttr X.K C f) (ho : QE Z G X o to) (hv : QE Z G X value te) (hs : swapsWith value (some (.Attribute o f pos')) pos.line X.env = pure false := by rfl) : QS Z G X (.Assign [.Attribute o f pos'] value pos) (dFldSet C f to te) := by
  refine ⟨fun W tk => ps_of (ps_fld (ho.pe W tk) (hv.pe W tk) hs) fun D σ H ⟨ρ, M, E, rl, h, k1, k2, k3, k4⟩ => ?_⟩
  refine ⟨ρ, M, _, rl, h, fun y M1 v1 H1 h1 n1 r1 => ⟨ρ, M1, _, rl.nx n1, h1, fun x M2 v2 H2 h2 n2 r2 => ?_⟩⟩
  obtain ⟨a, dx, ns, ds, rfl, e1, hz, h2⟩ := h2
  obtain ⟨vs, e4, r, hl, nd⟩ := n2.here.at_ins e1
  have n := n1.trans n2
  have r1' := RD.keep n2.kp _ _ r1
  have hl' : vs.length = ns.length := r.length.trans hl.symm
  refine ⟨a, C, dx, _, rd_ref r2, e4, cl, na, by rw [List.length_zip, hl', Nat.min_self, hl]; exact hz, ?_⟩
  rcases h2 with ⟨j, e2, q⟩ | ⟨hn, q⟩
  · rw [putF_zip nd e2 hl']
    have k3 : KeepT Z.K H2 (L2.upd H2 a (.ins C dx (ns.zip (vs.set j v1)))) := keepT_mut e4 rfl
    have n3 := n2.here.mut (u := .ins C dx (ns.zip (vs.set j v1))) (m := .ins C dx ns (ds.set j y)) e4 rfl ⟨_, rfl, RDs.keep k3 _ _ (r.set j r1'), by simpa using hl, nd⟩
    exact k1 _ _ _ _ q (n.trans n3).kp (((rl.nx n1).nx n2).nx n3)
  · rw [putF_zip_new hn hl']
    have k3 : KeepT Z.K H2 (L2.upd H2 a (.ins C dx ((ns ++ [f]).zip (vs ++ [v1])))) := keepT_mut e4 rfl
    have n3 := n2.here.mut (u := .ins C dx ((ns ++ [f]).zip (vs ++ [v1]))) (m := .ins C dx (ns ++ [f]) (ds ++ [y])) e4 rfl ⟨_, rfl, RDs.keep k3 _ _ (r.append (RDs.cons r1' RDs.nil)), by simpa using hl, List.nodup_append.mpr ⟨nd, by simp, fun x hx z hz' => by simp at hz'; subst hz'; exact fun q => hn (q ▸ hx)⟩⟩
    exact k1 _ _ _ _ q (n.trans n3).kp (((rl.nx n1).nx n2).nx n3)
end

section
variable {X : Cx} {CX : CXT} {k : Nat} {f C : Addr} {fd : FuncData} {ps : List Str} {sp : Sp} {E : L2.St → XK} {x m : Str} {p pos apos : Pos} {e o : Expr} {es : List Expr} {ta : TE} {t : TA}
def tMethS (C : Addr) (m : Str) (sp : Sp) (E : L2.St → XK) (ta : TE) (t : TA) : TE := fun σ H Q => ta σ H fun x H1 => ∃ a dx fs, x = .ref a ∧ H1 a = some (.ins C dx fs) ∧ fs.lookup m = none ∧
  t σ H1 fun vs H2 => sp (x :: vs) H2 Q (E σ)
theorem pe_methS {pl : Sem Bool} (he : PE X o ta) (c : Cls X.K C) (hm : Meth X.K C m f) (F : FnOk X.prog X.w X.K X.mg X.base CX k f fd ps sp) (hr : Room k X.A) (hb : Binds X.K fd ps []) (hx : ∀ σ, PassesAt CX X σ (E σ)) (ha : PA X (e :: es) t)
    (hst : starEach (e :: es) X.env = (false, eval e X.env) :: starEach es X.env := by rfl) (hpl : (backTo pos (starEach es X.env)).any (·.1) = false := by rfl)
    (ht : eval (.Call (.Attribute o m apos) (e :: es) [] pos) X.env = (do
      let ov ← eval o X.env
      standAt apos.atName
      let (f, first) ← holding [ov] (getMethod ov m pl)
      callWith pos f first (backTo pos (starEach (e :: es) X.env)) (backToKw pos (keywordEach [] X.env))) := by rfl) :
    PE X (.Call (.Attribute o m apos) (e :: es) [] pos) (tMethS C m sp E ta t) := by
  refine ⟨fun pz s σ H Q I h => ?_⟩
  refine PySem.W.methodCall_KW (pl := pl) (thn (he.run pz s σ H _ I h) fun u s1 ⟨x, H1, J1, rx, a, dx, fs, ex, ea, l, q⟩ => ?_) ht
  subst ex
  obtain rfl : u = Value.ref a := rx
  refine getmeth_ok J1 ea c hm l ?_
  refine PySem.W.callWith_K (first := [.ref a]) (h₀ := X.base) I.ok.mod.kin hm.kp (thn (ha.run pos pz s1 σ H1 _ J1 q) fun uz s2 ⟨vs, H2, J2, r, q2⟩ => ⟨J2.kIn, ?_⟩) hst hpl
  exact run_fnS (us := .ref a :: uz) (vs := .ref a :: vs) F hr hb (hx σ) J2 (.cons rfl r) q2
theorem pe_methS0 {pl : Sem Bool} (he : PE X o ta) (c : Cls X.K C) (hm : Meth X.K C m f) (F : FnOk X.prog X.w X.K X.mg X.base CX k f fd ps sp) (hr : Room k X.A) (hb : Binds X.K fd ps []) (hx : ∀ σ, PassesAt CX X σ (E σ))
    (ht : eval (.Call (.Attribute o m apos) [] [] pos) X.env = (do
      let ov ← eval o X.env
      standAt apos.atName
      let (f, first) ← holding [ov] (getMethod ov m pl)
      callWith pos f first (backTo pos (starEach [] X.env)) (backToKw pos (keywordEach [] X.env))) := by rfl) :
    PE X (.Call (.Attribute o m apos) [] [] pos) (tMethS C m sp E ta tNil) := by
  refine ⟨fun pz s σ H Q I h => ?_⟩
  refine PySem.W.methodCall_KW (pl := pl) (thn (he.run pz s σ H _ I h) fun u s1 ⟨x, H1, J1, rx, a, dx, fs, ex, ea, l, q⟩ => ?_) ht
  subst ex
  obtain rfl : u = Value.ref a := rx
  refine getmeth_ok J1 ea c hm l ?_
  exact PySem.W.callWith_K0 (first := [.ref a]) J1.kIn hm.kp (run_fnS (us := [.ref a]) (vs := [.ref a]) F hr hb (hx σ) J1 (.cons rfl .nil) q)
def tMakeS (C : Addr) (sp : Sp) (E : L2.St → XK) (t : TA) : TE := fun σ H Q => t σ H fun vs H1 => ∀ x dx, H1 x = none → H1 dx = none → dx ≠ x →
  sp (.ref x :: vs) (upd (upd H1 dx (.own x)) x (.ins C dx [])) (fun v H2 => v = .non ∧ Q (.ref x) H2) (E σ)
theorem run_makeS {pz : List (Addr × Obj)} {σ : L2.St} {H : Hp} {s : Shared} {Q : VK} {uz : List Value} {vs : List V} (M : Mk X.K C f) (F : FnOk X.prog X.w X.K X.mg X.base CX k f fd ps sp) (hr : Room (k + 1) X.A) (hb : Binds X.K fd ps [])
    (hx : PassesAt CX X σ (E σ)) (I : Inv X pz σ H s) (r : Vals vs uz)
    (h : ∀ x dx, H x = none → H dx = none → dx ≠ x → sp (.ref x :: vs) (upd (upd H dx (.own x)) x (.ins C dx [])) (fun v H2 => v = .non ∧ Q (.ref x) H2) (E σ)) :
    wpAny (model X.prog X.w) X.A (call (.ref C) uz) (EP X pz σ Q) X.xe s := by
  have hq := h (s.heap.objs.size + 1) s.heap.objs.size (I.hok.fresh (Nat.le_succ _)) (I.hok.fresh (Nat.le_refl _)) (Nat.ne_of_lt (Nat.lt_succ_self _))
  have J2 := Inv.made (C := C) I
  have r2 : Vals (V.ref (s.heap.objs.size + 1) :: vs) (Value.ref (s.heap.objs.size + 1) :: uz) := .cons rfl r
  have hl : (Value.ref (s.heap.objs.size + 1) :: uz).length = ps.length := by
    have e := r2.length
    rw [F.len _ _ _ _ hq] at e
    exact e.symm
  have b := hb _ (Value.ref (s.heap.objs.size + 1) :: uz) J2.kIn (by rw [List.append_nil]; exact hl)
  rw [List.append_nil] at b
  refine wpAny_call (make_map (f := f) I.kIn M.makes M.init (beq_iff_eq.mp M.fn) (codeAny_mono (F.run _ X.stack _ _ ⟨Value.ref (s.heap.objs.size + 1) :: uz, []⟩ (Value.ref (s.heap.objs.size + 1) :: uz) _ _ (E σ) (hr.make C uz [])
    (J2.env0.make C uz []) b r2 hq) fun r s' hw9 => ?_))
  cases r with
  | error e => exact hx pz _ _ e s' J2 hw9
  | ok fl =>
    cases fl with
    | ret u =>
      obtain ⟨v, H', J3, rv, ev, q3⟩ := J2.after hw9
      subst ev
      exact ⟨rv, ⟨V.ref (s.heap.objs.size + 1), H', J3, rfl, q3⟩⟩
    | next => exact False.elim hw9
    | brk => exact False.elim hw9
    | cont => exact False.elim hw9
theorem pe_makeS (M : Mk X.K C f) (F : FnOk X.prog X.w X.K X.mg X.base CX k f fd ps sp) (hr : Room (k + 1) X.A) (hg : Gl X x) (hm : X.mg x = some (.ref C)) (hb : Binds X.K fd ps []) (hx : ∀ σ, PassesAt CX X σ (E σ))
    (ha : PA X (e :: es) t) (hdb : (x == ("__debug__" : Str)) = false := by decide) (he : starEach (e :: es) X.env = (false, eval e X.env) :: starEach es X.env := by rfl) (hpl : (backTo pos (starEach es X.env)).any (·.1) = false := by rfl) :
    PE X (.Call (.Name x p) (e :: es) [] pos) (tMakeS C sp E t) := by
  refine ⟨fun pz s σ H Q I h => ?_⟩
  refine wpAny_Call_Name_kw (ld_glob I hg hm ?_ hdb)
  refine PySem.W.callWith_K (h₀ := X.base) I.ok.mod.kin M.kp (thn (ha.run pos pz s σ H _ I h) fun uz s1 ⟨vs, H1, J1, r, q⟩ => ⟨J1.kIn, ?_⟩) he hpl
  exact run_makeS M F hr hb (hx σ) J1 r q
end
def dMeth (C : Addr) (m : Str) (sp : DSp) (te : DE) (ta : DA) : DE := fun W ρ M R => te W ρ M fun x M1 => ∃ a dx ns ds, x = .ref a ∧ M1 a = some (.ins C dx ns ds) ∧ m ∉ ns ∧ ta W ρ M1 fun args M2 => sp (x :: args) M2 R fun C fs M3 => W C fs ρ M3
def dMake (C : Addr) (sp : DSp) (ta : DA) : DE := fun W ρ M R => ta W ρ M fun args M1 => ∀ x dx, M1 x = none → M1 dx = none → dx ≠ x → sp (.ref x :: args) (mupd M1 x (.ins C dx [] [])) (fun v M2 => v = .non ∧ R (.ref x) M2) fun C fs M2 => W C fs ρ M2
section
variable {Z : ZP} {G : Hp} {X : Cx} {k : Nat} {f C : Addr} {fd : FuncData} {ps : List Str} {sp : DSp} {x m : Str} {p pos apos : Pos} {e o : Expr} {es : List Expr} {te : DE} {ta : DA}
theorem qe_meth {pl : Sem Bool} (c : Cls X.K C) (hm : Meth X.K C m f) (F : FnOk X.prog X.w X.K X.mg X.base (L2.CX X.prog X.w) k f fd ps (lSp Z sp)) (hr : Room k X.A) (hb : Binds X.K fd ps []) (he : QE Z G X o te) (ha : QA Z G X (e :: es) ta)
    (hst : starEach (e :: es) X.env = (false, eval e X.env) :: starEach es X.env := by rfl) (hpl : (backTo pos (starEach es X.env)).any (·.1) = false := by rfl)
    (ht : eval (.Call (.Attribute o m apos) (e :: es) [] pos) X.env = (do
      let ov ← eval o X.env
      standAt apos.atName
      let (f, first) ← holding [ov] (getMethod ov m pl)
      callWith pos f first (backTo pos (starEach (e :: es) X.env)) (backToKw pos (keywordEach [] X.env))) := by rfl) :
    QE Z G X (.Call (.Attribute o m apos) (e :: es) [] pos) (dMeth C m sp te ta) := by
  refine ⟨fun W tk => pe_of (pe_methS (he.pe W tk) c hm F hr hb (fun σ => passAt tk σ) (ha.pa W tk) hst hpl ht) fun σ H Q ⟨ρ, M, R, rl, h, k⟩ => ?_⟩
  refine ⟨ρ, M, _, rl, h, fun x M1 v1 H1 h1 n1 r1 => ?_⟩
  obtain ⟨a, dx, ns, ds, rfl, e1, hn, q⟩ := h1
  obtain ⟨vs, e4, r, hl, nd⟩ := n1.here.at_ins e1
  refine ⟨a, dx, _, rd_ref r1, e4, lookup_zip_none hn, ρ, M1, _, rl.nx n1, q, fun args M2 ws H2 h2 n2 r2 => ?_⟩
  have n := n1.trans n2
  exact sp_lift ((rl.nx n1).nx n2) (RDs.cons (RD.keep n2.kp _ _ r1) r2) h2 fun d M' v H' q n' r => k d M' v H' q (n.trans n') r
theorem qe_meth0 {pl : Sem Bool} (c : Cls X.K C) (hm : Meth X.K C m f) (F : FnOk X.prog X.w X.K X.mg X.base (L2.CX X.prog X.w) k f fd ps (lSp Z sp)) (hr : Room k X.A) (hb : Binds X.K fd ps []) (he : QE Z G X o te)
    (ht : eval (.Call (.Attribute o m apos) [] [] pos) X.env = (do
      let ov ← eval o X.env
      standAt apos.atName
      let (f, first) ← holding [ov] (getMethod ov m pl)
      callWith pos f first (backTo pos (starEach [] X.env)) (backToKw pos (keywordEach [] X.env))) := by rfl) :
    QE Z G X (.Call (.Attribute o m apos) [] [] pos) (dMeth C m sp te dNil) := by
  refine ⟨fun W tk => pe_of (pe_methS0 (he.pe W tk) c hm F hr hb (fun σ => passAt tk σ) ht) fun σ H Q ⟨ρ, M, R, rl, h, k⟩ => ?_⟩
  refine ⟨ρ, M, _, rl, h, fun x M1 v1 H1 h1 n1 r1 => ?_⟩
  obtain ⟨a, dx, ns, ds, rfl, e1, hn, q⟩ := h1
  obtain ⟨vs, e4, r, hl, nd⟩ := n1.here.at_ins e1
  refine ⟨a, dx, _, rd_ref r1, e4, lookup_zip_none hn, ?_⟩
  exact sp_lift (rl.nx n1) (RDs.cons r1 RDs.nil) q fun d M' v H' q n' r => k d M' v H' q (n1.trans n') r
theorem qe_make (Mk0 : Mk X.K C f) (F : FnOk X.prog X.w X.K X.mg X.base (L2.CX X.prog X.w) k f fd ps (lSp Z sp)) (hr : Room (k + 1) X.A) (hm : X.mg x = some (.ref C)) (hb : Binds X.K fd ps []) (ha : QA Z G X (e :: es) ta)
    (hg : Gl X x := by rfl) (hdb : (x == ("__debug__" : Str)) = false := by decide) (he : starEach (e :: es) X.env = (false, eval e X.env) :: starEach es X.env := by rfl) (hpl : (backTo pos (starEach es X.env)).any (·.1) = false := by rfl) :
    QE Z G X (.Call (.Name x p) (e :: es) [] pos) (dMake C sp ta) := by
  refine ⟨fun W tk => pe_of (pe_makeS Mk0 F hr hg hm hb (fun σ => passAt tk σ) (ha.pa W tk) hdb he hpl) fun σ H Q ⟨ρ, M, R, rl, h, k⟩ => ?_⟩
  refine ⟨ρ, M, _, rl, h, fun args M1 vs H1 h1 n1 r1 y dx hy hdx hne => ?_⟩
  have hy' : (L2.upd H1 dx (.own y)) y = none := by rw [upd_ne (Ne.symm hne)]; exact hy
  have nA := n1.here.laid (o := .own y) hdx
  have k2 : KeepT Z.K (L2.upd H1 dx (.own y)) (L2.upd (L2.upd H1 dx (.own y)) y (.ins C dx [])) := keepT_new hy'
  have nB : Nx Z (L2.upd H1 dx (.own y)) (L2.upd (L2.upd H1 dx (.own y)) y (.ins C dx [])) (mupd M1 y (.ins C dx [] [])) := ⟨k2, nA.mm.upd k2 ⟨[], rfl, RDs.nil, rfl, List.nodup_nil⟩, tabs_new nA.tb hy'⟩
  have n := n1.trans (nA.trans nB)
  have h2 := h1 y dx (n1.here.free hy) (n1.here.free hdx) hne
  refine ⟨_, _, _, _, RDs.cons (mk_ref (a := y)) (RDs.keep (nA.trans nB).kp _ _ r1), nB.mm, nB.tb, h2, fun d M' v H' ⟨ed, q⟩ n' r => ?_, fun C' fs M' d H' q n' rx => ⟨C', fs, ρ, M', rfl, rx, (rl.nx n).nx n', q⟩⟩
  subst ed
  exact ⟨rd_non r, k _ _ _ _ q (n.trans n') mk_ref⟩
end

def spInitX (C : Addr) (f : Str) : Sp := fun vs H Q _ => ∃ a y, vs = [.ref a, y] ∧ H a = some (exo a C none) ∧ ∀ dx, H dx = none → dx ≠ a → Q .non (upd (upd H dx (exd dx [(f, y)])) a (exo a C (some dx)))
structure ExcF (K : PySem.W.Frag) (mg : Str → Option Value) (x : Str) (C fI : Addr) (f : Str) : Prop where
  g : mg x = some (.ref C)
  o : OexC K C
  i : PySem.W.findIn K (.ref C) "__init__" = some (some (.ref fI))
  t : PySem.W.typeIn K (.ref fI) = some (.type "function")
  n : PySem.W.findIn K (.ref C) f = some none
section
variable {P : Program} {w : World} {mg : Str → Option Value} {base : Heap} {K : PySem.W.Frag}
theorem ok_initX {x qual f : Str} {st : Stmt} {fI C : Addr} {fd : FuncData} {p1 p2 p3 p4 : Pos} (F : Fun K "__init__" qual st fI fd) (S : FnScope ["self", f] ["self", f] (defScope st)) (c : ExcF K mg x C fI f)
    (hb : defBody st = [.Assign [.Attribute (.Name "self" p1) f p2] (.Name f p3) p4]) (hv : (defScope st).names.lookup ("self" : Str) = some NameKind.local) (hf : (defScope st).names.lookup f = some NameKind.local) (hd : (f == ("__debug__" : Str)) = false) (hcd : (f == ("__classdict__" : Str)) = false)
    (hsw : ∀ env : PySem.Env, env.scope = defScope st → swapsWith (.Name f p3) (some (.Attribute (.Name "self" p1) f p2)) p4.line env = pure false) : FnOk P w K mg base (L2.CX P w) 1 fI fd ["self", f] (spInitX C f) := by
  refine F.okX S (fun vs H Q E h => ?_) (fun cdv A outer s H vs Q E hr h => ?_)
  · obtain ⟨a, y, rfl, _⟩ := h
    rfl
  · obtain ⟨a, y, rfl, ha, k⟩ := h
    refine ⟨_, by rw [hb]; exact pss_one (ps_ost (pe_var (i := 0) rfl (.inl hv)) (pe_var (i := 1) rfl (.inl hf) hd hcd) (hsw _ rfl)), ?_⟩
    exact ⟨y, rfl, .ref a, rfl, a, C, rfl, c.o, c.n, .inl ⟨ha, fun dx h1 h2 => k dx h1 h2⟩⟩
end
section
variable {Z : ZP} {G : Hp} {X : Cx} {k : Nat} {fI C : Addr} {fd : FuncData} {f x : Str} {p pos pos' : Pos} {e : Expr} {te : DE}
theorem qs_raiseF (hc : X.calm = true) (c : ExcF X.K X.mg x C fI f) (F : FnOk X.prog X.w X.K X.mg X.base (L2.CX X.prog X.w) 1 fI fd ["self", f] (spInitX C f)) (hr : Room 2 X.A) (hb : Binds X.K fd ["self", f] []) (he : QE Z G X e te)
    (hg : Gl X x := by rfl) (hdb : (x == ("__debug__" : Str)) = false := by decide) (hs : starEach (e :: []) X.env = (false, eval e X.env) :: starEach [] X.env := by rfl) (hpl : (backTo pos (starEach [] X.env)).any (·.1) = false := by rfl) :
    QS Z G X (.Raise (some (.Call (.Name x p) [e] [] pos)) none pos') (dRaiseF C f te) := by
  refine ⟨fun W tk => ps_of (ps_raise hc tk (pmk_oex c.o c.i c.t F hr hb .nil passL hg c.g (pa_cons (he.pe W tk) pa_nil hs) hdb hs hpl)) fun D σ H ⟨ρ, M, E, rl, h, _⟩ => ?_⟩
  refine ⟨ρ, M, _, rl, h, fun d M1 v H1 h1 n1 r1 => ⟨by show 1 ≤ 1000; decide, fun a ha => ?_⟩⟩
  refine ⟨a, v, rfl, upd_same, fun dx hdx hne => ⟨rfl, dx, [(f, v)], upd_same, by rw [upd_ne hne, upd_same], by rw [upd_ne hne] at hdx; exact hdx, ?_⟩⟩
  rw [upd_ne hne] at hdx
  have eH : upd (del (upd (upd (upd H1 a (exo a C none)) dx (exd dx [(f, v)])) a (exo a C (some dx))) a) dx (.xd [(f, v)]) = upd H1 dx (.xd [(f, v)]) := by
    funext b
    by_cases hb1 : b = dx
    · subst hb1; rw [upd_same, upd_same]
    · rw [upd_ne hb1, upd_ne hb1]
      by_cases hb2 : b = a
      · subst hb2; rw [del_same, ha]
      · rw [del_ne hb2, upd_ne hb2, upd_ne hb1, upd_ne hb2]
  rw [eH]
  have n2 : Nx Z H1 (L2.upd H1 dx (.xd [(f, v)])) (mupd M1 dx (.xd f d)) := ⟨keepT_new hdx, n1.mm.upd (keepT_new hdx) ⟨v, rfl, RD.keep (keepT_new hdx) _ _ r1⟩, tabs_new n1.tb hdx⟩
  exact ⟨C, [.ref dx], ρ, _, rfl, .inr ⟨dx, rfl, rfl⟩, (rl.nx n1).nx n2, h1 dx (n1.here.free hdx)⟩
end

def dClause (K : PySem.W.Frag) (c : Value) (ts : Addr → List D → DS) (W : DW) (E : DEnds) : DW := fun C fs ρ M =>
  ∃ b, PySem.W.exmOne K (.ref C) c = some b ∧ (b = true → ts C fs noW E ρ M) ∧ (b = false → W C fs ρ M)
def dTry (K : PySem.W.Frag) (c : Value) (tb : DS) (ts : Addr → List D → DS) : DS := fun W E ρ M => tb (dClause K c ts W E) E ρ M
section
variable {Z : ZP} {G : Hp} {X : Cx} {x : Str} {c : Value} {body suite : List Stmt} {b₀ : Stmt} {np pos pos' : Pos} {tb : DS} {ts : Addr → List D → DS}
theorem qs_try_only (hK : X.K = Z.K) (hs : X.stack = X.env :: X.outer) (hf : X.env.frame = some X.env.locals) (hc : Names X x c)
    (hb : ∀ (G : Hp) (pn : List (Addr × Obj)) (xe : Value → Shared → Prop), PassesOwn (model X.prog X.w) X.A X.env xe → QSs Z G (X.tr pn xe) body tb)
    (hsu : ∀ (C : Addr) (fs : List D) (a : Addr) (oe : Obj) (pn : List (Addr × Obj)), QSs Z G (X.suite a ((a, oe) :: pn)) (b₀ :: suite) (ts C fs)) :
    QS Z G X (.Try body [.ExceptHandler (some (.Name x np)) none (b₀ :: suite) pos'] [] [] pos) (dTry Z.K c tb ts) := by
  refine ⟨fun W tk => ⟨fun pz s σ H D I ⟨ρ, M, E, rl, h, k1, k2, k3, k4⟩ => ?_⟩⟩
  let tsH : Addr → Value → Option Addr → TS := fun a cls d D σ H => ∃ C fs, lS Z G (ts C fs noW) D σ H
  have hsu' : ∀ (a : Addr) (oe : Obj) (cls : Value) (d : Option Addr) (pn : List (Addr × Obj)), Zc cls d oe → (∃ vs, oe.data = .fields vs) → PSs (X.suite a ((a, oe) :: pn)) (b₀ :: suite) (tsH a cls d) := fun a oe cls d pn _ _ =>
    ⟨fun pz s σ H D I ⟨C, fs, q⟩ => ((hsu C fs a oe pn).pss noW takes_no).run pz s σ H D I q⟩
  let tbH : WX → TS := fun WW D σ H => ∃ W', (∀ c d σ' H', lW Z H W' c d σ' H' → WW c d σ' H') ∧ lS Z H (tb W') D σ H
  have hb' : ∀ (WW : WX) (pn : List (Addr × Obj)) (xe : Value → Shared → Prop), Takes (X.tr pn xe) WW → PassesOwn (model X.prog X.w) X.A X.env xe → PSs (X.tr pn xe) body (tbH WW) := fun WW pn xe tk' po =>
    ⟨fun pz s σ H D I ⟨W', hw, q⟩ => ((hb H pn xe po).pss W' (tk'.imp hw)).run pz s σ H D I q⟩
  refine (ps_try_only hs hf hc tk hb' hsu').run pz s σ H D I ⟨dClause Z.K c ts W E, fun cls d σ' H' ⟨C, fs, ρ', M', ec, rx, rl', h'⟩ => ?_, ?_⟩
  · subst ec
    obtain ⟨b, e, h1, h2⟩ := h'
    have rg : Rel Z G σ' H' ρ' M' := ⟨rl.kp.trans rl'.kp, rl'.st, rl'.mm, rl'.tb⟩
    refine ⟨b, by rw [hK]; exact e, fun hb a _ => ⟨C, fs, lS_go rg rl'.kp (h1 hb) k1 k2 k3 k4⟩, fun hb => ⟨C, fs, ρ', M', rfl, rx, rg, h2 hb⟩⟩
  · have up : ∀ {σ' : L2.St} {H' : Hp} {ρ' : Env} {M' : DM}, Rel Z H σ' H' ρ' M' → Rel Z G σ' H' ρ' M' := fun r => ⟨rl.kp.trans r.kp, r.st, r.mm, r.tb⟩
    exact ⟨ρ, M, E, ⟨KeepT.refl, rl.st, rl.mm, rl.tb⟩, h, fun _ _ _ _ q kp r => k1 _ _ _ _ q kp (up r), k2, fun _ _ _ _ q kp r => k3 _ _ _ _ q kp (up r), fun _ _ _ _ q kp r => k4 _ _ _ _ q kp (up r)⟩
def dClauseA (K : PySem.W.Frag) (c : Value) (i : Nat) (ts : Addr → List D → Addr → DS) (W : DW) (E : DEnds) : DW := fun C fs ρ M =>
  ∃ b, PySem.W.exmOne K (.ref C) c = some b ∧ (b = true → ∀ a, M a = none → ts C fs a noW { nx := fun ρ' M' => E.nx (ρ'.set i none) M', rt := E.rt, bk := fun ρ' M' => E.bk (ρ'.set i none) M', ct := fun ρ' M' => E.ct (ρ'.set i none) M' } (ρ.set i (some (.ref a))) M) ∧ (b = false → W C fs ρ M)
def dTryA (K : PySem.W.Frag) (c : Value) (i : Nat) (tb : DS) (ts : Addr → List D → Addr → DS) : DS := fun W E ρ M => tb (dClauseA K c i ts W E) E ρ M
theorem RSt.none {K : PySem.W.Frag} {H : Hp} {σ : L2.St} {ρ : Env} {i : Nat} (h : RSt K H σ ρ) : RSt K H (σ.set i none) (ρ.set i none) := by
  refine ⟨by simpa using h.1, fun (j : Nat) d e => ?_⟩
  by_cases hj : i = j
  · subst hj
    by_cases hl : i < ρ.length
    · rw [List.getElem?_set_self hl] at e; cases e
    · rw [List.getElem?_eq_none (by rw [List.length_set]; omega)] at e; cases e
  · rw [List.getElem?_set_ne hj] at e ⊢
    exact h.2 j d e
theorem qs_try_as {i : Nat} {n : Str} {tsa : Addr → List D → Addr → DS} (hK : X.K = Z.K) (hs : X.stack = X.env :: X.outer) (hf : X.env.frame = some X.env.locals) (hN : X.N.Nodup) (hi : X.N[i]? = some n) (hln : X.env.kindOf n = some .local) (hc : Names X x c)
    (hb : ∀ (G : Hp) (pn : List (Addr × Obj)) (xe : Value → Shared → Prop), PassesOwn (model X.prog X.w) X.A X.env xe → QSs Z G (X.tr pn xe) body tb)
    (hsu : ∀ (C : Addr) (fs : List D) (a : Addr) (oe : Obj) (pn : List (Addr × Obj)) (d : Option Addr), Zc (.ref C) d oe → (∃ vs, oe.data = .fields vs) → RX d fs → QSs Z G (X.suite a ((a, oe) :: pn)) (b₀ :: suite) (tsa C fs a)) :
    QS Z G X (.Try body [.ExceptHandler (some (.Name x np)) (some n) (b₀ :: suite) pos'] [] [] pos) (dTryA Z.K c i tb tsa) := by
  refine ⟨fun W tk => ⟨fun pz s σ H D I ⟨ρ, M, E, rl, h, k1, k2, k3, k4⟩ => ?_⟩⟩
  let tsH : Addr → Value → Option Addr → TS := fun a cls d D σ H => ∃ C fs, cls = .ref C ∧ RX d fs ∧ lS Z G (tsa C fs a noW) D σ H
  have hsu' : ∀ (a : Addr) (oe : Obj) (cls : Value) (d : Option Addr) (pn : List (Addr × Obj)), Zc cls d oe → (∃ vs, oe.data = .fields vs) → PSs (X.suite a ((a, oe) :: pn)) (b₀ :: suite) (tsH a cls d) := fun a oe cls d pn hz hv =>
    ⟨fun pz s σ H D I ⟨C, fs, ec, rx, q⟩ => by subst ec; exact ((hsu C fs a oe pn d hz hv rx).pss noW takes_no).run pz s σ H D I q⟩
  let tbH : WX → TS := fun WW D σ H => ∃ W', (∀ c d σ' H', lW Z H W' c d σ' H' → WW c d σ' H') ∧ lS Z H (tb W') D σ H
  have hb' : ∀ (WW : WX) (pn : List (Addr × Obj)) (xe : Value → Shared → Prop), Takes (X.tr pn xe) WW → PassesOwn (model X.prog X.w) X.A X.env xe → PSs (X.tr pn xe) body (tbH WW) := fun WW pn xe tk' po =>
    ⟨fun pz s σ H D I ⟨W', hw, q⟩ => ((hb H pn xe po).pss W' (tk'.imp hw)).run pz s σ H D I q⟩
  refine (ps_try_as (i := i) hs hf hN hi hln hc tk hb' hsu').run pz s σ H D I ⟨dClauseA Z.K c i tsa W E, fun cls d σ' H' ⟨C, fs, ρ', M', ec, rx, rl', h'⟩ => ?_, ?_⟩
  · subst ec
    obtain ⟨b, e, h1, h2⟩ := h'
    have rg : Rel Z G σ' H' ρ' M' := ⟨rl.kp.trans rl'.kp, rl'.st, rl'.mm, rl'.tb⟩
    refine ⟨b, by rw [hK]; exact e, fun hb a ha => ⟨C, fs, rfl, rx, ρ'.set i (some (.ref a)), M', _, ⟨rg.kp, rg.st.set mk_ref, rg.mm, rg.tb⟩, h1 hb a (rg.here.free ha), ?_, ?_, ?_, ?_⟩, fun hb => ⟨C, fs, ρ', M', rfl, rx, rg, h2 hb⟩⟩
    · exact fun _ _ _ _ q kp r => k1 _ _ _ _ q (rl'.kp.trans kp) ⟨r.kp, r.st.none, r.mm, r.tb⟩
    · exact fun _ _ _ _ q n r => k2 _ _ _ _ q ⟨rl'.kp.trans n.kp, n.mm, n.tb⟩ r
    · exact fun _ _ _ _ q kp r => k3 _ _ _ _ q (rl'.kp.trans kp) ⟨r.kp, r.st.none, r.mm, r.tb⟩
    · exact fun _ _ _ _ q kp r => k4 _ _ _ _ q (rl'.kp.trans kp) ⟨r.kp, r.st.none, r.mm, r.tb⟩
  · have up : ∀ {σ' : L2.St} {H' : Hp} {ρ' : Env} {M' : DM}, Rel Z H σ' H' ρ' M' → Rel Z G σ' H' ρ' M' := fun r => ⟨rl.kp.trans r.kp, r.st, r.mm, r.tb⟩
    exact ⟨ρ, M, E, ⟨KeepT.refl, rl.st, rl.mm, rl.tb⟩, h, fun _ _ _ _ q kp r => k1 _ _ _ _ q kp (up r), k2, fun _ _ _ _ q kp r => k3 _ _ _ _ q kp (up r), fun _ _ _ _ q kp r => k4 _ _ _ _ q kp (up r)⟩
def dXf (i : Nat) (a : Addr) (C0 C : Addr) (fs : List D) (f : Str) : DE := fun _ ρ M R => ρ[i]? = some (some (.ref a)) ∧ C0 = C ∧ ∃ dx d, fs = [.ref dx] ∧ M dx = some (.xd f d) ∧ R d M
theorem qe_xf {i : Nat} {n f : Str} {a C C0 : Addr} {oe : Obj} {d : Option Addr} {pn : List (Addr × Obj)} {fs : List D} {p : Pos} (T : XfC X.K C) (hno : PySem.W.findIn X.K (.ref C) f = some none) (hz : Zc (.ref C0) d oe) (hv : ∃ vs, oe.data = .fields vs) (rx : RX d fs)
    (hN : X.N[i]? = some n := by rfl) (hl : Vis X.env.scope n := by first | exact Or.inl rfl | exact Or.inr (Or.inl rfl)) (hd : (n == ("__debug__" : Str)) = false := by decide) (hcd : (n == ("__classdict__" : Str)) = false := by decide)
    (hb : attributeBase (.Name n p) f X.env (eval (.Name n p) X.env) = eval (.Name n p) X.env := by rfl) :
    QE Z G (X.suite a ((a, oe) :: pn)) (.Attribute (.Name n p) f pos) (dXf i a C0 C fs f) := by
  refine ⟨fun W tk => pe_of (pe_xf T hno hz hv (pe_var (X := X.suite a ((a, oe) :: pn)) hN hl hd hcd) hb) fun σ H Q ⟨ρ, M, R, rl, h, k⟩ => ?_⟩
  obtain ⟨e1, ec, dx, d0, ef, e2, q⟩ := h
  obtain ⟨v, e3, rd⟩ := rl.st.2 i _ e1
  obtain ⟨v0, e4, rd0⟩ := rl.mm _ _ e2
  subst ec
  rcases rx with ⟨_, r2⟩ | ⟨dx', r1, r2⟩
  · rw [r2] at ef; cases ef
  · rw [r2] at ef; cases ef
    exact ⟨v, e3, rd_ref rd, rfl, dx, _, v0, r1, e4, by simp [List.lookup], k _ _ _ _ q rl.stay rd0⟩
end
end DL

set_option Elab.async false
set_option linter.all false
set_option maxRecDepth 100000
namespace DL
open PySem PySem.Spec PyProof.Rows L2 TL

section
variable {Z : ZP} {G : Hp} {X : Cx} {pos p : Pos} {a b c e : Expr} {es : List Expr} {ta tb tc te : DE} {tA : DA}
def dNeg (t : DE) : DE := fun W ρ M R => t W ρ M fun d M1 => match d with
  | .int i => R (.int (-i)) M1
  | _ => False
theorem qe_neg (ha : QE Z G X a ta) : QE Z G X (.UnaryOp .USub a pos) (dNeg ta) := by
  refine ⟨fun W tk => pe_of (pe_un un_neg (ha.pe W tk)) fun σ H Q ⟨ρ, M, R, rl, h, k⟩ => ⟨ρ, M, _, rl, h, fun d M1 v H1 h1 n1 r1 => ?_⟩⟩
  split at h1
  · rename_i i
    exact ⟨i, rd_int r1, k _ _ _ _ h1 n1 mk_int⟩
  · exact h1.elim
theorem qt_chain {op op' : CmpOp} {g g'} (o : OpD Z X (compareOp op) g) (o' : OpD Z X (compareOp op') g') (ha : QE Z G X a ta) (hb : QE Z G X b tb) (hc : QE Z G X c tc)
    (hm : lastMarks [op, op'] [b, c] = false := by rfl) : QT Z G X (.Compare a [op, op'] [b, c] pos) (dTest (dChain g g' ta tb tc)) := by
  obtain ⟨r, ho, hr⟩ := o
  obtain ⟨r', ho', hr'⟩ := o'
  exact ⟨fun W tk => pt_of (pt_chain ho ho' (ha.pe W tk) (hb.pe W tk) (hc.pe W tk) hm) (lT_test (chain_lift hr hr'))⟩
def truD (d : D) (M : DM) (Q : Bool → DM → Prop) : Prop := match d with
  | .non => Q false M
  | .bl b => Q b M
  | .int i => Q (i != 0) M
  | .str s => s.length ≤ sizeLine ∧ Q (!s.isEmpty) M
  | .tup ds => Q (!ds.isEmpty) M
  | .ref a => ∃ ds, M a = some (.lst ds) ∧ Q (!ds.isEmpty) M
def dTru (t : DE) : DT := fun W ρ M R => t W ρ M fun d M1 => truD d M1 R
theorem isEmpty_rds {K : PySem.W.Frag} {H : Hp} {ds : List D} {vs : List V} (r : RDs K H ds vs) : (!vs.isEmpty) = !ds.isEmpty := by
  have := r.length
  cases ds <;> cases vs <;> simp_all
theorem qt_tru (hK : X.K = Z.K) (ha : QE Z G X a ta) (he : ∀ whole, isTrue a X.env whole = (do let v ← whole; standAt a.pos; holding [v] (truthy v)) := by intro _; rfl) : QT Z G X a (dTru ta) := by
  refine ⟨fun W tk => pt_of (pt_truth (ha.pe W tk) he) fun σ H Q ⟨ρ, M, R, rl, h, k⟩ => ⟨ρ, M, _, rl, h, fun d M1 v H1 h1 n1 r1 => ?_⟩⟩
  cases d with
  | non => rw [rd_non r1]; exact ⟨false, rfl, k _ _ _ h1 n1⟩
  | bl b => rw [rd_bl r1]; exact ⟨b, rfl, k _ _ _ h1 n1⟩
  | int i => rw [rd_int r1]; exact ⟨_, rfl, k _ _ _ h1 n1⟩
  | str s =>
    rw [rd_str r1]
    refine ⟨_, ⟨by rw [sV_len]; exact h1.1, ?_⟩, k _ _ _ h1.2 n1⟩
    rw [sV_len]
    cases s with
    | nil => rfl
    | cons x r => simp; omega
  | tup ds =>
    obtain ⟨q, vs, rfl, s, r⟩ := rd_tp r1
    exact ⟨_, .inr (.inl ⟨vs, hK ▸ s, (isEmpty_rds r).symm⟩), k _ _ _ h1 n1⟩
  | ref q =>
    obtain ⟨ds, e1, h1⟩ := h1
    obtain ⟨vs, e2, r⟩ := n1.here.at_lst e1
    rw [rd_ref r1]
    exact ⟨_, .inl ⟨vs, SqL.of e2, (isEmpty_rds r).symm⟩, k _ _ _ h1 n1⟩
def dPar (i j : Nat) (ta : DA) : DS := fun W E ρ M => ta W ρ M fun ds M1 => match ds with
  | [d, e] => E.nx ((ρ.set i (some d)).set j (some e)) M1
  | _ => False
theorem qs_par {i j : Nat} {x y : Str} {px py pt : Pos} {kt k2 pt2} (hc : X.calm = true) (hN : X.N.Nodup) (hi : X.N[i]? = some x) (hj : X.N[j]? = some y) (hij : i ≠ j)
    (hx : X.env.scope.names.lookup x = some .local) (hy : X.env.scope.names.lookup y = some .local) (ha : QA Z G X [a, b] tA)
    (hw : swappedStores [.Tuple [.Name x px, .Name y py] kt pt] (.Tuple [a, b] k2 pt2) X.env = pure (some [x, y]))
    (hs : swapsWithSole [.Tuple [.Name x px, .Name y py] kt pt] (.Tuple [a, b] k2 pt2) pos.line X.env = pure false := by rfl) :
    QS Z G X (.Assign [.Tuple [.Name x px, .Name y py] kt pt] (.Tuple [a, b] k2 pt2) pos) (dPar i j tA) := by
  refine ⟨fun W tk => ps_of (ps_par hc hN hi hj hij hx hy (ha.pa W tk) hw hs) fun D σ H ⟨ρ, M, E, rl, h, k1, k2, k3, k4⟩ => ⟨ρ, M, _, rl, h, fun ds M1 vs H1 h1 n1 r1 => ?_⟩⟩
  split at h1
  · rename_i d e
    obtain ⟨v, u, rfl, rv, ru⟩ := rds_two r1
    exact ⟨v, u, rfl, k1 _ _ _ _ h1 n1.kp ⟨rl.kp.trans n1.kp, ((rl.st.keep n1.kp).set rv).set ru, n1.mm, n1.tb⟩⟩
  · exact h1.elim
def augAdd : D → D → DM → DQ → Prop := fun x y M R => match x, y with
  | .int i, .int j => R (.int (i + j)) M
  | _, _ => False
def dAug (i : Nat) (g : D → D → DM → DQ → Prop) (te : DE) : DS := fun W E ρ M => match ρ[i]? with
  | some (some x) => te W ρ M fun y M1 => g x y M1 fun z M2 => E.nx (ρ.set i (some z)) M2
  | _ => False
def IpD (Z : ZP) (X : Cx) (op : Operator) (g : D → D → DM → DQ → Prop) : Prop :=
  ∃ r, PIp X op r ∧ ∀ (H : Hp) (M : DM) (x y : V) (dx dy : D) (R : DQ) (Q : VK), Here Z H M → RD Z.K H dx x → RD Z.K H dy y → g dx dy M R → (∀ d M' v H', R d M' → Nx Z H H' M' → RD Z.K H' d v → Q v H') → r x y H Q
theorem a_add : IpD Z X .Add augAdd := by
  refine ⟨_, ip_add, fun H M x y dx dy R Q hr rx ry g k => ?_⟩
  cases dx <;> cases dy <;> first | exact g.elim | skip
  rw [rd_int rx, rd_int ry]
  exact ⟨_, _, rfl, rfl, k _ _ _ _ g hr.stay mk_int⟩
theorem qs_aug {i : Nat} {x : Str} {op : Operator} {g} {pos' : Pos} (hN : X.N.Nodup) (o : IpD Z X op g) (he : QE Z G X e te) (hi : X.N[i]? = some x := by rfl) (hx : Loc X.env.scope x := by first | exact Or.inl rfl | exact Or.inr rfl)
    (hf : X.fn x = true ∨ X.env.scope.names.lookup x = some .local := by first | exact .inl rfl | exact .inr rfl | assumption) : QS Z G X (.AugAssign (.Name x pos') op e pos) (dAug i g te) := by
  obtain ⟨r, ho, hr⟩ := o
  refine ⟨fun W tk => ps_of (ps_aug hN hi hx (he.pe W tk) ho hf) fun D σ H ⟨ρ, M, E, rl, h, k1, k2, k3, k4⟩ => ?_⟩
  unfold dAug at h
  split at h
  · rename_i d e0
    obtain ⟨v, e1, rd⟩ := rl.st.2 i d e0
    refine ⟨v, e1, ρ, M, _, rl, h, fun y M1 v1 H1 h1 n1 r1 => ?_⟩
    exact hr H1 M1 v v1 d y _ _ n1.here (RD.keep n1.kp _ _ rd) r1 h1 fun z M2 v2 H2 q n2 r2 => k1 _ _ _ _ q (n1.trans n2).kp ⟨rl.kp.trans (n1.trans n2).kp, (rl.st.keep (n1.trans n2).kp).set r2, n2.mm, n2.tb⟩
  · exact h.elim
def dFldAug (C : Addr) (f : Str) (to te : DE) : DS := fun W E ρ M => to W ρ M fun x M1 => ∃ (a dx : Addr) (ns : List Str) (ds : List D) (j : Nat) (i : Int), x = .ref a ∧ M1 a = some (.ins C dx ns ds) ∧ ns[j]? = some f ∧ ds[j]? = some (.int i) ∧
  te W ρ M1 fun y M2 => ∃ (n : Int) (dx' : Addr) (ds' : List D), y = .int n ∧ M2 a = some (.ins C dx' ns ds') ∧ ds'.length < 1000 ∧ E.nx ρ (mupd M2 a (.ins C dx' ns (ds'.set j (.int (i + n)))))
theorem qs_fldaug {o : Expr} {to : DE} {f : Str} {C : Addr} {tpos : Pos} (cl : Cls X.K C) (na : NoAttr X.K C f) (ho : QE Z G X o to) (hv : QE Z G X e te) : QS Z G X (.AugAssign (.Attribute o f tpos) .Add e pos) (dFldAug C f to te) := by
  refine ⟨fun W tk => ps_of (ps_fldaug (ho.pe W tk) (hv.pe W tk) in_add) fun D σ H ⟨ρ, M, E, rl, h, k1, k2, k3, k4⟩ => ⟨ρ, M, _, rl, h, fun x M1 v1 H1 h1 n1 r1 => ?_⟩⟩
  obtain ⟨a, dx, ns, ds, j, i, rfl, e1, e2, e3, h1⟩ := h1
  obtain ⟨vs, e4, r, hl, nd⟩ := n1.here.at_ins e1
  obtain ⟨v, e5, rd⟩ := r.get e3
  refine ⟨a, C, dx, _, v, rd_ref r1, e4, cl, na, lookup_zip nd e2 e5, ρ, M1, _, rl.nx n1, h1, fun y M2 v2 H2 h2 n2 r2 => ?_⟩
  obtain ⟨n, dx', ds', rfl, e6, hz, q⟩ := h2
  obtain ⟨ws, e7, r', hl', nd'⟩ := n2.here.at_ins e6
  have hw : ws.length = ns.length := r'.length.trans hl'.symm
  have k3' : KeepT Z.K H2 (L2.upd H2 a (.ins C dx' (ns.zip (ws.set j (.int (i + n)))))) := keepT_mut e7 rfl
  have n3 := n2.here.mut (u := .ins C dx' (ns.zip (ws.set j (.int (i + n))))) (m := .ins C dx' ns (ds'.set j (.int (i + n)))) e7 rfl ⟨_, rfl, RDs.keep k3' _ _ (r'.set j mk_int), by simpa using hl', nd'⟩
  refine ⟨i, n, rd_int rd, rd_int r2, dx', ns.zip ws, e7, by rw [List.length_zip, hw, Nat.min_self, hl']; exact hz, ?_⟩
  rw [putF_zip nd' e2 hw]
  exact k1 _ _ _ _ q ((n1.trans n2).trans n3).kp (((rl.nx n1).nx n2).nx n3)

def cntL (c : Nat) (s : List Nat) : Nat := (s.filter fun x => x == c).length
theorem cnt_cntL (c : Nat) : ∀ s : List Nat, cnt c s = (cntL c s : Nat)
  | [] => rfl
  | n :: r => by
    rw [cnt_cons, cnt_cntL c r]
    unfold cntL
    rw [List.filter_cons]
    by_cases h : n = c
    · subst h; simp; omega
    · simp [h]
def countD : D → List D → DM → DQ → Prop := fun x ds M R => match x, ds with
  | .str s, [.str [c]] => R (.int (cntL c s)) M
  | _, _ => False
theorem m_count : MtD Z X "str.count" countD := by
  refine ⟨_, mt_count, fun H M v x vs ds R Q hr rx rd g k => ?_⟩
  unfold countD at g
  split at g
  · rename_i s c
    obtain ⟨u, rfl, r1⟩ := rds_one rd
    rw [rd_str rx, rd_str r1]
    refine ⟨_, _, rfl, rfl, ?_⟩
    rw [one_sV, count_cnt, sV_cps, cnt_cntL]
    exact k _ _ _ _ g hr.stay mk_int
  · exact g.elim
def joinL (s : List Nat) : List (List Nat) → List Nat
  | [] => []
  | [x] => x
  | x :: y :: r => x ++ (s ++ joinL s (y :: r))
theorem strs_rds {K : PySem.W.Frag} {H : Hp} : ∀ {ys : List (List Nat)} {vs : List V}, RDs K H (ys.map D.str) vs → vs = (ys.map sV).map V.str
  | [], vs, r => by rw [List.map_nil, RDs] at r; exact r
  | y :: ys, vs, r => by
    rw [List.map_cons, RDs] at r
    obtain ⟨v, w, rfl, r1, r2⟩ := r
    rw [rd_str r1, strs_rds r2]
    rfl
theorem join_sV (s : List Nat) : ∀ ys : List (List Nat), Str.join (sV s) (ys.map sV) = sV (joinL s ys)
  | [] => rfl
  | [x] => rfl
  | x :: y :: r => by
    have ih := join_sV s (y :: r)
    show sV x ++ sV s ++ Str.join (sV s) ((y :: r).map sV) = _
    rw [ih, sV_app, sV_app, joinL, List.append_assoc]
def joinD : D → List D → DM → DQ → Prop := fun x ds M R => match x, ds with
  | .str s, [.ref a] => ∃ ys M2, M a = some (.lst (ys.map D.str)) ∧ MSub M2 M ∧ (ys.map (·.length)).sum + ys.length * s.length ≤ 16777216 ∧ R (.str (joinL s ys)) M2
  | .str s, [.tup ts] => ∃ ys, ts = ys.map D.str ∧ (ys.map (·.length)).sum + ys.length * s.length ≤ 16777216 ∧ R (.str (joinL s ys)) M
  | _, _ => False
theorem lens_sV (ys : List (List Nat)) : ((ys.map sV).map (·.length)) = ys.map (·.length) := by
  rw [List.map_map]
  exact List.map_congr_left fun x _ => sV_len x
theorem m_join (hK : X.K = Z.K) : MtD Z X "str.join" joinD := by
  refine ⟨_, mt_join, fun H M v x vs ds R Q hr rx rd g k => ?_⟩
  unfold joinD at g
  split at g
  · rename_i s a
    obtain ⟨ys, M2, e, sb, hz, g⟩ := g
    obtain ⟨u, rfl, r1⟩ := rds_one rd
    obtain ⟨ws, e1, r⟩ := hr.at_lst e
    rw [rd_str rx, rd_ref r1]
    refine ⟨sV s, a, ys.map sV, rfl, rfl, .inl (SqL.of (by rw [e1, strs_rds r])), by rw [lens_sV, sV_len, List.length_map]; exact hz, ?_⟩
    rw [join_eq, join_sV]
    exact k _ _ _ _ g (hr.stay.sub sb) mk_str
  · rename_i s ts
    obtain ⟨ys, rfl, hz, g⟩ := g
    obtain ⟨u, rfl, r1⟩ := rds_one rd
    obtain ⟨p, ws, rfl, sq, r⟩ := rd_tp r1
    rw [rd_str rx]
    refine ⟨sV s, p, ys.map sV, rfl, rfl, .inr (by rw [← strs_rds r]; exact hK ▸ sq), by rw [lens_sV, sV_len, List.length_map]; exact hz, ?_⟩
    rw [join_eq, join_sV]
    exact k _ _ _ _ g hr.stay mk_str
  · exact g.elim
def splL (c : Nat) : List Nat → List Nat → List (List Nat)
  | acc, [] => [acc]
  | acc, x :: r => if x = c then acc :: splL c [] r else splL c (acc ++ [x]) r
theorem tl_sV (x : List Nat) : tl (sV x) = x := sV_cps x
theorem spl_splL (c : Nat) : ∀ (l acc : List Nat), spl [c] 0 acc l = splL c acc l
  | [], acc => by simp [spl, splL]
  | x :: r, acc => by
    rw [spl, splL]
    have e : pre [c] (x :: r) = decide (x = c) := by
      unfold pre
      simp
      by_cases h : x = c <;> simp [h]
    by_cases h : x = c
    · rw [e, if_pos (by simpa using h), if_pos h]
      show acc :: spl [c] 0 [] r = _
      rw [spl_splL c r []]
    · rw [e, if_neg (by simpa using h), if_neg h, spl_splL c r]
theorem split_sV {s : List Nat} {c : Nat} (hc : c < 256) : Txt.split (sV s) (sV [c]) = (splL c [] s).map sV := by
  have h := split_spl (sV s) (sV [c]) (by rw [tl_sV]; simp) (kind_ok (by simp [sV]; exact hc))
  rw [tl_sV, tl_sV, spl_splL] at h
  rw [← h, List.map_map]
  conv => lhs; rw [← List.map_id (Txt.split (sV s) (sV [c]))]
  exact List.map_congr_left fun x _ => (sV_back x).symm
def splitD : D → List D → DM → DQ → Prop := fun x ds M R => match x, ds with
  | .str s, [.str [c]] => c < 256 ∧ s.length + 2 ≤ sizeLine ∧ ∀ p, M p = none → R (.ref p) (mupd M p (.lst ((splL c [] s).map D.str)))
  | _, _ => False
theorem rds_strs {K : PySem.W.Frag} {H : Hp} : ∀ (ys : List (List Nat)), RDs K H (ys.map D.str) ((ys.map sV).map V.str)
  | [] => RDs.nil
  | y :: ys => RDs.cons mk_str (rds_strs ys)
theorem m_split : MtD Z X "str.split" splitD := by
  refine ⟨_, mt_split, fun H M v x vs ds R Q hr rx rd g k => ?_⟩
  unfold splitD at g
  split at g
  · rename_i s c
    obtain ⟨hc, hz, g⟩ := g
    obtain ⟨u, rfl, r1⟩ := rds_one rd
    rw [rd_str rx, rd_str r1]
    refine ⟨_, _, rfl, rfl, by rw [sV_len]; rfl, by rw [sV_len]; exact hz, fun p hp => ?_⟩
    rw [split_sV hc]
    exact k _ _ _ _ (g p (hr.free hp)) (hr.lst hp (rds_strs _)) mk_ref
  · exact g.elim
end
end DL

set_option Elab.async false
set_option linter.all false
set_option maxRecDepth 100000
namespace DL
open PySem PySem.Spec PyProof.Rows L2
open PySem.AutoSeq1 (wpAny_loadPart')
abbrev titO (a : Addr) : Obj := { cls := .type "tuple_iterator", data := .fields #[.ref a, .int 0 0] }
abbrev enuO (it : Addr) : Obj := { cls := .type "enumerate", data := .fields #[.none, .bool false, .ref it, rawInt 0, .none, .none] }
abbrev pairO (i : Int) (t : Tok) (x : Value) : Obj := { cls := .type "tuple", data := .seq #[.int i t, x] }
set_option maxHeartbeats 1000000 in
theorem new_enumT (a : Addr) (vs : Array Value) (n : Nat) (dd : Option Addr) (sl : Array (Option Value)) : Meets (Builtin.«enumerate.__new__» ⟨[.type "enumerate", .ref a], []⟩) (fun _ R s =>
    s.heap.get? a = some { cls := .type "tuple", dict := dd, data := .seq vs n, slots := sl } ∧ R (.ok (.ret (.ref (s.heap.push (titO a)).objs.size))) { s with heap := (s.heap.push (titO a)).push (enuO s.heap.objs.size) }) :=
  .of_wp fun prog w A R s hh => by
    obtain ⟨q, gg, dr, tt, os⟩ := s
    obtain ⟨ha, hh⟩ := hh
    have sub0 := sub_enumerate
    have tpl : Heap.IsTuple (Shared.heap ⟨q, gg, dr, tt, os⟩) a vs := ⟨_, ha, rfl, n, rfl⟩
    wp_walk using wpAny_loadPart' ha
    refine wpAny_stack_any fun _ => wpAny_pure ?_
    split
    · rename_i c _ _ _ _ _
      cases (c == Value.type "enumerate")
      all_goals (wp_walk using wpAny_loadPart' ha, wpAny_pyIter_tuple tpl; exact ⟨_, rfl, hh⟩)
    · wp_walk using wpAny_loadPart' ha, wpAny_pyIter_tuple tpl
      exact ⟨_, rfl, hh⟩
section
variable {prog : Program} {w : World} {A : Around} {E : Value → Shared → Prop} {s : Shared}
theorem call_enumT {a : Addr} {vs : Array Value} {Q : Value → Shared → Prop} (tpl : s.heap.IsTuple a vs) (k : ∀ g, IsEnum g (s.heap.objs.size + 1) s.heap.objs.size 0 .none → g.IsTupleIter s.heap.objs.size a 0 → g.objs.size = s.heap.objs.size + 2 → (∀ b o, s.heap.get? b = some o → g.get? b = some o) → Q (.ref (s.heap.objs.size + 1)) { s with heap := g }) :
    wpAny (model prog w) A (call (.type "enumerate") [.ref a]) Q E s := by
  obtain ⟨⟨c, dd, dt, sl⟩, ha, e1, n, e2⟩ := tpl
  have e1' : c = .type "tuple" := e1
  have e2' : dt = .seq vs n := e2
  subst e1' e2'
  refine callType_new F.called_enumerate (by decide) (F.typeCall_enumerate_1 _) (F.newCall_enumerate_1 _) (fun ob => F.args_object_init_2 ob _) F.entry_enumerate_new (new_enumT a vs n dd sl) ⟨ha, ?_⟩
  have sz : (s.heap.push (titO a)).objs.size = s.heap.objs.size + 1 := Heap.size_push ..
  show _ ∧ _
  rw [sz]
  have en : IsEnum ((s.heap.push (titO a)).push (enuO s.heap.objs.size)) (s.heap.objs.size + 1) s.heap.objs.size 0 .none := by
    have z := Heap.get?_push_size (s.heap.push (titO a)) (o := enuO s.heap.objs.size) rfl
    rwa [sz] at z
  exact ⟨⟨_, en, rfl⟩, k _ en ⟨_, Heap.get?_push_of_some _ (Heap.get?_push_size _ rfl), rfl, rfl⟩ (by rw [Heap.size_push, sz]) fun b o x => Heap.get?_push_of_some _ (Heap.get?_push_of_some _ x)⟩
theorem enumT_next {e it a : Addr} {i : Nat} {vs : Array Value} {x old : Value} {Q : Value → Shared → Prop} (en : IsEnum s.heap e it i old) (ti : s.heap.IsTupleIter it a i) (tpl : s.heap.IsTuple a vs) (hx : vs[i]? = some x) (ne : e ≠ it)
    (k : ∀ g, IsEnumOut g e it ((i : Int) + 1) x s.heap.objs.size → g.IsTupleIter it a (i + 1) → g.get? s.heap.objs.size = some (pairO i s.toks x) → g.objs.size = s.heap.objs.size + 1 →
      (∀ b o, b ≠ e → b ≠ it → s.heap.get? b = some o → g.get? b = some o) → Q (.ref s.heap.objs.size) { s with heap := g, toks := s.toks + 1 }) :
    wpAny (model prog w) A (Builtin.«enumerate.__next__» ⟨[.ref e], []⟩) (fun fin s' => ∃ v, fin = .done (.ret v) ∧ Q v s') E s := by
  obtain ⟨q0, gg, dr, tt, os⟩ := s
  show wpAny _ _ (field (.ref e) 2 >>= _) _ _ _
  refine wpAny_bind (wpAny_field en rfl (x := .ref it) rfl (wpAny_bind (RZ.nextOf_tuple_item ti tpl hx fun q1 ti1 s1 => ?_)))
  have s1' : Heap.SameBut it q0 q1 := s1
  have en1 : IsEnum q1 e it i old := (s1'.2 e ne).trans en
  show wpAny _ _ (field (.ref e) 3 >>= _) _ _ ⟨q1, gg, dr, tt, os⟩
  refine wpAny_bind (wpAny_field en1 rfl (x := rawInt i) rfl ?_)
  show wpAny _ _ (field (.ref e) 4 >>= _) _ _ ⟨q1, gg, dr, tt, os⟩
  refine wpAny_bind (wpAny_field en1 rfl (x := .none) rfl ?_)
  show wpAny _ _ (mkInt i >>= _) _ _ ⟨q1, gg, dr, tt, os⟩
  refine wpAny_bind (wpAny_mkInt ?_)
  show wpAny _ _ (setField (.ref e) 3 (rawInt ((i : Int) + 1)) >>= _) _ _ ⟨q1, gg, dr, tt + 1, os⟩
  refine wpAny_bind (wpAny_setField_rec en1 (by simp) fun q2 en2 s2 => ?_)
  have s2' : Heap.SameBut e q1 q2 := s2
  have en2' : IsEnum q2 e it ((i : Int) + 1) old := en2
  show wpAny _ _ (setField (.ref e) 4 .none >>= _) _ _ ⟨q2, gg, dr, tt + 1, os⟩
  refine wpAny_bind (wpAny_setField_rec en2' (by simp) fun q3 en3 s3 => ?_)
  have s3' : Heap.SameBut e q2 q3 := s3
  have en3' : IsEnum q3 e it ((i : Int) + 1) old := en3
  show wpAny _ _ (newTuple [.int i tt, x] >>= _) _ _ ⟨q3, gg, dr, tt + 1, os⟩
  refine wpAny_bind (wpAny_newTuple ?_)
  have en4 : IsEnum (q3.push (pairO i tt x)) e it ((i : Int) + 1) old := Heap.get?_push_of_some _ en3'
  have z3 : q3.objs.size = q0.objs.size := by rw [s3'.1, s2'.1, s1'.1]
  have le : e < q0.objs.size := Heap.lt_size en
  have tp4 : (q3.push (pairO i tt x)).get? q0.objs.size = some (pairO i tt x) := by rw [← z3]; exact Heap.get?_push_size _ rfl
  have z4 : (q3.push (pairO i tt x)).objs.size = q0.objs.size + 1 := by rw [Heap.size_push, z3]
  have k4 : ∀ b o, b ≠ e → b ≠ it → q0.get? b = some o → (q3.push (pairO i tt x)).get? b = some o := fun b o b1 b2 hb =>
    Heap.get?_push_of_some _ (s3'.extBut b o b1 (s2'.extBut b o b1 (s1'.extBut b o b2 hb)))
  have ti4 : (q3.push (pairO i tt x)).IsTupleIter it a (i + 1) := by
    obtain ⟨o, ho, r⟩ := ti1
    exact ⟨o, Heap.get?_push_of_some _ (s3'.extBut it o (Ne.symm ne) (s2'.extBut it o (Ne.symm ne) ho)), r⟩
  show wpAny _ _ (Builtin.SmallTypes.ownedTupleIsFree (.ref e) >>= _) _ _ ⟨q3.push (pairO i tt x), gg, dr, tt + 1, os⟩
  generalize q3.push (pairO i tt x) = q4 at en4 tp4 z4 k4 ti4 ⊢
  rw [z3]
  refine wpAny_bind ?_
  unfold Builtin.SmallTypes.ownedTupleIsFree
  refine wpAny_bind (wpAny_field en4 rfl (x := .none) rfl (wpAny_pure ?_))
  simp only [if_true]
  refine wpAny_bind (wpAny_rule (wpAny_bind (wpAny_field en4 rfl (x := old) rfl (wpAny_bind (wpAny_setField_rec en4 (by simp) fun q5 en5 s5 => ?_)))))
  have s5' : Heap.SameBut e q4 q5 := s5
  have en5' : IsEnum q5 e it ((i : Int) + 1) x := en5
  show wpAny _ _ (Builtin.SmallTypes.ownedTupleHandOut (.ref e) (.ref q0.objs.size) >>= _) _ _ ⟨q5, gg, dr, tt + 1, os⟩
  refine wpAny_bind ?_
  unfold Builtin.SmallTypes.ownedTupleHandOut
  refine wpAny_bind (wpAny_setField_rec en5' (by simp) fun q6 en6 s6 => ?_)
  have s6' : Heap.SameBut e q5 q6 := s6
  have en6' : IsEnumOut q6 e it ((i : Int) + 1) x q0.objs.size := en6
  refine wpAny_setField_rec en6' (by simp) fun q7 en7 s7 => ?_
  have s7' : Heap.SameBut e q6 q7 := s7
  have en7' : IsEnumOut q7 e it ((i : Int) + 1) x q0.objs.size := en7
  have up : ∀ b o, b ≠ e → q4.get? b = some o → q7.get? b = some o := fun b o hb ho => s7'.extBut b o hb (s6'.extBut b o hb (s5'.extBut b o hb ho))
  refine wpAny_bind (wpAny_letGo (wpAny_pure ⟨_, rfl, k q7 en7' ?_ (up _ _ (Nat.ne_of_gt le) tp4) (by rw [s7'.1, s6'.1, s5'.1, z4]) fun b o b1 b2 hb => up b o b1 (k4 b o b1 b2 hb)⟩))
  obtain ⟨o, ho, r⟩ := ti4
  exact ⟨o, up _ _ (Ne.symm ne) ho, r⟩
theorem enumT_item {e it a : Addr} {i : Nat} {vs : Array Value} {x old : Value} {Q : Option Value → Shared → Prop} (en : IsEnum s.heap e it i old) (ti : s.heap.IsTupleIter it a i) (tpl : s.heap.IsTuple a vs) (hx : vs[i]? = some x) (ne : e ≠ it)
    (k : ∀ g, IsEnumOut g e it ((i : Int) + 1) x s.heap.objs.size → g.IsTupleIter it a (i + 1) → g.get? s.heap.objs.size = some (pairO i s.toks x) → g.objs.size = s.heap.objs.size + 1 →
      (∀ b o, b ≠ e → b ≠ it → s.heap.get? b = some o → g.get? b = some o) → Q (some (.ref s.heap.objs.size)) { s with heap := g, toks := s.toks + 1 }) : wpAny (model prog w) A (pyNext (.ref e)) Q E s := by
  have ty : s.TypeIs (.ref e) "enumerate" := ⟨_, en, rfl⟩
  unfold pyNext
  refine wpAny_bind (wpAny_attempt (wpAny_callSpecial?_slot (name := Str.ofString "__next__") ty F.slot_enumerate_next ?_))
  exact wpAny_call_entry F.slot_enumerate_next ty F.entry_enumerate_next (enumT_next en ti tpl hx ne fun g h1 h2 h3 h4 h5 => wpAny_pure (k g h1 h2 h3 h4 h5)) (F.args_enumerate_next_1 _)
theorem enumT_end {e it a : Addr} {i : Nat} {vs : Array Value} {old : Value} {Q : Option Value → Shared → Prop} (hh : A.handled = none) (en : IsEnum s.heap e it i old) (ti : s.heap.IsTupleIter it a i) (tpl : s.heap.IsTuple a vs) (hx : vs[i]? = none)
    (k : ∀ g, Heap.ExtBut it s.heap g → Q none { s with heap := g }) : wpAny (model prog w) A (pyNext (.ref e)) Q E s := by
  have ty : s.TypeIs (.ref e) "enumerate" := ⟨_, en, rfl⟩
  unfold pyNext
  refine wpAny_bind (wpAny_attempt (wpAny_callSpecial?_slot (name := Str.ofString "__next__") ty F.slot_enumerate_next (wpAny_call_entry F.slot_enumerate_next ty F.entry_enumerate_next ?_ (F.args_enumerate_next_1 _))))
  show wpAny _ _ (field (.ref e) 2 >>= _) _ _ _
  refine wpAny_bind (wpAny_field en rfl (x := .ref it) rfl (wpAny_bind (RZ.nextOf_tuple_end hh ti tpl hx fun g x kk ⟨o, ho, hc⟩ => ?_)))
  exact wpAny_bind (wpAny_isInstance (T := "StopIteration") (b := true) ⟨o, ho, hc⟩ isSubtype_stop (wpAny_pure (k _ kk)))
end
def IteT (K : PySem.W.Frag) (a : Addr) : It :=
  ⟨fun i H => ∃ (xs : List V) (x : V), SqT K H a xs ∧ xs[i]? = some x, fun i H v H' => ∃ T x, v = .ref T ∧ H T = none ∧ H' = upd H T (.tup [.int (i : Nat), x]) ∧ ∀ xs, SqT K H a xs → xs[i]? = some x, fun i H => ∃ xs : List V, SqT K H a xs ∧ xs.length ≤ i⟩
theorem turn_enumT {P : Program} {w : World} {K : PySem.W.Frag} {elts : List Expr} {kk : Nat} {tpos : Pos} (a e it : Addr) :
    Turn P w K (.Tuple elts kk tpos) (IteT K a) [e, it] e (fun i h => (∃ old, IsEnum h e it ((i : Nat) : Int) old) ∧ h.IsTupleIter it a i ∧ e ≠ it) where
  mem := List.mem_cons_self
  obj := fun i h ⟨⟨old, he⟩, ⟨o, ho, hc, hd⟩, _⟩ b hb => by
    rcases List.mem_cons.mp hb with z | z
    · exact ⟨_, z ▸ he, fun v q => by cases q⟩
    · have z' : b = it := by simpa using z
      exact ⟨o, z' ▸ ho, fun v q => by rw [hd] at q; cases q⟩
  keep := fun i h h' ⟨⟨old, he⟩, ⟨o, ho, r⟩, hne⟩ k => ⟨⟨old, k e (by simp) _ he⟩, ⟨o, k it (by simp) o ho, r⟩, hne⟩
  item := by
    intro X hP hw hK hc i pz s σ H E I hf ⟨⟨old, he⟩, hit, hne⟩ hg
    subst hP hw hK
    obtain ⟨xs, x, hq, hx⟩ := hg
    obtain ⟨iz, rv, p, hz⟩ := I.tuple hq
    obtain ⟨u, hu, ru⟩ := rv.get hx
    have le : e < s.heap.objs.size := Heap.lt_size he
    have li : it < s.heap.objs.size := let ⟨_, q, _⟩ := hit; Heap.lt_size q
    refine enumT_item he hit p (x := u) (by simpa using hu) hne fun g ho ti' hT hsz hk => ⟨_, rfl, wpAny_letOwnedTupleGo_enum (s := { s with heap := g, toks := s.toks + 1 }) ho fun g2 he' sb => ?_⟩
    have tp2 : g2.get? s.heap.objs.size = some (pairO i s.toks u) := (sb.2 _ (Nat.ne_of_gt le)).trans hT
    have new : ObjOk X.prog X.w (upd H s.heap.objs.size (.tup [.int (i : Nat), x])) g2 s.heap.objs.size (.tup [.int (i : Nat), x]) := ⟨by show 2 ≤ sizeLine; decide, [.int i s.toks, u], .cons ⟨_, rfl⟩ (.cons ru .nil), ⟨_, tp2, rfl, _, rfl⟩⟩
    have keep : ∀ b ob, b ∉ [e, it] → s.heap.get? b = some ob → g2.get? b = some ob := fun b ob hb q =>
      (sb.2 b (fun z => hb (by simp [z]))).trans (hk b ob (fun z => hb (by simp [z])) (fun z => hb (by simp [z])) q)
    have J1 : Inv X pz σ (upd H s.heap.objs.size (.tup [.int (i : Nat), x])) { s with heap := g2, toks := s.toks + 1 } := I.turnedNew (ch := [e, it]) keep hf (Nat.le_refl _) new
    obtain ⟨o3, ho3, r3⟩ := ti'
    refine ⟨.ref s.heap.objs.size, _, J1, rfl, ⟨_, x, rfl, I.hok.fresh (Nat.le_refl _), rfl, fun ys hy => (I.tuple_inj hy hq) ▸ hx⟩, ⟨⟨u, by rw [show ((i + 1 : Nat) : Int) = (i : Int) + 1 from by omega]; exact he'⟩, ⟨o3, (sb.2 it (Ne.symm hne)).trans ho3, r3⟩, hne⟩, fun b hb => ?_⟩
    have lb : b < s.heap.objs.size := by
      rcases List.mem_cons.mp hb with z | z
      · exact z ▸ le
      · exact (show b = it by simpa using z) ▸ li
    rw [upd_ne (Nat.ne_of_lt lb)]
    exact (hf b hb).1
  done := by
    intro X hP hw hK hc i pz s σ H E I hf ⟨⟨old, he⟩, hit, hne⟩ ⟨xs, hq, hx⟩
    subst hP hw hK
    obtain ⟨iz, rv, p, hz⟩ := I.tuple hq
    obtain ⟨f0, f1, f2, f3, f4, f5⟩ := hf it (by simp)
    have hl := rv.length
    exact enumT_end (I.ok.hd hc) he hit p (by simp; omega) fun g eb => ⟨rfl, I.turned (t' := s.toks) (fun b o hb q => eb b o hb q) f0 f1 f3 f4 f5⟩
  self := fun A i s Q E ⟨⟨_, he⟩, _⟩ h => wpAny_pyIter_enum he h
def enumF (ds : List D) : List D := (List.range ds.length).zip ds |>.map fun p => .tup [.int (p.1 : Nat), p.2]
def dEnum (ta : DA) : DI := fun W ρ M R => ta W ρ M fun ds M1 => match ds with
  | [.tup xs] => R (enumF xs) anyM M1
  | _ => False
theorem enumF_get {ds : List D} {i : Nat} {d : D} (h : ds[i]? = some d) : (enumF ds)[i]? = some (.tup [.int (i : Nat), d]) := by
  have hi : i < ds.length := (List.getElem?_eq_some_iff.mp h).1
  unfold enumF
  rw [List.getElem?_map, List.getElem?_zip_eq_some (z := (i, d)) |>.mpr ⟨List.getElem?_range hi, h⟩]
  rfl
theorem enumF_length (ds : List D) : (enumF ds).length = ds.length := by simp [enumF]
section
variable {Z : ZP} {G : Hp} {X : Cx} {pos p : Pos} {e : Expr} {ta : DA}
theorem it_enum {H0 : Hp} {a : Addr} {ds : List D} {vs : List V} (s : SqT Z.K H0 a vs) (r : RDs Z.K H0 ds vs) : ItD Z H0 (IteT Z.K a) (enumF ds) anyM := fun i H M kp hr _ => by
  have s' := kp _ _ s
  have r' := RDs.keep kp _ _ r
  have hl := r.length
  rw [enumF_length]
  refine ⟨fun hi => ⟨vs, vs[i], s', by rw [List.getElem?_eq_getElem]⟩, fun hi => ⟨vs, s', by omega⟩, fun x H' hi ⟨T, y, ex, hT, eH, hy⟩ => ?_⟩
  subst ex eH
  have e1 := hy vs s'
  obtain ⟨v, e2, rd⟩ := r'.get (List.getElem?_eq_getElem hi)
  rw [e1] at e2; cases e2
  exact ⟨_, enumF_get (List.getElem?_eq_getElem hi), hr.laid hT, rd_tup hT (RDs.cons mk_int (RDs.cons rd RDs.nil))⟩
theorem qi_enum {elts : List Expr} {kk : Nat} {tpos : Pos} (hK : X.K = Z.K) (hm : X.mg "enumerate" = none) (ha : QA Z G X [e] ta) (hg : Gl X "enumerate" := by rfl) (hs : starEach [e] X.env = [(false, eval e X.env)] := by rfl) : QI Z G X (.Tuple elts kk tpos) (.Call (.Name "enumerate" p) [e] [] pos) (dEnum ta) := by
  refine ⟨fun W tk => ⟨fun pz s σ H R I ⟨ρ, M, Rd, rl, h, k⟩ => ?_⟩⟩
  refine Call_ (ld_blt I hg hm boot_enumerate (PyProof.Rows.callWith_type1 (thn ((ha.pa W tk).run pos pz s σ H (fun vs H1 => ∃ ds M1, (match ds with | [.tup xs] => Rd (enumF xs) anyM M1 | _ => False) ∧ Nx Z H H1 M1 ∧ RDs Z.K H1 ds vs) I ⟨ρ, M, _, rl, h, fun ds M1 vs H1 h1 n1 r1 => ⟨ds, M1, h1, n1, r1⟩⟩) fun uz s1 ⟨vs, H1, J1, r1, ds, M1, h1, n1, rd⟩ => ?_) hs rfl))
  split at h1
  · rename_i xs
    obtain ⟨v, rfl, rv⟩ := rds_one rd
    obtain ⟨a, ws, rfl, sq, rw0⟩ := rd_tp rv
    have q := k _ anyM M1 (IteT X.K a) H1 h1 n1 (by rw [hK]; exact it_enum sq rw0)
    cases r1 with
    | cons r rr =>
      cases rr
      cases r
      obtain ⟨iz, rv', p', hz⟩ := J1.tuple (show SqT X.K H1 a ws from hK ▸ sq)
      refine call_enumT p' fun g he hit hsz hk => wpAny_pyIter_enum he ?_
      have J2 : Inv X pz σ H1 { s1 with heap := g } := J1.kept (t' := s1.toks) hk
      refine ⟨s1.heap.objs.size + 1, [s1.heap.objs.size + 1, s1.heap.objs.size], _, _, H1, rfl, J2, turn_enumT a (s1.heap.objs.size + 1) s1.heap.objs.size, ⟨⟨.none, he⟩, hit, Nat.succ_ne_self _⟩, fun b hb => ?_, q⟩
      have lb : s1.heap.objs.size ≤ b := by
        rcases List.mem_cons.mp hb with z | z
        · rw [z]; exact Nat.le_succ _
        · rw [show b = s1.heap.objs.size by simpa using z]; exact Nat.le_refl _
      exact J1.fpOk lb (J1.hok.fresh lb)
  · exact h1.elim
end
end DL

set_option Elab.async false
set_option linter.all false
set_option maxRecDepth 100000
set_option maxHeartbeats 2000000
namespace DL
open PySem PySem.Spec PyProof.Rows L2
section
variable {Z : ZP} {G : Hp} {X : Cx} {pos p : Pos} {e : Expr} {te : DE}
structure IsCl (K : PySem.W.Frag) (C : Addr) : Prop where
  cl : Cls K C
  ha : PySem.W.findIn K (.ref C) "__class__" = some (some (.builtin "object.__class__"))
  hn : PySem.W.specialIn K (.builtin "object.__class__") "__get__" = some (some (.builtin "getset_descriptor.__get__"))
  ht : PySem.W.takesIn K (.builtin "object.__class__") = some true
  hm : PySem.W.mroIn K C (.type "object") = some true
  kt : PySem.W.kitOne K (.ref C) (.ref C) = some true
def dIsC (C : Addr) (te : DE) : DE := fun W ρ M R => te W ρ M fun d M1 => ∃ a dx ns ds, d = .ref a ∧ M1 a = some (.ins C dx ns ds) ∧ R (.bl true) M1
theorem qe_isC {x : Str} {pT : Pos} {C : Addr} (I : IsCl X.K C) (he : QE Z G X e te) (hm : X.mg "isinstance" = none) (hmT : X.mg x = some (.ref C)) (hg : Gl X "isinstance" := by rfl) (hgT : Gl X x := by rfl)
    (hdb : (x == ("__debug__" : Str)) = false := by decide)
    (hs : starEach [e, .Name x pT] X.env = (false, eval e X.env) :: starEach [.Name x pT] X.env := by rfl) (hs2 : starEach [.Name x pT] X.env = (false, eval (.Name x pT) X.env) :: starEach [] X.env := by rfl) (hpl : (backTo pos (starEach [.Name x pT] X.env)).any (·.1) = false := by rfl) :
    QE Z G X (.Call (.Name "isinstance" p) [e, .Name x pT] [] pos) (dIsC C te) := by
  refine ⟨fun W tk => pe_of (pe_callB call_isi hg hm PyProof.Rows.boot_isinstance (pa_cons (he.pe W tk) (pa_cons (pe_glob hgT hmT (v := .ref C) rfl hdb) pa_nil hs2) hs) (by decide) (by decide) hs hpl) fun σ H Q ⟨ρ, M, R, rl, h, k⟩ => ?_⟩
  refine ⟨ρ, M, _, rl, h, fun d M1 v H1 ⟨a, dx, ns, ds, ed, ea, h1⟩ n1 r1 => ?_⟩
  subst ed
  obtain ⟨vs, e1, _, _, _⟩ := n1.here.at_ins ea
  have ev := rd_ref r1
  subst ev
  exact ⟨.ref a, .ref C, .ref C, .ref C, true, rfl, .own C, .base (.ins e1 I.cl I.ha I.hn I.ht I.hm), I.kt, k _ _ _ _ h1 n1 mk_bl⟩
end
section
variable {X : Cx} {k : Nat} {f C : Addr} {fd : FuncData} {ps : List Str}
theorem op_own {sp : Sp} (F : FnOk X.prog X.w X.K X.mg X.base (L2.CX X.prog X.w) k f fd ps sp) (hr : Room k X.A) (hs : PySem.W.findIn X.K (.ref C) "__eq__" = some (some (.ref f))) (hf : PySem.W.isFn X.K (.ref f) = true) (hb : Binds X.K fd ps []) :
    OpR X (compareOp .Eq) (fun x y H Q => ∃ a b dx dy fs gs, x = .ref a ∧ y = .ref b ∧ H a = some (.ins C dx fs) ∧ H b = some (.ins C dy gs) ∧ sp [x, y] H (fun v H' => ∃ t, v = .bl t ∧ Q v H') fun _ _ _ => False) := fun pins s σ H x y v u Q I rx ry ⟨a, b, dx, dy, fs, gs, ex, ey, ha, hb2, hsp⟩ => by
  subst ex ey
  cases rx
  cases ry
  have ⟨_, J1, _⟩ := ins_get I.hok ha
  have ⟨_, J2, _⟩ := ins_get I.hok hb2
  have ⟨_, J1, _⟩ := J1.look
  have ⟨_, J2, _⟩ := J2.look
  have ⟨_, hF⟩ := I.fr
  have few : ([.ref a, .ref b] : List Value).length = ps.length := F.len _ _ _ _ hsp
  have bind := hb s [.ref a, .ref b] I.kIn (by simpa using few)
  have both : Vals [V.ref a, V.ref b] [Value.ref a, Value.ref b] := .cons (by show Value.ref a = .ref a; rfl) (.cons (by show Value.ref b = .ref b; rfl) .nil)
  show wpAny (model X.prog X.w) X.A (richCompare .Eq (.ref a) (.ref b)) (EP X pins σ Q) X.xe s
  refine PySem.W.cmp_K (op := .Eq) (tb := .ref C) (by have := hr.un; omega) hF I.ok.mod.kin J1 J2.type (by simp [PySem.W.notFirst]) hs hf (wpAny_call (codeAny_mono (F.run X.A X.stack s H ⟨[.ref a, .ref b], []⟩ _ _ _ _ hr I.env0 (by simpa using bind) both hsp) fun r s' z => ?_))
  match r, z with
  | .error er, z => exact passL pins σ H s er s' I z
  | .ok (.ret w), z =>
    obtain ⟨v, H', I', rv, ⟨t, ev, q⟩⟩ := I.after z
    subst ev
    cases rv
    exact ⟨.bl t, H', I', rfl, q⟩
end
def eqP (C : Addr) (sp : DSp) : D → D → DM → DQ → Prop := fun x y M R => ∃ a b dx dy ns ds ms es, x = .ref a ∧ y = .ref b ∧ M a = some (.ins C dx ns ds) ∧ M b = some (.ins C dy ms es) ∧ sp [x, y] M (fun d M' => ∃ t, d = .bl t ∧ R d M') fun _ _ _ => False
theorem o_own {Z : ZP} {X : Cx} {k : Nat} {f C : Addr} {fd : FuncData} {ps : List Str} {sp : DSp} (F : FnOk X.prog X.w X.K X.mg X.base (L2.CX X.prog X.w) k f fd ps (lSp Z sp)) (hr : Room k X.A) (hs : PySem.W.findIn X.K (.ref C) "__eq__" = some (some (.ref f))) (hf : PySem.W.isFn X.K (.ref f) = true)
    (hb : Binds X.K fd ps []) : OpD Z X (compareOp .Eq) (eqP C sp) := by
  refine ⟨_, op_own F hr hs hf hb, fun H M x y dx dy R Q hh rx ry g k => ?_⟩
  obtain ⟨a, b, ax, bx, ns, ds, ms, es, ex, ey, ea, eb, h⟩ := g
  subst ex ey
  obtain ⟨vs, e1, _, _, _⟩ := hh.at_ins ea
  obtain ⟨us, e2, _, _, _⟩ := hh.at_ins eb
  have q1 := rd_ref rx
  have q2 := rd_ref ry
  subst q1 q2
  refine ⟨a, b, ax, bx, _, _, rfl, rfl, e1, e2, [.ref a, .ref b], M, _, _, .cons mk_ref (.cons mk_ref .nil), hh.mm, hh.tb, h, fun d M' v H' ⟨t, ed, q⟩ n r => ?_, fun _ _ _ _ _ q => q.elim⟩
  subst ed
  have ev := rd_bl r
  subst ev
  exact ⟨t, rfl, k _ _ _ _ q n mk_bl⟩
def pairs2 (k1 k2 : List Nat) (i j : Int) : List (Key × V) := [(.inr (sV k1), .int i), (.inr (sV k2), .int j)]
def pairD (k1 k2 : List Nat) (i j : Int) : MO := .dcK [(.inr (sV k1), .int i), (.inr (sV k2), .int j)]
def dDep (k1 k2 : List Nat) (i j z : Int) (te : DE) : DE := fun W ρ M R => ∀ p, M p = none → te W ρ (mupd M p (pairD k1 k2 i j)) fun d M1 => M1 p = some (pairD k1 k2 i j) ∧ match d with
  | .str s => R (.int (if s = k1 then i else if s = k2 then j else z)) M1
  | _ => False
section
variable {Z : ZP} {G : Hp} {X : Cx} {p1 p2 p3 p4 p5 p6 p7 apos cpos : Pos} {c1 c2 c3 c4 c5 : Nat} {e : Expr} {te : DE} {k1 k2 : List Nat} {i j z : Int}
theorem qe_dep (hk : k1 ≠ k2) (hu : X.A.units + 1 < cLine) (he : QE Z G X e te) (m : M2 X (.Dict [some (.Constant (.str (sV k1)) c1 p1), some (.Constant (.str (sV k2)) c2 p2)] [.Constant (.int i) c3 p3, .UnaryOp .USub (.Constant (.int j) c4 p4) p5] p6) "get" apos e (.Constant (.int z) c5 p7) cpos) :
    QE Z G X (.Call (.Attribute (.Dict [some (.Constant (.str (sV k1)) c1 p1), some (.Constant (.str (sV k2)) c2 p2)] [.Constant (.int i) c3 p3, .UnaryOp .USub (.Constant (.int j) c4 p4) p5] p6) "get" apos) [e, .Constant (.int z) c5 p7] [] cpos) (dDep k1 k2 i (-j) z te) := by
  refine ⟨fun W tk => pe_of (pe_dget2 hu (pe_disp (pps_cons pe_str pe_int (pps_cons pe_str (pe_un un_neg pe_int) pps_nil)) rfl rfl (by simp) (by show 2 ≤ 15; decide)) (he.pe W tk) pe_int m) fun σ H Q ⟨ρ, M, R, rl, h, k⟩ => ?_⟩
  intro p hp
  have hN : M p = none := rl.here.free hp
  refine ⟨j, rfl, upd_same, pairs2 k1 k2 i (-j), rfl, (by show 2 ≤ 15; decide), ?_⟩
  have em : mergeK [] (pairs2 k1 k2 i (-j)) = pairs2 k1 k2 i (-j) := by
    have ne : ¬ (Sum.inr (sV k1) : Key) = Sum.inr (sV k2) := fun q => hk (sV_inj (Sum.inr.inj q))
    unfold pairs2 mergeK
    simp only [List.foldl_cons, List.foldl_nil]
    unfold putK
    simp [ne]
  have eu : upd (upd H p (.dK [])) p (.dK (mergeK [] (pairs2 k1 k2 i (-j)))) = upd H p (.dK (pairs2 k1 k2 i (-j))) := by
    rw [em]
    funext b
    by_cases q : b = p
    · subst q; rw [upd_same, upd_same]
    · rw [upd_ne q, upd_ne q, upd_ne q]
  rw [eu]
  have rp : RO Z (upd H p (.dK (pairs2 k1 k2 i (-j)))) p (some (.dK (pairs2 k1 k2 i (-j)))) (pairD k1 k2 i (-j)) := ⟨[.int i, .int (-j)], rfl, .cons mk_int (.cons mk_int .nil)⟩
  have n : Nx Z H (upd H p (.dK (pairs2 k1 k2 i (-j)))) (mupd M p (pairD k1 k2 i (-j))) := ⟨keepT_new hp, rl.mm.upd (keepT_new hp) rp, tabs_new rl.tb hp⟩
  refine ⟨p, rfl, .inl ⟨_, .inl upd_same⟩, ρ, _, _, rl.nx n, h p hN, fun d M1 v H1 h1 n1 r1 => ?_⟩
  obtain ⟨ep, h1⟩ := h1
  obtain ⟨vs, e1, r2⟩ := n1.mm p _ ep
  split at h1
  · rename_i s
    have ev := rd_str r1
    subst ev
    have e3 : vs = [.int i, .int (-j)] := by
      obtain ⟨x, r, e4, q1, q2⟩ := r2
      obtain ⟨y, r', e5, q3, q4⟩ := q2
      have z1 := rd_int q1
      have z2 := rd_int q3
      have z3 : r' = [] := q4
      rw [e4, e5, z1, z2, z3]
    subst e3
    refine ⟨_, DGet.k (k := .inr (sV s)) e1, ?_⟩
    have fin : (valV (pairs2 k1 k2 i (-j)) (.inr (sV s))).getD (.int z) = .int (if s = k1 then i else if s = k2 then -j else z) := by
      unfold pairs2
      by_cases q1 : s = k1
      · rw [if_pos q1, valV_pos (by rw [q1])]; rfl
      · rw [if_neg q1, valV_neg (fun q => q1 (sV_inj (Sum.inr.inj q)).symm)]
        by_cases q2 : s = k2
        · rw [if_pos q2, valV_pos (by rw [q2])]; rfl
        · rw [if_neg q2, valV_neg (fun q => q2 (sV_inj (Sum.inr.inj q)).symm)]; rfl
    show Q ((valV (pairs2 k1 k2 i (-j)) (.inr (sV s))).getD (.int z)) H1
    rw [fin]
    exact k _ _ _ _ h1 (n.trans n1) mk_int
  · exact h1.elim
end
end DL

set_option Elab.async false
set_option linter.all false
set_option maxRecDepth 100000
set_option maxHeartbeats 1000000
namespace DL
open PySem PySem.Spec PyProof.Rows L2

section
variable {X : Cx} {pz : List (Addr × Obj)} {σ : L2.St} {H : Hp} {s : Shared}
mutual
theorem key_at (I : Inv X pz σ H s) : ∀ (d : D) (v : V) (u : Value), kdB d = true → RD X.K H d v → RelV v u → NestedIs s.heap (nk d) u
  | .non, v, u, _, r, q => by rw [rd_non r] at q; cases q; rw [nk]; exact .none
  | .bl b, v, u, _, r, q => by rw [rd_bl r] at q; cases q; rw [nk]; exact .bool (by cases b <;> rfl)
  | .int i, v, u, _, r, q => by rw [rd_int r] at q; obtain ⟨t, rfl⟩ := q; rw [nk]; exact .int _ _
  | .str x, v, u, _, r, q => by rw [rd_str r] at q; obtain ⟨t, rfl⟩ := q; rw [nk]; exact .text _ _
  | .ref a, v, u, k, r, q => by rw [kdB] at k; cases k
  | .tup ds, v, u, k, r, q => by
    rw [kdB] at k
    obtain ⟨a, vs, rfl, st, rs⟩ := rd_tp r
    cases q
    obtain ⟨its, rv, ⟨o, h1, h2, n, h3⟩, _⟩ := I.tuple st
    rw [nk]
    exact .tup h1 h2 h3 (by simpa using keys_at I ds vs its k rs rv)
theorem keys_at (I : Inv X pz σ H s) : ∀ (ds : List D) (vs : List V) (us : List Value), kdsB ds = true → RDs X.K H ds vs → Vals vs us → NestedAll s.heap (nks ds) us
  | [], vs, us, _, r, q => by rw [RDs] at r; subst r; cases q; rw [nks]; exact .nil
  | d :: ds, vs, us, k, r, q => by
    rw [kdsB, Bool.and_eq_true] at k
    rw [RDs] at r
    obtain ⟨v, w, rfl, r1, r2⟩ := r
    cases q with
    | cons q1 q2 =>
      rw [nks]
      exact .cons (key_at I d v _ k.1 r1 q1) (keys_at I ds w _ k.2 r2 q2)
end
end
def isK (x : D) : Prop := kdB x = true ∧ (nk x).depth ≤ 8 ∧ ∃ ds, x = .tup ds
theorem rd_tupref {K : PySem.W.Frag} {H : Hp} {x : D} {v : V} (k : isK x) (r : RD K H x v) : ∃ b, v = .ref b := by
  obtain ⟨_, _, ds, rfl⟩ := k
  obtain ⟨a, _, e, _⟩ := rd_tp r
  exact ⟨a, e⟩
abbrev DEn := Paired fun (p : NestedKey × Addr × V) (q : NestedKey × Addr × Value) => p.1 = q.1 ∧ p.2.1 = q.2.1 ∧ RelV p.2.2 q.2.2
theorem DEn.keys : ∀ {xs : List (NestedKey × Addr × V)} {ys : List (NestedKey × Addr × Value)}, DEn xs ys → ys.map (·.1) = xs.map (·.1) ∧ ys.map (fun y => V.ref y.2.1) = xs.map (fun x => V.ref x.2.1) ∧ ys.length = xs.length
  | _, _, .nil => ⟨rfl, rfl, rfl⟩
  | _, _, .cons r t => by
    obtain ⟨h1, h2, h3⟩ := DEn.keys t
    rw [List.map_cons, List.map_cons, List.map_cons, List.map_cons, List.length_cons, List.length_cons, h1, h2, h3, r.1, r.2.1]
    exact ⟨rfl, rfl, rfl⟩
theorem atKey_some {ys : List (NestedKey × Addr × Value)} {k : NestedKey} : (atKey ys k).isSome = (ys.map (·.1)).any fun x => decide (x = k) := by
  unfold atKey
  rw [Option.isSome_map, List.any_map]
  induction ys with
  | nil => rfl
  | cons y r ih =>
    rw [List.find?_cons, List.any_cons]
    cases e : decide (y.1 = k) with
    | true => simp [e]
    | false => simp only [Function.comp, e, Bool.false_or]; exact ih
structure DnAt (P : Program) (w : World) (h : Heap) (a : Addr) (xs : List (NestedKey × Addr × V)) (ys : List (NestedKey × Addr × Value)) : Prop where
  z : xs.length ≤ sizeLine
  lo : (a == sysModules) = false
  en : DEn xs ys
  d : h.DictOfH (nestedKind P w) a ys
section
variable {X : Cx} {pz : List (Addr × Obj)} {σ : L2.St} {H : Hp} {s : Shared}
theorem keyrefs (I : Inv X pz σ H s) : ∀ (kvs : List (D × D)) (xs : List (NestedKey × Addr × V)), (∀ p ∈ kvs, kdB p.1 = true ∧ (nk p.1).depth ≤ 8) → xs.map (·.1) = kvs.map (fun p => nk p.1) → RDs X.K H (kvs.map (·.1)) (xs.map fun x => V.ref x.2.1) → ∀ x ∈ xs, NestedIs s.heap x.1 (.ref x.2.1) ∧ x.1.depth ≤ 8
  | [], [], _, _, _, x, hx => by cases hx
  | [], _ :: _, _, e, _, _, _ => by cases e
  | _ :: _, [], _, e, _, _, _ => by cases e
  | p :: kvs, y :: xs, hk, e, r, x, hx => by
    rw [List.map_cons, List.map_cons, List.cons.injEq] at e
    rw [List.map_cons, List.map_cons, RDs] at r
    obtain ⟨v, w, e2, r1, r2⟩ := r
    cases e2
    rcases List.mem_cons.mp hx with h | h
    · subst h
      obtain ⟨k1, k2⟩ := hk p (by simp)
      rw [e.1]
      exact ⟨key_at I p.1 _ _ k1 r1 rfl, k2⟩
    · exact keyrefs I kvs xs (fun q hq => hk q (by simp [hq])) e.2 r2 x h
theorem dn_at {kvs : List (D × D)} {xs : List (NestedKey × Addr × V)} {a : Addr} (I : Inv X pz σ H s) (e : H a = some (DNo X.prog X.w a xs)) (hk : ∀ p ∈ kvs, kdB p.1 = true ∧ (nk p.1).depth ≤ 8) (e1 : xs.map (·.1) = kvs.map (fun p => nk p.1)) (r : RDs X.K H (kvs.map (·.1)) (xs.map fun x => V.ref x.2.1)) :
    ∃ ys, DnAt X.prog X.w s.heap a xs ys := by
  obtain ⟨⟨z, lo, ys, en, o, es, ep, h1, h2, h3, h4, h5⟩, _, _⟩ := I.hok a _ e
  refine ⟨ys, z, lo, en, o, es, ep, h1, h2, h3, h4, fun y hy => ?_, h5⟩
  have all := keyrefs I kvs xs hk e1 r
  have : ∀ {xs : List (NestedKey × Addr × V)} {ys : List (NestedKey × Addr × Value)}, DEn xs ys → (∀ x ∈ xs, NestedIs s.heap x.1 (.ref x.2.1) ∧ x.1.depth ≤ 8) → ∀ y ∈ ys, NestedIs s.heap y.1 (.ref y.2.1) ∧ y.1.depth ≤ 8 := by
    intro xs ys en
    induction en with
    | nil => intro _ y hy; cases hy
    | @cons p q ps qs hq t ih =>
      intro h y hy
      rcases List.mem_cons.mp hy with e | e
      · subst e
        have := h p (by simp)
        rw [hq.1, hq.2.1] at this
        exact this
      · exact ih (fun x hx => h x (by simp [hx])) y e
  exact this en all y hy
end

def hasN (kvs : List (D × D)) (x : D) : Bool := kvs.any fun p => decide (nk p.1 = nk x)
def inN (neg : Bool) : D → D → DM → DQ → Prop := fun x y M R => match y with
  | .ref a => ∃ kvs, M a = some (.dcN kvs) ∧ isK x ∧ R (.bl (if neg then !hasN kvs x else hasN kvs x)) M
  | _ => False
theorem hasN_eq {kvs : List (D × D)} {xs : List (NestedKey × Addr × V)} {ys : List (NestedKey × Addr × Value)} {x : D} (en : DEn xs ys) (e : xs.map (·.1) = kvs.map (fun p => nk p.1)) : (atKey ys (nk x)).isSome = hasN kvs x := by
  rw [atKey_some, en.keys.1, e, List.any_map]
  rfl
theorem o_inN {Z : ZP} {X : Cx} (hK : X.K = Z.K) (hP : X.prog = Z.P) (hw : X.w = Z.w) (hu : X.A.units + 65 < cLine) : OpD Z X (compareOp .In) (inN false) := by
  refine ⟨fun x y H Q => ∃ (a b : Addr) (d : D) (kvs : List (D × D)) (xs : List (NestedKey × Addr × V)), x = .ref b ∧ y = .ref a ∧ RD X.K H d (.ref b) ∧ isK d ∧ H a = some (DNo X.prog X.w a xs) ∧ (∀ p ∈ kvs, kdB p.1 = true ∧ (nk p.1).depth ≤ 8) ∧ xs.map (·.1) = kvs.map (fun p => nk p.1) ∧ RDs X.K H (kvs.map (·.1)) (xs.map fun x => V.ref x.2.1) ∧ Q (.bl (hasN kvs d)) H, ?_, ?_⟩
  · intro pz s σ H x y v u Q I rx ry h
    obtain ⟨a, b, d, kvs, xs, rfl, rfl, rd, ik, e, hk, e1, r, q⟩ := h
    cases rx
    cases ry
    obtain ⟨ys, hz, lo, en, dd⟩ := dn_at I e hk e1 r
    refine wpAny_in_heap (knd := nestedKind X.prog X.w) (show X.A.in1.units + 8 < cLine by have : X.A.in1.units = X.A.units + 1 := Around.in1_units _; omega) ⟨key_at I d _ _ ik.1 rd rfl, ik.2.1⟩ lo dd ?_
    rw [hasN_eq en e1]
    exact ⟨.bl _, H, I.tok _, rfl, q⟩
  · intro H M x y dx dy R Q hr rx ry g k
    unfold inN at g
    split at g
    · rename_i a
      obtain ⟨kvs, e, ik, g⟩ := g
      obtain ⟨xs, h1, h2, h3, h4, h5⟩ := hr.mm _ _ e
      obtain ⟨b, rfl⟩ := rd_tupref ik rx
      rw [rd_ref ry]
      refine ⟨a, b, dx, kvs, xs, rfl, rfl, hK ▸ rx, ik, hP ▸ hw ▸ h1, h5, h2, hK ▸ h3, k _ _ _ _ g hr.stay mk_bl⟩
    · exact g.elim
theorem o_notInN {Z : ZP} {X : Cx} (hK : X.K = Z.K) (hP : X.prog = Z.P) (hw : X.w = Z.w) (hu : X.A.units + 65 < cLine) : OpD Z X (compareOp .NotIn) (inN true) := by
  refine ⟨fun x y H Q => ∃ (a b : Addr) (d : D) (kvs : List (D × D)) (xs : List (NestedKey × Addr × V)), x = .ref b ∧ y = .ref a ∧ RD X.K H d (.ref b) ∧ isK d ∧ H a = some (DNo X.prog X.w a xs) ∧ (∀ p ∈ kvs, kdB p.1 = true ∧ (nk p.1).depth ≤ 8) ∧ xs.map (·.1) = kvs.map (fun p => nk p.1) ∧ RDs X.K H (kvs.map (·.1)) (xs.map fun x => V.ref x.2.1) ∧ Q (.bl (!hasN kvs d)) H, ?_, ?_⟩
  · intro pz s σ H x y v u Q I rx ry h
    obtain ⟨a, b, d, kvs, xs, rfl, rfl, rd, ik, e, hk, e1, r, q⟩ := h
    cases rx
    cases ry
    obtain ⟨ys, hz, lo, en, dd⟩ := dn_at I e hk e1 r
    refine notIn_keyed (knd := nestedKind X.prog X.w) (show X.A.in1.units + 8 < cLine by have : X.A.in1.units = X.A.units + 1 := Around.in1_units _; omega) ⟨key_at I d _ _ ik.1 rd rfl, ik.2.1⟩ lo ⟨ys, dd, rfl⟩ ?_
    rw [valueAt_pairsH, Option.isSome_map, hasN_eq en e1]
    exact ⟨.bl _, H, I.tok _, rfl, q⟩
  · intro H M x y dx dy R Q hr rx ry g k
    unfold inN at g
    split at g
    · rename_i a
      obtain ⟨kvs, e, ik, g⟩ := g
      obtain ⟨xs, h1, h2, h3, h4, h5⟩ := hr.mm _ _ e
      obtain ⟨b, rfl⟩ := rd_tupref ik rx
      rw [rd_ref ry]
      refine ⟨a, b, dx, kvs, xs, rfl, rfl, hK ▸ rx, ik, hP ▸ hw ▸ h1, h5, h2, hK ▸ h3, k _ _ _ _ g hr.stay mk_bl⟩
    · exact g.elim

def setN (o i v : D) (M : DM) (Q : DM → Prop) : Prop := match o with
  | .ref a => ∃ kvs, M a = some (.dcN kvs) ∧ isK i ∧ hasN kvs i = false ∧ kvs.length < sizeLine ∧ Q (mupd M a (.dcN (kvs ++ [(i, v)])))
  | _ => False
def gSbN (to ti : DE) : DG := fun v ρ M Q => to noW ρ M fun o M1 => ti noW ρ M1 fun i M2 => setN o i v M2 fun M3 => Q ρ M3
theorem isMut_dno {P : Program} {w : World} {a : Addr} {xs : List (NestedKey × Addr × V)} : (∀ ys, DNo P w a xs ≠ .tup ys) ∧ (∀ b u, DNo P w a xs ≠ .frz b u) ∧ (∀ ps, DNo P w a xs ≠ .tbl ps) := ⟨fun _ z => (by unfold DNo at z; cases z), fun _ _ z => (by unfold DNo at z; cases z), fun _ z => (by unfold DNo at z; cases z)⟩
theorem keepT_dno {K : PySem.W.Frag} {H : Hp} {P : Program} {w : World} {p a : Addr} {xs : List (NestedKey × Addr × V)} {u : HO} (e : H p = some (DNo P w a xs)) : KeepT K H (upd H p u) := fun b ys q =>
  sqt_ne (o := DNo P w a xs) (.inr e) isMut_dno.1 isMut_dno.2.1 u b ys q
theorem dno_code {P : Program} {w : World} {a c : Addr} {xs : List (NestedKey × Addr × V)} {q : Str} : DNo P w a xs ≠ LamX.CodeO a q := fun z => by
  unfold DNo LamX.CodeO at z
  have z2 := HO.ext.inj z
  let ob : Obj := { cls := .none, data := .fields #[.none, .str q 0] }
  let h : Heap := { objs := Array.replicate (a + 1) ob }
  have hg : h.get? a = some ob := by
    unfold Heap.get?
    have : h.objs[a]? = some ob := by
      show (Array.replicate (a + 1) ob)[a]? = some ob
      rw [Array.getElem?_replicate, if_pos (Nat.lt_succ_self a)]
    rw [this]
  have hc : ∃ (oc : Obj) (vs : Array Value) (t : Tok), h.get? a = some oc ∧ oc.data = .fields vs ∧ vs[1]? = some (.str q t) := ⟨ob, _, 0, hg, rfl, rfl⟩
  have hd := (congrFun z2 h).symm ▸ hc
  obtain ⟨_, _, ys, _, o, es, ep, h1, _, h3, _⟩ := hd
  rw [hg] at h1
  cases h1
  cases h3
theorem tabs_dno {T : List NdefX.NTab} {H : Hp} {P : Program} {w : World} {p : Addr} {xs : List (NestedKey × Addr × V)} {u : HO} (t : NdefX.TabsN T H) (e : H p = some (DNo P w p xs)) : NdefX.TabsN T (upd H p u) := fun x hx => by
  obtain ⟨ps, h1, h2, h3⟩ := t x hx
  have n1 : x.1 ≠ p := fun z => by rw [z, e] at h1; exact isMut_dno.2.2 _ (Option.some.inj h1)
  refine ⟨ps, by rw [upd_ne n1]; exact h1, h2, fun pos cv hc => ?_⟩
  obtain ⟨c, k1, k2⟩ := h3 pos cv hc
  have n2 : c ≠ p := fun z => by
    rw [z, e] at k2
    exact dno_code (c := c) (Option.some.inj k2)
  exact ⟨c, k1, by rw [upd_ne n2]; exact k2⟩
def rSetN (K : PySem.W.Frag) (P : Program) (w : World) (x y v : V) (H : Hp) (Q : Hp → Prop) : Prop := ∃ (a b : Addr) (d : D) (kvs : List (D × D)) (xs : List (NestedKey × Addr × V)), x = .ref a ∧ y = .ref b ∧ RD K H d (.ref b) ∧ isK d ∧ H a = some (DNo P w a xs) ∧ (∀ p ∈ kvs, kdB p.1 = true ∧ (nk p.1).depth ≤ 8) ∧ xs.map (·.1) = kvs.map (fun p => nk p.1) ∧
  RDs K H (kvs.map (·.1)) (xs.map fun x => V.ref x.2.1) ∧ hasN kvs d = false ∧ xs.length < sizeLine ∧ Q (upd H a (DNo P w a (xs ++ [(nk d, b, v)])))
theorem DEn.snoc : ∀ {xs : List (NestedKey × Addr × V)} {ys : List (NestedKey × Addr × Value)} {k : NestedKey} {b : Addr} {v : V} {u : Value}, DEn xs ys → RelV v u → DEn (xs ++ [(k, b, v)]) (ys ++ [(k, b, u)])
  | _, _, _, _, _, _, .nil, r => .cons ⟨rfl, rfl, r⟩ .nil
  | _, _, _, _, _, _, .cons h t, r => .cons h (DEn.snoc t r)
theorem dno_new {P : Program} {w : World} {H : Hp} {h : Heap} {a : Addr} {xs : List (NestedKey × Addr × V)} {ys : List (NestedKey × Addr × Value)} (z : xs.length ≤ sizeLine) (lo : (a == sysModules) = false) (en : DEn xs ys) (d : h.DictOfH (nestedKind P w) a ys) : ObjOk P w H h a (DNo P w a xs) := by
  obtain ⟨o, es, ep, h1, h2, h3, h4, _, h5⟩ := d
  exact ⟨⟨z, lo, ys, en, o, es, ep, h1, h2, h3, h4, h5⟩, ⟨o, h1⟩, fun g1 g2 ⟨z, lo, ys, en, o, es, ep, k1, k2, k3, k4, k5⟩ st => ⟨z, lo, ys, en, o, es, ep, st o k1, k2, k3, k4, k5⟩⟩
theorem set_N {X : Cx} (hu : X.A.units + 65 < cLine) : PSet X (rSetN X.K X.prog X.w) := by
  intro pz s σ H x y v xv yv u Q I rx ry rv h
  obtain ⟨a, b, d, kvs, xs, rfl, rfl, rd, ik, e, hk, e1, r, hn, hz, q⟩ := h
  cases rx
  cases ry
  obtain ⟨ys, ⟨z, lo, en, dd⟩⟩ := dn_at I e hk e1 r
  have ly : ys.length = xs.length := en.keys.2.2
  refine wpAny_setItem_heap (knd := nestedKind X.prog X.w) (hsz := by rw [ly]; exact z) (show X.A.in1.units + 8 < cLine by have : X.A.in1.units = X.A.units + 1 := Around.in1_units _; omega) ⟨key_at I d _ _ ik.1 rd rfl, ik.2.1⟩ dd fun h' dd' hs => ?_
  have e3 : atKey ys (nk d) = none := by
    have := hasN_eq (x := d) en e1
    rw [hn] at this
    cases q0 : atKey ys (nk d) with
    | none => rfl
    | some p => rw [q0] at this; cases this
  rw [storedH_new e3] at dd'
  have he : ∃ o, h'.get? a = some o := let ⟨o, _, _, h1, _⟩ := dd'; ⟨o, h1⟩
  refine ⟨_, I.write (e := a) (t' := s.toks + (nestedKind X.prog X.w).draws (nk d)) (by rw [e]; exact True.intro) (.inl rfl) (fun c w hc hw => (hs.2 c hc).trans hw) he (dno_new (by rw [List.length_append, List.length_singleton]; omega) lo (en.snoc rv) dd'), q⟩
section
variable {Z : ZP} {G : Hp} {X : Cx} {pos : Pos}
theorem map_len {kvs : List (D × D)} {xs : List (NestedKey × Addr × V)} (e : xs.map (·.1) = kvs.map (fun p => nk p.1)) : xs.length = kvs.length := by
  have := congrArg List.length e
  simpa using this
theorem qg_subN {o i : Expr} {to ti : DE} (hK : X.K = Z.K) (hP : X.prog = Z.P) (hw : X.w = Z.w) (hu : X.A.units + 65 < cLine) (ho : QE Z G X o to) (hi : QE Z G X i ti) (ha : ∀ v, assign (.Subscript o i pos) X.env v = (do
      let ov ← holding [v] (eval o X.env)
      let iv ← holding [v, ov] (eval i X.env)
      standAt pos
      holding [v, ov, iv] (setItem ov iv v)
      release [v, ov, iv] []) := by intro _; rfl) : QG Z G X (.Subscript o i pos) (gSbN to ti) := by
  refine ⟨pg_of (pg_sub (ho.pe noW takes_no) (hi.pe noW takes_no) (set_N hu) ha) fun v σ H Q ⟨d, ρ, M, R, rl, rd, h, k⟩ => ?_⟩
  refine ⟨ρ, M, _, rl, h, fun ov M1 v1 H1 h1 n1 r1 => ⟨ρ, M1, _, rl.nx n1, h1, fun iv M2 v2 H2 h2 n2 r2 => ?_⟩⟩
  have n := n1.trans n2
  have r1' := RD.keep n2.kp _ _ r1
  have rd' := RD.keep n.kp _ _ rd
  unfold setN at h2
  split at h2
  · rename_i a
    obtain ⟨kvs, e, ik, hn, hz, h2⟩ := h2
    obtain ⟨xs, k1, k2, k3, k4, k5⟩ := n2.here.mm _ _ e
    obtain ⟨b, rfl⟩ := rd_tupref ik r2
    have hl : xs.length = kvs.length := map_len k2
    have kt : KeepT Z.K H2 (upd H2 a (DNo Z.P Z.w a (xs ++ [(nk iv, b, v)]))) := keepT_dno k1
    have ro : RO Z (upd H2 a (DNo Z.P Z.w a (xs ++ [(nk iv, b, v)]))) a (some (DNo Z.P Z.w a (xs ++ [(nk iv, b, v)]))) (.dcN (kvs ++ [(iv, d)])) := by
      refine ⟨_, rfl, by simp [k2], ?_, ?_, fun p hp => ?_⟩
      · rw [List.map_append, List.map_append]
        exact (RDs.keep kt _ _ k3).append (.cons (RD.keep kt _ _ r2) .nil)
      · rw [List.map_append, List.map_append]
        exact (RDs.keep kt _ _ k4).append (.cons (RD.keep kt _ _ rd') .nil)
      · rcases List.mem_append.mp hp with h | h
        · exact k5 p h
        · rw [List.mem_singleton.mp h]; exact ⟨ik.1, ik.2.1⟩
    have n3 : Nx Z H2 (upd H2 a (DNo Z.P Z.w a (xs ++ [(nk iv, b, v)]))) (mupd M2 a (.dcN (kvs ++ [(iv, d)]))) := ⟨kt, n2.here.mm.upd kt ro, tabs_dno n2.here.tb k1⟩
    rw [rd_ref r1']
    refine ⟨a, b, iv, kvs, xs, rfl, rfl, hK ▸ r2, ik, hP ▸ hw ▸ k1, k5, k2, hK ▸ k3, hn, by rw [hl]; exact hz, ?_⟩
    rw [hP, hw]
    exact k _ _ _ _ h2 (n.trans n3).kp (((rl.nx n1).nx n2).nx n3)
  · exact h2.elim
def dNewN : DE := fun _ _ M R => ∀ p, M p = none → R (.ref p) (mupd M p (.dcN []))
theorem dno_empty {P : Program} {w : World} {H : Hp} (h : Heap) (hb : sysModules < h.objs.size) : ObjOk P w H (h.push { cls := .type "dict", data := .dict #[] }) h.objs.size (DNo P w h.objs.size []) :=
  dno_new (Nat.zero_le _) (beq_eq_false_iff_ne.mpr (Ne.symm (Nat.ne_of_lt hb))) .nil (Heap.DictOfH.new h)
theorem Here.dn0 {H : Hp} {M : DM} {p : Addr} (h : Here Z H M) (hp : H p = none) : Nx Z H (upd H p (DNo Z.P Z.w p [])) (mupd M p (.dcN [])) :=
  ⟨keepT_new hp, h.mm.upd (keepT_new hp) ⟨[], rfl, rfl, .nil, .nil, fun p hp => by cases hp⟩, tabs_new h.tb hp⟩
theorem qe_newN (hP : X.prog = Z.P) (hw : X.w = Z.w) : QE Z G X (.Dict [] [] pos) dNewN := by
  refine ⟨fun W tk => ⟨fun pz s σ H Q I ⟨ρ, M, R, rl, h, k⟩ => wpAny_Dict_empty ?_⟩⟩
  have hn := I.hok.fresh (Nat.le_refl s.heap.objs.size)
  refine ⟨.ref s.heap.objs.size, _, I.laid (a := s.heap.objs.size) (o := DNo X.prog X.w s.heap.objs.size []) (t' := s.toks) (fun _ _ q => Heap.get?_push_of_some _ q) (Nat.le_refl _) (dno_empty s.heap I.big), rfl, ?_⟩
  rw [hP, hw]
  exact k _ _ _ _ (h _ (rl.here.free hn)) (rl.here.dn0 hn) mk_ref
end
end DL

set_option Elab.async false
set_option linter.all false
set_option maxRecDepth 100000
set_option maxHeartbeats 1000000
namespace DL
open PySem PySem.Spec PyProof.Rows L2 TL

def stripL (c : Nat) (s : List Nat) : List Nat := ((s.dropWhile fun x => decide (x = c)).reverse.dropWhile fun x => decide (x = c)).reverse
theorem drop_tw {α : Type} (p : α → Bool) : ∀ l : List α, l.drop (l.takeWhile p).length = l.dropWhile p
  | [] => rfl
  | x :: r => by
    rw [List.takeWhile_cons, List.dropWhile_cons]
    by_cases h : p x = true
    · rw [if_pos h, List.length_cons, List.drop_succ_cons, drop_tw p r, h, if_pos rfl]
    · rw [if_neg h]
      cases e : p x with
      | true => exact absurd e h
      | false => rfl
theorem take_rev {α : Type} (p : α → Bool) (D : List α) : D.take (D.length - (D.reverse.takeWhile p).length) = (D.reverse.dropWhile p).reverse := by
  have e : D = (D.reverse.dropWhile p).reverse ++ (D.reverse.takeWhile p).reverse := by
    rw [← List.reverse_append, List.takeWhile_append_dropWhile, List.reverse_reverse]
  have l : D.length = (D.reverse.dropWhile p).length + (D.reverse.takeWhile p).length := by
    have := congrArg List.length e
    simpa using this
  conv => lhs; rw [e]
  rw [List.take_left' (by rw [← e, List.length_reverse]; omega)]
theorem strip_sV (c : Nat) (s : List Nat) : Txt.stripChars (sV s) (sV [c]) = sV (stripL c s) := by
  have hg : ((sV [c]).cps.contains : Nat → Bool) = fun x => decide (x = c) := by
    funext x
    simp [sV]
  unfold Txt.stripChars
  rw [hg, stripBy_eq]
  unfold stripLo stripHi
  simp only [if_true]
  rw [sV_cps, sV_len, strSub_mk, sV_cps]
  have hl : (s.takeWhile fun x => decide (x = c)).length ≤ s.length := (List.takeWhile_prefix _).length_le
  rw [drop_tw]
  have h2 : (s.dropWhile fun x => decide (x = c)).length = s.length - (s.takeWhile fun x => decide (x = c)).length := by rw [← drop_tw, List.length_drop]
  rw [show s.length - ((s.dropWhile fun x => decide (x = c)).reverse.takeWhile fun x => decide (x = c)).length - (s.takeWhile fun x => decide (x = c)).length = (s.dropWhile fun x => decide (x = c)).length - ((s.dropWhile fun x => decide (x = c)).reverse.takeWhile fun x => decide (x = c)).length from by rw [h2]; omega, take_rev]
  rfl
def stripD : D → List D → DM → DQ → Prop := fun x ds M R => match x, ds with
  | .str s, [.str [c]] => s.length ≤ sizeLine ∧ R (.str (stripL c s)) M
  | _, _ => False
theorem m_strip {Z : ZP} {X : Cx} : MtD Z X "str.strip" stripD := by
  refine ⟨_, mt_stripChars, fun H M v x vs ds R Q hr rx rd g k => ?_⟩
  unfold stripD at g
  split at g
  · rename_i s c
    obtain ⟨u, rfl, r1⟩ := rds_one rd
    rw [rd_str rx, rd_str r1]
    refine ⟨_, _, rfl, rfl, by rw [sV_len]; exact g.1, ?_⟩
    rw [strip_sV]
    exact k _ _ _ _ g.2 hr.stay mk_str
  · exact g.elim

def idxL (c : Nat) (s : List Nat) : Nat := (s.takeWhile fun x => !decide (x = c)).length
theorem occ_first (s sub : Str) (hi : Nat) : ∀ (l : List Nat) (f : Nat), (∀ i ∈ l, f ≤ i) → (forIn l ((#[] : Array Nat), f) (StrLaws.occBody s sub hi 1)).run.fst.toList = match l.find? (fun i => decide (i + sub.length ≤ hi) && Builtin.Str.subAt s sub i) with
    | some i => [i]
    | none => []
  | [], f, _ => rfl
  | a :: l, f, hf => by
    rw [List.forIn_cons, List.find?_cons]
    unfold StrLaws.occBody
    have ha : f ≤ a := hf a (by simp)
    by_cases h1 : a + sub.length ≤ hi
    · cases h2 : Builtin.Str.subAt s sub a with
      | true =>
        rw [if_pos ⟨⟨⟨by simp, ha⟩, h1⟩, rfl⟩]
        simp only [h1, decide_true, Bool.and_self]
        have full : ∀ (l : List Nat) (st : Array Nat × Nat), st.fst.size = 1 → (forIn l st (StrLaws.occBody s sub hi 1)).run.fst = st.fst := by
          intro l
          induction l with
          | nil => intro st _; rfl
          | cons b r ih =>
            intro st hs
            rw [List.forIn_cons]
            unfold StrLaws.occBody
            rw [if_neg (fun z => by omega)]
            exact ih (st.fst, st.snd) hs
        have := full l ((#[] : Array Nat).push a, a + sub.length) rfl
        show (forIn l ((#[] : Array Nat).push a, a + sub.length) (StrLaws.occBody s sub hi 1)).run.fst.toList = _
        rw [this]
        rfl
      | false =>
        rw [if_neg (fun z => Bool.noConfusion z.2)]
        simp only [Bool.and_false]
        exact occ_first s sub hi l f fun i hi' => hf i (by simp [hi'])
    · rw [if_neg (fun z => h1 z.1.2)]
      simp only [h1, decide_false, Bool.false_and]
      exact occ_first s sub hi l f fun i hi' => hf i (by simp [hi'])
theorem idx_find (c : Nat) (s : List Nat) (h : c ∈ s) : ∀ (pre : List Nat) (n : Nat), n = s.length + 1 → (List.range' pre.length n).find? (fun i => decide ((pre ++ s)[i]? = some c)) = some (pre.length + idxL c s) := by
  induction s with
  | nil => cases h
  | cons x r ih =>
    intro pre n hn
    subst hn
    rw [List.length_cons, List.range'_succ, List.find?_cons]
    have e : (pre ++ x :: r)[pre.length]? = some x := by simp
    rw [e]
    by_cases q : x = c
    · subst q
      simp [idxL]
    · simp only [Option.some.injEq, q, decide_false]
      have hm : c ∈ r := by
        rcases List.mem_cons.mp h with e | e
        · exact absurd e.symm q
        · exact e
      have := ih hm (pre ++ [x]) (r.length + 1) rfl
      simp only [List.length_append, List.length_singleton, List.append_assoc, List.singleton_append] at this
      rw [this]
      unfold idxL
      rw [List.takeWhile_cons, if_pos (by simp [q])]
      simp; omega
theorem index_sV {c : Nat} {s : List Nat} (h : c ∈ s) : Builtin.Str.occurrences (sV s) (sV [c]) 0 (sV s).length 1 = [idxL c s] := by
  rw [StrLaws.occ_eq, occ_first _ _ _ _ 0 (fun _ _ => Nat.zero_le _)]
  have e : (fun i => decide (i + (sV [c]).length ≤ (sV s).length) && Builtin.Str.subAt (sV s) (sV [c]) i) = fun i => decide (([] ++ s)[i]? = some c) := by
    funext i
    rw [Bool.eq_iff_iff, Bool.and_eq_true, decide_eq_true_eq, decide_eq_true_eq]
    have := StrLaws.subAt_one (sV s) c i
    rw [sV_cps] at this
    exact this
  rw [e, sV_len]
  have := idx_find c s h [] (s.length + 1) rfl
  simp only [List.length_nil, Nat.zero_add] at this
  rw [Nat.sub_zero, this]
def indexD : D → List D → DM → DQ → Prop := fun x ds M R => match x, ds with
  | .str s, [.str [c]] => c ∈ s ∧ R (.int (idxL c s : Nat)) M
  | _, _ => False
theorem m_index {Z : ZP} {X : Cx} : MtD Z X "str.index" indexD := by
  refine ⟨_, mt_sindex, fun H M v x vs ds R Q hr rx rd g k => ?_⟩
  unfold indexD at g
  split at g
  · rename_i s c
    obtain ⟨u, rfl, r1⟩ := rds_one rd
    rw [rd_str rx, rd_str r1]
    exact ⟨_, _, _, _, rfl, rfl, index_sV g.1, k _ _ _ _ g.2 hr.stay mk_int⟩
  · exact g.elim

theorem join0_splL (c : Nat) : ∀ (s acc : List Nat), joinL [] (splL c acc s) = acc ++ s.filter fun x => !decide (x = c)
  | [], acc => by unfold splL; simp [joinL]
  | x :: r, acc => by
    unfold splL
    by_cases q : x = c
    · rw [if_pos q]
      have ih := join0_splL c r []
      have ne : ∃ y ys, splL c [] r = y :: ys := by
        have go : ∀ (l acc : List Nat), ∃ y ys, splL c acc l = y :: ys := by
          intro l
          induction l with
          | nil => intro acc; exact ⟨acc, [], rfl⟩
          | cons z l ihl =>
            intro acc
            unfold splL
            by_cases qz : z = c
            · rw [if_pos qz]; exact ⟨_, _, rfl⟩
            · rw [if_neg qz]; exact ihl _
        exact go r []
      obtain ⟨y, ys, e⟩ := ne
      rw [e] at ih ⊢
      show acc ++ ([] ++ joinL [] (y :: ys)) = _
      rw [ih]
      simp [q]
    · rw [if_neg q, join0_splL c r (acc ++ [x])]
      simp [q]
theorem replace_sV {c : Nat} (s : List Nat) (hc : c < 256) : Txt.replace (sV s) (sV [c]) (sV []) = sV (s.filter fun x => !decide (x = c)) := by
  have h := split_sV (s := s) (c := c) hc
  have j : Str.join (sV []) ((splL c [] s).map sV) = sV (s.filter fun x => !decide (x = c)) := by
    rw [join_sV, join0_splL]; rfl
  rw [← h, ← join_eq] at j
  rw [← j]
  unfold Txt.replace Txt.join Txt.split
  have k1 : ¬ Builtin.Str.strKind (sV s) < Builtin.Str.strKind (sV [c]) := kind_ok (by simp [sV]; exact hc)
  have one : ∀ y : Str, Builtin.Str.glued (sV []) [y] = y := fun y => by
    unfold Builtin.Str.glued
    cases y; rfl
  have z1 : ((sV [c]).length == 0) = false := rfl
  rw [z1, Bool.false_and, Bool.or_false]
  by_cases q : (decide ((sV s).length < (sV [c]).length) || decide (Builtin.Str.strKind (sV s) < Builtin.Str.strKind (sV [c]))) = true
  · rw [if_pos q, one]
    have e : s = [] := by
      rw [Bool.or_eq_true, decide_eq_true_eq, decide_eq_true_eq] at q
      rcases q with q | q
      · rw [sV_len, sV_len] at q
        exact List.eq_nil_of_length_eq_zero (by simp at q; simp [q])
      · exact absurd q k1
    subst e
    have f := StrLaws.found_one (sV []) c
    have g : (Builtin.Str.occurrences (sV []) (sV [c]) 0 (sV []).length 1).isEmpty = true := by
      cases e : (Builtin.Str.occurrences (sV []) (sV [c]) 0 (sV []).length 1).isEmpty with
      | true => rfl
      | false =>
        rw [show (⟨#[c]⟩ : Str) = sV [c] from rfl, e] at f
        cases f
    exact if_pos g
  · rw [if_neg q]
    by_cases q2 : (Builtin.Str.occurrences (sV s) (sV [c]) 0 (sV s).length ((sV s).length + 1)).isEmpty = true
    · rw [if_pos q2, if_pos q2, one]
    · rw [if_neg q2, if_neg q2]
def wv (c : Nat) : Option Int := if c = 48 then some 0 else if c = 49 then some 1 else if c = 56 then some 8 else if c = 116 then some 3 else none
def KDW (K : PySem.W.Frag) (w : World) (mg : Str → Option Value) : Prop := ∃ p, mg "WORTHS" = some (.ref p) ∧ ∀ c v, wv c = some v → KDct K w p (sV [c]) (.int v)
def dWorth (t : DE) : DE := fun W ρ M R => t W ρ M fun d M1 => match d with
  | .str [c] => ∃ v, wv c = some v ∧ R (.int v) M1
  | _ => False
theorem qe_worth {Z : ZP} {G : Hp} {X : Cx} {b : Expr} {t : DE} {p pos : Pos} (h : KDW X.K X.w X.mg) (hb : QE Z G X b t) (hg : Gl X "WORTHS" := by rfl) (hs : PlainIx b := by exact fun _ _ => rfl) : QE Z G X (.Subscript (.Name "WORTHS" p) b pos) (dWorth t) := by
  obtain ⟨a, hm, hk⟩ := h
  refine ⟨fun W tk => pe_of (pe_ix (r := rIxD X.K X.w) ix_kdict (pe_glob (v := .ref a) hg hm rfl (by decide)) (hb.pe W tk) hs) fun σ H Q ⟨ρ, M, R, rl, h, k⟩ => ?_⟩
  refine ⟨ρ, M, _, rl, h, fun d M1 v H1 h1 n1 r1 => ?_⟩
  split at h1
  · rename_i c
    obtain ⟨n, e, h1⟩ := h1
    rw [rd_str r1]
    exact ⟨a, _, .int n, rfl, rfl, hk c n e, k _ _ _ _ h1 n1 mk_int⟩
  · exact h1.elim
end DL

set_option Elab.async false
set_option linter.all false
set_option maxRecDepth 100000
set_option maxHeartbeats 1000000
namespace DL
open PySem PySem.Spec PyProof.Rows L2
structure QET (Z : ZP) (G : Hp) (X : Cx) (e : Expr) (t : DE) : Prop where
  pe : ∀ W, Takes X (lW Z G W) → PET X e (lE Z G (t W))
structure QST (Z : ZP) (G : Hp) (X : Cx) (s : Stmt) (t : DS) : Prop where
  ps : ∀ W, Takes X (lW Z G W) → PST X s (lS Z G (t W))
structure QSsT (Z : ZP) (G : Hp) (X : Cx) (s : List Stmt) (t : DS) : Prop where
  pss : ∀ W, Takes X (lW Z G W) → PSsT X s (lS Z G (t W))
section
variable {Z : ZP} {G : Hp} {X : Cx} {pos : Pos} {e o : Expr} {es : List Expr} {st : Stmt} {rest : List Stmt} {te : DE} {ta : DA} {t u : DS}
theorem QET.of (h : QE Z G X e te) : QET Z G X e te := ⟨fun W tk => CwR.PET.of (h.pe W tk)⟩
theorem QST.of (h : QS Z G X st t) : QST Z G X st t := ⟨fun W tk => PST.of (h.ps W tk)⟩
theorem QSsT.of (h : QSs Z G X rest t) : QSsT Z G X rest t := ⟨fun W tk => PSsT.of (h.pss W tk)⟩
theorem pet_w {e : Expr} {t t' : TE} (h : PET X e t) (w : ∀ σ H Q, t' σ H Q → t σ H Q) : PET X e t' := fun pz s σ H Q h0 I q => h pz s σ H Q h0 I (w σ H Q q)
theorem pst_w {e : Stmt} {t t' : TS} (h : PST X e t) (w : ∀ D σ H, t' D σ H → t D σ H) : PST X e t' := fun pz s σ H D h0 I q => h pz s σ H D h0 I (w D σ H q)
theorem psst_w {e : List Stmt} {t t' : TS} (h : PSsT X e t) (w : ∀ D σ H, t' D σ H → t D σ H) : PSsT X e t' := fun pz s σ H D h0 I q => h pz s σ H D h0 I (w D σ H q)
theorem qsst_cons (h1 : QST Z G X st t) (h2 : QSsT Z G X rest u) : QSsT Z G X (st :: rest) (dSeq t u) := by
  refine ⟨fun W tk => psst_w (psst_cons (h1.ps W tk) (h2.pss W tk)) fun D σ H ⟨ρ, M, E, rl, h, k1, k2, k3, k4⟩ => ?_⟩
  refine ⟨ρ, M, _, rl, h, fun ρ' M' σ' H' q kp r => ?_, k2, k3, k4⟩
  exact ⟨ρ', M', E, r, q, fun _ _ _ _ q' kp' r' => k1 _ _ _ _ q' (kp.trans kp') r', fun _ _ _ _ q' n' r' => k2 _ _ _ _ q' ⟨kp.trans n'.kp, n'.mm, n'.tb⟩ r', fun _ _ _ _ q' kp' r' => k3 _ _ _ _ q' (kp.trans kp') r', fun _ _ _ _ q' kp' r' => k4 _ _ _ _ q' (kp.trans kp') r'⟩
def dRepl (c : Nat) (te : DE) : DE := fun W ρ M R => te W ρ M fun x M1 => match x with
  | .str s => s.length ≤ sizeLine ∧ R (.str (s.filter fun y => !decide (y = c))) M1
  | _ => False
theorem qet_repl {c : Nat} {j k : Nat} {c0 c1 apos : Pos} {y z : Str} (ey : y = sV [c]) (ez : z = sV []) (hc : c < 256) (ho : QE Z G X o te)
    (hst : starEach [.Constant (.str y) j c0, .Constant (.str z) k c1] X.env = [(false, eval (.Constant (.str y) j c0) X.env), (false, eval (.Constant (.str z) k c1) X.env)] := by rfl)
    (hbase : attributeBase o "replace" X.env (eval o X.env) = eval o X.env := by rfl) (hline : (apos.endLine == pos.line) = true := by rfl) : QET Z G X (.Call (.Attribute o "replace" apos) [.Constant (.str y) j c0, .Constant (.str z) k c1] [] pos) (dRepl c te) := by
  subst ey
  subst ez
  have hyz : (sV [c] == sV []) = false := by
    refine beq_eq_false_iff_ne.mpr fun e => ?_
    have := sV_inj e
    cases this
  refine ⟨fun W tk => pet_w (CwR.pet_replC (ho.pe W tk) hyz hst hbase hline) fun σ H Q ⟨ρ, M, R, rl, h, kq⟩ => ?_⟩
  refine ⟨ρ, M, _, rl, h, fun d M1 v H1 h1 n1 r1 => ?_⟩
  cases d with
  | str s =>
    rw [rd_str r1]
    refine ⟨_, rfl, ?_, ?_⟩
    · have z1 : sizeLine = 16777216 := sizeLine_eq
      have h0 : (sV []).length = 0 := rfl
      have h2 : s.length ≤ sizeLine := h1.1
      rw [sV_len, h0, Nat.mul_zero, Nat.add_zero]
      omega
    · rw [replace_sV s hc]
      exact kq _ _ _ _ h1.2 n1 mk_str
  | _ => exact h1.elim
theorem pet_bm {name : Str} {apos cpos : Pos} {T id : String} {r : V → List V → Hp → VK → Prop} {to : TE} {t : TA} (pa : PlainAttrs T) (slot : Slot T name id) (hty : typeOf (.builtin id) = pure (.type "method_descriptor")) (hm : MtR X id r) (ho : PET X o to) (ha : PA X (e :: es) t)
    (hbase : attributeBase o name X.env (eval o X.env) = eval o X.env := by rfl)
    (hfew : ((backTo cpos (starEach (e :: es) X.env)).all (fun x => !x.1) && (backToKw cpos (keywordEach [] X.env)).all (fun x => x.1.isSome) && decide ((e :: es).length + ([] : List Keyword).length + (if ([] : List Keyword).isEmpty then 0 else 1) < 30)) = true := by rfl)
    (hline : (apos.endLine == cpos.line) = true := by rfl) (hs : starEach (e :: es) X.env = (false, eval e X.env) :: starEach es X.env := by rfl) (hplain : (backTo cpos (starEach es X.env)).any (·.1) = false := by rfl) : PET X (.Call (.Attribute o name apos) (e :: es) [] cpos) (tBM X.K T r to t) := by
  intro pz s σ H Q h0 I h
  refine wpAny_Call_method_late hbase hfew hline rfl (thn (ho pz s σ H _ h0 I h) fun v s1 ⟨x, H1, J1, r1, ty, q1⟩ => ?_)
  obtain ⟨k1, k2⟩ := tyV_is J1 r1 ty
  refine ⟨T, id, pa, slot, hty, k1, k2, ?_⟩
  have hA := ha.run cpos pz s1 σ H1 _ J1 q1
  rw [hs] at hA ⊢
  refine Calls.callWith_builtin (by show (false || (backTo cpos (starEach es X.env)).any (·.1)) = false; rw [hplain]; rfl) (Calls.evalArgs_plain ?_)
  exact thn hA fun uz s2 ⟨vs, H2, J2, r2, q2⟩ => hm pz s2 σ H2 x vs v uz Q J2 r1 r2 q2
theorem qet_bm {name : Str} {apos cpos : Pos} {T id : String} {g : D → List D → DM → DQ → Prop} (hK : X.K = Z.K) (pa : PlainAttrs T) (slot : Slot T name id) (hty : typeOf (.builtin id) = pure (.type "method_descriptor")) (hm : MtD Z X id g) (ho : QET Z G X o te) (ha : QA Z G X (e :: es) ta)
    (hbase : attributeBase o name X.env (eval o X.env) = eval o X.env := by rfl)
    (hfew : ((backTo cpos (starEach (e :: es) X.env)).all (fun x => !x.1) && (backToKw cpos (keywordEach [] X.env)).all (fun x => x.1.isSome) && decide ((e :: es).length + ([] : List Keyword).length + (if ([] : List Keyword).isEmpty then 0 else 1) < 30)) = true := by rfl)
    (hline : (apos.endLine == cpos.line) = true := by rfl) (hs : starEach (e :: es) X.env = (false, eval e X.env) :: starEach es X.env := by rfl) (hplain : (backTo cpos (starEach es X.env)).any (·.1) = false := by rfl) : QET Z G X (.Call (.Attribute o name apos) (e :: es) [] cpos) (dMt T g te ta) := by
  obtain ⟨r, hr, hg⟩ := hm
  refine ⟨fun W tk => pet_w (pet_bm pa slot hty hr (ho.pe W tk) (ha.pa W tk) hbase hfew hline hs hplain) fun σ H Q ⟨ρ, M, R, rl, h, k⟩ => ?_⟩
  refine ⟨ρ, M, _, rl, h, fun x M1 v1 H1 h1 n1 r1 => ⟨by rw [hK]; exact tyV_of n1.here r1 h1.1, ρ, M1, _, rl.nx n1, h1.2, fun ds M2 vs H2 h2 n2 r2 => ?_⟩⟩
  exact hg H2 M2 v1 x vs ds R Q n2.here (RD.keep n2.kp _ _ r1) r2 h2 fun d M' v H' q n rd => k d M' v H' q ((n1.trans n2).trans n) rd
theorem qst_set {i : Nat} {x : Str} {pos' : Pos} (hN : X.N.Nodup) (he : QET Z G X e te) (hi : X.N[i]? = some x := by rfl) (hx : Loc X.env.scope x := by first | exact Or.inl rfl | exact Or.inr rfl)
    (hs : swapsWith e (some (.Name x pos')) pos.line X.env = pure false := by rfl) (hf : X.fn x = true ∨ X.env.scope.names.lookup x = some .local := by first | exact .inl rfl | exact .inr rfl | assumption) : QST Z G X (.Assign [.Name x pos'] e pos) (dSet i te) := by
  have base : ∀ {t : TE}, PET X e t → PST X (.Assign [.Name x pos'] e pos) (tAsg t (gName i)) := fun {t} h => by
    intro pz s σ H D h0 I q
    refine wpAny_Assign_Name (thn (h pz s σ H _ h0 I q) fun v s1 ⟨y, H1, J1, r1, q1⟩ => ?_) hs
    exact store_ok J1 hN hi hx r1 (fun s2 J2 => ⟨_, H1, J2, q1⟩) hf
  refine ⟨fun W tk => pst_w (base (he.pe W tk)) fun D σ H ⟨ρ, M, E, rl, h, k1, k2, k3, k4⟩ => ?_⟩
  exact ⟨ρ, M, _, rl, h, fun d M' v H' q n r => k1 _ _ _ _ q n.kp ⟨rl.kp.trans n.kp, (rl.st.keep n.kp).set r, n.mm, n.tb⟩⟩
end
section
variable {mg : Str → Option Value} {base : Heap} {Z : ZP}
theorem fn_okT {x qual : Str} {st : Stmt} {f : Addr} {fd : FuncData} {N ps : List Str} {k : Nat} {sp : DSp} {t : DS} (F : Fun Z.K x qual st f fd) (S : FnScope N ps (defScope st)) (hnc : ∀ y ∈ (defScope st).names, y.2 ≠ .cell) (hps : 1 ≤ ps.length) (len : ∀ ds M R EX, sp ds M R EX → ds.length = ps.length)
    (hb : ∀ (cdv : Value) (A : Around) (outer : List PySem.Env) (s : Shared) (H : Hp) (E : XK), Room k (A.deeper (envOfC qual (defScope st) s.heap.objs.size f cdv)) → QSsT Z H (cxOf (L2.CX Z.P Z.w) Z.P Z.w Z.K mg base N qual (defScope st) f cdv A outer s H E) (defBody st) t)
    (pure : ∀ ds M R EX, sp ds M R EX → t (fun C fs _ M' => WkX EX C fs M') (endsOf R) (startD N ds) M) : FnOk Z.P Z.w Z.K mg base (L2.CX Z.P Z.w) (k + 1) f fd ps (lSp Z sp) := by
  obtain ⟨oc, od, kV, doc, pm, an, cdv, ct, osl, rfl, lk, hcd⟩ := F.ex
  refine fn_ofT lk hcd S hnc hps (fun vs H Q E ⟨ds, M, R, EX, rd, _, _, hs, _, _⟩ => by rw [rd.length]; exact len _ _ _ _ hs) fun A outer s H vs Q E hr ⟨ds, M, R, EX, rd, mm, tb, hs, kq, kx⟩ => ?_
  have tk : Takes (cxOf (L2.CX Z.P Z.w) Z.P Z.w Z.K mg base N qual (defScope st) f cdv A outer s H E) (lW Z H fun C fs _ M' => WkX EX C fs M') := by
    refine Takes.imp (takes_of rfl rfl rfl rfl) fun c d σ H' ⟨C, fs, ρ, M', ec, rx, rl, M2, sb, h⟩ => ?_
    subst ec
    exact kx C fs M2 d H' h ⟨rl.kp, rl.mm.sub sb, rl.tb⟩ rx
  refine ⟨_, (hb cdv A outer s H E hr).pss _ tk, startD N ds, M, endsOf R, ⟨KeepT.refl, rst_start rd, mm, tb⟩, pure ds M R EX hs, fun ρ' M' σ' H' ⟨M2, sb, h⟩ kp r => ?_, fun d M' v H' ⟨M2, sb, h⟩ n r => ?_, fun _ _ _ _ h => h.elim, fun _ _ _ _ h => h.elim⟩
  · exact kq .non M2 .non H' h ⟨kp, r.mm.sub sb, r.tb⟩ (by rw [RD])
  · exact kq d M2 v H' h (n.sub sb) r
end
end DL

set_option Elab.async false
set_option linter.all false
set_option maxRecDepth 100000
set_option maxHeartbeats 1000000
namespace DL
open PySem PySem.Spec PyProof.Rows L2
def prAt (h : Heap) (v : Value) : Int × Int := match v with
  | .ref a => (match h.get? a with
    | some o => (match o.data with
      | .seq arr _ => (match arr.toList with
        | [.int x _, .int y _] => (x, y)
        | _ => (0, 0))
      | _ => (0, 0))
    | none => (0, 0))
  | _ => (0, 0)
theorem prAt_is {h : Heap} {v : Value} {x y : Int} (p : Srt.IsPair h v x y) : prAt h v = (x, y) := by
  obtain ⟨a, o, t, u, n, rfl, ho, _, hd⟩ := p
  unfold prAt
  simp only [ho, hd]
abbrev prD (p : Int × Int) : D := .tup [.int p.1, .int p.2]
theorem pair_here {X : Cx} {pz : List (Addr × Obj)} {σ : L2.St} {H : Hp} {s : Shared} (I : Inv X pz σ H s) {p : Int × Int} {v : V} {u : Value} (r : RD X.K H (prD p) v) (q : RelV v u) : Srt.IsPair s.heap u p.1 p.2 := by
  obtain ⟨a, vs, rfl, st, rs⟩ := rd_tp r
  cases q
  obtain ⟨v1, v2, rfl, r1, r2⟩ := rds_two rs
  obtain ⟨its, rv, ⟨o, h1, h2, n, h3⟩, _⟩ := I.tuple st
  obtain ⟨u1, u2, e, q1, q2⟩ := vals2 rv
  subst e
  rw [rd_int r1] at q1
  rw [rd_int r2] at q2
  obtain ⟨t1, rfl⟩ := q1
  obtain ⟨t2, rfl⟩ := q2
  exact ⟨a, o, t1, t2, n, rfl, h1, h2, h3⟩
def lePr (p q : Int × Int) : Bool := !SrtO.lexB q p
def sortedN : List D → DM → DQ → Prop := fun ds M R => match ds with
  | [.ref a] => ∃ (ps : List (Int × Int)) (kvs : List (D × D)), M a = some (.dcN kvs) ∧ kvs.map (·.1) = ps.map prD ∧ kvs.length ≤ 1000 ∧ ∀ (qs : List (Int × Int)) (p : Addr), qs.Perm ps → qs.Pairwise (fun p q => SrtO.lexB q p = false) → M p = none → R (.ref p) (mupd M p (.lst (qs.map prD)))
  | _ => False
def rSortN (K : PySem.W.Frag) (P : Program) (w : World) : List V → Hp → VK → Prop := fun vs H Q => ∃ (a : Addr) (ps : List (Int × Int)) (kvs : List (D × D)) (xs : List (NestedKey × Addr × V)), vs = [.ref a] ∧ H a = some (DNo P w a xs) ∧ (∀ p ∈ kvs, kdB p.1 = true ∧ (nk p.1).depth ≤ 8) ∧ xs.map (·.1) = kvs.map (fun p => nk p.1) ∧ RDs K H (kvs.map (·.1)) (xs.map fun x => V.ref x.2.1) ∧
  kvs.map (·.1) = ps.map prD ∧ kvs.length ≤ 1000 ∧ ∀ (qs : List (Int × Int)) (out : List V) (p : Addr), qs.Perm ps → qs.Pairwise (fun p q => SrtO.lexB q p = false) → RDs K H (qs.map prD) out → H p = none → Q (.ref p) (upd H p (.lst out))
theorem pairs_all {X : Cx} {pz : List (Addr × Obj)} {σ : L2.St} {H : Hp} {s : Shared} (I : Inv X pz σ H s) : ∀ (ps : List (Int × Int)) (as : List Addr), RDs X.K H (ps.map prD) (as.map V.ref) → (as.map Value.ref).map (prAt s.heap) = ps ∧ ∀ v ∈ as.map Value.ref, Srt.IsPair s.heap v (prAt s.heap v).1 (prAt s.heap v).2 ∧ ∃ b, v = .ref b ∧ RD X.K H (prD (prAt s.heap v)) (.ref b)
  | [], [], _ => ⟨rfl, fun v h => by cases h⟩
  | [], a :: as, r => by rw [List.map_cons, List.map_nil, RDs] at r; cases r
  | p :: ps, [], r => by rw [List.map_cons, List.map_nil, RDs] at r; obtain ⟨_, _, e, _⟩ := r; cases e
  | p :: ps, a :: as, r => by
    rw [List.map_cons, List.map_cons, RDs] at r
    obtain ⟨v, w, e, r1, r2⟩ := r
    cases e
    have hp := pair_here I (u := .ref a) r1 rfl
    have e1 := prAt_is hp
    obtain ⟨h1, h2⟩ := pairs_all I ps as r2
    refine ⟨by rw [List.map_cons, List.map_cons, e1, h1], fun v hv => ?_⟩
    rw [List.map_cons] at hv
    rcases List.mem_cons.mp hv with h | h
    · subst h
      rw [e1]
      exact ⟨hp, a, rfl, r1⟩
    · exact h2 v h
theorem rds_out {K : PySem.W.Frag} {H : Hp} {h : Heap} : ∀ (out : List Value), (∀ v ∈ out, ∃ b, v = .ref b ∧ RD K H (prD (prAt h v)) (.ref b)) → RDs K H ((out.map (prAt h)).map prD) (out.map backV)
  | [], _ => .nil
  | v :: out, hv => by
    obtain ⟨b, e, r⟩ := hv v (by simp)
    rw [List.map_cons, List.map_cons, List.map_cons]
    have : backV v = .ref b := by rw [e]; rfl
    rw [this]
    exact .cons r (rds_out out fun u hu => hv u (by simp [hu]))
theorem swo_pr (h : Heap) : SrtO.Swo (fun v u : Value => SrtO.lexB (prAt h v) (prAt h u)) := SrtO.swo_lex (prAt h)
theorem cr_sortN {X : Cx} (hcalm : X.calm = true) : CallR X (.builtin "sorted") (rSortN X.K X.prog X.w) := by
  intro pins s σ H vs us Q I r h
  obtain ⟨a, ps, kvs, xs, rfl, e, hk, e1, rk, ek, hl, q⟩ := h
  obtain ⟨u, rfl, ru⟩ := vals1 r
  obtain rfl : u = Value.ref a := ru
  obtain ⟨ys, hz, lo, en, dd⟩ := dn_at I e hk e1 rk
  obtain ⟨es, ep, hraw, hsz, hes⟩ := dd.raw
  have ly : ys.length = xs.length := en.keys.2.2
  have lx : xs.length = kvs.length := map_len e1
  have h16 : es.size ≤ sizeLine := by rw [hsz, ly, lx, sizeLine_eq]; omega
  -- the keys' addresses
  have hrefs : ys.map (fun y => V.ref y.2.1) = (ys.map (·.2.1)).map V.ref := by rw [List.map_map]; rfl
  have hps : RDs X.K H (ps.map prD) ((ys.map (·.2.1)).map V.ref) := by
    rw [← hrefs, en.keys.2.1, ← ek]
    exact rk
  obtain ⟨g1, g2⟩ := pairs_all I ps _ hps
  refine Calls.call_function_entry PyProof.Rows.kind_sorted PyProof.Rows.plain_sorted PyProof.Rows.entry_sorted (PyProof.Rows.args_sorted1 _) ?_
  unfold Builtin.«sorted»
  refine wpAny_bind (m := checkCount "sorted" 1 1 _) (wpAny_pure ?_)
  refine wpAny_bind (PySem.W.kdu_collect (A := X.A.in1) (KdlSrc.rawDict (es := es) (ep := ep) lo) (I.ok.hd hcalm) hraw h16 fun h' tk acc hkp hacc => ?_)
  have hal : acc.toList = (ys.map (·.2.1)).map Value.ref := by
    refine List.ext_getElem? fun i => ?_
    by_cases hi : i < ys.length
    · obtain ⟨y, h1, h2, _⟩ := hes i (by omega)
      have ha : i < acc.toList.length := by rw [Array.length_toList, hacc.1]; omega
      obtain ⟨_, h3⟩ := hacc.2 i acc[i] (by simp)
      rw [List.getElem?_map, List.getElem?_map, h1, List.getElem?_eq_getElem ha]
      simp only [Option.map_some, Option.some.injEq]
      rw [Array.getElem_toList]
      exact h3.trans h2
    · rw [List.getElem?_eq_none (by rw [Array.length_toList, hacc.1]; omega), List.getElem?_eq_none (by simp; omega)]
  have I1 : Inv X pins σ H { s with heap := h', toks := tk } := I.kept hkp
  have hz2 : acc.toList.length ≤ sizeLine := by rw [hal]; simp; rw [ly, lx, sizeLine_eq]; omega
  refine wpAny_bind (wpAny_newList ?_ hz2)
  have hoL : (h'.push (seqObj "list" acc.toList.toArray 0)).get? h'.objs.size = some (seqObj "list" acc.toList.toArray 0) := Heap.get?_push_size _ rfl
  show wpAny _ _ _ _ _ { s with heap := h'.push (seqObj "list" acc.toList.toArray 0), toks := tk }
  have hpair : ∀ v ∈ acc.toList, Srt.IsPair (h'.push (seqObj "list" acc.toList.toArray 0)) v (prAt s.heap v).1 (prAt s.heap v).2 := fun v hv => by
    rw [hal] at hv
    exact (g2 v hv).1.keeps fun b o e _ => Heap.get?_push_of_some _ (hkp b o e)
  refine wpAny_bind (wpAny_holding (wpAny_call_entry PyProof.Rows.slot_list_sort ⟨_, hoL, rfl⟩ PyProof.Rows.entry_list_sort
    (SrtO.list_sort_ord (s := { s with heap := h'.push (seqObj "list" acc.toList.toArray 0), toks := tk }) (swo_pr s.heap) hoL hz2 (fun h2 => SrtO.pairs_sortableO (s := { s with heap := h'.push (seqObj "list" acc.toList.toArray 0), toks := tk }) (by omega) hpair fun o e => ?_) fun out hs hb => ⟨_, rfl, ?_⟩)
    (PyProof.Rows.args_list_sort _)))
  · have e' : some o = some (seqObj "list" acc.toList.toArray 0) := e.symm.trans hoL
    cases e'
    intro c
    exact absurd (Value.type.inj c) (by decide)
  · obtain ⟨e', he'⟩ := PyProof.Rows.sortedHeap_at (vs := acc.toList) (out := out.toArray) hoL
    have hmem : ∀ v ∈ out, v ∈ (ys.map (·.2.1)).map Value.ref := fun v hv => by rw [← hal]; exact hb.perm.mem_iff.mp hv
    have hlen : (out.map backV).length ≤ sizeLine := by
      rw [List.length_map, hb.perm.length_eq]
      exact hz2
    have hv : Vals (out.map backV) out := vals_back fun v hv => by obtain ⟨_, b, e, _⟩ := g2 v (hmem v hv); exact ⟨b, e⟩
    refine wpAny_pure ⟨_, rfl, .ref h'.objs.size, upd H h'.objs.size (.lst (out.map backV)), I1.laid (t' := tk) (fun b u e => ?_) (Nat.le_refl _)
      (show ObjOk X.prog X.w _ _ _ (.lst (out.map backV)) from ⟨hlen, out, e', hv, he'⟩), rfl, q (out.map (prAt s.heap)) _ _ ?_ ?_ ?_ (I1.hok.fresh (Nat.le_refl _))⟩
    · have hb' : b < h'.objs.size := Heap.lt_size e
      rw [PyProof.Rows.sortedHeap_old (Nat.ne_of_lt hb') (by rw [size_push']; exact Nat.lt_succ_of_lt hb')]
      exact Heap.get?_push_of_some _ e
    · rw [← g1, ← hal]
      exact hb.perm.map _
    · exact List.pairwise_map.mpr hs
    · exact rds_out out fun v hv => (g2 v (hmem v hv)).2
theorem c_sortN {Z : ZP} {X : Cx} (hK : X.K = Z.K) (hP : X.prog = Z.P) (hw : X.w = Z.w) (hc : X.calm = true) : CallD Z X (.builtin "sorted") sortedN := by
  refine ⟨_, cr_sortN hc, fun H M vs ds R Q hr rd g k => ?_⟩
  unfold sortedN at g
  split at g
  · rename_i a
    obtain ⟨ps, kvs, e, ek, hl, g⟩ := g
    obtain ⟨v, rfl, r1⟩ := rds_one rd
    obtain ⟨xs, h1, h2, h3, h4, h5⟩ := hr.mm _ _ e
    rw [rd_ref r1]
    refine ⟨a, ps, kvs, xs, rfl, hP ▸ hw ▸ h1, h5, h2, hK ▸ h3, ek, hl, fun qs out p hq hs ro hp => ?_⟩
    exact k _ _ _ _ (g qs p hq hs (hr.free hp)) (hr.lst hp (hK ▸ ro)) mk_ref
  · exact g.elim
end DL

set_option Elab.async false
set_option linter.all false
set_option maxRecDepth 100000
set_option maxHeartbeats 1000000
namespace DL
open PySem PySem.Spec PyProof.Rows L2 LamX NdefX

structure Clo where
  f : Addr
  c : Addr
  o : HO
  q : Str
def Clo.here (k : Clo) (H : Hp) : Prop := H k.f = some k.o ∧ H k.c = some (CodeO k.c k.q)
def CloM (k : Clo) (M : DM) : Prop := M k.f = some (.raw k.o) ∧ M k.c = some (.raw (CodeO k.c k.q))
theorem CloM.sub {k : Clo} {M M' : DM} (h : CloM k M) (s : MSub M M') : CloM k M' := ⟨s _ _ h.1, s _ _ h.2⟩
theorem CloM.here {Z : ZP} {H : Hp} {M : DM} {k : Clo} (h : CloM k M) (m : RM Z H M) : k.here H := ⟨(m _ _ h.1).1, (m _ _ h.2).1⟩
structure CloOk (P : Program) (w : World) (K : PySem.W.Frag) (mg : Str → Option Value) (base : Heap) (CX : CXT) (n : Nat) (k : Clo) (C : Heap → Hp → Prop) (sp : Sp) : Prop where
  fn : ∀ (h : Heap) (H : Hp), HOk P w H h → H k.f = some k.o → PySem.W.FnAt k.f h
  run : ∀ (A : Around) (outer : List PySem.Env) (s : Shared) (H : Hp) (us : List Value) (vs : List V) (Q : VK) (E : XK), Room n A → Env0 P w K mg base A outer s H → k.here H → C s.heap H → Vals vs us → sp vs H Q E → codeAny (model P w) A (.call (.ref k.f) ⟨us, []⟩) (CR CX outer P w H s Q E) s
def Stays (C : Heap → Hp → Prop) : Prop := ∀ (L : List Addr) (h h' : Heap) (H H' : Hp), Un L [] H H' h h' → C h H → C h' H'
theorem stays_cells {cl : List (Str × Addr)} {fr : List Str} {ws : List (Option V)} : Stays (CellsAt cl fr ws) := fun L h h' H H' un C => by
  have kp : ∀ y c, cl.lookup y = some c → ∀ v, h.IsCell c v → h'.IsCell c v := fun y c e v ⟨o, ho, hd⟩ => by
    obtain ⟨sl, q⟩ := un.any ho (C.all y c e).1 (by simp)
    exact ⟨_, q, hd⟩
  refine ⟨C.len, fun y c e => ?_, C.inj, fun i y e => ?_⟩
  · obtain ⟨n, v, z⟩ := C.all y c e
    refine ⟨?_, v, kp y c e v z⟩
    obtain ⟨o, ho, _⟩ := z
    exact un.free c o ho n (by simp)
  · obtain ⟨c, hc, hv⟩ := C.has i y e
    refine ⟨c, hc, fun v ev => ?_⟩
    obtain ⟨u, r, z⟩ := hv v ev
    exact ⟨u, r, kp y c hc _ z⟩
theorem stays_true : Stays fun _ _ => True := fun _ _ _ _ _ _ _ => trivial
theorem CloOk.of_nok {P : Program} {w : World} {K : PySem.W.Frag} {mg : Str → Option Value} {base : Heap} {CX : CXT} {n : Nat} {f : Addr} {F : NF} {ps fr : List Str} {sp : List (Option V) → Sp} (o : NOk P w K mg base CX n f F ps fr sp) (ws : List (Option V)) :
    CloOk P w K mg base CX n ⟨f, F.c, FnO f F, F.qual⟩ (CellsAt F.cl fr ws) (sp ws) where
  fn := fun h H hok e => by
    obtain ⟨od, sl, doc, pm, ctv, ho⟩ := fnO_at hok e
    exact ⟨_, od, _, sl, ho⟩
  run := fun A outer s H us vs Q E hr e0 hh C r q => o.run A outer s H us vs ws Q E hr e0 hh.1 hh.2 C r q
section
variable {X : Cx} {CX : CXT} {i j n m : Nat} {k : Clo} {C : Heap → Hp → Prop} {x : Str} {sp : Sp} {E : L2.St → XK} {t : TA} {e : Expr} {es : List Expr} {p pos : Pos}
theorem run_clo {pz : List (Addr × Obj)} {σ : L2.St} {H : Hp} {s : Shared} {Q : VK} {us : List Value} {vs : List V} (Ok : CloOk X.prog X.w X.K X.mg X.base CX n k C sp) (hr : Room j X.A) (hk : n ≤ j) (hx : PassesAt CX X σ (E σ)) (I : Inv X pz σ H s) (hh : k.here H) (hC : C s.heap H) (r : Vals vs us) (q : sp vs H Q (E σ)) :
    wpAny (model X.prog X.w) X.A (call (.ref k.f) us) (EP X pz σ Q) X.xe s := by
  refine wpAny_call (codeAny_mono (Ok.run X.A X.stack s H us vs Q (E σ) (hr.mono hk) I.env0 hh hC r q) fun r s' hq => ?_)
  cases r with
  | error u => exact hx pz H s u s' I hq
  | ok fl =>
    cases fl with
    | ret u => exact I.after hq
    | next | brk | cont => exact False.elim hq
theorem pe_clo {ι : Type} {kf : ι → Clo} {Cf : ι → Heap → Hp → Prop} {spf : ι → Sp} (Ok : ∀ i, CloOk X.prog X.w X.K X.mg X.base CX n (kf i) (Cf i) (spf i)) (st : ∀ i, Stays (Cf i)) (h0 : ∀ i, Cf i X.s_0.heap X.H_0) (hex : X.ex = []) (hr : Room j X.A) (hk : n ≤ j) (hx : ∀ σ, PassesAt CX X σ (E σ)) (hN : X.N[i]? = some x) (hv : Vis X.env.scope x) (ha : PA X (e :: es) t)
    (hd : (x == ("__debug__" : Str)) = false := by decide) (hcd : (x == ("__classdict__" : Str)) = false := by decide)
    (he : starEach (e :: es) X.env = (false, eval e X.env) :: starEach es X.env := by rfl) (hpl : (backTo pos (starEach es X.env)).any (·.1) = false := by rfl) :
    PE X (.Call (.Name x p) (e :: es) [] pos) (fun σ H Q => ∃ z, σ[i]? = some (some (.ref (kf z).f)) ∧ H (kf z).f = some (kf z).o ∧ t σ H fun vs H1 => (kf z).here H1 ∧ spf z vs H1 Q (E σ)) := by
  refine ⟨fun pz s σ H Q I h => ?_⟩
  obtain ⟨z, hs, hf, ht⟩ := h
  refine wpAny_Call_Name_kw (thn ((pe_var (pos := p) hN hv hd hcd).run pz s σ H (fun v H1 => v = .ref (kf z).f ∧ H1 = H) I ⟨.ref (kf z).f, hs, rfl, rfl⟩) fun u s1 ⟨v, H1, I1, r1, q1⟩ => ?_)
  obtain ⟨ev, eH⟩ := q1
  subst ev
  rw [eH] at I1
  obtain rfl : u = Value.ref (kf z).f := r1
  refine PySem.W.callWith_F (first := []) ((Ok z).fn _ _ I1.hok hf) (thn (ha.run pos pz s1 σ H _ I1 ht) fun us s2 ⟨vs, H2, I2, r, h1, q⟩ => ⟨(Ok z).fn _ _ I2.hok h1.1, ?_⟩) he hpl
  show wpAny _ _ (call (.ref (kf z).f) us) _ _ _
  have un := I2.base
  rw [hex] at un
  exact run_clo (Ok z) hr hk (hx σ) I2 h1 (st z _ _ _ _ _ un (h0 z)) r q
end
def dClo {ι : Type} (j : Nat) (kf : ι → Clo) (sp : ι → DSp) (ta : DA) : DE := fun W ρ M R => ∃ z, ρ[j]? = some (some (.ref (kf z).f)) ∧ CloM (kf z) M ∧ ta W ρ M fun ds M1 => CloM (kf z) M1 ∧ sp z ds M1 R fun C fs M2 => W C fs ρ M2
section
variable {Z : ZP} {G : Hp} {X : Cx} {pos p : Pos} {e : Expr} {es : List Expr} {ta : DA} {n k m : Nat} {x : Str}
theorem qe_clo {ι : Type} {kf : ι → Clo} {Cf : ι → Heap → Hp → Prop} {sp : ι → DSp} {i : Nat} (Ok : ∀ z, CloOk X.prog X.w X.K X.mg X.base (L2.CX X.prog X.w) n (kf z) (Cf z) (lSp Z (sp z))) (st : ∀ z, Stays (Cf z)) (h0 : ∀ z, Cf z X.s_0.heap X.H_0) (hr : Room k X.A) (hk : n ≤ k) (ha : QA Z G X (e :: es) ta) (hex : X.ex = [] := by rfl)
    (hN : X.N[i]? = some x := by rfl) (hv : Vis X.env.scope x := by first | exact Or.inl rfl | exact Or.inr (Or.inl rfl) | exact Or.inr (Or.inr rfl)) (hd : (x == ("__debug__" : Str)) = false := by decide) (hcd : (x == ("__classdict__" : Str)) = false := by decide)
    (he : starEach (e :: es) X.env = (false, eval e X.env) :: starEach es X.env := by rfl) (hpl : (backTo pos (starEach es X.env)).any (·.1) = false := by rfl) :
    QE Z G X (.Call (.Name x p) (e :: es) [] pos) (dClo i kf sp ta) := by
  refine ⟨fun W tk => pe_of (pe_clo (E := WE (lW Z G W)) Ok st h0 hex hr hk (fun σ => passAt tk σ) hN hv (ha.pa W tk) hd hcd he hpl) fun σ H Q ⟨ρ, M, R, rl, ⟨z, e1, cm, h⟩, kq⟩ => ?_⟩
  obtain ⟨v, e2, rv⟩ := rl.st.2 i _ e1
  rw [rd_ref rv] at e2
  exact ⟨z, e2, (cm.here rl.mm).1, ρ, M, _, rl, h, fun ds M1 vs H1 h1 n1 r1 => ⟨h1.1.here n1.mm, sp_lift (rl.nx n1) r1 h1.2 fun d M' v H' q n r => kq d M' v H' q (n1.trans n) r⟩⟩
end

def startND (N : List Str) (ds wd : List D) : Env := ds.map some ++ (wd.map some ++ List.replicate (N.length - ds.length - wd.length) none)
abbrev DSpN := List D → DSp
def lSpN (Z : ZP) (sp : DSpN) : List (Option V) → Sp := fun ws vs H Q E => ∃ wd wv, ws = wv.map some ∧ RDs Z.K H wd wv ∧ lSp Z (sp wd) vs H Q E
theorem rst_app {K : PySem.W.Frag} {H : Hp} {ds : List D} {vs : List V} {σ : L2.St} {ρ : Env} (r : RDs K H ds vs) (q : RSt K H σ ρ) : RSt K H (vs.map some ++ σ) (ds.map some ++ ρ) := by
  have hl := r.length
  refine ⟨by simp [hl, q.1], fun i d e => ?_⟩
  by_cases hi : i < ds.length
  · rw [List.getElem?_append_left (by simpa using hi), List.getElem?_map] at e
    cases z : ds[i]? with
    | none => rw [z] at e; cases e
    | some d' =>
      rw [z] at e
      cases e
      obtain ⟨v, e1, rd⟩ := r.get z
      refine ⟨v, ?_, rd⟩
      rw [List.getElem?_append_left (by simpa [hl] using hi), List.getElem?_map, e1]
      rfl
  · rw [List.getElem?_append_right (by simpa using hi), List.length_map] at e
    obtain ⟨v, e1, rd⟩ := q.2 _ d e
    refine ⟨v, ?_, rd⟩
    rw [List.getElem?_append_right (by simp [hl]; omega), List.length_map, hl]
    exact e1
theorem rst_none {K : PySem.W.Frag} {H : Hp} (n : Nat) : RSt K H (List.replicate n none) (List.replicate n none) := ⟨by simp, fun i d e => by
  rw [List.getElem?_replicate] at e
  split at e <;> cases e⟩
theorem nok_D {mg : Str → Option Value} {base : Heap} {Z : ZP} {N ps fr : List Str} {F : NF} {f : Addr} {k : Nat} {sp : DSpN} {t : DS} (S : NScope N ps fr F.scope) (hb : ∀ (doc pm ctv : Value) (us : List Value), us.length = ps.length → bindArgs (F.fd doc pm ctv) ⟨us, []⟩ = pure (ps.zip us))
    (len : ∀ wd ds M R EX, sp wd ds M R EX → ds.length = ps.length)
    (hbody : ∀ (A : Around) (outer : List PySem.Env) (s : Shared) (H : Hp) (E : XK), Room k (A.deeper (envF F f s.heap.objs.size)) → QSs Z H (ncx (L2.CX Z.P Z.w) Z.P Z.w Z.K mg base N F f A outer s H E) F.body t)
    (pure : ∀ wd ds M R EX, sp wd ds M R EX → t (fun C fs _ M' => WkX EX C fs M') (endsOf R) (startND N ds wd) M) : NOk Z.P Z.w Z.K mg base (L2.CX Z.P Z.w) (k + 1) f F ps fr (lSpN Z sp) := by
  refine nok_of S hb (fun ws vs H Q E ⟨wd, wv, _, _, ds, M, R, EX, rd, _, _, hs, _, _⟩ => by rw [rd.length]; exact len _ _ _ _ _ hs) fun A outer s H vs ws Q E hr _ _ _ ⟨wd, wv, ew, rw', ds, M, R, EX, rd, mm, tb, hs, kq, kx⟩ => ?_
  have tk : Takes (ncx (L2.CX Z.P Z.w) Z.P Z.w Z.K mg base N F f A outer s H E) (lW Z H fun C fs _ M' => WkX EX C fs M') := by
    refine Takes.imp (takes_of rfl rfl rfl rfl) fun c d σ H' ⟨C, fs, ρ, M', ec, rx, rl, M2, sb, h⟩ => ?_
    subst ec
    exact kx C fs M2 d H' h ⟨rl.kp, rl.mm.sub sb, rl.tb⟩ rx
  have st : RSt Z.K H (startF N vs ws) (startND N ds wd) := by
    subst ew
    unfold startF startND
    rw [List.length_map, rd.length, rw'.length]
    exact rst_app rd (rst_app rw' (rst_none _))
  refine ⟨_, (hbody A outer s H E hr).pss _ tk, startND N ds wd, M, endsOf R, ⟨KeepT.refl, st, mm, tb⟩, pure wd ds M R EX hs, fun ρ' M' σ' H' ⟨M2, sb, h⟩ kp r => ?_, fun d M' v H' ⟨M2, sb, h⟩ n r => ?_, fun _ _ _ _ h => h.elim, fun _ _ _ _ h => h.elim⟩
  · exact kq .non M2 .non H' h ⟨kp, r.mm.sub sb, r.tb⟩ (by rw [RD])
  · exact kq d M2 v H' h (n.sub sb) r

theorem ext_keep {K : PySem.W.Frag} {H H1 : Hp} (e : ExtN H H1) : KeepT K H H1 := fun a xs q => by
  rcases q with (q | ⟨o', q⟩) | q
  · exact .inl (.inl (e _ _ q fun _ z => by cases z))
  · exact .inl (.inr ⟨o', e _ _ q fun _ z => by cases z⟩)
  · exact .inr q
theorem ro_notbl {Z : ZP} {H : Hp} {a : Addr} {u : HO} : ∀ {m : MO}, RO Z H a (some u) m → ∀ ps, u ≠ .tbl ps
  | .lst xs, h => let ⟨vs, e, r⟩ := h; by cases e; intro ps z; cases z
  | .ins C dx ns ds, h => let ⟨vs, e, r, q⟩ := h; by cases e; intro ps z; cases z
  | .dcK kvs, h => let ⟨vs, e, r⟩ := h; by cases e; intro ps z; cases z
  | .dcN kvs, h => let ⟨xs, e, r⟩ := h; by cases e; exact isMut_dno.2.2
  | .xd f d, h => let ⟨v, e, r⟩ := h; by cases e; intro ps z; cases z
  | .raw u, h => by cases h.1; exact h.2
theorem rm_ext {Z : ZP} {H H1 : Hp} {M : DM} (m : RM Z H M) (e : ExtN H H1) : RM Z H1 M := fun a o q => by
  have r := m a o q
  obtain ⟨u, hu⟩ := r.some
  rw [hu] at r
  have h1 : H1 a = some u := e _ _ hu (ro_notbl r)
  rw [h1]
  exact r.keep (ext_keep e)
theorem ro_code {Z : ZP} {H : Hp} {c : Addr} {q : Str} : ∀ {m : MO}, RO Z H c (some (CodeO c q)) m → m = .raw (CodeO c q)
  | .lst xs, h => let ⟨vs, e, r⟩ := h; by unfold CodeO at e; cases e
  | .ins C dx ns ds, h => let ⟨vs, e, r, q⟩ := h; by unfold CodeO at e; cases e
  | .dcK kvs, h => let ⟨vs, e, r⟩ := h; by unfold CodeO at e; cases e
  | .dcN kvs, h => let ⟨xs, e, r⟩ := h; absurd (Option.some.inj e).symm (dno_code (a := c) (c := c))
  | .xd f d, h => let ⟨v, e, r⟩ := h; by unfold CodeO at e; cases e
  | .raw u, h => by rw [Option.some.inj h.1]
theorem fnO_code {f : Addr} {F : NF} {q : Str} : FnO f F ≠ CodeO f q := fun z => by
  unfold FnO CodeO at z
  have z2 := HO.ext.inj z
  let ob : Obj := { cls := .none, data := .fields #[.none, .str q 0] }
  let h : Heap := { objs := Array.replicate (f + 1) ob }
  have hg : h.get? f = some ob := by
    unfold Heap.get?
    have : h.objs[f]? = some ob := by
      show (Array.replicate (f + 1) ob)[f]? = some ob
      rw [Array.getElem?_replicate, if_pos (Nat.lt_succ_self f)]
    rw [this]
  have hc : ∃ (oc : Obj) (vs : Array Value) (t : Tok), h.get? f = some oc ∧ oc.data = .fields vs ∧ vs[1]? = some (.str q t) := ⟨ob, _, 0, hg, rfl, rfl⟩
  have hd := (congrFun z2 h).symm ▸ hc
  obtain ⟨od, sl, doc, pm, ctv, h1⟩ := hd
  rw [hg] at h1
  have e : Value.none = Value.type "function" := congrArg Obj.cls (Option.some.inj h1)
  cases e
def dNdef (i : Nat) (mk : Addr → NF) : DS := fun _ E ρ M => ∀ f c, M f = none → MSub M (mupd M c (.raw (CodeO c (mk c).qual))) → f ≠ c → E.nx (ρ.set i (some (.ref f))) (mupd (mupd M c (.raw (CodeO c (mk c).qual))) f (.raw (FnO f (mk c))))
theorem msub_code {Z : ZP} {H H1 : Hp} {M : DM} {c : Addr} {q : Str} (m : RM Z H M) (e : ExtN H H1) (hc : H1 c = some (CodeO c q)) : MSub M (mupd M c (.raw (CodeO c q))) := fun b o h => by
  by_cases z : b = c
  · subst z
    have r := rm_ext m e b o h
    rw [hc] at r
    rw [mupd_same, ro_code r]
  · rw [mupd_ne z]; exact h
section
variable {Z : ZP} {G : Hp} {X : Cx}
theorem qs_ndef {st : Stmt} {nm : Nat → Nat → Str} {c P : Addr} {name : Str} {pos : Pos} {i : Nat} (hst : st = .FunctionDef name (C8.fnArgs st) (C8.fnBody st) [] none [] (C8.fnScope st) none name pos) (TB : TabB X.base X.mg c P) (hcode : X.env.code = .ref c) (hm : (P, nm) ∈ Z.T) (hn : nm pos.line pos.col = X.env.qual ++ name)
    (hu : ∀ p ∈ Z.T, p.1 = P → p.2 = nm) (hfree : ∀ y ∈ (C8.fnScope st).names, y.2 = .free → X.env.scope.names.lookup y.1 = some .cell ∨ X.env.scope.names.lookup y.1 = some .free) (hN : X.N.Nodup) (hd0 : (C8.fnArgs st).defaults = [] := by rfl) (hk0 : (C8.fnArgs st).kw_defaults = [] := by rfl) (ha : annTrees (C8.fnArgs st) none X.env = [] := by rfl)
    (hi : X.N[i]? = some name := by rfl) (hx : Loc X.env.scope name := by first | exact Or.inl rfl | exact Or.inr rfl) (hf : X.fn name = true ∨ X.env.scope.names.lookup name = some .local := by first | exact .inl rfl | exact .inr rfl) :
    QS Z G X st (dNdef i (NF.of st name (X.env.qual ++ name) (cloFrom X.env.cells (C8.fnScope st).names []))) := by
  refine ⟨fun W tk => ps_of (ps_ndefMS hst TB hcode hm hn hu hfree hd0 hk0 ha hN hi hx hf) fun D σ H ⟨ρ, M, E, rl, h, k1, _⟩ => ?_⟩
  refine ⟨rl.tb, fun f c' H1 eN nn T1 f0 f1 c1 => ?_⟩
  have ms := msub_code rl.mm eN c1
  have mf : M f = none := rl.mm.free f0
  have nfc : f ≠ c' := fun z => by
    subst z
    rw [f1] at c1
    exact fnO_code (Option.some.inj c1)
  have kp : KeepT Z.K H H1 := ext_keep eN
  have m1 := rm_ext rl.mm eN
  have m2 : RM Z H1 (mupd (mupd M c' (.raw (CodeO c' (X.env.qual ++ name)))) f (.raw (FnO f (NF.of st name (X.env.qual ++ name) (cloFrom X.env.cells (C8.fnScope st).names []) c')))) := fun b o e => by
    by_cases z : b = f
    · subst z
      rw [mupd_same] at e
      cases e
      exact ⟨f1, fnO_ne⟩
    · rw [mupd_ne z] at e
      by_cases z2 : b = c'
      · subst z2
        rw [mupd_same] at e
        cases e
        exact ⟨c1, codeO_ne⟩
      · rw [mupd_ne z2] at e
        exact m1 b o e
  exact k1 _ _ _ _ (h f c' mf ms nfc) kp ⟨rl.kp.trans kp, (rl.st.keep kp).set mk_ref, m2, T1⟩
end
end DL

set_option Elab.async false
set_option linter.all false
set_option maxRecDepth 100000
set_option maxHeartbeats 1000000
namespace DL
open PySem PySem.Spec PyProof.Rows L2 LamX NdefX

structure NL where
  qual : Str
  params : Arguments
  body : Expr
  scope : Scope
  cl : List (Str × Addr)
  c : Addr
def NL.nf (L : NL) : NF := ⟨"<lambda>", L.qual, L.params, [], L.scope, L.cl, L.c⟩
def LamO (f : Addr) (L : NL) : HO := .ext fun h => ∃ (pm ctv : Value), h.get? f = some (PySem.W.kla_obj "<lambda>" L.qual L.params L.body L.scope L.cl pm L.c ctv)
theorem lamO_ne {f : Addr} {L : NL} (ps : Array Value) : LamO f L ≠ .tbl ps := fun z => by unfold LamO at z; cases z
theorem lamO_code {f : Addr} {L : NL} {q : Str} : LamO f L ≠ CodeO f q := fun z => by
  unfold LamO CodeO at z
  let ob : Obj := { cls := .none, data := .fields #[.none, .str q 0] }
  let h : Heap := { objs := Array.replicate (f + 1) ob }
  have hg : h.get? f = some ob := by
    have e : h.objs[f]? = some ob := by
      show (Array.replicate (f + 1) ob)[f]? = some ob
      rw [Array.getElem?_replicate, if_pos (Nat.lt_succ_self f)]
    unfold Heap.get?
    rw [e]
  obtain ⟨pm, ctv, h1⟩ := cast (congrFun (HO.ext.inj z) h).symm ⟨ob, #[.none, .str q 0], 0, hg, rfl, rfl⟩
  rw [hg] at h1
  have e : Value.none = Value.type "function" := congrArg Obj.cls (Option.some.inj h1)
  cases e
theorem tabs_more {T : List NTab} {nm : Nat → Nat → Str} {H : Hp} {P c : Addr} {ps : Array Value} {q : Str} {pos : Pos} (hT : TabsN T H) (hu : ∀ p ∈ T, p.1 = P → p.2 = nm) (hP : H P = some (.tbl ps)) (ht : TriplesOk ps.toList)
    (ha : ∀ (z : Pos) (cv : Value), codeAmong z ps.toList = some cv → ∃ b, cv = .ref b ∧ H b = some (CodeO b (nm z.line z.col))) (hn : nm pos.line pos.col = q) (nC : H c = none) :
    ExtN H (upd (upd H P (.tbl (ps ++ #[rawInt pos.line, rawInt pos.col, .ref c]))) c (CodeO c q)) ∧ TabsN T (upd (upd H P (.tbl (ps ++ #[rawInt pos.line, rawInt pos.col, .ref c]))) c (CodeO c q)) := by
  generalize e1 : upd (upd H P (.tbl (ps ++ #[rawInt pos.line, rawInt pos.col, .ref c]))) c (CodeO c q) = H2
  have at_c : H2 c = some (CodeO c q) := by rw [← e1, upd_same]
  have pc : P ≠ c := fun z => by rw [z, nC] at hP; cases hP
  have at_P : H2 P = some (.tbl (ps ++ #[rawInt pos.line, rawInt pos.col, .ref c])) := by rw [← e1, upd_ne pc, upd_same]
  have old : ∀ b, b ≠ P → b ≠ c → H2 b = H b := fun b h1 h2 => by rw [← e1, upd_ne h2, upd_ne h1]
  have ext : ExtN H H2 := fun b u e no => by
    have n1 : b ≠ P := fun z => no ps (Option.some.inj (e.symm.trans (z ▸ hP)))
    have n2 : b ≠ c := fun z => by rw [z, nC] at e; cases e
    rw [old b n1 n2]; exact e
  refine ⟨ext, fun p hp => ?_⟩
  by_cases z : p.1 = P
  · have e2 := hu p hp z
    have key : TabN H2 P nm := by
      refine ⟨_, at_P, ?_, fun z cv hc => ?_⟩
      · rw [Array.toList_append]
        exact PySem.TriplesOk_snoc _ _ _ _ ht
      · rw [Array.toList_append] at hc
        rcases among_app2 _ ht hc with h | ⟨h, l1, l2⟩
        · obtain ⟨b, h1, h2⟩ := ha z cv h
          exact ⟨b, h1, ext _ _ h2 codeO_ne⟩
        · exact ⟨c, h, by rw [← l1, ← l2, hn]; exact at_c⟩
    show TabN H2 p.1 p.2
    rw [z, e2]
    exact key
  · obtain ⟨qs, h1, h2, h3⟩ := hT p hp
    have n2 : p.1 ≠ c := fun y => by rw [y, nC] at h1; cases h1
    exact ⟨qs, (old _ z n2).trans h1, h2, fun y cv hc => by obtain ⟨b, g1, g2⟩ := h3 y cv hc; exact ⟨b, g1, ext _ _ g2 codeO_ne⟩⟩
section
variable {X : Cx} {pz : List (Addr × Obj)} {σ : L2.St} {H : Hp} {s : Shared}
theorem inv_lam {L : NL} {tk : Nat} {pm ctv : Value} (I : Inv X pz σ H s) :
    Inv X pz σ (upd H s.heap.objs.size (LamO s.heap.objs.size L)) { s with heap := s.heap.push (PySem.W.kla_obj "<lambda>" L.qual L.params L.body L.scope L.cl pm L.c ctv), toks := tk } := by
  have e : (s.heap.push (PySem.W.kla_obj "<lambda>" L.qual L.params L.body L.scope L.cl pm L.c ctv)).get? s.heap.objs.size = some (PySem.W.kla_obj "<lambda>" L.qual L.params L.body L.scope L.cl pm L.c ctv) := Heap.get?_push_size _ rfl
  exact I.laid (a := s.heap.objs.size) (fun b u h => Heap.get?_push_of_some _ h) (Nat.le_refl _) ⟨⟨pm, ctv, e⟩, ⟨_, e⟩, fun g1 g2 ⟨a, b, h⟩ st => ⟨a, b, st _ h⟩⟩
theorem lam_makeN {T : List NTab} {nm : Nat → Nat → Str} {c P : Addr} {params : Arguments} {body : Expr} {scope : Scope} {pos : Pos} {E : Value → Shared → Prop} {Q : Value → Shared → Prop} (I : Inv X pz σ H s) (TB : TabB X.base X.mg c P) (hcode : X.env.code = .ref c)
    (hm : (P, nm) ∈ T) (hn : nm pos.line pos.col = X.env.qual ++ "<lambda>") (hu : ∀ p ∈ T, p.1 = P → p.2 = nm) (hT : TabsN T H) (hdef : defaultsOf params X.env = ([], [])) (hfree : ∀ y ∈ scope.names, y.2 = .free → ∃ c, X.env.cells.lookup y.1 = some c)
    (h : ∀ (f c2 : Addr) (H1 : Hp) (s1 : Shared), Inv X pz σ H1 s1 → ExtN H H1 → TabsN T H1 → H f = none → H1 f = some (LamO f ⟨X.env.qual ++ "<lambda>", params, body, scope, cloFrom X.env.cells scope.names [], c2⟩) → H1 c2 = some (CodeO c2 (X.env.qual ++ "<lambda>")) → Q (.ref f) s1) :
    wpAny (model X.prog X.w) X.A (eval (.Lambda params body scope pos) X.env) Q E s := by
  obtain ⟨ps, hP, ht, ha⟩ := (show TabN H P nm from hT _ hm)
  have there : s.heap.get? P = some { cls := .none, data := .fields ps } := I.hok P _ hP
  have blt : s.heap.BuiltinsAt X.mg P := TB.bm.keeps I.bk
  have glob := I.mod.glob.keeps I.bk
  -- the new function, wherever its code came from
  have fin : ∀ (c2 : Addr) (pm ctv : Value) (H2 : Hp) (s2 : Shared) (tk : Nat), Inv X pz σ H2 s2 → ExtN H H2 → TabsN T H2 → H s2.heap.objs.size = none → H2 c2 = some (CodeO c2 (X.env.qual ++ "<lambda>")) →
      Q (.ref s2.heap.objs.size) { s2 with heap := s2.heap.push (PySem.W.kla_obj "<lambda>" (X.env.qual ++ "<lambda>") params body scope (cloFrom X.env.cells scope.names []) pm c2 ctv), toks := tk } := by
    intro c2 pm ctv H2 s2 tk I2 e2 T2 hn0 hc2
    have fresh := I2.hok.fresh (Nat.le_refl s2.heap.objs.size)
    have stay : ∀ b u, H2 b = some u → upd H2 s2.heap.objs.size (LamO s2.heap.objs.size ⟨X.env.qual ++ "<lambda>", params, body, scope, cloFrom X.env.cells scope.names [], c2⟩) b = some u := fun b u q => by
      rw [upd_ne (fun z => by rw [z, fresh] at q; cases q)]; exact q
    exact h _ c2 _ _ (inv_lam (L := ⟨X.env.qual ++ "<lambda>", params, body, scope, cloFrom X.env.cells scope.names [], c2⟩) I2) (e2.trans (ExtN.of stay)) (T2.ext stay) hn0 upd_same (stay _ _ hc2)
  refine PySem.W.kla_eval hdef ?_
  cases q : codeAmong pos ps.toList with
  | some cv =>
    obtain ⟨c2, e, hco⟩ := ha pos cv q
    rw [e] at q
    rw [hn] at hco
    refine PySem.W.kla_makeFunctionHit (closure_ok hfree) I.ok.glob glob hcode (TB.code.keeps I.bk) there ht q blt fun ctv h2 tk hx hsz => ?_
    have I2 : Inv X pz σ H { s with heap := h2, toks := tk } := I.kept hx
    exact fin c2 _ ctv H { s with heap := h2, toks := tk } tk I2 (ExtN.refl H) hT (I2.hok.fresh (Nat.le_refl _)) hco
  | none =>
    refine PySem.W.kla_makeFunction (closure_ok hfree) I.ok.glob glob hcode (TB.code.keeps I.bk) there ht q TB.gP blt fun c2 ctv h2 tk hx hge hlt hrec htb => ?_
    obtain ⟨b, oc, vs, t, eb, hoc, hd, hv⟩ := hrec
    cases eb
    have nC : H c2 = none := I.hok.fresh hge
    have I2 := inv_table (t' := tk) (more := #[rawInt pos.line, rawInt pos.col, .ref c2]) (h' := h2) I hP (fun b o hb e => hx b o hb e) htb hge ⟨oc, vs, t, hoc, hd, hv⟩
    obtain ⟨e2, T2⟩ := tabs_more (pos := pos) (c := c2) hT hu hP ht ha hn nC
    exact fin c2 _ ctv _ _ tk I2 e2 T2 (I.hok.fresh (Nat.le_trans hge (Nat.le_of_lt hlt))) upd_same
end
def dLam (mk : Addr → NL) : DE := fun _ _ M R => ∀ f c, M f = none → MSub M (mupd M c (.raw (CodeO c (mk c).qual))) → f ≠ c → R (.ref f) (mupd (mupd M c (.raw (CodeO c (mk c).qual))) f (.raw (LamO f (mk c))))
section
variable {Z : ZP} {G : Hp} {X : Cx}
theorem qe_lam {params : Arguments} {body : Expr} {scope : Scope} {nm : Nat → Nat → Str} {c P : Addr} {pos : Pos} (TB : TabB X.base X.mg c P) (hcode : X.env.code = .ref c) (hm : (P, nm) ∈ Z.T) (hn : nm pos.line pos.col = X.env.qual ++ "<lambda>") (hu : ∀ p ∈ Z.T, p.1 = P → p.2 = nm)
    (hfree : ∀ y ∈ scope.names, y.2 = .free → X.env.scope.names.lookup y.1 = some .cell ∨ X.env.scope.names.lookup y.1 = some .free) (hdef : defaultsOf params X.env = ([], []) := by rfl) :
    QE Z G X (.Lambda params body scope pos) (dLam fun c => ⟨X.env.qual ++ "<lambda>", params, body, scope, cloFrom X.env.cells scope.names [], c⟩) := by
  refine ⟨fun W tk => ⟨fun pz s σ H Q I ⟨ρ, M, R, rl, h, k⟩ => ?_⟩⟩
  have hfr : ∀ y ∈ scope.names, y.2 = .free → ∃ c, X.env.cells.lookup y.1 = some c := fun y hy e => (hfree y hy e).elim (fun z => I.ok.has _ (.inl z)) fun z => I.ok.has _ (.inr z)
  refine lam_makeN I TB hcode hm hn hu rl.tb hdef hfr fun f c2 H1 s1 I1 eN T1 f0 f1 c1 => ?_
  have mf : M f = none := rl.mm.free f0
  have ms := msub_code rl.mm eN c1
  have nfc : f ≠ c2 := fun z => by
    subst z
    rw [f1] at c1
    exact lamO_code (Option.some.inj c1)
  have m1 := rm_ext rl.mm eN
  have m2 : RM Z H1 (mupd (mupd M c2 (.raw (CodeO c2 (X.env.qual ++ "<lambda>")))) f (.raw (LamO f ⟨X.env.qual ++ "<lambda>", params, body, scope, cloFrom X.env.cells scope.names [], c2⟩))) := fun b o e => by
    by_cases z : b = f
    · subst z
      rw [mupd_same] at e
      cases e
      exact ⟨f1, lamO_ne⟩
    · rw [mupd_ne z] at e
      by_cases z2 : b = c2
      · subst z2
        rw [mupd_same] at e
        cases e
        exact ⟨c1, codeO_ne⟩
      · rw [mupd_ne z2] at e
        exact m1 b o e
  exact ⟨.ref f, H1, I1, rfl, k _ _ _ _ (h f c2 mf ms nfc) ⟨ext_keep eN, m2, T1⟩ mk_ref⟩
end
theorem clo_lamD {mg : Str → Option Value} {base : Heap} {Z : ZP} {N ps fr : List Str} {L : NL} {f : Addr} {k : Nat} {sp : DSpN} {t : DE} (S : NScope N ps fr L.scope) (hb : ∀ (pm ctv : Value) (us : List Value), us.length = ps.length → bindArgs (PySem.W.kla_fn "<lambda>" L.qual L.params L.body L.scope L.cl pm (.ref L.c) ctv) ⟨us, []⟩ = pure (ps.zip us))
    (len : ∀ wd ds M R EX, sp wd ds M R EX → ds.length = ps.length)
    (hbody : ∀ (A : Around) (outer : List PySem.Env) (s : Shared) (H : Hp) (E : XK), Room k (A.deeper (envF L.nf f s.heap.objs.size)) → QE Z H (ncx (L2.CX Z.P Z.w) Z.P Z.w Z.K mg base N L.nf f A outer s H E) L.body t)
    (pure : ∀ wd ds M R EX, sp wd ds M R EX → t (fun C fs _ M' => WkX EX C fs M') (startND N ds wd) M (Wk R)) (ws : List (Option V)) :
    CloOk Z.P Z.w Z.K mg base (L2.CX Z.P Z.w) (k + 1) ⟨f, L.c, LamO f L, L.qual⟩ (CellsAt L.cl fr ws) (lSpN Z sp ws) where
  fn := fun h H hok e => by
    obtain ⟨⟨pm, ctv, ho⟩, _, _⟩ := hok f _ e
    exact ⟨_, none, _, #[], ho⟩
  run := fun A outer s H us vs Q E hr e0 hh C r ⟨wd, wv, ew, rw', ds, M, R, EX, rd, mm, tb, hs, kq, kx⟩ => by
    have hl : vs.length = ps.length := by rw [rd.length]; exact len _ _ _ _ _ hs
    have lim : s.heap.NoLimit := e0.mod.nolimit.keeps fun b o e => (e0.bs b o e).1
    obtain ⟨⟨pm, ctv, ho⟩, _, _⟩ := e0.hok f _ hh.1
    refine PySem.W.kla_callFunE hr.depth ho rfl S.co S.gen rfl (codeO_at e0.hok hh.2) ?_
    rw [hb pm ctv us (by rw [← r.length]; exact hl)]
    refine wpAny_pure (wpAny_newFunctionEnv S.nocell (fun ⟨n, _⟩ hy => S.par n (List.of_mem_zip hy).1) (fun h₁ hns hsb => ⟨lim.fresh _ hsb, ?_⟩) S.kind)
    show codeAny _ _ (.expr L.body (envF L.nf f s.heap.objs.size)) _ _
    have kp : ∀ b o, s.heap.get? b = some o → h₁.get? b = some o := fun b o e => hsb.extBut b o (Nat.ne_of_lt (Heap.lt_size e)) (Heap.get?_push_of_some _ e)
    have J : Inv (ncx (L2.CX Z.P Z.w) Z.P Z.w Z.K mg base N L.nf f A outer s H E) [] (startF N vs ws) H { s with heap := h₁, toks := s.toks + (ps.zip us).length } := inv_startN (F := L.nf) S hr.hd e0 hl r C hns kp
    have tk : Takes (ncx (L2.CX Z.P Z.w) Z.P Z.w Z.K mg base N L.nf f A outer s H E) (lW Z H fun C fs _ M' => WkX EX C fs M') := by
      refine Takes.imp (takes_of rfl rfl rfl rfl) fun c d σ H' ⟨C, fs, ρ, M', ec, rx, rl, M2, sb, h⟩ => ?_
      subst ec
      exact kx C fs M2 d H' h ⟨rl.kp, rl.mm.sub sb, rl.tb⟩ rx
    have st : RSt Z.K H (startF N vs ws) (startND N ds wd) := by
      subst ew
      unfold startF startND
      rw [List.length_map, rd.length, rw'.length]
      exact rst_app rd (rst_app rw' (rst_none _))
    refine PySem.W.kla_codeExpr (wpAny_mono (((hbody A outer s H E (hr.deeper _)).pe _ tk).run [] _ _ H Q J ⟨startND N ds wd, M, Wk R, ⟨KeepT.refl, st, mm, tb⟩, pure wd ds M R EX hs, fun d M' v H' ⟨M2, sb, h⟩ n r => kq d M2 v H' h (n.sub sb) r⟩) (fun v s' hq => ?_) fun e s' hq => hq)
    obtain ⟨w', H', J', rv, q⟩ := hq
    exact ⟨w', H', J'.os, J'.bare, J'.base, J'.hok, rv, q⟩
end DL

set_option Elab.async false
set_option linter.all false
set_option maxRecDepth 100000
set_option maxHeartbeats 1000000
namespace DL
open PySem PySem.Spec PyProof.Rows L2 LamX NdefX
def dDisp (tk tv : DE) : DE := fun W ρ M R => ∀ p, M p = none → tk W ρ (mupd M p (.dcN [])) fun k M1 => tv W ρ M1 fun v M2 => M2 p = some (.dcN []) ∧ isK k ∧ R (.ref p) (mupd M2 p (.dcN [(k, v)]))
section
variable {Z : ZP} {G : Hp} {X : Cx} {pos : Pos} {ke ve : Expr} {tk tv : DE}
theorem qe_disp (hK : X.K = Z.K) (hP : X.prog = Z.P) (hw : X.w = Z.w) (hu : X.A.units + 65 < cLine) (hk : QE Z G X ke tk) (hv : QE Z G X ve tv) : QE Z G X (.Dict [some ke] [ve] pos) (dDisp tk tv) := by
  refine ⟨fun W tkn => ⟨fun pz s σ H Q I ⟨ρ, M, R, rl, h, kq⟩ => ?_⟩⟩
  have fresh := I.hok.fresh (Nat.le_refl s.heap.objs.size)
  generalize ed : s.heap.objs.size = d at fresh
  have I1 : Inv X pz σ (upd H d (DNo X.prog X.w d [])) { s with heap := s.heap.push { cls := .type "dict", data := .dict #[] } } := by
    subst ed
    exact I.laid (t' := s.toks) (fun _ _ q => Heap.get?_push_of_some _ q) (Nat.le_refl _) (dno_empty s.heap I.big)
  have rl1 : Rel Z G σ (upd H d (DNo X.prog X.w d [])) ρ (mupd M d (.dcN [])) := by rw [hP, hw]; exact rl.nx (rl.here.dn0 fresh)
  rw [arm_eval_Dict, zip_pairTrees [some ke] [ve] X.env pos rfl rfl, dictDisplay_pairs (pairTrees [some ke] [ve] X.env pos) (by simp [pairTrees]) (by simp [pairTrees])]
  refine wpAny_bind (wpAny_standAt (wpAny_bind (wpAny_subDictH (knd := nestedKind X.prog X.w) (show X.A.units + 8 < cLine by omega) (by simp [pairTrees]) ?_)))
  have run2 : PPs X pos [some ke] [ve] [(lE Z G (tk W), lE Z G (tv W))] := pps_cons (hk.pe W tkn) (hv.pe W tkn) pps_nil
  refine thn (run2.run pz _ σ _ (fun ps H2 => ∃ (k v : D) (M2 : DM) (b : Addr) (y : V), ps = [(V.ref b, y)] ∧ Nx Z (upd H d (DNo X.prog X.w d [])) H2 M2 ∧ RD Z.K H2 k (.ref b) ∧ RD Z.K H2 v y ∧ M2 d = some (.dcN []) ∧ isK k ∧ R (.ref d) (mupd M2 d (.dcN [(k, v)]))) I1 ?_) fun vs s2 ⟨ps, H2, I2, rel, q⟩ => ?_
  · refine ⟨ρ, _, _, rl1, h d (rl.here.free fresh), fun k M1 x H1 h1 n1 r1 => ⟨ρ, M1, _, rl1.nx n1, h1, fun v M2 y H2 h2 n2 r2 => ?_⟩⟩
    obtain ⟨e2, ik, h2⟩ := h2
    obtain ⟨b, rfl⟩ := rd_tupref ik r1
    exact ⟨k, v, M2, b, y, rfl, n1.trans n2, RD.keep n2.kp _ _ r1, r2, e2, ik, h2⟩
  · obtain ⟨k, v, M2, b, y, rfl, n, r1, r2, e2, ik, hR⟩ := q
    cases rel with
    | @cons p q' _ _ hq t =>
      cases t
      obtain ⟨q1, q2⟩ := hq
      obtain ⟨kv, vv⟩ := q'
      cases q1
      obtain ⟨xs, e3, e4, _⟩ := n.mm _ _ e2
      have l : xs = [] := List.map_eq_nil_iff.mp e4
      subst l
      have hN : H2 d = some (DNo X.prog X.w d []) := by rw [e3, hP, hw]
      obtain ⟨ys, z, lo, en, dd⟩ := dn_at (kvs := []) I2 hN (fun _ hp => by cases hp) rfl .nil
      cases en
      have key : NestedIs s2.heap (nk k) (.ref b) := key_at I2 k (.ref b) _ ik.1 (hK ▸ r1) rfl
      refine ⟨[(nk k, b, vv)], ⟨rfl, rfl, ⟨key, ik.2.1⟩, trivial⟩, ed ▸ dd, fun h' t' dd' hs => wpAny_pure ?_⟩
      rw [ed] at dd' hs ⊢
      have e5 : storedAllH ([] : List (NestedKey × Addr × Value)) [(nk k, b, vv)] = [(nk k, b, vv)] := by
        unfold storedAllH
        exact storedH_new (xs := ([] : List (NestedKey × Addr × Value))) (k := nk k) rfl b vv
      rw [e5] at dd'
      have en2 : DEn [(nk k, b, y)] [(nk k, b, vv)] := .cons ⟨rfl, rfl, q2⟩ .nil
      have z2 : ([(nk k, b, y)] : List (NestedKey × Addr × V)).length ≤ sizeLine := by show 1 ≤ sizeLine; rw [sizeLine_eq]; decide
      have he : ∃ o, h'.get? d = some o := let ⟨o, _, _, h1, _⟩ := dd'; ⟨o, h1⟩
      have J := I2.write (e := d) (t' := t') (by rw [hN]; exact True.intro) (.inl rfl) (fun c w hc hw' => (hs.2 c hc).trans hw') he (dno_new z2 lo en2 dd')
      have kt : KeepT Z.K H2 (upd H2 d (DNo Z.P Z.w d [(nk k, b, y)])) := keepT_dno e3
      have ro : RO Z (upd H2 d (DNo Z.P Z.w d [(nk k, b, y)])) d (some (DNo Z.P Z.w d [(nk k, b, y)])) (.dcN [(k, v)]) := by
        refine ⟨_, rfl, rfl, .cons (RD.keep kt _ _ r1) .nil, .cons (RD.keep kt _ _ r2) .nil, fun p hp => ?_⟩
        rw [List.mem_singleton.mp hp]
        exact ⟨ik.1, ik.2.1⟩
      have n3 : Nx Z H2 (upd H2 d (DNo Z.P Z.w d [(nk k, b, y)])) (mupd M2 d (.dcN [(k, v)])) := ⟨kt, n.mm.upd kt ro, tabs_dno n.tb e3⟩
      have n0 : Nx Z H (upd H d (DNo X.prog X.w d [])) (mupd M d (.dcN [])) := by rw [hP, hw]; exact rl.here.dn0 fresh
      refine ⟨.ref d, _, J, rfl, ?_⟩
      rw [hP, hw]
      exact kq _ _ _ _ hR ((n0.trans n).trans n3) mk_ref
end
theorem keepT_un {K : PySem.W.Frag} {L : List Addr} {H H' : Hp} {h h' : Heap} (un : Un L [] H H' h h') : KeepT K H H' := fun a xs q => by
  rcases q with (q | ⟨o, q⟩) | q
  · exact .inl (.inl (un.tups a xs q))
  · exact .inl (.inr ⟨o, un.frzs a o _ q⟩)
  · exact .inr q
def CellsD (Z : ZP) (cl : List (Str × Addr)) (fr : List Str) (wd : List D) : Heap → Hp → Prop := fun h H => ∃ wv, CellsAt cl fr (wv.map some) h H ∧ RDs Z.K H wd wv
theorem stays_cellsD {Z : ZP} {cl : List (Str × Addr)} {fr : List Str} {wd : List D} : Stays (CellsD Z cl fr wd) := fun L h h' H H' un ⟨wv, c, r⟩ => ⟨wv, stays_cells L h h' H H' un c, RDs.keep (keepT_un un) _ _ r⟩
theorem cellsD_nil {Z : ZP} {h : Heap} {H : Hp} : CellsD Z [] [] [] h H := ⟨[], ⟨rfl, (fun y c e => by cases e), (fun x y c e => by cases e), (fun i y e => by cases e)⟩, .nil⟩
section
variable {mg : Str → Option Value} {base : Heap} {Z : ZP} {CX : CXT} {n : Nat} {sp : DSpN}
theorem CloOk.nokD {f : Addr} {F : NF} {ps fr : List Str} (o : NOk Z.P Z.w Z.K mg base CX n f F ps fr (lSpN Z sp)) (wd : List D) : CloOk Z.P Z.w Z.K mg base CX n ⟨f, F.c, FnO f F, F.qual⟩ (CellsD Z F.cl fr wd) (lSp Z (sp wd)) where
  fn := (CloOk.of_nok o []).fn
  run := fun A outer s H us vs Q E hr e0 hh ⟨wv, c, rw⟩ r q => o.run A outer s H us vs (wv.map some) Q E hr e0 hh.1 hh.2 c r ⟨wd, wv, rfl, rw, q⟩
end
end DL

set_option Elab.async false
set_option linter.all false
set_option maxRecDepth 100000
set_option maxHeartbeats 1000000
namespace DL
open PySem PySem.Spec PyProof.Rows L2 LamX NdefX
structure FnOkC (P : Program) (w : World) (K : PySem.W.Frag) (mg : Str → Option Value) (base : Heap) (CX : CXT) (k : Nat) (f : Addr) (fd : FuncData) (ps : List Str) (C : Heap → Hp → Prop) (sp : Sp) : Prop where
  many : ∀ vs H Q E, sp vs H Q E → vs.length = ps.length
  go : ∀ (A : Around) (outer : List PySem.Env) (s : Shared) (H : Hp) (args : Args) (us : List Value) (vs : List V) (Q : VK) (E : XK), Room k A → Env0 P w K mg base A outer s H → BindsTo s fd args (ps.zip us) → Vals vs us → C s.heap H → sp vs H Q E → codeAny (model P w) A (.call (.ref f) args) (CR CX outer P w H s Q E) s
theorem FnOkC.ok {P : Program} {w : World} {K : PySem.W.Frag} {mg : Str → Option Value} {base : Heap} {CX : CXT} {k : Nat} {f : Addr} {fd : FuncData} {ps : List Str} {sp : Sp} (o : FnOkC P w K mg base CX k f fd ps (fun _ _ => True) sp) : FnOk P w K mg base CX k f fd ps sp :=
  ⟨o.many, fun A outer s H args us vs Q E hr e0 hb r q => o.go A outer s H args us vs Q E hr e0 hb r trivial q⟩
section
variable {mg : Str → Option Value} {base : Heap} {Z : ZP}
theorem fn_okC {x qual : Str} {st : Stmt} {f : Addr} {fd : FuncData} {N ps : List Str} {k : Nat} {sp : DSp} {C : Heap → Hp → Prop} {cv : Value} {t : List (Str × Addr) → DS} (F : Fun Z.K x qual st f fd) (hc : fd.code = cv) (S : FnScope N ps (defScope st)) (len : ∀ ds M R EX, sp ds M R EX → ds.length = ps.length)
    (hb : ∀ (A : Around) (outer : List PySem.Env) (s : Shared) (H : Hp) (E : XK), Room k (A.deeper (envOfC qual (defScope st) s.heap.objs.size f cv)) → C s.heap H → QSs Z H (cxOf (L2.CX Z.P Z.w) Z.P Z.w Z.K mg base N qual (defScope st) f cv A outer s H E) (defBody st) (t (cellsFrom (s.heap.objs.size + 1) (defScope st).names [])))
    (pure : ∀ cs ds M R EX, sp ds M R EX → t cs (fun C fs _ M' => WkX EX C fs M') (endsOf R) (startD N ds) M) : FnOkC Z.P Z.w Z.K mg base (L2.CX Z.P Z.w) (k + 1) f fd ps C (lSp Z sp) := by
  have many : ∀ vs H Q E, lSp Z sp vs H Q E → vs.length = ps.length := fun vs H Q E ⟨ds, M, R, EX, rd, _, _, hs, _, _⟩ => by rw [rd.length]; exact len _ _ _ _ hs
  obtain ⟨oc, od, kV, doc, pm, an, cdv, ct, osl, rfl, lk, hcd⟩ := F.ex
  have ev : cdv = cv := hc
  subst ev
  refine ⟨many, fun A outer s H args us vs Q E hr e0 hbd r hC hsp => run_ofS lk hcd S hr e0 hbd r (many _ _ _ _ hsp) fun hr2 => ?_⟩
  obtain ⟨ds, M, R, EX, rd, mm, tb, hs, kq, kx⟩ := hsp
  have tk : Takes (cxOf (L2.CX Z.P Z.w) Z.P Z.w Z.K mg base N qual (defScope st) f cdv A outer s H E) (lW Z H fun C fs _ M' => WkX EX C fs M') := by
    refine Takes.imp (takes_of rfl rfl rfl rfl) fun c d σ H' ⟨C, fs, ρ, M', ec, rx, rl, M2, sb, h⟩ => ?_
    subst ec
    exact kx C fs M2 d H' h ⟨rl.kp, rl.mm.sub sb, rl.tb⟩ rx
  refine ⟨_, (hb A outer s H E hr2 hC).pss _ tk, startD N ds, M, endsOf R, ⟨KeepT.refl, rst_start rd, mm, tb⟩, pure _ ds M R EX hs, fun ρ' M' σ' H' ⟨M2, sb, h⟩ kp r => ?_, fun d M' v H' ⟨M2, sb, h⟩ n r => ?_, fun _ _ _ _ h => h.elim, fun _ _ _ _ h => h.elim⟩
  · exact kq .non M2 .non H' h ⟨kp, r.mm.sub sb, r.tb⟩ (by rw [RD])
  · exact kq d M2 v H' h (n.sub sb) r
end
def dCallC {ι : Type} (side : ι → Env → DM → Prop) (sp : ι → DSp) (ta : DA) : DE := fun W ρ M R => ta W ρ M fun ds M1 => ∃ z, side z ρ M1 ∧ sp z ds M1 R fun C fs M2 => W C fs ρ M2
section
variable {Z : ZP} {G : Hp} {X : Cx} {pos p : Pos} {e : Expr} {es : List Expr} {ta : DA} {f : Addr} {fd : FuncData} {ps : List Str} {k j : Nat} {x : Str}
theorem qe_callC {ι : Type} {C : ι → Heap → Hp → Prop} {sp : ι → DSp} {side : ι → Env → DM → Prop} (F : ∀ z, FnOkC X.prog X.w X.K X.mg X.base (L2.CX X.prog X.w) k f fd ps (C z) (lSp Z (sp z))) (hr : Room j X.A) (hkj : k ≤ j) (hm : X.mg x = some (.ref f)) (hk : PySem.W.keepIn X.K (.ref f) = true) (hb : Binds X.K fd ps []) (ha : QA Z G X (e :: es) ta)
    (hpre : ∀ z pz σ ρ M H s, Inv X pz σ H s → Rel Z G σ H ρ M → side z ρ M → C z s.heap H)
    (hg : Gl X x := by rfl) (hdb : (x == ("__debug__" : Str)) = false := by decide) (he : starEach (e :: es) X.env = (false, eval e X.env) :: starEach es X.env := by rfl) (hpl : (backTo pos (starEach es X.env)).any (·.1) = false := by rfl) :
    QE Z G X (.Call (.Name x p) (e :: es) [] pos) (dCallC side sp ta) := by
  refine ⟨fun W tk => ⟨fun pz s σ H Q I ⟨ρ, M, R, rl, h, kq⟩ => ?_⟩⟩
  have run := (ha.pa W tk).run pos pz s σ H (fun vs H1 => ∃ ds M1 z, Nx Z H H1 M1 ∧ RDs Z.K H1 ds vs ∧ side z ρ M1 ∧ sp z ds M1 R fun C fs M2 => W C fs ρ M2) I ⟨ρ, M, _, rl, h, fun ds M1 vs H1 ⟨z, h1, h2⟩ n1 r1 => ⟨ds, M1, z, n1, r1, h1, h2⟩⟩
  refine wpAny_Call_Name_kw (ld_glob I hg hm ?_ hdb)
  refine PySem.W.callWith_K (h₀ := X.base) I.ok.mod.kin hk (thn run fun us s1 ⟨vs, H1, I1, r, ds, M1, z, n1, r1, h1, h2⟩ => ⟨I1.kIn, ?_⟩) he hpl
  have rl1 := rl.nx n1
  have q : lSp Z (sp z) vs H1 Q (WE (lW Z G W) σ) := sp_lift rl1 r1 h2 fun d M' v H' q n r => kq d M' v H' q (n1.trans n) r
  have bd := hb s1 us I1.kIn (by rw [List.append_nil, ← r.length]; exact (F z).many _ _ _ _ q)
  rw [List.append_nil] at bd
  show wpAny _ _ (call (.ref f) us) _ _ _
  refine wpAny_call (codeAny_mono ((F z).go X.A X.stack s1 H1 ⟨us, []⟩ us vs Q _ (hr.mono hkj) I1.env0 bd r (hpre z _ _ _ _ _ _ I1 rl1 h1) q) fun y s2 hq => ?_)
  cases y with
  | error u => exact passAt tk σ pz H1 s1 u s2 I1 hq
  | ok fl =>
    cases fl with
    | ret u => exact I1.after hq
    | next | brk | cont => exact False.elim hq
theorem cellsD_made {scope : Scope} {fr : List Str} {js : List Nat} {pz : List (Addr × Obj)} {σ : L2.St} {ρ : Env} {M : DM} {H : Hp} {s : Shared} {wd : List D} (I : Inv X pz σ H s) (rl : Rel Z G σ H ρ M) (hfree : ∀ y ∈ scope.names, y.2 = .free → X.env.scope.names.lookup y.1 = some .cell ∨ X.env.scope.names.lookup y.1 = some .free) (hfr : ∀ y ∈ fr, (y, NameKind.free) ∈ scope.names) (hjs : js.map (fun j => X.N[j]?) = fr.map some)
    (hw : js.map (fun j => ρ[j]?) = wd.map fun d => some (some d)) : CellsD Z (cloFrom X.env.cells scope.names []) fr wd s.heap H := by
  have c := cells_of I (Caps.made I.ok hfree hfr hjs)
  have go : ∀ (js : List Nat) (wd : List D), js.map (fun j => ρ[j]?) = wd.map (fun d => some (some d)) → ∃ wv, js.map (slotAt σ) = wv.map some ∧ RDs Z.K H wd wv := by
    intro js
    induction js with
    | nil => intro wd h; cases wd with | nil => exact ⟨[], rfl, .nil⟩ | cons => cases h
    | cons j js ih =>
      intro wd h
      cases wd with
      | nil => cases h
      | cons d wd =>
        rw [List.map_cons, List.map_cons, List.cons.injEq] at h
        obtain ⟨wv, e1, r1⟩ := ih wd h.2
        obtain ⟨v, e2, r2⟩ := rl.st.2 j d h.1
        exact ⟨v :: wv, by rw [List.map_cons, List.map_cons, slotAt_of e2, e1], .cons r2 r1⟩
  obtain ⟨wv, e, r⟩ := go js wd hw
  exact ⟨wv, e ▸ c, r⟩
end
end DL

set_option Elab.async false
set_option linter.all false
set_option maxRecDepth 100000
set_option maxHeartbeats 1000000
namespace DL
open PySem PySem.Spec PyProof.Rows L2 LamX NdefX
theorem lSp_imp {Z : ZP} {sp sp' : DSp} (h : ∀ ds M R EX, sp' ds M R EX → sp ds M R EX) (vs : List V) (H : Hp) (Q : VK) (E : XK) (q : lSp Z sp' vs H Q E) : lSp Z sp vs H Q E := by
  obtain ⟨ds, M, R, EX, a, b, c, d, e, f⟩ := q
  exact ⟨ds, M, R, EX, a, b, c, h _ _ _ _ d, e, f⟩
section
variable {P : Program} {w : World} {K : PySem.W.Frag} {mg : Str → Option Value} {base : Heap} {CX : CXT} {n m : Nat} {k : Clo} {C C' : Heap → Hp → Prop} {sp sp' : Sp}
theorem CloOk.imp (o : CloOk P w K mg base CX n k C sp) (h : ∀ vs H Q E, sp' vs H Q E → sp vs H Q E) : CloOk P w K mg base CX n k C sp' :=
  ⟨o.fn, fun A outer s H us vs Q E hr e0 hh hC r q => o.run A outer s H us vs Q E hr e0 hh hC r (h _ _ _ _ q)⟩
theorem CloOk.mono (o : CloOk P w K mg base CX n k C sp) (h : n ≤ m) : CloOk P w K mg base CX m k C sp :=
  ⟨o.fn, fun A outer s H us vs Q E hr => o.run A outer s H us vs Q E (hr.mono h)⟩
theorem CloOk.cond (o : CloOk P w K mg base CX n k C sp) (h : ∀ h H, C' h H → C h H) : CloOk P w K mg base CX n k C' sp :=
  ⟨o.fn, fun A outer s H us vs Q E hr e0 hh hC => o.run A outer s H us vs Q E hr e0 hh (h _ _ hC)⟩
end
structure TabD (base : Heap) (mg : Str → Option Value) (T : List NTab) (fd : FuncData) (c P : Addr) (nm : Nat → Nat → Str) : Prop where
  tb : TabB base mg c P
  code : fd.code = .ref c
  mem : (P, nm) ∈ T
  un : ∀ p ∈ T, p.1 = P → p.2 = nm
theorem cells_nil {h : Heap} {H : Hp} : CellsAt [] [] [] h H := ⟨rfl, (fun y c e => by cases e), (fun x y c e => by cases e), (fun i y e => by cases e)⟩
def laArgs : Expr → Arguments
  | .Lambda p _ _ _ => p
  | _ => default
def laBody : Expr → Expr
  | .Lambda _ b _ _ => b
  | e => e
def laScope : Expr → Scope
  | .Lambda _ _ s _ => s
  | _ => default
def retArg (i : Nat) : Stmt → Expr
  | .Return (some (.Call _ as _ _)) _ => as.getD i (.Constant .none 0 ⟨0, 0, 0, 0⟩)
  | _ => .Constant .none 0 ⟨0, 0, 0, 0⟩
abbrev laNL (e : Expr) (qual : Str) (cl : List (Str × Addr)) (c : Addr) : NL := ⟨qual, laArgs e, laBody e, laScope e, cl, c⟩
abbrev cloNL (f : Addr) (L : NL) : Clo := ⟨f, L.c, LamO f L, L.qual⟩
abbrev cloNF (f : Addr) (F : NF) : Clo := ⟨f, F.c, FnO f F, F.qual⟩
theorem clo_lam0 {mg : Str → Option Value} {base : Heap} {Z : ZP} {N ps : List Str} {L : NL} {f : Addr} {k : Nat} {sp : DSp} {t : DE} (hcl : L.cl = []) (S : NScope N ps [] L.scope) (hb : ∀ (pm ctv : Value) (us : List Value), us.length = ps.length → bindArgs (PySem.W.kla_fn "<lambda>" L.qual L.params L.body L.scope L.cl pm (.ref L.c) ctv) ⟨us, []⟩ = pure (ps.zip us))
    (len : ∀ ds M R EX, sp ds M R EX → ds.length = ps.length)
    (hbody : ∀ (A : Around) (outer : List PySem.Env) (s : Shared) (H : Hp) (E : XK), Room k (A.deeper (envF L.nf f s.heap.objs.size)) → QE Z H (ncx (L2.CX Z.P Z.w) Z.P Z.w Z.K mg base N L.nf f A outer s H E) L.body t)
    (pure : ∀ ds M R EX, sp ds M R EX → t (fun C fs _ M' => WkX EX C fs M') (startD N ds) M (Wk R)) :
    CloOk Z.P Z.w Z.K mg base (L2.CX Z.P Z.w) (k + 1) (cloNL f L) (fun _ _ => True) (lSp Z sp) := by
  have o := clo_lamD (mg := mg) (base := base) (f := f) (sp := fun wd ds M R EX => wd = [] ∧ sp ds M R EX) S hb (fun _ ds M R EX h => len ds M R EX h.2) hbody (fun wd ds M R EX ⟨e, h⟩ => by
    subst e
    exact pure ds M R EX h) []
  refine ⟨o.fn, fun A outer s H us vs Q E hr e0 hh _ r q => o.run A outer s H us vs Q E hr e0 hh (by rw [hcl]; exact cells_nil) r ⟨[], [], rfl, .nil, ?_⟩⟩
  exact lSp_imp (fun ds M R EX h => ⟨rfl, h⟩) _ _ _ _ q
end DL

set_option Elab.async false
set_option linter.all false
set_option maxRecDepth 100000
set_option maxHeartbeats 1000000
namespace DL
open PySem PySem.Spec PyProof.Rows L2 LamX NdefX
abbrev DCl := Value × (Addr → List D → DS)
def dMany (K : PySem.W.Frag) (W : DW) (E : DEnds) : List DCl → DW
  | [] => W
  | p :: r => fun C fs ρ M => ∃ b, PySem.W.exmOne K (.ref C) p.1 = some b ∧ (b = true → p.2 C fs noW E ρ M) ∧ (b = false → dMany K W E r C fs ρ M)
def dTryM (K : PySem.W.Frag) (tb : DS) (cl : List DCl) : DS := fun W E ρ M => tb (dMany K W E cl) E ρ M
inductive QCl (Z : ZP) (G : Hp) (X : Cx) : List ExceptHandler → List DCl → Prop
  | nil : QCl Z G X [] []
  | cons {x : Str} {c : Value} {ts : Addr → List D → DS} {b₀ : Stmt} {suite : List Stmt} {np pos' : Pos} {hds : List ExceptHandler} {cl : List DCl} (hc : Names X x c)
      (hsu : ∀ (C : Addr) (fs : List D) (a : Addr) (oe : Obj) (pn : List (Addr × Obj)), QSs Z G (X.suite a ((a, oe) :: pn)) (b₀ :: suite) (ts C fs)) (r : QCl Z G X hds cl) :
      QCl Z G X (.ExceptHandler (some (.Name x np)) none (b₀ :: suite) pos' :: hds) ((c, ts) :: cl)
theorem qcl_nil {Z : ZP} {G : Hp} {X : Cx} : QCl Z G X [] [] := .nil
theorem qcl_cons {Z : ZP} {G : Hp} {X : Cx} {x : Str} {c : Value} {ts : Addr → List D → DS} {b₀ : Stmt} {suite : List Stmt} {np pos' : Pos} {hds : List ExceptHandler} {cl : List DCl} (hc : Names X x c)
    (hsu : ∀ (C : Addr) (fs : List D) (a : Addr) (oe : Obj) (pn : List (Addr × Obj)), QSs Z G (X.suite a ((a, oe) :: pn)) (b₀ :: suite) (ts C fs)) (r : QCl Z G X hds cl) :
    QCl Z G X (.ExceptHandler (some (.Name x np)) none (b₀ :: suite) pos' :: hds) ((c, ts) :: cl) := .cons hc hsu r
def tsAny (Z : ZP) (G : Hp) (ts : Addr → List D → DS) : Addr → Value → Option Addr → TS := fun _ _ _ D σ H => ∃ C fs, lS Z G (ts C fs noW) D σ H
def tsMap (Z : ZP) (G : Hp) (cl : List DCl) : List (Value × (Addr → Value → Option Addr → TS)) := cl.map fun p => (p.1, tsAny Z G p.2)
section
variable {Z : ZP} {G : Hp} {X : Cx} {body : List Stmt} {h₀ : ExceptHandler} {hds : List ExceptHandler} {cl : List DCl} {pos : Pos} {tb : DS}
theorem QCl.ok {hds : List ExceptHandler} {cl : List DCl} (h : QCl Z G X hds cl) : HdsOk X hds (tsMap Z G cl) := by
  induction h with
  | nil => exact .nil
  | cons hc hsu _ ih => exact .cons hc (fun a oe cls d pn _ _ => ⟨fun pz s σ H D I ⟨C, fs, q⟩ => ((hsu C fs a oe pn).pss noW takes_no).run pz s σ H D I q⟩) ih
theorem many_up {W : DW} {E : DEnds} {ρ : Env} {M : DM} {σ : L2.St} {H : Hp} {D : Ends} (hK : X.K = Z.K) (rl : Rel Z G σ H ρ M) (k1 : ∀ ρ' M' σ' H', E.nx ρ' M' → KeepT Z.K H H' → Rel Z G σ' H' ρ' M' → D.nx σ' H')
    (k2 : ∀ d M' v H', E.rt d M' → Nx Z H H' M' → RD Z.K H' d v → D.rt v H') (k3 : ∀ ρ' M' σ' H', E.bk ρ' M' → KeepT Z.K H H' → Rel Z G σ' H' ρ' M' → D.bk σ' H') (k4 : ∀ ρ' M' σ' H', E.ct ρ' M' → KeepT Z.K H H' → Rel Z G σ' H' ρ' M' → D.ct σ' H') :
    ∀ (cl : List DCl) (cls : Value) (d : Option Addr) (σ' : L2.St) (H' : Hp), lW Z H (dMany Z.K W E cl) cls d σ' H' → wMany X.K (lW Z G W) D (tsMap Z G cl) cls d σ' H'
  | [], cls, d, σ', H', ⟨C, fs, ρ', M', ec, rx, rl', h'⟩ => ⟨C, fs, ρ', M', ec, rx, ⟨rl.kp.trans rl'.kp, rl'.st, rl'.mm, rl'.tb⟩, h'⟩
  | p :: r, cls, d, σ', H', ⟨C, fs, ρ', M', ec, rx, rl', h'⟩ => by
    subst ec
    obtain ⟨b, e, h1, h2⟩ := h'
    have rg : Rel Z G σ' H' ρ' M' := ⟨rl.kp.trans rl'.kp, rl'.st, rl'.mm, rl'.tb⟩
    exact ⟨b, by rw [hK]; exact e, fun hb a _ => ⟨C, fs, lS_go rg rl'.kp (h1 hb) k1 k2 k3 k4⟩, fun hb => many_up hK rl k1 k2 k3 k4 r _ _ _ _ ⟨C, fs, ρ', M', rfl, rx, rl', h2 hb⟩⟩
theorem qs_try_many (hK : X.K = Z.K) (hs : X.stack = X.env :: X.outer) (hf : X.env.frame = some X.env.locals)
    (hb : ∀ (G : Hp) (pn : List (Addr × Obj)) (xe : Value → Shared → Prop), PassesOwn (model X.prog X.w) X.A X.env xe → QSs Z G (X.tr pn xe) body tb)
    (hh : QCl Z G X (h₀ :: hds) cl) : QS Z G X (.Try body (h₀ :: hds) [] [] pos) (dTryM Z.K tb cl) := by
  refine ⟨fun W tk => ⟨fun pz s σ H D I ⟨ρ, M, E, rl, h, k1, k2, k3, k4⟩ => ?_⟩⟩
  let inner : WX → TS := fun WW D σ H => ∃ W', (∀ c d σ' H', lW Z H W' c d σ' H' → WW c d σ' H') ∧ lS Z H (tb W') D σ H
  have run : ∀ (WW : WX) (pn : List (Addr × Obj)) (xe : Value → Shared → Prop), Takes (X.tr pn xe) WW → PassesOwn (model X.prog X.w) X.A X.env xe → PSs (X.tr pn xe) body (inner WW) := fun WW pn xe tk' po =>
    ⟨fun pz s σ H D I ⟨W', hw, q⟩ => ((hb H pn xe po).pss W' (tk'.imp hw)).run pz s σ H D I q⟩
  refine (ps_try_many hs hf tk run hh.ok).run pz s σ H D I ⟨dMany Z.K W E cl, many_up hK rl k1 k2 k3 k4 cl, ?_⟩
  have up : ∀ {σ' : L2.St} {H' : Hp} {ρ' : Env} {M' : DM}, Rel Z H σ' H' ρ' M' → Rel Z G σ' H' ρ' M' := fun r => ⟨rl.kp.trans r.kp, r.st, r.mm, r.tb⟩
  exact ⟨ρ, M, E, ⟨KeepT.refl, rl.st, rl.mm, rl.tb⟩, h, fun _ _ _ _ q kp r => k1 _ _ _ _ q kp (up r), k2, fun _ _ _ _ q kp r => k3 _ _ _ _ q kp (up r), fun _ _ _ _ q kp r => k4 _ _ _ _ q kp (up r)⟩
end
end DL

set_option Elab.async false
set_option linter.all false
set_option maxRecDepth 100000
set_option maxHeartbeats 1000000
namespace DL
open PySem PySem.Spec PyProof.Rows L2 LamX NdefX
theorem tabIn_of {K : PySem.W.Frag} {x : Str} {f c P : Addr} {oc o1 : Value} {od o2 : Option Addr} {fd : FuncData} {sl sl2 : Array (Option Value)} {vs : Array Value} (n : PySem.W.nsIn K mainGlobals x = some (some (.ref f))) (l : K.lookup f = some ⟨oc, od, .func fd, sl⟩) (hc : fd.code = .ref c)
    (lc : K.lookup c = some ⟨o1, o2, .fields vs, sl2⟩) (hp : (vs[11]? : Option Value) = some (.ref P)) : PySem.W.tabIn K x = some (c, P) := by
  unfold PySem.W.tabIn
  rw [n]
  simp only [l, hc, lc, hp]
theorem noTab {K : PySem.W.Frag} {h : Heap} {P : Addr} (X : K.In h) (q : PySem.W.noTabs K = true) (e : h.get? P = some (PySem.W.tabObj #[])) : K.lookup P = none := by
  cases z : K.lookup P with
  | none => rfl
  | some o =>
    have e2 := X P o z
    rw [e] at e2
    cases e2
    have := List.all_eq_true.mp q (P, _) (PySem.W.mem_of_lookupK z)
    exact absurd (show false = true from this) Bool.false_ne_true
theorem zip_fun {α β : Type} : ∀ (ps : List α) (ns : List β), ps.Nodup → ∀ x y z, (x, y) ∈ ps.zip ns → (x, z) ∈ ps.zip ns → y = z
  | [], _, _, x, y, z, h, _ => by simp at h
  | _ :: _, [], _, x, y, z, h, _ => by simp at h
  | p :: ps, n :: ns, nd, x, y, z, h, g => by
    rw [List.nodup_cons] at nd
    rw [List.zip_cons_cons, List.mem_cons] at h g
    rcases h with h | h <;> rcases g with g | g
    · cases h; cases g; rfl
    · cases h; exact absurd (List.of_mem_zip g).1 nd.1
    · cases g; exact absurd (List.of_mem_zip h).1 nd.1
    · exact zip_fun ps ns nd.2 x y z h g
theorem tabD_of {base : Heap} {mg : Str → Option Value} {ps : List Addr} {ns : List (Nat → Nat → Str)} {fd : FuncData} {c P : Addr} {nm : Nat → Nat → Str} (tb : TabB base mg c P) (hc : fd.code = .ref c) (nd : ps.Nodup) (hm : (P, nm) ∈ ps.zip ns) : TabD base mg (ps.zip ns) fd c P nm :=
  ⟨tb, hc, hm, fun p hp e => by
    obtain ⟨a, b⟩ := p
    have e2 : a = P := e
    subst e2
    exact zip_fun ps ns nd a b nm hp hm⟩
theorem tabs_start {H : Hp} {ps : List Addr} {ns : List (Nat → Nat → Str)} (h : ∀ P ∈ ps, H P = some (.tbl #[])) : TabsN (ps.zip ns) H := fun p hp => TabN.nil (h p.1 (List.of_mem_zip hp).1)
theorem walk_T {l : PySem.W.OpenLaw} {n k : Nat} {q : Program} {loose : List Str} {XP : (Str → Option Value) → Heap → Prop} {YP : World → Heap → Prop} {d : DefRec} {K : Params → PySem.W.Frag} {CX : World → CXT} {x : Str}
    (hn : l.most = some n) (hn2 : n ≤ sizeLine) (hdf : d.params.defaults = []) (hr : Room k callerA) (hY : ∀ (w : World) (h : Heap), YP w h → (K w.params).In h)
    (F : ∀ (w : World) (mg mb : Str → Option Value) (lo : List Str) (mean : ExcName → Option Value) (fa : Addr) (h : Heap), Top q lo mean mg mb h → (K w.params).In h → mg d.name = some (.ref fa) → LawAtS l w (K w.params) (CX w) k n x mg fa h)
    (hC : ∀ (w : World) (H : Hp) (s : Shared) (e : Value) (s' : Shared), CX w [] H s (fun _ _ _ => False) e s' → False) : PySem.W.WalkO q loose XP YP l.row.toRowW d [] (fun f vs => PySem.call f vs) := by
  apply Att.attach_callB hn hdf
  intro w t0 t1 mg mb fa ob pmv cdv docv lst vz nz Gd Yd hob hdat hrec hname hlst hare hmost hbits hgens
  have KX := hY w _ Yd
  obtain ⟨fd, cs, sp, tabs, out, codes, binds, asked, runs⟩ := F w mg mb _ _ fa _ Gd.T KX hname
  exact law_callTs KX Gd.T.g Gd.T.b Gd.T.builtins Gd.T.nolimit hgens tabs out codes Gd.T.bmain hlst hare (Nat.le_trans hmost hn2) hr runs binds (fun H z1 z2 => asked H lst nz hmost hbits z1 z2) fun H e s' => hC w H t1 e s'
end DL

set_option Elab.async false
set_option linter.all false
set_option maxRecDepth 100000
namespace DL
open PySem L2
structure Ad where
  cPr : Addr
  cSc : Addr
  cRd : Addr
  cFE : Addr
  cBT : Addr
  cBC : Addr
  cNU : Addr
  cBR : Addr
  cBL : Addr
def cs (s : String) : List Nat := s.toList.map Char.toNat
def c_SIGNS : D := .str [32, 43, 45, 46, 48, 49, 56, 95, 116]
def c_SMALL : D := .str [97, 98, 99, 100, 101, 102, 103, 104, 105, 106, 107, 108, 109, 110, 111, 112, 113, 114, 115, 116, 117, 118, 119, 120, 121, 122]
def c_PLAIN : D := .tup [.str [115, 105, 103, 110, 115], .str [98, 101, 103, 105, 110, 115], .str [101, 110, 100, 115]]
theorem wk_upd {R : DQ} {d : D} {M M' : DM} {a : Addr} {o : MO} (h : R d (mupd M a o)) (e : M' a = some o) (k : ∀ b o', b ≠ a → M b = some o' → M' b = some o') : Wk R d M' := by
  refine ⟨_, fun b o' hb => ?_, h⟩
  by_cases q : b = a
  · subst q; rw [mupd_same] at hb; cases hb; exact e
  · rw [mupd_ne q] at hb; exact k b o' q hb
theorem mupd_idem {M : DM} {a : Addr} {o o' : MO} : mupd (mupd M a o) a o' = mupd M a o' := by
  funext b
  by_cases q : b = a
  · subst q; rw [mupd_same, mupd_same]
  · rw [mupd_ne q, mupd_ne q, mupd_ne q]
theorem mupd_self {M : DM} {a : Addr} {o : MO} (h : M a = some o) : mupd M a o = M := by
  funext b
  by_cases q : b = a
  · subst q; rw [mupd_same, h]
  · rw [mupd_ne q]
def look (L : List Nat) (i : Nat) : List Nat := (L.drop i).take 1
theorem cutL_nat (L : List Nat) (i j : Nat) (h : i ≤ j) : cutL L (some (i : Int)) (some (j : Int)) = (L.drop i).take (j - i) := by
  have e : ∀ (k : Nat) (d : Nat), HT.sIx L.length d (some (k : Int)) = min k L.length := fun k d => by
    unfold HT.sIx
    simp
    omega
  unfold cutL
  rw [e, e]
  by_cases q : i ≤ L.length
  · rw [Nat.min_eq_left q]
    by_cases q2 : j ≤ L.length
    · rw [Nat.min_eq_left q2]
    · rw [Nat.min_eq_right (by omega), List.take_of_length_le (by simp), List.take_of_length_le (by simp; omega)]
  · rw [List.drop_eq_nil_of_le (by omega), List.drop_eq_nil_of_le (by omega)]
    simp
end DL

set_option Elab.async false
set_option linter.all false
set_option maxRecDepth 100000
set_option maxHeartbeats 1000000
namespace DL
open PySem L2
def rdO (A : Ad) (dx : Addr) (L : List Nat) (i : Nat) : MO := .ins A.cRd dx ["line", "at"] [.str L, .int (i : Nat)]
def Rdg (A : Ad) (M : DM) (a dx : Addr) (L : List Nat) (i : Nat) : Prop := M a = some (rdO A dx L i) ∧ L.length ≤ 100000
def sp_Reading_init (A : Ad) : DSp := fun ds M Q _ => ∃ a dx L, ds = [.ref a, .str L] ∧ M a = some (.ins A.cRd dx [] []) ∧ Q .non (mupd M a (rdO A dx L 0))
def sp_Reading_look (A : Ad) : DSp := fun ds M Q _ => ∃ a dx L i, ds = [.ref a] ∧ Rdg A M a dx L i ∧ Q (.str (look L i)) M
def sk (L : List Nat) (i c : Nat) : Bool := decide (look L i = [c])
def skj (L : List Nat) (i c : Nat) : Nat := if look L i = [c] then i + 1 else i
def sp_Reading_skip (A : Ad) : DSp := fun ds M Q _ => ∃ a dx L i c, ds = [.ref a, .str [c]] ∧ Rdg A M a dx L i ∧ Q (.bl (sk L i c)) (mupd M a (rdO A dx L (skj L i c)))
def t_Reading_init (A : Ad) : DS := dSeq (dFldSet A.cRd "line" (dVar 0) (dVar 1)) (dFldSet A.cRd "at" (dVar 0) (dC (.int 0)))
abbrev n_Reading_init : List Str := ["self", "line"]
def t_Reading_look (A : Ad) : DS := dRet (dSl (dFld A.cRd "line" (dVar 0)) (dPart (dFld A.cRd "at" (dVar 0))) (dPart (dOp addD (dFld A.cRd "at" (dVar 0)) (dC (.int 1)))))
abbrev n_Reading_look : List Str := ["self"]
def t_Reading_skip (A : Ad) : DS := dSeq (dSet 2 (dOp eqD (dMeth A.cRd "look" (sp_Reading_look A) (dVar 0) (dNil)) (dVar 1))) (dSeq (dIfS (dTest (dVar 2)) (dFldAug A.cRd "at" (dVar 0) (dC (.int 1))) (dNext)) (dRet (dVar 2)))
abbrev n_Reading_skip : List Str := ["self", "sign", "good"]
theorem Rdg.upd {A : Ad} {M : DM} {a dx : Addr} {L : List Nat} {i j : Nat} (h : Rdg A M a dx L i) : Rdg A (mupd M a (rdO A dx L j)) a dx L j := ⟨mupd_same, h.2⟩
theorem pure_Reading_init {A : Ad} (ds M R EX) (h : sp_Reading_init A ds M R EX) : t_Reading_init A (fun C fs _ M' => WkX EX C fs M') (endsOf R) (startD n_Reading_init ds) M := by
  obtain ⟨a, dx, L, rfl, e, k⟩ := h
  unfold t_Reading_init
  simp only [dVar, dC, dOp, dTest, dChain, dAnd, dOr, dNot, dAndV, dOrV, dNotV, dIfE, dNil, dCons, dTup, dLst, dNext, dSeq, dIfS, dRet, dRetN, dExpr, dBrk, dCnt, dSet, dNever, gN, gTp, gLs, gsNil, gsCons, dAsg, dCall, dRaise, dRaiseF, ixD, dSl, slD, dPart, dNoPart, dCB, lenD, minD, maxD, absD, intD, strD, tupleD, listD, dMt, dMt0, tyD, appendD, popD, joinD, splitD, countD, dIsi, tnD, isiT, gSb, setL, dFld, dFldSet, dMeth, dMake, dFldAug, dAug, dPar, dTru, dNeg, augAdd, intI, cmpI, startD, endsOf, List.map_cons, List.map_nil, List.length_cons, List.length_nil, List.replicate, List.getElem?_cons_zero, List.getElem?_cons_succ, List.cons_append, List.nil_append, List.set_cons_zero, List.set_cons_succ, Nat.reduceAdd, Nat.reduceSub]
  refine ⟨a, dx, [], [], rfl, e, (by decide), .inr ⟨(by simp), a, dx, _, _, rfl, mupd_same, (by show 1 < 1000; decide), .inr ⟨(by decide +kernel), Wk.self ?_⟩⟩⟩
  rw [mupd_idem]
  exact k
theorem pure_Reading_look {A : Ad} (ds M R EX) (h : sp_Reading_look A ds M R EX) : t_Reading_look A (fun C fs _ M' => WkX EX C fs M') (endsOf R) (startD n_Reading_look ds) M := by
  obtain ⟨a, dx, L, i, rfl, ⟨e, hL⟩, k⟩ := h
  unfold t_Reading_look
  simp only [dVar, dC, dOp, dTest, dChain, dAnd, dOr, dNot, dAndV, dOrV, dNotV, dIfE, dNil, dCons, dTup, dLst, dNext, dSeq, dIfS, dRet, dRetN, dExpr, dBrk, dCnt, dSet, dNever, gN, gTp, gLs, gsNil, gsCons, dAsg, dCall, dRaise, dRaiseF, ixD, dSl, slD, dPart, dNoPart, dCB, lenD, minD, maxD, absD, intD, strD, tupleD, listD, dMt, dMt0, tyD, appendD, popD, joinD, splitD, countD, dIsi, tnD, isiT, gSb, setL, dFld, dFldSet, dMeth, dMake, dFldAug, dAug, dPar, dTru, dNeg, augAdd, intI, cmpI, startD, endsOf, List.map_cons, List.map_nil, List.length_cons, List.length_nil, List.replicate, List.getElem?_cons_zero, List.getElem?_cons_succ, List.cons_append, List.nil_append, List.set_cons_zero, List.set_cons_succ, Nat.reduceAdd, Nat.reduceSub]
  refine ⟨a, dx, _, _, 0, _, rfl, e, rfl, rfl, a, dx, _, _, 1, _, rfl, e, rfl, rfl, ?_⟩
  refine ⟨a, dx, _, _, 1, _, rfl, e, rfl, rfl, (by have : sizeLine = 16777216 := sizeLine_eq; show L.length ≤ sizeLine; omega), Wk.self ?_⟩
  have z := cutL_nat L i (i + 1) (by omega)
  rw [Nat.add_sub_cancel_left] at z
  show R (.str (cutL L (some (i : Int)) (some ((i : Int) + 1)))) M
  rw [show ((i : Int) + 1) = ((i + 1 : Nat) : Int) from by push_cast; rfl, z]
  exact k
theorem pure_Reading_skip {A : Ad} (ds M R EX) (h : sp_Reading_skip A ds M R EX) : t_Reading_skip A (fun C fs _ M' => WkX EX C fs M') (endsOf R) (startD n_Reading_skip ds) M := by
  obtain ⟨a, dx, L, i, c, rfl, hr, k⟩ := h
  unfold t_Reading_skip
  simp only [dVar, dC, dOp, dTest, dChain, dAnd, dOr, dNot, dAndV, dOrV, dNotV, dIfE, dNil, dCons, dTup, dLst, dNext, dSeq, dIfS, dRet, dRetN, dExpr, dBrk, dCnt, dSet, dNever, gN, gTp, gLs, gsNil, gsCons, dAsg, dCall, dRaise, dRaiseF, ixD, dSl, slD, dPart, dNoPart, dCB, lenD, minD, maxD, absD, intD, strD, tupleD, listD, dMt, dMt0, tyD, appendD, popD, joinD, splitD, countD, dIsi, tnD, isiT, gSb, setL, dFld, dFldSet, dMeth, dMake, dFldAug, dAug, dPar, dTru, dNeg, augAdd, intI, cmpI, startD, endsOf, List.map_cons, List.map_nil, List.length_cons, List.length_nil, List.replicate, List.getElem?_cons_zero, List.getElem?_cons_succ, List.cons_append, List.nil_append, List.set_cons_zero, List.set_cons_succ, Nat.reduceAdd, Nat.reduceSub]
  refine ⟨a, dx, _, _, rfl, hr.1, (by decide +kernel), a, dx, L, i, rfl, hr, ?_⟩
  show (match decide (look L i = [c]) with | true => _ | false => _)
  unfold sk skj at k
  by_cases q : look L i = [c]
  · rw [decide_eq_true q] at k ⊢
    rw [if_pos q] at k
    exact ⟨a, dx, _, _, 1, _, rfl, hr.1, rfl, rfl, _, dx, _, rfl, hr.1, (by show 2 < 1000; decide), Wk.self k⟩
  · rw [decide_eq_false q] at k ⊢
    rw [if_neg q, mupd_self hr.1] at k
    exact Wk.self k
end DL

set_option Elab.async false
set_option linter.all false
set_option maxRecDepth 100000
set_option maxHeartbeats 1000000
namespace DL
open PySem L2
def SMc : List Nat := [97, 98, 99, 100, 101, 102, 103, 104, 105, 106, 107, 108, 109, 110, 111, 112, 113, 114, 115, 116, 117, 118, 119, 120, 121, 122]
def SGc : List Nat := [32, 43, 45, 46, 48, 49, 56, 95, 116]
def tw (S L : List Nat) (i : Nat) : List Nat := (L.drop i).takeWhile fun c => decide (c ∈ S)
theorem tw_step {S L : List Nat} {i c : Nat} (h : look L i = [c]) : tw S L i = if c ∈ S then c :: tw S L (i + 1) else [] := by
  unfold look at h
  unfold tw
  cases e : L.drop i with
  | nil => rw [e] at h; cases h
  | cons x r =>
    rw [e] at h
    have hx : x = c := by simpa using h
    subst hx
    have hr : L.drop (i + 1) = r := by rw [← List.drop_drop, e]; rfl
    rw [hr, List.takeWhile_cons]
    by_cases q : x ∈ S
    · simp [q]
    · simp [q]
theorem tw_end {S L : List Nat} {i : Nat} (h : look L i = []) : tw S L i = [] := by
  unfold look at h
  unfold tw
  cases e : L.drop i with
  | nil => rfl
  | cons x r => rw [e] at h; cases h
theorem look_cases (L : List Nat) (i : Nat) : look L i = [] ∨ ∃ c, look L i = [c] := by
  unfold look
  cases L.drop i with
  | nil => exact .inl rfl
  | cons x r => exact .inr ⟨x, rfl⟩
theorem tw_len (S L : List Nat) (i : Nat) : (tw S L i).length ≤ L.length := by
  unfold tw
  exact Nat.le_trans (List.takeWhile_prefix _).length_le (by simp)
theorem tw_cut (S L : List Nat) (i : Nat) : cutL L (some (i : Int)) (some ((i + (tw S L i).length : Nat) : Int)) = tw S L i := by
  rw [cutL_nat _ _ _ (by omega), Nat.add_sub_cancel_left]
  unfold tw
  exact (List.prefix_iff_eq_take.mp (List.takeWhile_prefix _)).symm
theorem mlook {A : Ad} {M : DM} {a dx : Addr} {L : List Nat} {i : Nat} {R : DQ} {E : DX} (h : Rdg A M a dx L i) (k : R (.str (look L i)) M)  : ∃ (a_1 dx : Addr) (ns : List Str) (ds : List D), D.ref a = .ref a_1 ∧ M a_1 = some (.ins A.cRd dx ns ds) ∧ ¬ (Str.ofString "look") ∈ ns ∧ sp_Reading_look A [.ref a] M R E :=
  ⟨a, dx, _, _, rfl, h.1, by decide +kernel, a, dx, L, i, rfl, h, k⟩
theorem mskip {A : Ad} {M : DM} {a dx : Addr} {L : List Nat} {i c : Nat} {R : DQ} {E : DX} (h : Rdg A M a dx L i) (k : R (.bl (sk L i c)) (mupd M a (rdO A dx L (skj L i c))))  : ∃ (a_1 dx : Addr) (ns : List Str) (ds : List D), D.ref a = .ref a_1 ∧ M a_1 = some (.ins A.cRd dx ns ds) ∧ ¬ (Str.ofString "skip") ∈ ns ∧ sp_Reading_skip A [.ref a, .str [c]] M R E :=
  ⟨a, dx, _, _, rfl, h.1, by decide +kernel, a, dx, L, i, c, rfl, h, k⟩
theorem fat {A : Ad} {M : DM} {a dx : Addr} {L : List Nat} {i : Nat} {P : D → Prop} (h : Rdg A M a dx L i) (k : P (.int (i : Nat))) : ∃ (a_1 dx : Addr) (ns : List Str) (ds : List D) (j : Nat) (d : D), D.ref a = .ref a_1 ∧ M a_1 = some (.ins A.cRd dx ns ds) ∧ ns[j]? = some (Str.ofString "at") ∧ ds[j]? = some d ∧ P d :=
  ⟨a, dx, _, _, 1, _, rfl, h.1, rfl, rfl, k⟩
theorem fline {A : Ad} {M : DM} {a dx : Addr} {L : List Nat} {i : Nat} {P : D → Prop} (h : Rdg A M a dx L i) (k : P (.str L)) : ∃ (a_1 dx : Addr) (ns : List Str) (ds : List D) (j : Nat) (d : D), D.ref a = .ref a_1 ∧ M a_1 = some (.ins A.cRd dx ns ds) ∧ ns[j]? = some (Str.ofString "line") ∧ ds[j]? = some d ∧ P d :=
  ⟨a, dx, _, _, 0, _, rfl, h.1, rfl, rfl, k⟩
theorem scan_loop {A : Ad} {M : DM} {a dx : Addr} {S L : List Nat} {i : Nat} {W : DW} {E : DEnds} {ρ : Env} (h : Rdg A M a dx L i) (h0 : ρ[0]? = some (some (.ref a))) (k : E.nx ρ (mupd M a (rdO A dx L (i + (tw S L i).length)))) :
    dWhile (dAnd (dTest (dOp neD (dMeth A.cRd "look" (sp_Reading_look A) (dVar 0) dNil) (dC (.str [])))) (dTest (dOp inD (dMeth A.cRd "look" (sp_Reading_look A) (dVar 0) dNil) (dC (.str S))))) (dFldAug A.cRd "at" (dVar 0) (dC (.int 1))) W E ρ M := by
  refine ⟨fun n ρ' M' => ∃ j, ρ' = ρ ∧ M' = mupd M a (rdO A dx L j) ∧ n = (tw S L j).length ∧ j + (tw S L j).length = i + (tw S L i).length, ⟨_, i, rfl, (mupd_self h.1).symm, rfl, rfl⟩, ?_⟩
  rintro n ρ' M' ⟨j, rfl, rfl, rfl, hj⟩
  have hr : Rdg A (mupd M a (rdO A dx L j)) a dx L j := h.upd
  simp only [dVar, dC, dOp, dTest, dChain, dAnd, dOr, dNot, dAndV, dOrV, dNotV, dIfE, dNil, dCons, dTup, dLst, dNext, dSeq, dIfS, dRet, dRetN, dExpr, dBrk, dCnt, dSet, dNever, gN, gTp, gLs, gsNil, gsCons, dAsg, dCall, dRaise, dRaiseF, ixD, dSl, slD, dPart, dNoPart, dCB, lenD, minD, maxD, absD, intD, strD, tupleD, listD, dMt, dMt0, tyD, appendD, popD, joinD, splitD, countD, dIsi, tnD, isiT, gSb, setL, dFld, dFldSet, dMeth, dMake, dFldAug, dAug, dPar, dTru, dNeg, augAdd, intI, cmpI, startD, endsOf, List.map_cons, List.map_nil, List.length_cons, List.length_nil, List.replicate, List.getElem?_cons_zero, List.getElem?_cons_succ, List.cons_append, List.nil_append, List.set_cons_zero, List.set_cons_succ, Nat.reduceAdd, Nat.reduceSub]
  rw [h0]
  refine mlook hr ?_
  show (match (!decide (look L j = [])) with | true => _ | false => _)
  rcases look_cases L j with e | ⟨c, e⟩
  · rw [decide_eq_true e]
    have t := tw_end (S := S) e
    rw [t, List.length_nil, Nat.add_zero] at hj
    subst hj
    exact k
  · rw [decide_eq_false (by rw [e]; simp)]
    refine mlook hr ?_
    rw [e]
    show (match decide (c ∈ S) with | true => _ | false => _)
    have t := tw_step (S := S) e
    by_cases q : c ∈ S
    · rw [decide_eq_true q]
      rw [if_pos q] at t
      refine ⟨a, dx, _, _, 1, _, rfl, hr.1, rfl, rfl, _, dx, _, rfl, hr.1, by show 2 < 1000; decide, _, ?_, j + 1, trivial, mupd_idem, rfl, ?_⟩
      · rw [t]; exact Nat.lt_succ_self _
      · rw [t, List.length_cons] at hj; omega
    · rw [decide_eq_false q]
      rw [if_neg q] at t
      rw [t, List.length_nil, Nat.add_zero] at hj
      subst hj
      exact k
def sp_Reading_word (A : Ad) : DSp := fun ds M Q _ => ∃ a dx L i, ds = [.ref a] ∧ Rdg A M a dx L i ∧ Q (.str (tw SMc L i)) (mupd M a (rdO A dx L (i + (tw SMc L i).length)))
def t_Reading_word (A : Ad) : DS := dSeq (dSet 1 (dFld A.cRd "at" (dVar 0))) (dSeq (dWhile (dAnd (dTest (dOp neD (dMeth A.cRd "look" (sp_Reading_look A) (dVar 0) (dNil)) (dC (.str [])))) (dTest (dOp inD (dMeth A.cRd "look" (sp_Reading_look A) (dVar 0) (dNil)) (dC c_SMALL)))) (dFldAug A.cRd "at" (dVar 0) (dC (.int 1)))) (dRet (dSl (dFld A.cRd "line" (dVar 0)) (dPart (dVar 1)) (dPart (dFld A.cRd "at" (dVar 0))))))
abbrev n_Reading_word : List Str := ["self", "begin"]
theorem pure_Reading_word {A : Ad} (ds M R EX) (h : sp_Reading_word A ds M R EX) : t_Reading_word A (fun C fs _ M' => WkX EX C fs M') (endsOf R) (startD n_Reading_word ds) M := by
  obtain ⟨a, dx, L, i, rfl, hr, k⟩ := h
  unfold t_Reading_word
  simp only [dVar, dC, dOp, dTest, dChain, dAnd, dOr, dNot, dAndV, dOrV, dNotV, dIfE, dNil, dCons, dTup, dLst, dNext, dSeq, dIfS, dRet, dRetN, dExpr, dBrk, dCnt, dSet, dNever, gN, gTp, gLs, gsNil, gsCons, dAsg, dCall, dRaise, dRaiseF, ixD, dSl, slD, dPart, dNoPart, dCB, lenD, minD, maxD, absD, intD, strD, tupleD, listD, dMt, dMt0, tyD, appendD, popD, joinD, splitD, countD, dIsi, tnD, isiT, gSb, setL, dFld, dFldSet, dMeth, dMake, dFldAug, dAug, dPar, dTru, dNeg, augAdd, intI, cmpI, startD, endsOf, List.map_cons, List.map_nil, List.length_cons, List.length_nil, List.replicate, List.getElem?_cons_zero, List.getElem?_cons_succ, List.cons_append, List.nil_append, List.set_cons_zero, List.set_cons_succ, Nat.reduceAdd, Nat.reduceSub]
  refine fat hr ?_
  refine scan_loop (A := A) (ρ := [some (.ref a), some (.int (i : Nat))]) (S := SMc) hr rfl ?_
  have h2 : Rdg A (mupd M a (rdO A dx L (i + (tw SMc L i).length))) a dx L (i + (tw SMc L i).length) := hr.upd
  refine fline h2 ?_
  refine fat h2 ?_
  refine ⟨by have : sizeLine = 16777216 := sizeLine_eq; have := hr.2; omega, Wk.self ?_⟩
  rw [tw_cut]
  exact k
def pL (L : List Nat) (i : Nat) : D × Nat :=
  if look L i = [39] then (if look L (i + 1 + (tw SGc L (i + 1)).length) = [39] then (.str (tw SGc L (i + 1)), i + 1 + (tw SGc L (i + 1)).length + 1) else (.non, i + 1 + (tw SGc L (i + 1)).length)) else (.non, i)
def sp_Reading_letters (A : Ad) : DSp := fun ds M Q _ => ∃ a dx L i, ds = [.ref a] ∧ Rdg A M a dx L i ∧ Q (pL L i).1 (mupd M a (rdO A dx L (pL L i).2))
def t_Reading_letters (A : Ad) : DS := dSeq (dIfS (dNot (dTest (dMeth A.cRd "skip" (sp_Reading_skip A) (dVar 0) (dCons (dC (.str [39])) (dNil))))) (dRet (dC .non)) (dNext)) (dSeq (dSet 1 (dFld A.cRd "at" (dVar 0))) (dSeq (dWhile (dAnd (dTest (dOp neD (dMeth A.cRd "look" (sp_Reading_look A) (dVar 0) (dNil)) (dC (.str [])))) (dTest (dOp inD (dMeth A.cRd "look" (sp_Reading_look A) (dVar 0) (dNil)) (dC c_SIGNS)))) (dFldAug A.cRd "at" (dVar 0) (dC (.int 1)))) (dSeq (dSet 2 (dSl (dFld A.cRd "line" (dVar 0)) (dPart (dVar 1)) (dPart (dFld A.cRd "at" (dVar 0))))) (dRet (dIfE (dTest (dMeth A.cRd "skip" (sp_Reading_skip A) (dVar 0) (dCons (dC (.str [39])) (dNil)))) (dVar 2) (dC .non))))))
abbrev n_Reading_letters : List Str := ["self", "begin", "found"]
theorem pure_Reading_letters {A : Ad} (ds M R EX) (h : sp_Reading_letters A ds M R EX) : t_Reading_letters A (fun C fs _ M' => WkX EX C fs M') (endsOf R) (startD n_Reading_letters ds) M := by
  obtain ⟨a, dx, L, i, rfl, hr, k⟩ := h
  unfold t_Reading_letters
  simp only [dVar, dC, dOp, dTest, dChain, dAnd, dOr, dNot, dAndV, dOrV, dNotV, dIfE, dNil, dCons, dTup, dLst, dNext, dSeq, dIfS, dRet, dRetN, dExpr, dBrk, dCnt, dSet, dNever, gN, gTp, gLs, gsNil, gsCons, dAsg, dCall, dRaise, dRaiseF, ixD, dSl, slD, dPart, dNoPart, dCB, lenD, minD, maxD, absD, intD, strD, tupleD, listD, dMt, dMt0, tyD, appendD, popD, joinD, splitD, countD, dIsi, tnD, isiT, gSb, setL, dFld, dFldSet, dMeth, dMake, dFldAug, dAug, dPar, dTru, dNeg, augAdd, intI, cmpI, startD, endsOf, List.map_cons, List.map_nil, List.length_cons, List.length_nil, List.replicate, List.getElem?_cons_zero, List.getElem?_cons_succ, List.cons_append, List.nil_append, List.set_cons_zero, List.set_cons_succ, Nat.reduceAdd, Nat.reduceSub]
  refine mskip hr ?_
  unfold pL at k
  unfold sk skj
  by_cases q : look L i = [39]
  · rw [if_pos q] at k ⊢
    rw [decide_eq_true q]
    have h1 : Rdg A (mupd M a (rdO A dx L (i + 1))) a dx L (i + 1) := hr.upd
    refine fat h1 ?_
    refine scan_loop (A := A) (ρ := [some (.ref a), some (.int (i + 1 : Nat)), none]) (S := SGc) h1 rfl ?_
    rw [mupd_idem]
    have h2 : Rdg A (mupd M a (rdO A dx L (i + 1 + (tw SGc L (i + 1)).length))) a dx L (i + 1 + (tw SGc L (i + 1)).length) := hr.upd
    refine fline h2 ?_
    refine fat h2 ?_
    refine ⟨by have : sizeLine = 16777216 := sizeLine_eq; have := hr.2; omega, ?_⟩
    rw [tw_cut]
    refine mskip h2 ?_
    unfold sk skj
    rw [mupd_idem]
    by_cases q2 : look L (i + 1 + (tw SGc L (i + 1)).length) = [39]
    · rw [if_pos q2] at k ⊢
      rw [decide_eq_true q2]
      exact Wk.self k
    · rw [if_neg q2] at k ⊢
      rw [decide_eq_false q2]
      exact Wk.self k
  · rw [if_neg q] at k ⊢
    rw [decide_eq_false q]
    exact Wk.self k
end DL

set_option Elab.async false
set_option linter.all false
set_option maxRecDepth 100000
set_option maxHeartbeats 1000000
namespace DL
open PySem L2
theorem msub_new {M : DM} {p : Addr} {o : MO} (h : M p = none) : MSub M (mupd M p o) := fun b o' e => by
  by_cases q : b = p
  · subst q; rw [h] at e; cases e
  · rw [mupd_ne q]; exact e
theorem mupd_comm {M : DM} {a p : Addr} {o o' : MO} (h : a ≠ p) : mupd (mupd M a o) p o' = mupd (mupd M p o') a o := by
  funext b
  by_cases q : b = p
  · subst q; rw [mupd_same, mupd_ne (Ne.symm h), mupd_same]
  · rw [mupd_ne q]
    by_cases q2 : b = a
    · subst q2; rw [mupd_same, mupd_same]
    · rw [mupd_ne q2, mupd_ne q2, mupd_ne q]
theorem mcall {A : Ad} {M : DM} {a dx : Addr} {L : List Nat} {i : Nat} {P : Prop} {m : Str} (h : Rdg A M a dx L i) (k : P) (hm : ¬ m ∈ (["line", "at"] : List Str) := by decide +kernel) : ∃ (a_1 dx : Addr) (ns : List Str) (ds : List D), D.ref a = .ref a_1 ∧ M a_1 = some (.ins A.cRd dx ns ds) ∧ ¬ m ∈ ns ∧ P :=
  ⟨a, dx, _, _, rfl, h.1, hm, k⟩
theorem flat_strs (ys : List (List Nat)) : (ys.map D.str).all flatD = true := by
  induction ys with
  | nil => rfl
  | cons y r ih => rw [List.map_cons, List.all_cons, ih]; rfl
theorem inF_strs (x : List Nat) (ys : List (List Nat)) : inF (.str x) (ys.map D.str) = decide (x ∈ ys) := by
  unfold inF
  induction ys with
  | nil => rfl
  | cons y r ih =>
    rw [List.map_cons, List.any_cons, ih]
    show ((y == x) || decide (x ∈ r)) = _
    by_cases q : y = x
    · subst q; simp
    · have : ¬ x = y := fun z => q z.symm
      simp [q, this]
theorem in_strs {x : List Nat} {ys : List (List Nat)} {M : DM} {R : DQ} (h : R (.bl (decide (x ∈ ys))) M) : inD (.str x) (.tup (ys.map D.str)) M R := by
  unfold inD inG
  simp only [flat_strs, inF_strs]
  exact h
theorem notIn_strs {x : List Nat} {ys : List (List Nat)} {M : DM} {R : DQ} (h : R (.bl (!decide (x ∈ ys))) M) : notInD (.str x) (.tup (ys.map D.str)) M R := by
  unfold notInD inG
  simp only [flat_strs, inF_strs]
  exact h
def BDc : List (List Nat) := [[48], [49], [50], [51], [52], [53], [54], [55], [56], [57], [45]]
def c_BOUNDS : D := .tup (BDc.map D.str)
def bnd (f : List Nat) : D := if f = [45] then .non else .int ((f.headD 48 : Nat) - 48 : Nat)
theorem bnd_run {f : List Nat} (h : f ∈ BDc) {M : DM} {R : DQ} (k : R (bnd f) M) : match decide (f = [45]) with
    | true => R .non M
    | false => ∃ n, intText? (sV f) = some n ∧ f.length ≤ 640 ∧ R (.int n) M := by
  unfold BDc at h
  simp only [List.mem_cons, List.not_mem_nil, or_false] at h
  rcases h with rfl | rfl | rfl | rfl | rfl | rfl | rfl | rfl | rfl | rfl | rfl
  all_goals first
    | exact ⟨_, by decide +kernel, by decide, k⟩
    | exact k
def pB (L : List Nat) (i : Nat) : D × Nat :=
  (if look L (i + 1) = [44] ∧ look L i ∈ BDc ∧ look L (skj L (i + 1) 44) ∈ BDc then .tup [bnd (look L i), bnd (look L (skj L (i + 1) 44))] else .non, skj L (i + 1) 44 + 1)
def sp_Reading_bounds (A : Ad) : DSp := fun ds M Q _ => ∃ a dx L i, ds = [.ref a] ∧ Rdg A M a dx L i ∧ Q (pB L i).1 (mupd M a (rdO A dx L (pB L i).2))
def t_Reading_bounds (A : Ad) : DS := dSeq (dSet 1 (dMeth A.cRd "look" (sp_Reading_look A) (dVar 0) (dNil))) (dSeq (dFldAug A.cRd "at" (dVar 0) (dC (.int 1))) (dSeq (dSet 2 (dMeth A.cRd "skip" (sp_Reading_skip A) (dVar 0) (dCons (dC (.str [44])) (dNil)))) (dSeq (dSet 3 (dMeth A.cRd "look" (sp_Reading_look A) (dVar 0) (dNil))) (dSeq (dFldAug A.cRd "at" (dVar 0) (dC (.int 1))) (dSeq (dIfS (dOr (dNot (dTest (dVar 2))) (dOr (dTest (dOp notInD (dVar 1) (dC c_BOUNDS))) (dTest (dOp notInD (dVar 3) (dC c_BOUNDS))))) (dRet (dC .non)) (dNext)) (dRet (dCB tupleD (dCons (dLc (dIter (dTup (dCons (dVar 1) (dCons (dVar 3) (dNil))))) (gN 4) (dYes) (dIfE (dTest (dOp eqD (dVar 4) (dC (.str [45])))) (dC .non) (dCB intD (dCons (dVar 4) (dNil)))) [4]) (dNil)))))))))
abbrev n_Reading_bounds : List Str := ["self", "first", "good", "second", "one"]
theorem pure_Reading_bounds {A : Ad} (ds M R EX) (h : sp_Reading_bounds A ds M R EX) : t_Reading_bounds A (fun C fs _ M' => WkX EX C fs M') (endsOf R) (startD n_Reading_bounds ds) M := by
  obtain ⟨a, dx, L, i, rfl, hr, k⟩ := h
  unfold t_Reading_bounds
  simp only [dVar, dC, dOp, dTest, dChain, dAnd, dOr, dNot, dAndV, dOrV, dNotV, dIfE, dNil, dCons, dTup, dLst, dNext, dSeq, dIfS, dRet, dRetN, dExpr, dBrk, dCnt, dSet, dNever, gN, gTp, gLs, gsNil, gsCons, dAsg, dCall, dRaise, dRaiseF, ixD, dSl, slD, dPart, dNoPart, dCB, lenD, minD, maxD, absD, intD, strD, tupleD, listD, dMt, dMt0, tyD, appendD, popD, joinD, splitD, countD, dIsi, tnD, isiT, gSb, setL, dFld, dFldSet, dMeth, dMake, dFldAug, dAug, dPar, dTru, dNeg, augAdd, intI, cmpI, startD, endsOf, List.map_cons, List.map_nil, List.length_cons, List.length_nil, List.replicate, List.getElem?_cons_zero, List.getElem?_cons_succ, List.cons_append, List.nil_append, List.set_cons_zero, List.set_cons_succ, Nat.reduceAdd, Nat.reduceSub]
  refine mlook hr ?_
  refine ⟨a, dx, _, _, 1, _, rfl, hr.1, rfl, rfl, _, dx, _, rfl, hr.1, by show 2 < 1000; decide, ?_⟩
  have h1 : Rdg A (mupd M a (rdO A dx L (i + 1))) a dx L (i + 1) := hr.upd
  refine mskip h1 ?_
  rw [mupd_idem]
  have h2 : Rdg A (mupd M a (rdO A dx L (skj L (i + 1) 44))) a dx L (skj L (i + 1) 44) := hr.upd
  refine mlook h2 ?_
  refine ⟨a, dx, _, _, 1, _, rfl, h2.1, rfl, rfl, _, dx, _, rfl, h2.1, by show 2 < 1000; decide, ?_⟩
  show (match (!sk L (i + 1) 44) with | true => _ | false => _)
  rw [show mupd (mupd M a (rdO A dx L (skj L (i + 1) 44))) a (MO.ins A.cRd dx ["line", "at"] ([D.str L, D.int ↑(skj L (i + 1) 44)].set 1 (D.int (↑(skj L (i + 1) 44) + 1)))) = mupd M a (rdO A dx L (skj L (i + 1) 44 + 1)) from mupd_idem]
  unfold pB at k
  by_cases q : look L (i + 1) = [44]
  · rw [show sk L (i + 1) 44 = true from decide_eq_true q]
    refine notIn_strs ?_
    by_cases q1 : look L i ∈ BDc
    · rw [decide_eq_true q1]
      refine notIn_strs ?_
      by_cases q2 : look L (skj L (i + 1) 44) ∈ BDc
      · rw [decide_eq_true q2]
        rw [if_pos ⟨q, q1, q2⟩] at k
        refine ⟨by show 2 ≤ sizeLine; decide, fun p hp => ?_⟩
        refine lcF_pure (f := fun x => match x with | .str f => bnd f | _ => .non) _ [] (by show 0 + 2 < sizeLine; decide) (fun _ => trivial) (fun x hx acc R' hR => ?_) ?_ (fun x ρ ρ' M P Q h k => h _ _ k) (fun ρ M P Q h k => h _ _ k)
        · simp only [List.mem_cons, List.not_mem_nil, or_false] at hx
          rcases hx with rfl | rfl
          · exact bnd_run q1 hR
          · exact bnd_run q2 hR
        · exact ⟨_, _, mupd_same, msub_new hp, Wk.self k⟩
      · rw [decide_eq_false q2]
        rw [if_neg (fun z => q2 z.2.2)] at k
        exact Wk.self k
    · rw [decide_eq_false q1]
      rw [if_neg (fun z => q1 z.2.1)] at k
      exact Wk.self k
  · rw [show sk L (i + 1) 44 = false from decide_eq_false q]
    rw [if_neg (fun z => q z.1)] at k
    exact Wk.self k
end DL

set_option Elab.async false
set_option linter.all false
set_option maxRecDepth 100000
set_option maxHeartbeats 1000000
namespace DL
open PySem L2
def tupsOf : D → List D
  | .tup ds => ds
  | _ => []
def pP (L : List Nat) (i : Nat) : D × Nat :=
  if isN (pL L i).1 = true ∨ look L (pL L i).2 ≠ [44] then (.non, (pL L i).2)
  else (if isN (pB L ((pL L i).2 + 1)).1 then .non else .tup ((pL L i).1 :: tupsOf (pB L ((pL L i).2 + 1)).1), (pB L ((pL L i).2 + 1)).2)
theorem pB_form (L : List Nat) (i : Nat) : (pB L i).1 = .non ∨ ∃ x y, (pB L i).1 = .tup [x, y] := by
  unfold pB
  split
  · exact .inr ⟨_, _, rfl⟩
  · exact .inl rfl
theorem pL_form (L : List Nat) (i : Nat) : (pL L i).1 = .non ∨ ∃ s, (pL L i).1 = .str s := by
  unfold pL
  split
  · split
    · exact .inr ⟨_, rfl⟩
    · exact .inl rfl
  · exact .inl rfl
theorem mlet {A : Ad} {M : DM} {a dx : Addr} {L : List Nat} {i : Nat} {R : DQ} {E : DX} (h : Rdg A M a dx L i) (k : R (pL L i).1 (mupd M a (rdO A dx L (pL L i).2))) : sp_Reading_letters A [.ref a] M R E := ⟨a, dx, L, i, rfl, h, k⟩
def sp_Reading_part (A : Ad) : DSp := fun ds M Q _ => ∃ a dx L i, ds = [.ref a] ∧ Rdg A M a dx L i ∧ Q (pP L i).1 (mupd M a (rdO A dx L (pP L i).2))
def t_Reading_part (A : Ad) : DS := dSeq (dSet 1 (dMeth A.cRd "letters" (sp_Reading_letters A) (dVar 0) (dNil))) (dSeq (dIfS (dOr (dTest (dOp isD (dVar 1) (dC .non))) (dNot (dTest (dMeth A.cRd "skip" (sp_Reading_skip A) (dVar 0) (dCons (dC (.str [44])) (dNil)))))) (dRet (dC .non)) (dNext)) (dSeq (dSet 2 (dMeth A.cRd "bounds" (sp_Reading_bounds A) (dVar 0) (dNil))) (dRet (dIfE (dTest (dOp isD (dVar 2) (dC .non))) (dC .non) (dOp addD (dTup (dCons (dVar 1) (dNil))) (dVar 2))))))
abbrev n_Reading_part : List Str := ["self", "found", "rest"]
theorem pure_Reading_part {A : Ad} (ds M R EX) (h : sp_Reading_part A ds M R EX) : t_Reading_part A (fun C fs _ M' => WkX EX C fs M') (endsOf R) (startD n_Reading_part ds) M := by
  obtain ⟨a, dx, L, i, rfl, hr, k⟩ := h
  unfold t_Reading_part
  simp only [dVar, dC, dOp, dTest, dChain, dAnd, dOr, dNot, dAndV, dOrV, dNotV, dIfE, dNil, dCons, dTup, dLst, dNext, dSeq, dIfS, dRet, dRetN, dExpr, dBrk, dCnt, dSet, dNever, gN, gTp, gLs, gsNil, gsCons, dAsg, dCall, dRaise, dRaiseF, ixD, dSl, slD, dPart, dNoPart, dCB, lenD, minD, maxD, absD, intD, strD, tupleD, listD, dMt, dMt0, tyD, appendD, popD, joinD, splitD, countD, dIsi, tnD, isiT, gSb, setL, dFld, dFldSet, dMeth, dMake, dFldAug, dAug, dPar, dTru, dNeg, augAdd, intI, cmpI, startD, endsOf, List.map_cons, List.map_nil, List.length_cons, List.length_nil, List.replicate, List.getElem?_cons_zero, List.getElem?_cons_succ, List.cons_append, List.nil_append, List.set_cons_zero, List.set_cons_succ, Nat.reduceAdd, Nat.reduceSub]
  refine mcall hr (mlet hr ?_)
  show (match isN (pL L i).1 with | true => _ | false => _)
  have h1 : Rdg A (mupd M a (rdO A dx L (pL L i).2)) a dx L (pL L i).2 := hr.upd
  unfold pP at k
  rcases pL_form L i with e | ⟨s, e⟩
  · rw [if_pos (.inl (by rw [e]; rfl))] at k
    rw [e]
    exact Wk.self k
  · rw [e]
    rw [e] at k
    refine mskip h1 ?_
    rw [mupd_idem]
    unfold sk skj
    by_cases q : look L (pL L i).2 = [44]
    · rw [if_pos q, decide_eq_true q]
      rw [if_neg (by intro z; rcases z with z | z; exact Bool.noConfusion (show false = true from z); exact z q)] at k
      have h2 : Rdg A (mupd M a (rdO A dx L ((pL L i).2 + 1))) a dx L ((pL L i).2 + 1) := hr.upd
      refine mcall h2 ⟨a, dx, L, _, rfl, h2, ?_⟩
      rw [mupd_idem]
      rcases pB_form L ((pL L i).2 + 1) with e2 | ⟨x, y, e2⟩
      · rw [e2] at k ⊢
        exact Wk.self k
      · rw [e2] at k ⊢
        exact ⟨by show 1 ≤ sizeLine; decide, by show 1 + 2 ≤ sizeLine; decide, Wk.self k⟩
    · rw [if_neg q, decide_eq_false q]
      rw [if_pos (.inr q)] at k
      exact Wk.self k
inductive PTail (P : Nat → D → Nat → Prop) (L : List Nat) : D → Nat → List D → Nat → Prop
  | stop {d : D} {j : Nat} : (isN d = true ∨ look L j ≠ [59]) → PTail P L d j [] j
  | more {d d' : D} {j j' k : Nat} {ds : List D} : isN d = false → look L j = [59] → P (j + 1) d' j' → PTail P L d' j' ds k → PTail P L d j (d' :: ds) k
def PSep (P : Nat → D → Nat → Prop) (L : List Nat) (i : Nat) (ds : List D) (k : Nat) : Prop := ∃ d j r, P i d j ∧ PTail P L d j r k ∧ ds = d :: r
def lastN : List D → Bool
  | [] => true
  | [d] => isN d
  | _ :: d :: r => lastN (d :: r)
def resD (ds : List D) : D := if lastN ds then .non else .tup ds
theorem look_lt {L : List Nat} {j c : Nat} (h : look L j = [c]) : j < L.length := by
  unfold look at h
  refine Nat.lt_of_not_le fun q => ?_
  rw [List.drop_eq_nil_of_le q] at h
  cases h
theorem PTail.len {P : Nat → D → Nat → Prop} {L : List Nat} (mono : ∀ i d j, P i d j → i ≤ j) {d : D} {j k : Nat} {ds : List D} (h : PTail P L d j ds k) : ds.length ≤ L.length - j ∧ j ≤ k := by
  induction h with
  | stop _ => exact ⟨Nat.zero_le _, Nat.le_refl _⟩
  | more _ e p _ ih =>
    have h1 := look_lt e
    have h2 := mono _ _ _ p
    rw [List.length_cons]
    omega
def HP (A : Ad) (M : DM) (a p dx : Addr) (L : List Nat) (j : Nat) (ds : List D) : DM := mupd (mupd M a (rdO A dx L j)) p (.lst ds)
section
variable {A : Ad} {M : DM} {a p dx : Addr} {L : List Nat} {j j' : Nat} {ds ds' : List D}
theorem HP.rdg (h : a ≠ p) (hl : L.length ≤ 100000) : Rdg A (HP A M a p dx L j ds) a dx L j := ⟨by unfold HP; rw [mupd_ne h, mupd_same], hl⟩
theorem HP.step (h : a ≠ p) : mupd (HP A M a p dx L j ds) a (rdO A dx L j') = HP A M a p dx L j' ds := by
  unfold HP
  rw [← mupd_comm h, mupd_idem]
theorem HP.put : mupd (HP A M a p dx L j ds) p (.lst ds') = HP A M a p dx L j ds' := mupd_idem
theorem HP.at : HP A M a p dx L j ds p = some (.lst ds) := mupd_same
end
theorem atI_last (xs : List D) (d : D) : atI (xs ++ [d]) (-1) = some d := by
  unfold atI ixN
  rw [if_neg (by decide), if_pos (by simp; omega)]
  simp only [List.length_append, List.length_cons, List.length_nil, Option.bind_some]
  rw [show (-1 + ((xs.length + (0 + 1) : Nat) : Int)).toNat = xs.length from by omega]
  simp
theorem lastN_app (xs : List D) (d : D) : lastN (xs ++ [d]) = isN d := by
  induction xs with
  | nil => rfl
  | cons x r ih =>
    cases r with
    | nil => rfl
    | cons y r => exact ih
theorem sep_loop {A : Ad} {P : Nat → D → Nat → Prop} {m : Str} {sp : DSp} {L : List Nat} {M : DM} {a p dx : Addr} {W : DW} {E : DEnds} {ρ : Env} {d : D} {j k : Nat} {r : List D}
    (hsp : ∀ M i d j R EX, Rdg A M a dx L i → P i d j → R d (mupd M a (rdO A dx L j)) → sp [.ref a] M R EX) (hm : ¬ m ∈ (["line", "at"] : List Str)) (mono : ∀ i d j, P i d j → i ≤ j) (hne : a ≠ p) (hL : L.length ≤ 100000)
    (h0 : ρ[0]? = some (some (.ref a))) (h1 : ρ[1]? = some (some (.ref p))) (h : PTail P L d j r k) (fin : E.nx ρ (HP A M a p dx L k (d :: r))) :
    dWhile (dAnd (dTest (dOp isNotD (dOp ixD (dVar 1) (dNeg (dC (.int 1)))) (dC .non))) (dTest (dMeth A.cRd "skip" (sp_Reading_skip A) (dVar 0) (dCons (dC (.str [59])) dNil)))) (dExpr (dMt "list" appendD (dVar 1) (dCons (dMeth A.cRd m sp (dVar 0) dNil) dNil))) W E ρ (HP A M a p dx L j [d]) := by
  have hlen := (h.len mono).1
  refine ⟨fun n ρ' M' => ∃ acc d' j' r', ρ' = ρ ∧ M' = HP A M a p dx L j' (acc ++ [d']) ∧ PTail P L d' j' r' k ∧ acc ++ d' :: r' = d :: r ∧ n = r'.length, ⟨_, [], d, j, r, rfl, rfl, h, rfl, rfl⟩, ?_⟩
  rintro n ρ' M' ⟨acc, d', j', r', rfl, rfl, ht, he, rfl⟩
  have hr : Rdg A (HP A M a p dx L j' (acc ++ [d'])) a dx L j' := HP.rdg hne hL
  simp only [dVar, dC, dOp, dTest, dChain, dAnd, dOr, dNot, dAndV, dOrV, dNotV, dIfE, dNil, dCons, dTup, dLst, dNext, dSeq, dIfS, dRet, dRetN, dExpr, dBrk, dCnt, dSet, dNever, gN, gTp, gLs, gsNil, gsCons, dAsg, dCall, dRaise, dRaiseF, ixD, dSl, slD, dPart, dNoPart, dCB, lenD, minD, maxD, absD, intD, strD, tupleD, listD, dMt, dMt0, tyD, appendD, popD, joinD, splitD, countD, dIsi, tnD, isiT, gSb, setL, dFld, dFldSet, dMeth, dMake, dFldAug, dAug, dPar, dTru, dNeg, augAdd, intI, cmpI, startD, endsOf, List.map_cons, List.map_nil, List.length_cons, List.length_nil, List.replicate, List.getElem?_cons_zero, List.getElem?_cons_succ, List.cons_append, List.nil_append, List.set_cons_zero, List.set_cons_succ, Nat.reduceAdd, Nat.reduceSub]
  rw [h1]
  refine ⟨_, _, HP.at, atI_last _ _, ?_⟩
  show (match (!isN d') with | true => _ | false => _)
  rw [h0]
  cases ht with
  | stop q =>
    cases e : isN d' with
    | true =>
      rw [← he] at fin
      exact fin
    | false =>
      have q2 := q.resolve_left (by rw [e]; decide)
      refine mskip hr ?_
      unfold sk skj
      rw [if_neg q2, decide_eq_false q2, HP.step hne]
      rw [← he] at fin
      exact fin
  | more e1 e2 hp ht =>
    rename_i d2 j2 ds2
    rw [e1]
    refine mskip hr ?_
    unfold sk skj
    rw [if_pos e2, decide_eq_true e2, HP.step hne]
    refine ⟨.inl ⟨trivial, _, HP.at⟩, mcall (HP.rdg hne hL) (hsp _ _ _ _ _ _ (HP.rdg hne hL) hp ?_) hm⟩
    rw [HP.step hne]
    refine ⟨_, HP.at, ?_, ?_⟩
    · have : (d :: r).length = acc.length + (ds2.length + 2) := by rw [← he]; simp
      have z : sizeLine = 16777216 := sizeLine_eq
      rw [List.length_cons] at this
      rw [List.length_append, List.length_cons, List.length_nil]
      omega
    · rw [HP.put]
      exact ⟨_, Nat.lt_succ_self _, acc ++ [d'], d2, j2, ds2, trivial, rfl, ht, by rw [← he]; simp, rfl⟩
end DL

set_option Elab.async false
set_option linter.all false
set_option maxRecDepth 100000
set_option maxHeartbeats 1000000
namespace DL
open PySem L2
def isP (L : List Nat) (i : Nat) (d : D) (j : Nat) : Prop := pP L i = (d, j)
theorem pL_mono (L : List Nat) (i : Nat) : i ≤ (pL L i).2 := by
  unfold pL
  split
  · split <;> (simp only; omega)
  · exact Nat.le_refl _
theorem pB_mono (L : List Nat) (i : Nat) : i ≤ (pB L i).2 := by
  unfold pB skj
  simp only
  split <;> omega
theorem pP_mono (L : List Nat) (i : Nat) : i ≤ (pP L i).2 := by
  have h1 := pL_mono L i
  have h2 := pB_mono L ((pL L i).2 + 1)
  unfold pP
  split
  · exact h1
  · simp only; omega
theorem isP_mono {L : List Nat} : ∀ i d j, isP L i d j → i ≤ j := fun i d j h => by
  have := pP_mono L i
  rw [show pP L i = (d, j) from h] at this
  exact this
theorem ret_res {R : DQ} {A : Ad} {M : DM} {a p dx : Addr} {L : List Nat} {k : Nat} {d : D} {r : List D} (hp : mupd M a (rdO A dx L k) p = none) (h : R (resD (d :: r)) (mupd M a (rdO A dx L k))) :
    ∃ ds x, HP A M a p dx L k (d :: r) p = some (.lst ds) ∧ atI ds (-1) = some x ∧ match isN x with
      | true => Wk R .non (HP A M a p dx L k (d :: r))
      | false => ∃ xs M2, HP A M a p dx L k (d :: r) p = some (.lst xs) ∧ MSub M2 (HP A M a p dx L k (d :: r)) ∧ Wk R (.tup xs) M2 := by
  obtain ⟨xs, x, e⟩ : ∃ xs x, d :: r = xs ++ [x] := ⟨(d :: r).dropLast, (d :: r).getLast (by simp), (List.dropLast_concat_getLast (by simp)).symm⟩
  rw [e] at h ⊢
  refine ⟨_, x, HP.at, atI_last _ _, ?_⟩
  unfold resD at h
  rw [lastN_app] at h
  cases q : isN x with
  | true => rw [q] at h; exact ⟨_, msub_new hp, h⟩
  | false => rw [q] at h; exact ⟨_, _, HP.at, msub_new hp, Wk.self h⟩
def sp_Reading_parts (A : Ad) : DSp := fun ds M Q _ => ∃ a dx L i xs k, ds = [.ref a] ∧ Rdg A M a dx L i ∧ PSep (isP L) L i xs k ∧ Q (resD xs) (mupd M a (rdO A dx L k))
def t_Reading_parts (A : Ad) : DS := dSeq (dSet 1 (dLst (dCons (dMeth A.cRd "part" (sp_Reading_part A) (dVar 0) (dNil)) (dNil)))) (dSeq (dWhile (dAnd (dTest (dOp isNotD (dOp ixD (dVar 1) (dNeg (dC (.int 1)))) (dC .non))) (dTest (dMeth A.cRd "skip" (sp_Reading_skip A) (dVar 0) (dCons (dC (.str [59])) (dNil))))) (dExpr (dMt "list" appendD (dVar 1) (dCons (dMeth A.cRd "part" (sp_Reading_part A) (dVar 0) (dNil)) (dNil))))) (dRet (dIfE (dTest (dOp isD (dOp ixD (dVar 1) (dNeg (dC (.int 1)))) (dC .non))) (dC .non) (dCB tupleD (dCons (dVar 1) (dNil))))))
abbrev n_Reading_parts : List Str := ["self", "found"]
theorem gone {A : Ad} {M : DM} {a p dx : Addr} {L : List Nat} {j k : Nat} {o : MO} (h : mupd M a (rdO A dx L j) p = none) : a ≠ p ∧ mupd M a (rdO A dx L k) p = none := by
  have h1 : a ≠ p := fun z => by subst z; rw [mupd_same] at h; cases h
  refine ⟨h1, ?_⟩
  rw [mupd_ne h1.symm] at h ⊢
  exact h
theorem pure_Reading_parts {A : Ad} (ds M R EX) (h : sp_Reading_parts A ds M R EX) : t_Reading_parts A (fun C fs _ M' => WkX EX C fs M') (endsOf R) (startD n_Reading_parts ds) M := by
  obtain ⟨a, dx, L, i, xs, k, rfl, hr, ⟨d, j, r, hd, ht, rfl⟩, hk⟩ := h
  unfold t_Reading_parts
  simp only [dVar, dC, dOp, dTest, dChain, dAnd, dOr, dNot, dAndV, dOrV, dNotV, dIfE, dNil, dCons, dTup, dLst, dNext, dSeq, dIfS, dRet, dRetN, dExpr, dBrk, dCnt, dSet, dNever, gN, gTp, gLs, gsNil, gsCons, dAsg, dCall, dRaise, dRaiseF, ixD, dSl, slD, dPart, dNoPart, dCB, lenD, minD, maxD, absD, intD, strD, tupleD, listD, dMt, dMt0, tyD, appendD, popD, joinD, splitD, countD, dIsi, tnD, isiT, gSb, setL, dFld, dFldSet, dMeth, dMake, dFldAug, dAug, dPar, dTru, dNeg, augAdd, intI, cmpI, startD, endsOf, List.map_cons, List.map_nil, List.length_cons, List.length_nil, List.replicate, List.getElem?_cons_zero, List.getElem?_cons_succ, List.cons_append, List.nil_append, List.set_cons_zero, List.set_cons_succ, Nat.reduceAdd, Nat.reduceSub]
  have hd' : pP L i = (d, j) := hd
  refine mcall hr ⟨a, dx, L, i, rfl, hr, ?_⟩
  rw [hd']
  refine ⟨by show 1 ≤ sizeLine; decide, fun p hp => ?_⟩
  obtain ⟨hne, hp2⟩ := gone (k := k) (o := .lst []) hp
  refine sep_loop (P := isP L) (m := "part") (sp := sp_Reading_part A) (ρ := [some (.ref a), some (.ref p)]) (k := k) (fun M i d j R EX hr hp hR => ⟨a, dx, L, i, rfl, hr, by rw [show pP L i = (d, j) from hp]; exact hR⟩) (by decide +kernel) isP_mono hne hr.2 rfl rfl ht ?_
  exact ret_res hp2 hk
inductive POpt (L : List Nat) : Nat → List (List Nat) → Nat → Prop
  | one {i : Nat} : look L (i + (tw SMc L i).length) ≠ [44] → POpt L i [tw SMc L i] (i + (tw SMc L i).length)
  | more {i k : Nat} {ws : List (List Nat)} : look L (i + (tw SMc L i).length) = [44] → POpt L (i + (tw SMc L i).length + 1) ws k → POpt L i (tw SMc L i :: ws) k
theorem POpt.len {L : List Nat} {i k : Nat} {ws : List (List Nat)} (h : POpt L i ws k) : ws.length ≤ L.length - i + 1 ∧ i ≤ k := by
  induction h with
  | one _ => exact ⟨by simp, by omega⟩
  | more e _ ih =>
    have := look_lt e
    rw [List.length_cons]
    omega
def sp_Reading_options (A : Ad) : DSp := fun ds M Q _ => ∃ a dx L i ws k, ds = [.ref a] ∧ Rdg A M a dx L i ∧ POpt L i ws k ∧ Q (.tup (ws.map D.str)) (mupd M a (rdO A dx L k))
def t_Reading_options (A : Ad) : DS := dSeq (dSet 1 (dLst (dCons (dMeth A.cRd "word" (sp_Reading_word A) (dVar 0) (dNil)) (dNil)))) (dSeq (dWhile (dTest (dMeth A.cRd "skip" (sp_Reading_skip A) (dVar 0) (dCons (dC (.str [44])) (dNil)))) (dExpr (dMt "list" appendD (dVar 1) (dCons (dMeth A.cRd "word" (sp_Reading_word A) (dVar 0) (dNil)) (dNil))))) (dRet (dCB tupleD (dCons (dVar 1) (dNil)))))
abbrev n_Reading_options : List Str := ["self", "found"]
theorem pure_Reading_options {A : Ad} (ds M R EX) (h : sp_Reading_options A ds M R EX) : t_Reading_options A (fun C fs _ M' => WkX EX C fs M') (endsOf R) (startD n_Reading_options ds) M := by
  obtain ⟨a, dx, L, i, ws, k, rfl, hr, ho, hk⟩ := h
  have hlen := ho.len.1
  unfold t_Reading_options
  simp only [dVar, dC, dOp, dTest, dChain, dAnd, dOr, dNot, dAndV, dOrV, dNotV, dIfE, dNil, dCons, dTup, dLst, dNext, dSeq, dIfS, dRet, dRetN, dExpr, dBrk, dCnt, dSet, dNever, gN, gTp, gLs, gsNil, gsCons, dAsg, dCall, dRaise, dRaiseF, ixD, dSl, slD, dPart, dNoPart, dCB, lenD, minD, maxD, absD, intD, strD, tupleD, listD, dMt, dMt0, tyD, appendD, popD, joinD, splitD, countD, dIsi, tnD, isiT, gSb, setL, dFld, dFldSet, dMeth, dMake, dFldAug, dAug, dPar, dTru, dNeg, augAdd, intI, cmpI, startD, endsOf, List.map_cons, List.map_nil, List.length_cons, List.length_nil, List.replicate, List.getElem?_cons_zero, List.getElem?_cons_succ, List.cons_append, List.nil_append, List.set_cons_zero, List.set_cons_succ, Nat.reduceAdd, Nat.reduceSub]
  refine mcall hr ⟨a, dx, L, i, rfl, hr, ?_⟩
  refine ⟨by show 1 ≤ sizeLine; decide, fun p hp => ?_⟩
  obtain ⟨hne, hp2⟩ := gone (k := k) (o := .lst []) hp
  have hL := hr.2
  refine ⟨fun n ρ' M' => ∃ acc w j' r', ρ' = [some (.ref a), some (.ref p)] ∧ M' = HP A M a p dx L j' ((acc ++ [w]).map D.str) ∧ ((r' = [] ∧ look L j' ≠ [44] ∧ j' = k) ∨ (look L j' = [44] ∧ POpt L (j' + 1) r' k)) ∧ acc ++ w :: r' = ws ∧ n = r'.length, ?_, ?_⟩
  · cases ho with
    | one q => exact ⟨_, [], _, _, [], rfl, rfl, .inl ⟨rfl, q, rfl⟩, rfl, rfl⟩
    | more q h2 => exact ⟨_, [], _, _, _, rfl, rfl, .inr ⟨q, h2⟩, rfl, rfl⟩
  · rintro n ρ' M' ⟨acc, w, j', r', rfl, rfl, hh, he, rfl⟩
    have hr2 : Rdg A (HP A M a p dx L j' ((acc ++ [w]).map D.str)) a dx L j' := HP.rdg hne hL
    simp only [dVar, dC, dOp, dTest, dChain, dAnd, dOr, dNot, dAndV, dOrV, dNotV, dIfE, dNil, dCons, dTup, dLst, dNext, dSeq, dIfS, dRet, dRetN, dExpr, dBrk, dCnt, dSet, dNever, gN, gTp, gLs, gsNil, gsCons, dAsg, dCall, dRaise, dRaiseF, ixD, dSl, slD, dPart, dNoPart, dCB, lenD, minD, maxD, absD, intD, strD, tupleD, listD, dMt, dMt0, tyD, appendD, popD, joinD, splitD, countD, dIsi, tnD, isiT, gSb, setL, dFld, dFldSet, dMeth, dMake, dFldAug, dAug, dPar, dTru, dNeg, augAdd, intI, cmpI, startD, endsOf, List.map_cons, List.map_nil, List.length_cons, List.length_nil, List.replicate, List.getElem?_cons_zero, List.getElem?_cons_succ, List.cons_append, List.nil_append, List.set_cons_zero, List.set_cons_succ, Nat.reduceAdd, Nat.reduceSub]
    refine mskip hr2 ?_
    unfold sk skj
    rw [HP.step hne]
    rcases hh with ⟨rfl, q, rfl⟩ | ⟨q, h2⟩
    · rw [if_neg q, decide_eq_false q]
      rw [← he] at hk
      exact ⟨_, _, HP.at, msub_new hp2, Wk.self hk⟩
    · rw [if_pos q, decide_eq_true q]
      refine ⟨.inl ⟨trivial, _, HP.at⟩, mcall (HP.rdg hne hL) ⟨a, dx, L, _, rfl, HP.rdg hne hL, ?_⟩⟩
      rw [HP.step hne]
      refine ⟨_, HP.at, ?_, ?_⟩
      · have : ws.length = acc.length + (r'.length + 1) := by rw [← he]; simp
        have z : sizeLine = 16777216 := sizeLine_eq
        rw [List.length_map, List.length_append, List.length_cons, List.length_nil]
        omega
      · rw [HP.put]
        cases h2 with
        | one q2 => exact ⟨0, by simp, acc ++ [w], tw SMc L (j' + 1), _, [], trivial, by simp, .inl ⟨rfl, q2, rfl⟩, by rw [← he]; simp, rfl⟩
        | more q2 h3 => exact ⟨_, by simp, acc ++ [w], tw SMc L (j' + 1), _, _, trivial, by simp, .inr ⟨q2, h3⟩, by rw [← he]; simp, rfl⟩
end DL

set_option Elab.async false
set_option linter.all false
set_option maxRecDepth 100000
set_option maxHeartbeats 1000000
namespace DL
open PySem L2
abbrev PR := Nat → D → Nat → Prop
def w_long : List Nat := [108, 111, 110, 103]
def w_shape : List Nat := [115, 104, 97, 112, 101]
def w_tries : List Nat := [116, 114, 105, 101, 115]
def w_no : List Nat := [110, 111]
def w_all : List Nat := [97, 108, 108]
def w_some : List Nat := [115, 111, 109, 101]
def PLc : List (List Nat) := [[115, 105, 103, 110, 115], [98, 101, 103, 105, 110, 115], [101, 110, 100, 115]]
def WDc : List (List Nat) := PLc ++ [w_long, w_shape, w_tries, w_no, w_all, w_some]
def c_WORDS : D := .tup (WDc.map D.str)
def wrapD (d : D) : D := if isN d then .non else .tup [d]
def PKs (rec : PR) (L : List Nat) (i : Nat) (d : D) (k : Nat) : Prop :=
  (look L i = [41] ∧ d = .tup [] ∧ k = i) ∨ (look L i ≠ [41] ∧ ∃ ds, PSep rec L i ds k ∧ d = resD ds)
def PI (rec : PR) (w L : List Nat) (i : Nat) (d : D) (k : Nat) : Prop :=
  if w = w_long then pB L i = (d, k) else
  ∃ f, d = wrapD f ∧ (if w ∈ PLc then pL L i = (f, k) else if w = w_shape then ∃ ds, PSep (isP L) L i ds k ∧ f = resD ds
    else if w = w_tries then ∃ ws, POpt L i ws k ∧ f = .tup (ws.map D.str) else if w = w_no then rec i f k else PKs rec L i f k)
def PCof (rec : PR) (L : List Nat) (i : Nat) (d : D) (k : Nat) : Prop :=
  if tw SMc L i ∈ WDc ∧ look L (i + (tw SMc L i).length) = [40] then
    ∃ x j, PI rec (tw SMc L i) L (i + (tw SMc L i).length + 1) x j ∧
      (if isN x = true ∨ look L j ≠ [41] then d = .non ∧ k = j else ∃ xs, x = .tup xs ∧ xs.length ≤ 2 ∧ d = .tup (.str (tw SMc L i) :: xs) ∧ k = j + 1)
  else d = .non ∧ k = i + (tw SMc L i).length
def PC (L : List Nat) : Nat → PR
  | 0 => PCof (fun _ _ _ => False) L
  | n + 1 => PCof (PC L n) L
def spO (A : Ad) (rec : List Nat → PR) : DSp := fun ds M Q _ => ∃ a dx L i d k, ds = [.ref a] ∧ Rdg A M a dx L i ∧ rec L i d k ∧ Q d (mupd M a (rdO A dx L k))
abbrev Mono (rec : List Nat → PR) : Prop := ∀ L i d j, rec L i d j → i ≤ j
def sp_Reading_checks (A : Ad) (rec : List Nat → PR) : DSp := spO A fun L => PKs (rec L) L
def sp_Reading_inner (A : Ad) (rec : List Nat → PR) : DSp := fun ds M Q _ => ∃ a dx L i w d k, ds = [.ref a, .str w] ∧ Rdg A M a dx L i ∧ PI (rec L) w L i d k ∧ Q d (mupd M a (rdO A dx L k))
def t_Reading_checks (A : Ad) (rec : List Nat → PR) : DS := dSeq (dIfS (dTest (dOp eqD (dMeth A.cRd "look" (sp_Reading_look A) (dVar 0) (dNil)) (dC (.str [41])))) (dRet (dTup (dNil))) (dNext)) (dSeq (dSet 1 (dLst (dCons (dMeth A.cRd "one_check" (spO A rec) (dVar 0) (dNil)) (dNil)))) (dSeq (dWhile (dAnd (dTest (dOp isNotD (dOp ixD (dVar 1) (dNeg (dC (.int 1)))) (dC .non))) (dTest (dMeth A.cRd "skip" (sp_Reading_skip A) (dVar 0) (dCons (dC (.str [59])) (dNil))))) (dExpr (dMt "list" appendD (dVar 1) (dCons (dMeth A.cRd "one_check" (spO A rec) (dVar 0) (dNil)) (dNil))))) (dRet (dIfE (dTest (dOp isD (dOp ixD (dVar 1) (dNeg (dC (.int 1)))) (dC .non))) (dC .non) (dCB tupleD (dCons (dVar 1) (dNil)))))))
abbrev n_Reading_checks : List Str := ["self", "found"]
def t_Reading_inner (A : Ad) (rec : List Nat → PR) : DS := dSeq (dIfS (dTest (dOp eqD (dVar 1) (dC (.str [108, 111, 110, 103])))) (dRet (dMeth A.cRd "bounds" (sp_Reading_bounds A) (dVar 0) (dNil))) (dNext)) (dSeq (dIfS (dTest (dOp inD (dVar 1) (dC c_PLAIN))) (dSet 2 (dMeth A.cRd "letters" (sp_Reading_letters A) (dVar 0) (dNil))) (dIfS (dTest (dOp eqD (dVar 1) (dC (.str [115, 104, 97, 112, 101])))) (dSet 2 (dMeth A.cRd "parts" (sp_Reading_parts A) (dVar 0) (dNil))) (dIfS (dTest (dOp eqD (dVar 1) (dC (.str [116, 114, 105, 101, 115])))) (dSet 2 (dMeth A.cRd "options" (sp_Reading_options A) (dVar 0) (dNil))) (dIfS (dTest (dOp eqD (dVar 1) (dC (.str [110, 111])))) (dSet 2 (dMeth A.cRd "one_check" (spO A rec) (dVar 0) (dNil))) (dSet 2 (dMeth A.cRd "checks" (sp_Reading_checks A rec) (dVar 0) (dNil))))))) (dRet (dIfE (dTest (dOp isD (dVar 2) (dC .non))) (dC .non) (dTup (dCons (dVar 2) (dNil))))))
abbrev n_Reading_inner : List Str := ["self", "word", "found"]
def t_Reading_one_check (A : Ad) (rec : List Nat → PR) : DS := dSeq (dSet 1 (dMeth A.cRd "word" (sp_Reading_word A) (dVar 0) (dNil))) (dSeq (dIfS (dOr (dTest (dOp notInD (dVar 1) (dC c_WORDS))) (dNot (dTest (dMeth A.cRd "skip" (sp_Reading_skip A) (dVar 0) (dCons (dC (.str [40])) (dNil)))))) (dRet (dC .non)) (dNext)) (dSeq (dSet 2 (dMeth A.cRd "inner" (sp_Reading_inner A rec) (dVar 0) (dCons (dVar 1) (dNil)))) (dSeq (dIfS (dOr (dTest (dOp isD (dVar 2) (dC .non))) (dNot (dTest (dMeth A.cRd "skip" (sp_Reading_skip A) (dVar 0) (dCons (dC (.str [41])) (dNil)))))) (dRet (dC .non)) (dNext)) (dRet (dOp addD (dTup (dCons (dVar 1) (dNil))) (dVar 2))))))
abbrev n_Reading_one_check : List Str := ["self", "word", "found"]
theorem pure_Reading_checks {A : Ad} {rec : List Nat → PR} (mono : Mono rec) (ds M R EX) (h : sp_Reading_checks A rec ds M R EX) : t_Reading_checks A rec (fun C fs _ M' => WkX EX C fs M') (endsOf R) (startD n_Reading_checks ds) M := by
  obtain ⟨a, dx, L, i, d, k, rfl, hr, hk, hR⟩ := h
  unfold t_Reading_checks
  simp only [dVar, dC, dOp, dTest, dChain, dAnd, dOr, dNot, dAndV, dOrV, dNotV, dIfE, dNil, dCons, dTup, dLst, dNext, dSeq, dIfS, dRet, dRetN, dExpr, dBrk, dCnt, dSet, dNever, gN, gTp, gLs, gsNil, gsCons, dAsg, dCall, dRaise, dRaiseF, ixD, dSl, slD, dPart, dNoPart, dCB, lenD, minD, maxD, absD, intD, strD, tupleD, listD, dMt, dMt0, tyD, appendD, popD, joinD, splitD, countD, dIsi, tnD, isiT, gSb, setL, dFld, dFldSet, dMeth, dMake, dFldAug, dAug, dPar, dTru, dNeg, augAdd, intI, cmpI, startD, endsOf, List.map_cons, List.map_nil, List.length_cons, List.length_nil, List.replicate, List.getElem?_cons_zero, List.getElem?_cons_succ, List.cons_append, List.nil_append, List.set_cons_zero, List.set_cons_succ, Nat.reduceAdd, Nat.reduceSub]
  refine mlook hr ?_
  show (match decide (look L i = [41]) with | true => _ | false => _)
  rcases hk with ⟨q, rfl, rfl⟩ | ⟨q, ds, ⟨d, j, r, hd, ht, rfl⟩, rfl⟩
  · rw [decide_eq_true q]
    rw [mupd_self hr.1] at hR
    exact ⟨by decide, Wk.self hR⟩
  · rw [decide_eq_false q]
    refine mcall hr ⟨a, dx, L, i, d, j, rfl, hr, hd, ?_⟩
    refine ⟨by show 1 ≤ sizeLine; decide, fun p hp => ?_⟩
    obtain ⟨hne, hp2⟩ := gone (k := k) (o := .lst []) hp
    refine sep_loop (P := rec L) (m := "one_check") (sp := spO A rec) (ρ := [some (.ref a), some (.ref p)]) (k := k) (fun M i d j R EX hr hp hR => ⟨a, dx, L, i, d, j, rfl, hr, hp, hR⟩) (by decide +kernel) (mono L) hne hr.2 rfl rfl ht ?_
    exact ret_res hp2 hR
theorem wrap_ret {R : DQ} {f : D} {M : DM} (h : R (wrapD f) M) : match isN f with
    | true => Wk R .non M
    | false => [f].length ≤ sizeLine ∧ Wk R (.tup [f]) M := by
  unfold wrapD at h
  cases q : isN f with
  | true => rw [q] at h; exact Wk.self h
  | false => rw [q] at h; exact ⟨by show 1 ≤ sizeLine; decide, Wk.self h⟩
theorem pure_Reading_inner {A : Ad} {rec : List Nat → PR} (ds M R EX) (h : sp_Reading_inner A rec ds M R EX) : t_Reading_inner A rec (fun C fs _ M' => WkX EX C fs M') (endsOf R) (startD n_Reading_inner ds) M := by
  obtain ⟨a, dx, L, i, w, d, k, rfl, hr, hk, hR⟩ := h
  unfold t_Reading_inner
  simp only [dVar, dC, dOp, dTest, dChain, dAnd, dOr, dNot, dAndV, dOrV, dNotV, dIfE, dNil, dCons, dTup, dLst, dNext, dSeq, dIfS, dRet, dRetN, dExpr, dBrk, dCnt, dSet, dNever, gN, gTp, gLs, gsNil, gsCons, dAsg, dCall, dRaise, dRaiseF, ixD, dSl, slD, dPart, dNoPart, dCB, lenD, minD, maxD, absD, intD, strD, tupleD, listD, dMt, dMt0, tyD, appendD, popD, joinD, splitD, countD, dIsi, tnD, isiT, gSb, setL, dFld, dFldSet, dMeth, dMake, dFldAug, dAug, dPar, dTru, dNeg, augAdd, intI, cmpI, startD, endsOf, List.map_cons, List.map_nil, List.length_cons, List.length_nil, List.replicate, List.getElem?_cons_zero, List.getElem?_cons_succ, List.cons_append, List.nil_append, List.set_cons_zero, List.set_cons_succ, Nat.reduceAdd, Nat.reduceSub]
  show (match decide (w = w_long) with | true => _ | false => _)
  unfold PI at hk
  by_cases q1 : w = w_long
  · rw [decide_eq_true q1]
    rw [if_pos q1] at hk
    refine mcall hr ⟨a, dx, L, i, rfl, hr, ?_⟩
    rw [hk]
    exact Wk.self hR
  rw [decide_eq_false q1]
  rw [if_neg q1] at hk
  obtain ⟨f, rfl, hk⟩ := hk
  refine in_strs (ys := PLc) ?_
  by_cases q2 : w ∈ PLc
  · rw [decide_eq_true q2]
    rw [if_pos q2] at hk
    refine mcall hr (mlet hr ?_)
    rw [hk]
    exact wrap_ret hR
  rw [decide_eq_false q2]
  rw [if_neg q2] at hk
  show (match decide (w = w_shape) with | true => _ | false => _)
  by_cases q3 : w = w_shape
  · rw [decide_eq_true q3]
    rw [if_pos q3] at hk
    obtain ⟨ds, h1, rfl⟩ := hk
    exact mcall hr ⟨a, dx, L, i, ds, k, rfl, hr, h1, wrap_ret hR⟩
  rw [decide_eq_false q3]
  rw [if_neg q3] at hk
  show (match decide (w = w_tries) with | true => _ | false => _)
  by_cases q4 : w = w_tries
  · rw [decide_eq_true q4]
    rw [if_pos q4] at hk
    obtain ⟨ws, h1, rfl⟩ := hk
    exact mcall hr ⟨a, dx, L, i, ws, k, rfl, hr, h1, wrap_ret hR⟩
  rw [decide_eq_false q4]
  rw [if_neg q4] at hk
  show (match decide (w = w_no) with | true => _ | false => _)
  by_cases q5 : w = w_no
  · rw [decide_eq_true q5]
    rw [if_pos q5] at hk
    exact mcall hr ⟨a, dx, L, i, f, k, rfl, hr, hk, wrap_ret hR⟩
  · rw [decide_eq_false q5]
    rw [if_neg q5] at hk
    exact mcall hr ⟨a, dx, L, i, f, k, rfl, hr, hk, wrap_ret hR⟩
theorem pure_Reading_one_check {A : Ad} {rec : List Nat → PR} (ds M R EX) (h : spO A (fun L => PCof (rec L) L) ds M R EX) : t_Reading_one_check A rec (fun C fs _ M' => WkX EX C fs M') (endsOf R) (startD n_Reading_one_check ds) M := by
  obtain ⟨a, dx, L, i, d, k, rfl, hr, hk, hR⟩ := h
  unfold t_Reading_one_check
  simp only [dVar, dC, dOp, dTest, dChain, dAnd, dOr, dNot, dAndV, dOrV, dNotV, dIfE, dNil, dCons, dTup, dLst, dNext, dSeq, dIfS, dRet, dRetN, dExpr, dBrk, dCnt, dSet, dNever, gN, gTp, gLs, gsNil, gsCons, dAsg, dCall, dRaise, dRaiseF, ixD, dSl, slD, dPart, dNoPart, dCB, lenD, minD, maxD, absD, intD, strD, tupleD, listD, dMt, dMt0, tyD, appendD, popD, joinD, splitD, countD, dIsi, tnD, isiT, gSb, setL, dFld, dFldSet, dMeth, dMake, dFldAug, dAug, dPar, dTru, dNeg, augAdd, intI, cmpI, startD, endsOf, List.map_cons, List.map_nil, List.length_cons, List.length_nil, List.replicate, List.getElem?_cons_zero, List.getElem?_cons_succ, List.cons_append, List.nil_append, List.set_cons_zero, List.set_cons_succ, Nat.reduceAdd, Nat.reduceSub]
  refine mcall hr ⟨a, dx, L, i, rfl, hr, ?_⟩
  refine notIn_strs (ys := WDc) ?_
  unfold PCof at hk
  have h1 : Rdg A (mupd M a (rdO A dx L (i + (tw SMc L i).length))) a dx L (i + (tw SMc L i).length) := hr.upd
  by_cases q1 : tw SMc L i ∈ WDc
  · rw [decide_eq_true q1]
    refine mskip h1 ?_
    unfold sk skj
    rw [mupd_idem]
    by_cases q2 : look L (i + (tw SMc L i).length) = [40]
    · rw [decide_eq_true q2, if_pos q2]
      rw [if_pos ⟨q1, q2⟩] at hk
      obtain ⟨x, j, hx, hk⟩ := hk
      have h2 : Rdg A (mupd M a (rdO A dx L (i + (tw SMc L i).length + 1))) a dx L (i + (tw SMc L i).length + 1) := hr.upd
      refine mcall h2 ⟨a, dx, L, _, _, x, j, rfl, h2, hx, ?_⟩
      rw [mupd_idem]
      show (match isN x with | true => _ | false => _)
      cases q : isN x with
      | true =>
        rw [if_pos (.inl q)] at hk
        obtain ⟨rfl, rfl⟩ := hk
        exact Wk.self hR
      | false =>
        have h3 : Rdg A (mupd M a (rdO A dx L j)) a dx L j := hr.upd
        refine mskip h3 ?_
        unfold sk skj
        rw [mupd_idem]
        by_cases q3 : look L j = [41]
        · rw [decide_eq_true q3, if_pos q3]
          rw [if_neg (by rw [q]; intro z; rcases z with z | z; exact Bool.noConfusion z; exact z q3)] at hk
          obtain ⟨xs, rfl, hl, rfl, rfl⟩ := hk
          refine ⟨by show 1 ≤ sizeLine; decide, ?_, Wk.self hR⟩
          have z : sizeLine = 16777216 := sizeLine_eq
          rw [List.length_cons, List.length_nil]
          omega
        · rw [decide_eq_false q3, if_neg q3]
          rw [if_pos (.inr q3)] at hk
          obtain ⟨rfl, rfl⟩ := hk
          exact Wk.self hR
    · rw [decide_eq_false q2, if_neg q2]
      rw [if_neg (fun z => q2 z.2)] at hk
      obtain ⟨rfl, rfl⟩ := hk
      exact Wk.self hR
  · rw [decide_eq_false q1]
    rw [if_neg (fun z => q1 z.1)] at hk
    obtain ⟨rfl, rfl⟩ := hk
    exact Wk.self hR
end DL

set_option Elab.async false
set_option linter.all false
set_option maxRecDepth 100000
set_option maxHeartbeats 1000000
namespace DL
open PySem L2
inductive GD (M : DM) : D → Prop
  | non : GD M .non
  | bl (b : Bool) : GD M (.bl b)
  | int (i : Int) : GD M (.int i)
  | str (s : List Nat) : s.length ≤ 100000 → GD M (.str s)
  | tup {ds : List D} : (∀ d ∈ ds, GD M d) → GD M (.tup ds)
  | lst {a : Addr} {ds : List D} : M a = some (.lst ds) → GD M (.ref a)
theorem GD.mono {M M' : DM} (h : MSub M M') {d : D} (g : GD M d) : GD M' d := by
  induction g with
  | non => exact .non
  | bl b => exact .bl b
  | int i => exact .int i
  | str s h => exact .str s h
  | tup _ ih => exact .tup ih
  | lst e => exact .lst (h _ _ e)
def tnB : D → Tn
  | .non => .non | .bl _ => .bool | .int _ => .int | .str _ => .str | .tup _ => .tuple | .ref _ => .list
theorem tn_ok {M : DM} {d : D} (g : GD M d) : tnD M d = some (tnB d) := by
  cases g with
  | lst e => unfold tnD; simp only [e]; rfl
  | _ => rfl
def MX5 : Nat := 5
def c_MOST_PARTS : D := .int 5
def c_MOST_CHECKS : D := .int 4
def c_DEEPEST : D := .int 2
theorem all_lc {g : DG} {te : DE} {gd : DM → Prop} {D0 : Addr} {ρ : Env} {p : D → Bool} {xs : List D} {M : DM} {R : DQ} (hD : M D0 = none) (hz : xs.length < sizeLine) (hg : ∀ acc, gd (mupd M D0 (.lst acc)))
    (hf : ∀ x ∈ xs, ∀ acc R, R (.bl (p x)) (mupd M D0 (.lst acc)) → g x ρ (mupd M D0 (.lst acc)) fun ρ1 M1 => te noW ρ1 M1 R) (hm : ∀ x (ρ ρ' : Env) M (P Q : Env → DM → Prop), (∀ ρ1 M1, P ρ1 M1 → Q ρ1 M1) → g x ρ M P → g x ρ M Q) (k : R (.bl (xs.all p)) M) :
    lcF g dYes te gd D0 ρ (fun M2 => allD [.ref D0] M2 R) xs (mupd M D0 (.lst [])) := by
  refine lcF_pure (f := fun x => .bl (p x)) xs [] (by simpa using hz) hg (fun x hx acc R' h => hf x hx acc R' h) ?_ hm fun _ _ _ _ h k => h _ _ k
  refine ⟨xs.map p, M, ?_, msub_new hD, ?_⟩
  · rw [mupd_same, List.nil_append, List.map_map]; rfl
  · rw [List.all_map]; exact k
def okL : D → Bool
  | .str s => decide (1 ≤ s.length) && decide (s.length ≤ 9) && s.all fun c => decide (c ∈ SGc) && decide (cntL c s = 1)
  | _ => false
def sp_are_letters (_ : Ad) : DSp := fun ds M Q _ => ∃ d, ds = [d] ∧ GD M d ∧ Q (.bl (okL d)) M
def t_are_letters (A : Ad) : DS := dSeq (dIfS (dOr (dNot (dTest (dIsi Tn.str (dVar 0)))) (dNot (dTest (dChain leD leD (dC (.int 1)) (dCB lenD (dCons (dVar 0) (dNil))) (dC (.int 9)))))) (dRet (dC (.bl false))) (dNext)) (dRet (dCB allD (dCons (dLc (dIter (dVar 0)) (gN 1) (dYes) (dAndV (dOp inD (dVar 1) (dC c_SIGNS)) (dOp eqD (dMt "str" countD (dVar 0) (dCons (dVar 1) (dNil))) (dC (.int 1)))) [1]) (dNil))))
abbrev n_are_letters : List Str := ["value", "sign"]
theorem pure_are_letters {A : Ad} (ds M R EX) (h : sp_are_letters A ds M R EX) : t_are_letters A (fun C fs _ M' => WkX EX C fs M') (endsOf R) (startD n_are_letters ds) M := by
  obtain ⟨d, rfl, g, k⟩ := h
  unfold t_are_letters
  simp only [dVar, dC, dOp, dTest, dChain, dAnd, dOr, dNot, dAndV, dOrV, dNotV, dIfE, dNil, dCons, dTup, dLst, dNext, dSeq, dIfS, dRet, dRetN, dExpr, dBrk, dCnt, dSet, dNever, gN, gTp, gLs, gsNil, gsCons, dAsg, dCall, dRaise, dRaiseF, ixD, dSl, slD, dPart, dNoPart, dCB, lenD, minD, maxD, absD, intD, strD, tupleD, listD, dMt, dMt0, tyD, appendD, popD, joinD, splitD, countD, dIsi, gSb, setL, dFld, dFldSet, dMeth, dMake, dFldAug, dAug, dPar, dTru, dNeg, augAdd, intI, cmpI, startD, endsOf, List.map_cons, List.map_nil, List.length_cons, List.length_nil, List.replicate, List.getElem?_cons_zero, List.getElem?_cons_succ, List.cons_append, List.nil_append, List.set_cons_zero, List.set_cons_succ, Nat.reduceAdd, Nat.reduceSub]
  cases g with
  | str s hs =>
    have z : sizeLine = 16777216 := sizeLine_eq
    refine ⟨by omega, ?_⟩
    simp only [okL] at k
    by_cases q1 : 1 ≤ s.length
    · rw [decide_eq_true (show (1 : Int) ≤ (s.length : Int) by omega)]
      by_cases q2 : s.length ≤ 9
      · rw [decide_eq_true q1, decide_eq_true q2] at k
        show (match !decide ((s.length : Int) ≤ 9) with | true => _ | false => _)
        rw [decide_eq_true (show (s.length : Int) ≤ 9 by omega)]
        intro D0 hD
        refine all_lc (p := fun x => match x with | .str [c] => decide (c ∈ SGc) && decide (cntL c s = 1) | _ => false) hD (by rw [List.length_map]; omega) (fun _ => trivial) (fun x hx acc R' hR => ?_) (fun x ρ ρ' M P Q h k => h _ _ k) ?_
        · rw [List.mem_map] at hx
          obtain ⟨c, _, rfl⟩ := hx
          show (match (D.bl (decide (c ∈ SGc))) with | .bl true => _ | .bl false => _ | _ => False)
          by_cases q3 : c ∈ SGc
          · simp only [decide_eq_true q3, Bool.true_and] at hR
            rw [decide_eq_true q3]
            refine ⟨rfl, ?_⟩
            show R' (.bl (decide ((cntL c s : Int) = 1))) _
            rw [show decide ((cntL c s : Int) = 1) = decide (cntL c s = 1) from decide_eq_decide.mpr (by omega)]
            exact hR
          · simp only [decide_eq_false q3, Bool.false_and] at hR
            rw [decide_eq_false q3]
            exact hR
        · rw [List.all_map]
          exact Wk.self k
      · rw [decide_eq_false q2, Bool.and_false, Bool.false_and] at k
        show (match !decide ((s.length : Int) ≤ 9) with | true => _ | false => _)
        rw [decide_eq_false (show ¬ (s.length : Int) ≤ 9 by omega)]
        exact Wk.self k
    · rw [decide_eq_false (show ¬ (1 : Int) ≤ (s.length : Int) by omega)]
      rw [decide_eq_false q1, Bool.false_and, Bool.false_and] at k
      exact Wk.self k
  | lst e => rw [tn_ok (.lst e)]; exact Wk.self k
  | _ => exact Wk.self k
def okB (d : D) (a : Int) : Bool := match d with
  | .int i => decide (a ≤ i) && decide (i ≤ 9)
  | _ => false
def sp_is_bound (_ : Ad) : DSp := fun ds M Q _ => ∃ d a, ds = [d, .int a] ∧ GD M d ∧ Q (.bl (okB d a)) M
def t_is_bound (A : Ad) : DS := dRet (dAndV (dIsi Tn.int (dVar 0)) (dAndV (dNotV (dIsi Tn.bool (dVar 0))) (dChain leD leD (dVar 1) (dVar 0) (dC (.int 9)))))
abbrev n_is_bound : List Str := ["value", "least"]
theorem pure_is_bound {A : Ad} (ds M R EX) (h : sp_is_bound A ds M R EX) : t_is_bound A (fun C fs _ M' => WkX EX C fs M') (endsOf R) (startD n_is_bound ds) M := by
  obtain ⟨d, a, rfl, g, k⟩ := h
  unfold t_is_bound
  simp only [dVar, dC, dOp, dTest, dChain, dAnd, dOr, dNot, dAndV, dOrV, dNotV, dIfE, dNil, dCons, dTup, dLst, dNext, dSeq, dIfS, dRet, dRetN, dExpr, dBrk, dCnt, dSet, dNever, gN, gTp, gLs, gsNil, gsCons, dAsg, dCall, dRaise, dRaiseF, ixD, dSl, slD, dPart, dNoPart, dCB, lenD, minD, maxD, absD, intD, strD, tupleD, listD, dMt, dMt0, tyD, appendD, popD, joinD, splitD, countD, dIsi, gSb, setL, dFld, dFldSet, dMeth, dMake, dFldAug, dAug, dPar, dTru, dNeg, augAdd, intI, cmpI, startD, endsOf, List.map_cons, List.map_nil, List.length_cons, List.length_nil, List.replicate, List.getElem?_cons_zero, List.getElem?_cons_succ, List.cons_append, List.nil_append, List.set_cons_zero, List.set_cons_succ, Nat.reduceAdd, Nat.reduceSub]
  cases g with
  | int i =>
    simp only [okB] at k
    show (match D.bl (decide (a ≤ i)) with | .bl true => leD _ _ _ _ | .bl false => _ | _ => False)
    by_cases q1 : a ≤ i
    · rw [decide_eq_true q1] at k ⊢
      rw [Bool.true_and] at k
      exact Wk.self k
    · rw [decide_eq_false q1] at k ⊢
      exact Wk.self k
  | lst e => rw [tn_ok (.lst e)]; exact Wk.self k
  | _ => exact Wk.self k
def okBs (a b : D) : Bool := okB a 0 && (isN b || match a with | .int i => okB b i | _ => false)
def sp_are_bounds (_ : Ad) : DSp := fun ds M Q _ => ∃ a b, ds = [a, b] ∧ GD M a ∧ GD M b ∧ Q (.bl (okBs a b)) M
def t_are_bounds (A : Ad) : DS := dRet (dAndV (dCall (sp_is_bound A) (dCons (dVar 0) (dCons (dC (.int 0)) (dNil)))) (dOrV (dOp isD (dVar 1) (dC .non)) (dCall (sp_is_bound A) (dCons (dVar 1) (dCons (dVar 0) (dNil))))))
abbrev n_are_bounds : List Str := ["a", "b"]
theorem pure_are_bounds {A : Ad} (ds M R EX) (h : sp_are_bounds A ds M R EX) : t_are_bounds A (fun C fs _ M' => WkX EX C fs M') (endsOf R) (startD n_are_bounds ds) M := by
  obtain ⟨a, b, rfl, ga, gb, k⟩ := h
  unfold t_are_bounds
  simp only [dVar, dC, dOp, dTest, dChain, dAnd, dOr, dNot, dAndV, dOrV, dNotV, dIfE, dNil, dCons, dTup, dLst, dNext, dSeq, dIfS, dRet, dRetN, dExpr, dBrk, dCnt, dSet, dNever, gN, gTp, gLs, gsNil, gsCons, dAsg, dCall, dRaise, dRaiseF, ixD, dSl, slD, dPart, dNoPart, dCB, lenD, minD, maxD, absD, intD, strD, tupleD, listD, dMt, dMt0, tyD, appendD, popD, joinD, splitD, countD, dIsi, gSb, setL, dFld, dFldSet, dMeth, dMake, dFldAug, dAug, dPar, dTru, dNeg, augAdd, intI, cmpI, startD, endsOf, List.map_cons, List.map_nil, List.length_cons, List.length_nil, List.replicate, List.getElem?_cons_zero, List.getElem?_cons_succ, List.cons_append, List.nil_append, List.set_cons_zero, List.set_cons_succ, Nat.reduceAdd, Nat.reduceSub]
  refine ⟨_, _, rfl, ga, ?_⟩
  unfold okBs at k
  cases q1 : okB a 0 with
  | false => rw [q1] at k; exact Wk.self k
  | true =>
    rw [q1, Bool.true_and] at k
    show (match D.bl (isN b) with | .bl true => _ | .bl false => _ | _ => False)
    cases q2 : isN b with
    | true => rw [q2] at k; exact Wk.self k
    | false =>
      rw [q2, Bool.false_or] at k
      cases a with
      | int i => exact ⟨_, _, rfl, gb, Wk.self k⟩
      | _ => exact Bool.noConfusion (show false = true from q1)
def okP : D → Bool
  | .tup [l, a, b] => okL l && okBs a b
  | _ => false
def sp_is_part (_ : Ad) : DSp := fun ds M Q _ => ∃ d, ds = [d] ∧ GD M d ∧ Q (.bl (okP d)) M
def t_is_part (A : Ad) : DS := dRet (dAndV (dIsi Tn.tuple (dVar 0)) (dAndV (dOp eqD (dCB lenD (dCons (dVar 0) (dNil))) (dC (.int 3))) (dAndV (dCall (sp_are_letters A) (dCons (dOp ixD (dVar 0) (dC (.int 0))) (dNil))) (dCall (sp_are_bounds A) (dCons (dOp ixD (dVar 0) (dC (.int 1))) (dCons (dOp ixD (dVar 0) (dC (.int 2))) (dNil)))))))
abbrev n_is_part : List Str := ["value"]
theorem pure_is_part {A : Ad} (ds M R EX) (h : sp_is_part A ds M R EX) : t_is_part A (fun C fs _ M' => WkX EX C fs M') (endsOf R) (startD n_is_part ds) M := by
  obtain ⟨d, rfl, g, k⟩ := h
  unfold t_is_part
  simp only [dVar, dC, dOp, dTest, dChain, dAnd, dOr, dNot, dAndV, dOrV, dNotV, dIfE, dNil, dCons, dTup, dLst, dNext, dSeq, dIfS, dRet, dRetN, dExpr, dBrk, dCnt, dSet, dNever, gN, gTp, gLs, gsNil, gsCons, dAsg, dCall, dRaise, dRaiseF, ixD, dSl, slD, dPart, dNoPart, dCB, lenD, minD, maxD, absD, intD, strD, tupleD, listD, dMt, dMt0, tyD, appendD, popD, joinD, splitD, countD, dIsi, gSb, setL, dFld, dFldSet, dMeth, dMake, dFldAug, dAug, dPar, dTru, dNeg, augAdd, intI, cmpI, startD, endsOf, List.map_cons, List.map_nil, List.length_cons, List.length_nil, List.replicate, List.getElem?_cons_zero, List.getElem?_cons_succ, List.cons_append, List.nil_append, List.set_cons_zero, List.set_cons_succ, Nat.reduceAdd, Nat.reduceSub]
  cases g with
  | tup gs =>
    rename_i ds
    match ds, gs, k with
    | [l, a, b], gs, k =>
      have g1 : GD M l := gs _ (by simp)
      have g2 : GD M a := gs _ (by simp)
      have g3 : GD M b := gs _ (by simp)
      refine ⟨l, rfl, g1, ?_⟩
      simp only [okP] at k
      cases q : okL l with
      | false => rw [q] at k; exact Wk.self k
      | true => rw [q, Bool.true_and] at k; exact ⟨a, b, rfl, g2, g3, Wk.self k⟩
    | [], gs, k => exact Wk.self k
    | [_], gs, k => exact Wk.self k
    | [_, _], gs, k => exact Wk.self k
    | a :: b :: c :: d :: r, gs, k =>
      have e : decide (((a :: b :: c :: d :: r).length : Int) = 3) = false := decide_eq_false (by simp only [List.length_cons]; omega)
      simp only [tnD, isiT, eqD, eqS, e]
      exact Wk.self k
  | lst e => rw [tn_ok (.lst e)]; exact Wk.self k
  | _ => exact Wk.self k
def okPs : D → Bool
  | .tup ps => decide (1 ≤ ps.length) && decide (ps.length ≤ 5) && ps.all okP
  | _ => false
def sp_are_parts (_ : Ad) : DSp := fun ds M Q _ => ∃ d, ds = [d] ∧ GD M d ∧ Q (.bl (okPs d)) M
def t_are_parts (A : Ad) : DS := dRet (dAndV (dIsi Tn.tuple (dVar 0)) (dAndV (dChain leD leD (dC (.int 1)) (dCB lenD (dCons (dVar 0) (dNil))) (dC c_MOST_PARTS)) (dCB allD (dCons (dLc (dIter (dVar 0)) (gN 1) (dYes) (dCall (sp_is_part A) (dCons (dVar 1) (dNil))) [1]) (dNil)))))
abbrev n_are_parts : List Str := ["value", "part"]
theorem pure_are_parts {A : Ad} (ds M R EX) (h : sp_are_parts A ds M R EX) : t_are_parts A (fun C fs _ M' => WkX EX C fs M') (endsOf R) (startD n_are_parts ds) M := by
  obtain ⟨d, rfl, g, k⟩ := h
  unfold t_are_parts
  simp only [dVar, dC, dOp, dTest, dChain, dAnd, dOr, dNot, dAndV, dOrV, dNotV, dIfE, dNil, dCons, dTup, dLst, dNext, dSeq, dIfS, dRet, dRetN, dExpr, dBrk, dCnt, dSet, dNever, gN, gTp, gLs, gsNil, gsCons, dAsg, dCall, dRaise, dRaiseF, ixD, dSl, slD, dPart, dNoPart, dCB, lenD, minD, maxD, absD, intD, strD, tupleD, listD, dMt, dMt0, tyD, appendD, popD, joinD, splitD, countD, dIsi, gSb, setL, dFld, dFldSet, dMeth, dMake, dFldAug, dAug, dPar, dTru, dNeg, augAdd, intI, cmpI, startD, endsOf, List.map_cons, List.map_nil, List.length_cons, List.length_nil, List.replicate, List.getElem?_cons_zero, List.getElem?_cons_succ, List.cons_append, List.nil_append, List.set_cons_zero, List.set_cons_succ, Nat.reduceAdd, Nat.reduceSub]
  cases g with
  | tup gs =>
    rename_i ps
    simp only [okPs] at k
    show (match D.bl (decide ((1 : Int) ≤ (ps.length : Int))) with | .bl true => _ | .bl false => _ | _ => False)
    by_cases q1 : 1 ≤ ps.length
    · rw [decide_eq_true (show (1 : Int) ≤ (ps.length : Int) by omega)]
      show (match D.bl (decide ((ps.length : Int) ≤ 5)) with | .bl true => _ | .bl false => _ | _ => False)
      by_cases q2 : ps.length ≤ 5
      · rw [decide_eq_true q1, decide_eq_true q2] at k
        rw [decide_eq_true (show (ps.length : Int) ≤ 5 by omega)]
        intro D0 hD
        have z : sizeLine = 16777216 := sizeLine_eq
        refine all_lc (p := okP) hD (by omega) (fun _ => trivial) (fun x hx acc R' hR => ?_) (fun x ρ ρ' M P Q h k => h _ _ k) (Wk.self k)
        exact ⟨x, rfl, (gs x hx).mono (msub_new hD), hR⟩
      · rw [decide_eq_false q2, Bool.and_false, Bool.false_and] at k
        rw [decide_eq_false (show ¬ (ps.length : Int) ≤ 5 by omega)]
        exact Wk.self k
    · rw [decide_eq_false (show ¬ (1 : Int) ≤ (ps.length : Int) by omega)]
      rw [decide_eq_false q1, Bool.false_and, Bool.false_and] at k
      exact Wk.self k
  | lst e => rw [tn_ok (.lst e)]; exact Wk.self k
  | _ => exact Wk.self k
end DL

set_option Elab.async false
set_option linter.all false
set_option maxRecDepth 100000
set_option maxHeartbeats 1000000
namespace DL
open PySem L2
def o_none : List Nat := [110, 111, 110, 101]
def o_eight : List Nat := [101, 105, 103, 104, 116]
def o_rows : List Nat := [114, 111, 119, 115]
def OPc : List (List (List Nat)) := [[o_none, [101, 110, 100, 115]], [o_none, [109, 105, 110, 117, 115], [98, 111, 116, 104]], [o_none, [102, 114, 101, 101], o_eight], [o_none, [115, 105, 110, 103, 108, 101], [102, 114, 101, 101]],
  [o_none, [112, 97, 114, 116], [108, 111, 111, 115, 101], o_rows], [[112, 108, 97, 105, 110], [97, 108, 108]]]
def c_OPTIONS : D := .tup (OPc.map fun o => .tup (o.map D.str))
def okO (d : D) (o : List (List Nat)) : Bool := match d with
  | .str s => decide (s ∈ o)
  | _ => false
def bad1 : Nat → List D → List (List (List Nat)) → Option Nat
  | i, d :: ds, o :: os => if okO d o then bad1 (i + 1) ds os else some i
  | _, _, _ => none
def rf : D → Option Nat
  | .tup [a, b, c, d, e, f] => match bad1 0 [a, b, c, d, e, f] OPc with
    | some i => some i
    | none => match c, d, e with
      | .str c, .str d, .str e => if c = o_eight ∧ e ≠ o_none then some 2 else if e = o_rows ∧ d ≠ o_none then some 3 else none
      | _, _, _ => none
  | _ => some 6
def rfD (o : Option Nat) : D := match o with
  | none => .non
  | some i => .int (i : Nat)
def sp_reader_fault (_ : Ad) : DSp := fun ds M Q _ => ∃ d, ds = [d] ∧ GD M d ∧ Q (rfD (rf d)) M
def t_reader_fault (A : Ad) : DS := dSeq (dIfS (dOr (dNot (dTest (dIsi Tn.tuple (dVar 0)))) (dTest (dOp neD (dCB lenD (dCons (dVar 0) (dNil))) (dCB lenD (dCons (dC c_OPTIONS) (dNil)))))) (dRet (dCB lenD (dCons (dC c_OPTIONS) (dNil)))) (dNext)) (dSeq (dFor (dEnum (dCons (dVar 0) (dNil))) (gTp 2 (gsCons (gN 1) (gsCons (gN 2) (gsNil)))) (dIfS (dOr (dNot (dTest (dIsi Tn.str (dVar 2)))) (dTest (dOp notInD (dVar 2) (dOp ixD (dC c_OPTIONS) (dVar 1))))) (dRet (dVar 1)) (dNext))) (dSeq (dIfS (dAnd (dTest (dOp eqD (dOp ixD (dVar 0) (dC (.int 2))) (dC (.str [101, 105, 103, 104, 116])))) (dTest (dOp neD (dOp ixD (dVar 0) (dC (.int 4))) (dC (.str [110, 111, 110, 101]))))) (dRet (dC (.int 2))) (dNext)) (dSeq (dIfS (dAnd (dTest (dOp eqD (dOp ixD (dVar 0) (dC (.int 4))) (dC (.str [114, 111, 119, 115])))) (dTest (dOp neD (dOp ixD (dVar 0) (dC (.int 3))) (dC (.str [110, 111, 110, 101]))))) (dRet (dC (.int 3))) (dNext)) (dRet (dC .non)))))
abbrev n_reader_fault : List Str := ["value", "index", "option"]
def itemsFrom : Nat → List D → List D
  | _, [] => []
  | i, d :: ds => .tup [.int (i : Nat), d] :: itemsFrom (i + 1) ds
abbrev rfBody : DS := dIfS (dOr (dNot (dTest (dIsi Tn.str (dVar 2)))) (dTest (dOp notInD (dVar 2) (dOp ixD (dC c_OPTIONS) (dVar 1))))) (dRet (dVar 1)) (dNext)
theorem rf_loop {W : DW} {E : DEnds} {M : DM} {v : D} : ∀ (i : Nat) (ds : List D) (os : List (List (List Nat))) (x y : Option D), OPc.drop i = os → ds.length = os.length → (∀ d ∈ ds, GD M d) →
    (match bad1 i ds os with
      | some j => E.rt (.int (j : Nat)) M
      | none => ∀ x y, E.nx [some v, x, y] M) →
    dLoop (gTp 2 (gsCons (gN 1) (gsCons (gN 2) (gsNil)))) (rfBody W) anyM (itemsFrom i ds) E [some v, x, y] M := by
  intro i ds
  induction ds generalizing i with
  | nil => intro os x y _ _ _ h; exact ⟨trivial, h x y⟩
  | cons d ds ih =>
    intro os x y ho hl hg h
    cases os with
    | nil => cases hl
    | cons o os =>
      have ho2 : OPc.drop (i + 1) = os := by rw [← List.drop_drop, ho]; rfl
      have hat : atI (OPc.map fun o => D.tup (o.map D.str)) (i : Int) = some (.tup (o.map D.str)) := by
        have e : OPc[i]? = some o := by
          have := congrArg (fun l => l[0]?) ho
          simpa using this
        have hlt : i < OPc.length := (List.getElem?_eq_some_iff.mp e).1
        unfold atI ixN
        rw [if_pos (by omega), if_pos (by rw [List.length_map]; omega)]
        simp [e]
      refine ⟨trivial, ?_⟩
      have gd := hg d (by simp)
      simp only [dVar, dC, dOp, dTest, dChain, dAnd, dOr, dNot, dAndV, dOrV, dNotV, dIfE, dNil, dCons, dTup, dLst, dNext, dSeq, dIfS, dRet, dRetN, dExpr, dBrk, dCnt, dSet, dNever, gN, gTp, gLs, gsNil, gsCons, dAsg, dCall, dRaise, dRaiseF, ixD, dSl, slD, dPart, dNoPart, dCB, lenD, minD, maxD, absD, intD, strD, tupleD, listD, dMt, dMt0, tyD, appendD, popD, joinD, splitD, countD, dIsi, gSb, setL, dFld, dFldSet, dMeth, dMake, dFldAug, dAug, dPar, dTru, dNeg, augAdd, intI, cmpI, startD, endsOf, List.map_cons, List.map_nil, List.length_cons, List.length_nil, List.replicate, List.getElem?_cons_zero, List.getElem?_cons_succ, List.cons_append, List.nil_append, List.set_cons_zero, List.set_cons_succ, Nat.reduceAdd, Nat.reduceSub]
      refine ⟨trivial, ?_⟩
      rw [tn_ok gd]
      simp only [bad1] at h
      cases d with
      | str s =>
        show (match atI (OPc.map fun o => D.tup (o.map D.str)) (i : Int) with | some d => _ | none => False)
        rw [hat]
        refine notIn_strs ?_
        by_cases q : s ∈ o
        · rw [if_pos (show okO (.str s) o = true from decide_eq_true q)] at h
          rw [decide_eq_true q]
          exact ih (i + 1) os _ _ ho2 (by simpa using hl) (fun d hd => hg d (by simp [hd])) h
        · rw [if_neg (show ¬ okO (.str s) o = true from fun z => q (of_decide_eq_true z))] at h
          rw [decide_eq_false q]
          exact h
      | _ => exact h
theorem bad1_none : ∀ (i : Nat) (ds : List D) (os : List (List (List Nat))), bad1 i ds os = none → ds.length = os.length → ∃ ss : List (List Nat), ds = ss.map D.str ∧ ss.length = os.length
  | _, [], [], _, _ => ⟨[], rfl, rfl⟩
  | _, [], _ :: _, _, h => by cases h
  | _, _ :: _, [], _, h => by cases h
  | i, d :: ds, o :: os, h, hl => by
    simp only [bad1] at h
    cases q : okO d o with
    | false => rw [q] at h; cases h
    | true =>
      rw [q] at h
      obtain ⟨ss, rfl, e⟩ := bad1_none (i + 1) ds os h (by simpa using hl)
      cases d with
      | str s => exact ⟨s :: ss, rfl, by simp [e]⟩
      | _ => exact Bool.noConfusion (show false = true from q)
theorem pure_reader_fault {A : Ad} (ds M R EX) (h : sp_reader_fault A ds M R EX) : t_reader_fault A (fun C fs _ M' => WkX EX C fs M') (endsOf R) (startD n_reader_fault ds) M := by
  obtain ⟨d, rfl, g, k⟩ := h
  unfold t_reader_fault
  simp only [dVar, dC, dOp, dTest, dChain, dAnd, dOr, dNot, dAndV, dOrV, dNotV, dIfE, dNil, dCons, dTup, dLst, dNext, dSeq, dIfS, dRet, dRetN, dExpr, dBrk, dCnt, dSet, dNever, gN, gTp, gLs, gsNil, gsCons, dAsg, dCall, dRaise, dRaiseF, ixD, dSl, slD, dPart, dNoPart, dCB, lenD, minD, maxD, absD, intD, strD, tupleD, listD, dMt, dMt0, tyD, appendD, popD, joinD, splitD, countD, dIsi, gSb, setL, dFld, dFldSet, dMeth, dMake, dFldAug, dAug, dPar, dTru, dNeg, augAdd, intI, cmpI, startD, endsOf, List.map_cons, List.map_nil, List.length_cons, List.length_nil, List.replicate, List.getElem?_cons_zero, List.getElem?_cons_succ, List.cons_append, List.nil_append, List.set_cons_zero, List.set_cons_succ, Nat.reduceAdd, Nat.reduceSub]
  cases g with
  | tup gs =>
    rename_i ds
    match ds, gs, k with
    | [a, b, c, d, e, f], gs, k =>
      refine rf_loop (v := .tup [a, b, c, d, e, f]) 0 [a, b, c, d, e, f] OPc none none rfl rfl gs ?_
      simp only [rf] at k
      cases q : bad1 0 [a, b, c, d, e, f] OPc with
      | some j => rw [q] at k; exact Wk.self k
      | none =>
        rw [q] at k
        intro x y
        obtain ⟨ss, e1, e2⟩ := bad1_none _ _ _ q rfl
        match ss, e1, e2 with
        | [a', b', c', d', e', f'], e1, _ =>
          simp only [List.map_cons, List.map_nil, List.cons.injEq, and_true] at e1
          obtain ⟨rfl, rfl, rfl, rfl, rfl, rfl⟩ := e1
          simp only at k
          show (match decide (c' = o_eight) with | true => _ | false => _)
          by_cases q1 : c' = o_eight
          · rw [decide_eq_true q1]
            show (match !decide (e' = o_none) with | true => _ | false => _)
            by_cases q2 : e' = o_none
            · rw [decide_eq_true q2]
              rw [if_neg (fun z => z.2 q2), if_neg (fun z => by rw [q2] at z; exact absurd z.1 (by decide))] at k
              subst q2
              exact Wk.self k
            · rw [decide_eq_false q2]
              rw [if_pos ⟨q1, q2⟩] at k
              exact Wk.self k
          · rw [decide_eq_false q1]
            rw [if_neg (fun z => q1 z.1)] at k
            show (match decide (e' = o_rows) with | true => _ | false => _)
            by_cases q2 : e' = o_rows
            · rw [decide_eq_true q2]
              show (match !decide (d' = o_none) with | true => _ | false => _)
              by_cases q3 : d' = o_none
              · rw [decide_eq_true q3]
                rw [if_neg (fun z => z.2 q3)] at k
                exact Wk.self k
              · rw [decide_eq_false q3]
                rw [if_pos ⟨q2, q3⟩] at k
                exact Wk.self k
            · rw [decide_eq_false q2]
              rw [if_neg (fun z => q2 z.1)] at k
              exact Wk.self k
    | [], gs, k => exact Wk.self k
    | [_], gs, k => exact Wk.self k
    | [_, _], gs, k => exact Wk.self k
    | [_, _, _], gs, k => exact Wk.self k
    | [_, _, _, _], gs, k => exact Wk.self k
    | [_, _, _, _, _], gs, k => exact Wk.self k
    | a :: b :: c :: d :: e :: f :: x :: r, gs, k =>
      have e : decide (((a :: b :: c :: d :: e :: f :: x :: r).length : Int) = ((OPc.map fun o => D.tup (o.map D.str)).length : Nat)) = false := decide_eq_false (by simp only [List.length_cons, List.length_map]; rw [show OPc.length = 6 from rfl]; omega)
      simp only [tnD, isiT, neD, eqS, c_OPTIONS, e]
      exact Wk.self k
  | lst e => rw [tn_ok (.lst e)]; exact Wk.self k
  | _ => exact Wk.self k
end DL

set_option Elab.async false
set_option linter.all false
set_option maxRecDepth 100000
set_option maxHeartbeats 1000000
namespace DL
open PySem L2
def sp_check_reader (A : Ad) : DSp := fun ds M Q EX => ∃ d, ds = [d] ∧ GD M d ∧ (rf d = none → Q .non M) ∧ ∀ i, rf d = some i → ∀ dx, M dx = none → EX A.cBR [.ref dx] (mupd M dx (.xd "index" (.int (i : Nat))))
def t_check_reader (A : Ad) : DS := dSeq (dSet 1 (dCall (sp_reader_fault A) (dCons (dVar 0) (dNil)))) (dIfS (dTest (dOp isNotD (dVar 1) (dC .non))) (dRaiseF A.cBR "index" (dVar 1)) (dNext))
abbrev n_check_reader : List Str := ["reader", "index"]
theorem pure_check_reader {A : Ad} (ds M R EX) (h : sp_check_reader A ds M R EX) : t_check_reader A (fun C fs _ M' => WkX EX C fs M') (endsOf R) (startD n_check_reader ds) M := by
  obtain ⟨d, rfl, g, k, kx⟩ := h
  unfold t_check_reader
  simp only [dVar, dC, dOp, dTest, dChain, dAnd, dOr, dNot, dAndV, dOrV, dNotV, dIfE, dNil, dCons, dTup, dLst, dNext, dSeq, dIfS, dRet, dRetN, dExpr, dBrk, dCnt, dSet, dNever, gN, gTp, gLs, gsNil, gsCons, dAsg, dCall, dRaise, dRaiseF, ixD, dSl, slD, dPart, dNoPart, dCB, lenD, minD, maxD, absD, intD, strD, tupleD, listD, dMt, dMt0, tyD, appendD, popD, joinD, splitD, countD, dIsi, gSb, setL, dFld, dFldSet, dMeth, dMake, dFldAug, dAug, dPar, dTru, dNeg, augAdd, intI, cmpI, startD, endsOf, List.map_cons, List.map_nil, List.length_cons, List.length_nil, List.replicate, List.getElem?_cons_zero, List.getElem?_cons_succ, List.cons_append, List.nil_append, List.set_cons_zero, List.set_cons_succ, Nat.reduceAdd, Nat.reduceSub]
  refine ⟨d, rfl, g, ?_⟩
  cases q : rf d with
  | none => exact Wk.self (k q)
  | some i => exact fun dx hdx => WkX.self (kx i q dx hdx)
def okC0 (rec : D → Bool) (z : Bool) : D → Bool
  | .tup (.str w :: x :: r) => if w = w_long then (match r with | [b] => okBs x b | _ => false) else if r ≠ [] then false else if w ∈ PLc then okL x else if w = w_shape then okPs x else if w = w_tries then (rf x).isNone
    else if z = true then false else if w = w_no then rec x else match x with
      | .tup cs => decide (w ∈ [w_all, w_some]) && (decide (cs.length ≤ 4) && cs.all rec)
      | _ => false
  | _ => false
theorem okC0_one (rec : D → Bool) (z : Bool) (v : D) : okC0 rec z (.tup [v]) = false := by cases v <;> rfl
def okC : Nat → D → Bool
  | 0 => okC0 (fun _ => false) true
  | n + 1 => okC0 (okC n) false
def recC : Nat → D → Bool
  | 0 => fun _ => false
  | m + 1 => okC m
theorem okC_eq (n : Nat) (d : D) : okC n d = okC0 (recC n) (decide (n = 0)) d := by cases n <;> rfl
def sp_cw (n : Nat) : DSp := fun ds M Q _ => ∃ d, ds = [d, .int (n : Nat)] ∧ GD M d ∧ Q (.bl (okC n d)) M
def t_is_check_within (A : Ad) (spR : DSp) : DS := dSeq (dIfS (dOr (dNot (dTest (dIsi Tn.tuple (dVar 0)))) (dOr (dTest (dOp ltD (dCB lenD (dCons (dVar 0) (dNil))) (dC (.int 2)))) (dNot (dTest (dIsi Tn.str (dOp ixD (dVar 0) (dC (.int 0)))))))) (dRet (dC (.bl false))) (dNext)) (dSeq (dSet 2 (dOp ixD (dVar 0) (dC (.int 0)))) (dSeq (dIfS (dTest (dOp eqD (dVar 2) (dC (.str [108, 111, 110, 103])))) (dRet (dAndV (dOp eqD (dCB lenD (dCons (dVar 0) (dNil))) (dC (.int 3))) (dCall (sp_are_bounds A) (dCons (dOp ixD (dVar 0) (dC (.int 1))) (dCons (dOp ixD (dVar 0) (dC (.int 2))) (dNil)))))) (dNext)) (dSeq (dIfS (dTest (dOp neD (dCB lenD (dCons (dVar 0) (dNil))) (dC (.int 2)))) (dRet (dC (.bl false))) (dNext)) (dSeq (dIfS (dTest (dOp inD (dVar 2) (dC c_PLAIN))) (dRet (dCall (sp_are_letters A) (dCons (dOp ixD (dVar 0) (dC (.int 1))) (dNil)))) (dNext)) (dSeq (dIfS (dTest (dOp eqD (dVar 2) (dC (.str [115, 104, 97, 112, 101])))) (dRet (dCall (sp_are_parts A) (dCons (dOp ixD (dVar 0) (dC (.int 1))) (dNil)))) (dNext)) (dSeq (dIfS (dTest (dOp eqD (dVar 2) (dC (.str [116, 114, 105, 101, 115])))) (dRet (dOp isD (dCall (sp_reader_fault A) (dCons (dOp ixD (dVar 0) (dC (.int 1))) (dNil))) (dC .non))) (dNext)) (dSeq (dIfS (dTest (dOp eqD (dVar 1) (dC (.int 0)))) (dRet (dC (.bl false))) (dNext)) (dSeq (dIfS (dTest (dOp eqD (dVar 2) (dC (.str [110, 111])))) (dRet (dCall (spR) (dCons (dOp ixD (dVar 0) (dC (.int 1))) (dCons (dOp subD (dVar 1) (dC (.int 1))) (dNil))))) (dNext)) (dSeq (dIfS (dOr (dTest (dOp notInD (dVar 2) (dTup (dCons (dC (.str [97, 108, 108])) (dCons (dC (.str [115, 111, 109, 101])) (dNil)))))) (dOr (dNot (dTest (dIsi Tn.tuple (dOp ixD (dVar 0) (dC (.int 1)))))) (dTest (dOp gtD (dCB lenD (dCons (dOp ixD (dVar 0) (dC (.int 1))) (dNil))) (dC c_MOST_CHECKS))))) (dRet (dC (.bl false))) (dNext)) (dRet (dCB allD (dCons (dLc (dIter (dOp ixD (dVar 0) (dC (.int 1)))) (gN 3) (dYes) (dCall (spR) (dCons (dVar 3) (dCons (dOp subD (dVar 1) (dC (.int 1))) (dNil)))) [3]) (dNil)))))))))))))
abbrev n_is_check_within : List Str := ["value", "left", "word", "one"]
theorem pure_cw {A : Ad} {n : Nat} {spR : DSp} (hR : ∀ m, n = m + 1 → spR = sp_cw m) (ds M R EX) (h : sp_cw n ds M R EX) : t_is_check_within A spR (fun C fs _ M' => WkX EX C fs M') (endsOf R) (startD n_is_check_within ds) M := by
  obtain ⟨d, rfl, g, k⟩ := h
  rw [okC_eq] at k
  unfold t_is_check_within
  simp only [dVar, dC, dOp, dTest, dChain, dAnd, dOr, dNot, dAndV, dOrV, dNotV, dIfE, dNil, dCons, dTup, dLst, dNext, dSeq, dIfS, dRet, dRetN, dExpr, dBrk, dCnt, dSet, dNever, gN, gTp, gLs, gsNil, gsCons, dAsg, dCall, dRaise, dRaiseF, ixD, dSl, slD, dPart, dNoPart, dCB, lenD, minD, maxD, absD, intD, strD, tupleD, listD, dMt, dMt0, tyD, appendD, popD, joinD, splitD, countD, dIsi, gSb, setL, dFld, dFldSet, dMeth, dMake, dFldAug, dAug, dPar, dTru, dNeg, augAdd, intI, cmpI, startD, endsOf, List.map_cons, List.map_nil, List.length_cons, List.length_nil, List.replicate, List.getElem?_cons_zero, List.getElem?_cons_succ, List.cons_append, List.nil_append, List.set_cons_zero, List.set_cons_succ, Nat.reduceAdd, Nat.reduceSub]
  cases g with
  | tup gs =>
    rename_i ds
    match ds, gs, k with
    | [], gs, k => exact Wk.self k
    | [v], gs, k => rw [okC0_one] at k; exact Wk.self k
    | v :: x :: r, gs, k =>
      have gv : GD M v := gs _ (by simp)
      have gx : GD M x := gs _ (by simp)
      have hl : ((v :: x :: r).length : Int) = (r.length : Int) + 2 := by simp only [List.length_cons]; omega
      have e1 : decide (((v :: x :: r).length : Int) < 2) = false := decide_eq_false (by omega)
      have a0 : atI (v :: x :: r) 0 = some v := by unfold atI ixN; rw [if_pos (by omega), if_pos (by omega)]; rfl
      have a1 : atI (v :: x :: r) 1 = some x := by unfold atI ixN; rw [if_pos (by omega), if_pos (by omega)]; rfl
      simp only [e1, a0, a1, tn_ok gv]
      cases v with
      | str w =>
        show (match decide (w = w_long) with | true => _ | false => _)
        simp only [okC0] at k
        by_cases q1 : w = w_long
        · rw [decide_eq_true q1]
          rw [if_pos q1] at k
          match r, gs, k, hl with
          | [], gs, k, hl => exact Wk.self k
          | [b], gs, k, hl => exact ⟨x, b, rfl, gx, gs _ (by simp), Wk.self k⟩
          | b :: c :: r, gs, k, hl =>
            have e : decide (((D.str w :: x :: b :: c :: r).length : Int) = 3) = false := decide_eq_false (by simp only [List.length_cons]; omega)
            simp only [eqD, eqS, e]
            exact Wk.self k
        rw [decide_eq_false q1]
        rw [if_neg q1] at k
        match r, gs, k, hl with
        | b :: r, gs, k, hl =>
          have e : decide (((D.str w :: x :: b :: r).length : Int) = 2) = false := decide_eq_false (by simp only [List.length_cons]; omega)
          simp only [neD, eqS, e]
          exact Wk.self k
        | [], gs, k, hl =>
          rw [if_neg (by simp)] at k
          have e : decide ((([D.str w, x] : List D).length : Int) = 2) = true := rfl
          simp only [neD, eqS, e, Bool.not_true]
          refine in_strs (ys := PLc) ?_
          by_cases q2 : w ∈ PLc
          · rw [decide_eq_true q2]
            rw [if_pos q2] at k
            exact ⟨x, rfl, gx, Wk.self k⟩
          rw [decide_eq_false q2]
          rw [if_neg q2] at k
          show (match decide (w = w_shape) with | true => _ | false => _)
          by_cases q3 : w = w_shape
          · rw [decide_eq_true q3]
            rw [if_pos q3] at k
            exact ⟨x, rfl, gx, Wk.self k⟩
          rw [decide_eq_false q3]
          rw [if_neg q3] at k
          show (match decide (w = w_tries) with | true => _ | false => _)
          by_cases q4 : w = w_tries
          · rw [decide_eq_true q4]
            rw [if_pos q4] at k
            refine ⟨x, rfl, gx, ?_⟩
            cases q : rf x with
            | none => rw [q] at k; exact Wk.self k
            | some i => rw [q] at k; exact Wk.self k
          rw [decide_eq_false q4]
          rw [if_neg q4] at k
          cases n with
          | zero => exact Wk.self k
          | succ m =>
            have en : decide (((m + 1 : Nat) : Int) = 0) = false := decide_eq_false (by omega)
            have es : ((m + 1 : Nat) : Int) - 1 = (m : Int) := by omega
            simp only [eqD, eqS, en]
            rw [if_neg (by simp)] at k
            show (match decide (w = w_no) with | true => _ | false => _)
            by_cases q5 : w = w_no
            · rw [decide_eq_true q5]
              rw [if_pos q5] at k
              rw [hR m rfl]
              exact ⟨trivial, x, by rw [es], gx, Wk.self k⟩
            rw [decide_eq_false q5]
            rw [if_neg q5] at k
            refine ⟨by show 2 ≤ sizeLine; decide, notIn_strs (ys := [w_all, w_some]) ?_⟩
            by_cases q6 : w ∈ [w_all, w_some]
            · rw [decide_eq_true q6]
              cases gx with
              | @tup cs gc =>
                simp only [decide_eq_true q6, Bool.true_and] at k
                show (match decide ((cs.length : Int) > 4) with | true => _ | false => _)
                by_cases q7 : cs.length ≤ 4
                · rw [decide_eq_true q7, Bool.true_and] at k
                  rw [decide_eq_false (show ¬ (cs.length : Int) > 4 by omega)]
                  intro D0 hD
                  have z : sizeLine = 16777216 := sizeLine_eq
                  refine all_lc (p := okC m) hD (by omega) (fun _ => trivial) (fun x hx acc R' hR' => ?_) (fun x ρ ρ' M P Q h k => h _ _ k) (Wk.self k)
                  refine ⟨trivial, ?_⟩
                  show spR [x, .int (((m + 1 : Nat) : Int) - 1)] _ _ _
                  rw [hR m rfl, es]
                  exact ⟨x, rfl, (gc x hx).mono (msub_new hD), hR'⟩
                · rw [decide_eq_false q7, Bool.false_and] at k
                  rw [decide_eq_true (show (cs.length : Int) > 4 by omega)]
                  exact Wk.self k
              | lst e9 => rw [tn_ok (.lst e9)]; exact Wk.self k
              | _ => exact Wk.self k
            · rw [decide_eq_false q6]
              rw [decide_eq_false q6] at k
              cases x <;> exact Wk.self k
      | _ => exact Wk.self k
  | lst e => rw [tn_ok (.lst e)]; exact Wk.self k
  | _ => exact Wk.self k
def sp_is_check (_ : Ad) : DSp := fun ds M Q _ => ∃ d, ds = [d] ∧ GD M d ∧ Q (.bl (okC 2 d)) M
def t_is_check (A : Ad) : DS := dRet (dCall (sp_cw 2) (dCons (dVar 0) (dCons (dC c_DEEPEST) (dNil))))
abbrev n_is_check : List Str := ["value"]
theorem pure_is_check {A : Ad} (ds M R EX) (h : sp_is_check A ds M R EX) : t_is_check A (fun C fs _ M' => WkX EX C fs M') (endsOf R) (startD n_is_check ds) M := by
  obtain ⟨d, rfl, g, k⟩ := h
  exact ⟨d, rfl, g, Wk.self k⟩
def prO (A : Ad) (dx : Addr) (c r : D) : MO := .ins A.cPr dx ["check", "reader"] [c, r]
def sp_Program_init (A : Ad) : DSp := fun ds M Q EX => ∃ a dx c r, ds = [.ref a, c, r] ∧ M a = some (.ins A.cPr dx [] []) ∧ GD M c ∧ GD M r ∧ (okC 2 c = false → EX A.cBC [] M) ∧
  (okC 2 c = true → (rf r = none → Q .non (mupd M a (prO A dx c r))) ∧ ∀ i, rf r = some i → ∀ dx, M dx = none → EX A.cBR [.ref dx] (mupd M dx (.xd "index" (.int (i : Nat)))))
def t_Program_init (A : Ad) : DS := dSeq (dIfS (dNot (dTest (dCall (sp_is_check A) (dCons (dVar 1) (dNil))))) (dRaise A.cBC) (dNext)) (dSeq (dExpr (dCall (sp_check_reader A) (dCons (dVar 2) (dNil)))) (dSeq (dFldSet A.cPr "check" (dVar 0) (dVar 1)) (dFldSet A.cPr "reader" (dVar 0) (dVar 2))))
abbrev n_Program_init : List Str := ["self", "check", "reader"]
theorem pure_Program_init {A : Ad} (ds M R EX) (h : sp_Program_init A ds M R EX) : t_Program_init A (fun C fs _ M' => WkX EX C fs M') (endsOf R) (startD n_Program_init ds) M := by
  obtain ⟨a, dx, c, r, rfl, e, gc, gr, k1, k2⟩ := h
  unfold t_Program_init
  simp only [dVar, dC, dOp, dTest, dChain, dAnd, dOr, dNot, dAndV, dOrV, dNotV, dIfE, dNil, dCons, dTup, dLst, dNext, dSeq, dIfS, dRet, dRetN, dExpr, dBrk, dCnt, dSet, dNever, gN, gTp, gLs, gsNil, gsCons, dAsg, dCall, dRaise, dRaiseF, ixD, dSl, slD, dPart, dNoPart, dCB, lenD, minD, maxD, absD, intD, strD, tupleD, listD, dMt, dMt0, tyD, appendD, popD, joinD, splitD, countD, dIsi, gSb, setL, dFld, dFldSet, dMeth, dMake, dFldAug, dAug, dPar, dTru, dNeg, augAdd, intI, cmpI, startD, endsOf, List.map_cons, List.map_nil, List.length_cons, List.length_nil, List.replicate, List.getElem?_cons_zero, List.getElem?_cons_succ, List.cons_append, List.nil_append, List.set_cons_zero, List.set_cons_succ, Nat.reduceAdd, Nat.reduceSub]
  refine ⟨c, rfl, gc, ?_⟩
  cases q : okC 2 c with
  | false => exact WkX.self (k1 q)
  | true =>
    obtain ⟨k2, k3⟩ := k2 q
    refine ⟨r, rfl, gr, fun q2 => ?_, fun i q2 dx2 hdx => WkX.self (k3 i q2 dx2 hdx)⟩
    refine ⟨a, dx, [], [], rfl, e, (by show 0 < 1000; decide), .inr ⟨(by simp), a, dx, _, _, rfl, mupd_same, (by show 1 < 1000; decide), .inr ⟨(by decide +kernel), Wk.self ?_⟩⟩⟩
    rw [mupd_idem]
    exact k2 q2
end DL

set_option Elab.async false
set_option linter.all false
set_option maxRecDepth 100000
set_option maxHeartbeats 1000000
namespace DL
open PySem L2
def c_MOST_DEEP : D := .int 8
def dstep (c : Nat) : Int := if [c] = [40] then 1 else if [c] = [41] then -1 else 0
def dpv : Int → Int → List Nat → Int
  | f, _, [] => f
  | f, d, c :: r => dpv (if d + dstep c > f then d + dstep c else f) (d + dstep c) r
def sp_depth (_ : Ad) : DSp := fun ds M Q _ => ∃ L, ds = [.str L] ∧ Q (.int (dpv 0 0 L)) M
def t_depth (A : Ad) : DS := dSeq (dAsg (dTup (dCons (dC (.int 0)) (dCons (dC (.int 0)) (dNil)))) (gTp 2 (gsCons (gN 1) (gsCons (gN 2) (gsNil))))) (dSeq (dFor (dIter (dVar 0)) (gN 3) (dSeq (dAug 2 augAdd (dDep [40] [41] 1 (-1) 0 (dVar 3))) (dSet 1 (dCB maxD (dCons (dVar 1) (dCons (dVar 2) (dNil))))))) (dRet (dVar 1)))
abbrev n_depth : List Str := ["line", "found", "deep", "sign"]
theorem dp_loop {W : DW} {E : DEnds} {M : DM} {v : D} : ∀ (L : List Nat) (f d : Int) (x : Option D) (M' : DM), MSub M M' → (∀ M2 x y, MSub M M2 → E.nx [some v, some (.int (dpv f d L)), some (.int y), x] M2) →
    dLoop (gN 3) (dSeq (dAug 2 augAdd (dDep [40] [41] 1 (-1) 0 (dVar 3))) (dSet 1 (dCB maxD (dCons (dVar 1) (dCons (dVar 2) (dNil))))) W) anyM (L.map fun c => .str [c]) E [some v, some (.int f), some (.int d), x] M'
  | [], f, d, x, M', h, k => ⟨trivial, k M' x d h⟩
  | c :: r, f, d, x, M', h, k => by
    refine ⟨trivial, ?_⟩
    simp only [dVar, dC, dOp, dTest, dChain, dAnd, dOr, dNot, dAndV, dOrV, dNotV, dIfE, dNil, dCons, dTup, dLst, dNext, dSeq, dIfS, dRet, dRetN, dExpr, dBrk, dCnt, dSet, dNever, gN, gTp, gLs, gsNil, gsCons, dAsg, dCall, dRaise, dRaiseF, ixD, dSl, slD, dPart, dNoPart, dCB, lenD, minD, maxD, absD, intD, strD, tupleD, listD, dMt, dMt0, tyD, appendD, popD, splitD, countD, dIsi, gSb, setL, dFld, dFldSet, dMeth, dMake, dFldAug, dAug, dPar, dTru, dNeg, augAdd, dDep, dIsC, intI, cmpI, startD, endsOf, List.map_cons, List.map_nil, List.length_cons, List.length_nil, List.replicate, List.getElem?_cons_zero, List.getElem?_cons_succ, List.cons_append, List.nil_append, List.set_cons_zero, List.set_cons_succ, Nat.reduceAdd, Nat.reduceSub]
    intro p hp
    refine ⟨mupd_same, ?_⟩
    exact dp_loop r _ _ _ _ (fun b o e => msub_new hp _ _ (h b o e)) fun M2 x y hM => k M2 x y hM
theorem pure_depth {A : Ad} (ds M R EX) (h : sp_depth A ds M R EX) : t_depth A (fun C fs _ M' => WkX EX C fs M') (endsOf R) (startD n_depth ds) M := by
  obtain ⟨L, rfl, k⟩ := h
  unfold t_depth
  simp only [dFor, dIter, dVar, dC, dOp, dTest, dChain, dAnd, dOr, dNot, dAndV, dOrV, dNotV, dIfE, dNil, dCons, dTup, dLst, dNext, dSeq, dIfS, dRet, dRetN, dExpr, dBrk, dCnt, dSet, dNever, gN, gTp, gLs, gsNil, gsCons, dAsg, dCall, dRaise, dRaiseF, ixD, dSl, slD, dPart, dNoPart, dCB, lenD, minD, maxD, absD, intD, strD, tupleD, listD, dMt, dMt0, tyD, appendD, popD, splitD, countD, dIsi, gSb, setL, dFld, dFldSet, dMeth, dMake, dFldAug, dAug, dPar, dTru, dNeg, augAdd, dDep, dIsC, intI, cmpI, startD, endsOf, List.map_cons, List.map_nil, List.length_cons, List.length_nil, List.replicate, List.getElem?_cons_zero, List.getElem?_cons_succ, List.cons_append, List.nil_append, List.set_cons_zero, List.set_cons_succ, Nat.reduceAdd, Nat.reduceSub]
  refine ⟨by decide, trivial, ?_⟩
  exact dp_loop (M := M) (v := .str L) L 0 0 none M (fun _ _ e => e) fun M2 x y hM => ⟨M, hM, k⟩
theorem cut_take (L : List Nat) (k : Nat) : cutL L none (some (k : Int)) = L.take k := by
  unfold cutL
  rw [HT.sIx_none, HT.sIx_nat]
  simp
theorem cut_drop {α : Type} (L : List α) (k : Nat) : cutL L (some (k : Int)) none = L.drop k := by
  unfold cutL
  rw [HT.sIx_none, HT.sIx_nat]
  by_cases h : k ≤ L.length
  · rw [Nat.min_eq_left h, List.take_of_length_le (by simp)]
  · rw [Nat.min_eq_right (by omega), List.drop_eq_nil_of_le (Nat.le_refl _), List.drop_eq_nil_of_le (by omega)]; simp
def w_check : List Nat := [99, 104, 101, 99, 107, 32]
def RC (N : Nat) (L : List Nat) (d : D) : Prop :=
  if L.take 6 ≠ w_check ∨ dpv 0 0 L > 8 then d = .non
  else ∃ e k, PC (L.drop 6) N 0 e k ∧ (∀ M, GD M e) ∧ d = if isN e = true ∨ k < (L.drop 6).length ∨ okC 2 e = false then .non else e
def sp_read_check (_ : Ad) (N : Nat) : DSp := fun ds M Q _ => ∃ L d, ds = [.str L] ∧ L.length ≤ 100000 ∧ RC N L d ∧ Q d M
def t_read_check (A : Ad) (N : Nat) : DS := dSeq (dIfS (dOr (dTest (dOp neD (dSl (dVar 0) (dNoPart) (dPart (dC (.int 6)))) (dC (.str [99, 104, 101, 99, 107, 32])))) (dTest (dOp gtD (dCall (sp_depth A) (dCons (dVar 0) (dNil))) (dC c_MOST_DEEP)))) (dRet (dC .non)) (dNext)) (dSeq (dSet 1 (dMake A.cRd (sp_Reading_init A) (dCons (dSl (dVar 0) (dPart (dC (.int 6))) (dNoPart)) (dNil)))) (dSeq (dSet 2 (dMeth A.cRd "one_check" (spO A (fun L => PC L N)) (dVar 1) (dNil))) (dSeq (dIfS (dOr (dTest (dOp isD (dVar 2) (dC .non))) (dOr (dTest (dOp ltD (dFld A.cRd "at" (dVar 1)) (dCB lenD (dCons (dFld A.cRd "line" (dVar 1)) (dNil))))) (dNot (dTest (dCall (sp_is_check A) (dCons (dVar 2) (dNil))))))) (dRet (dC .non)) (dNext)) (dRet (dVar 2)))))
abbrev n_read_check : List Str := ["line", "reading", "check"]
theorem pure_read_check {A : Ad} {N : Nat} (ds M R EX) (h : sp_read_check A N ds M R EX) : t_read_check A N (fun C fs _ M' => WkX EX C fs M') (endsOf R) (startD n_read_check ds) M := by
  obtain ⟨L, d, rfl, hL, hd, k⟩ := h
  unfold t_read_check
  simp only [dVar, dC, dOp, dTest, dChain, dAnd, dOr, dNot, dAndV, dOrV, dNotV, dIfE, dNil, dCons, dTup, dLst, dNext, dSeq, dIfS, dRet, dRetN, dExpr, dBrk, dCnt, dSet, dNever, gN, gTp, gLs, gsNil, gsCons, dAsg, dCall, dRaise, dRaiseF, ixD, dSl, slD, dPart, dNoPart, dCB, lenD, minD, maxD, absD, intD, strD, tupleD, listD, dMt, dMt0, tyD, appendD, popD, splitD, countD, dIsi, gSb, setL, dFld, dFldSet, dMeth, dMake, dFldAug, dAug, dPar, dTru, dNeg, augAdd, dDep, dIsC, intI, cmpI, startD, endsOf, List.map_cons, List.map_nil, List.length_cons, List.length_nil, List.replicate, List.getElem?_cons_zero, List.getElem?_cons_succ, List.cons_append, List.nil_append, List.set_cons_zero, List.set_cons_succ, Nat.reduceAdd, Nat.reduceSub]
  have z : sizeLine = 16777216 := sizeLine_eq
  refine ⟨by omega, ?_⟩
  rw [show cutL L none (some (6 : Int)) = L.take 6 from cut_take L 6]
  show (match !decide (L.take 6 = w_check) with | true => _ | false => _)
  unfold RC at hd
  by_cases q1 : L.take 6 = w_check
  · rw [decide_eq_true q1]
    refine ⟨L, rfl, ?_⟩
    show (match decide (dpv 0 0 L > 8) with | true => _ | false => _)
    by_cases q2 : dpv 0 0 L > 8
    · rw [decide_eq_true q2]
      rw [if_pos (.inr q2)] at hd
      subst hd
      exact Wk.self k
    · rw [decide_eq_false q2]
      rw [if_neg (by intro z; rcases z with z | z; exact z q1; exact q2 z)] at hd
      obtain ⟨e, j, hp, hg, rfl⟩ := hd
      refine ⟨by omega, fun a dx ha hdx hne => ?_⟩
      rw [show cutL L (some (6 : Int)) none = L.drop 6 from cut_drop L 6]
      refine ⟨a, dx, L.drop 6, rfl, mupd_same, rfl, ?_⟩
      rw [mupd_idem]
      have hr : Rdg A (mupd M a (rdO A dx (L.drop 6) 0)) a dx (L.drop 6) 0 := ⟨mupd_same, by rw [List.length_drop]; omega⟩
      refine mcall hr ⟨a, dx, _, 0, e, j, rfl, hr, hp, ?_⟩
      rw [mupd_idem]
      have hr2 : Rdg A (mupd M a (rdO A dx (L.drop 6) j)) a dx (L.drop 6) j := ⟨mupd_same, hr.2⟩
      show (match isN e with | true => _ | false => _)
      cases q3 : isN e with
      | true =>
        rw [if_pos (.inl q3)] at k
        exact ⟨M, msub_new ha, k⟩
      | false =>
        refine fat hr2 (fline hr2 ⟨by have := hr.2; omega, ?_⟩)
        show (match decide ((j : Int) < ((L.drop 6).length : Int)) with | true => _ | false => _)
        by_cases q4 : j < (L.drop 6).length
        · rw [decide_eq_true (show (j : Int) < ((L.drop 6).length : Int) by omega)]
          rw [if_pos (.inr (.inl q4))] at k
          exact ⟨M, msub_new ha, k⟩
        · rw [decide_eq_false (show ¬ (j : Int) < ((L.drop 6).length : Int) by omega)]
          refine ⟨e, rfl, hg _, ?_⟩
          cases q5 : okC 2 e with
          | false =>
            rw [if_pos (.inr (.inr q5))] at k
            exact ⟨M, msub_new ha, k⟩
          | true =>
            rw [if_neg (by rw [q3, q5]; intro z; rcases z with z | z | z; exact Bool.noConfusion z; exact q4 z; exact Bool.noConfusion z)] at k
            exact ⟨M, msub_new ha, k⟩
  · rw [decide_eq_false q1]
    rw [if_pos (.inl q1)] at hd
    subst hd
    exact Wk.self k
end DL

set_option Elab.async false
set_option linter.all false
set_option maxRecDepth 100000
set_option maxHeartbeats 1000000
namespace DL
open PySem L2
def w_reader : List Nat := [114, 101, 97, 100, 101, 114]
theorem msub_upd {M M' : DM} {p : Addr} {o : MO} (h : MSub M M') : MSub (mupd M p o) (mupd M' p o) := fun b o' e => by
  by_cases q : b = p
  · subst q; rw [mupd_same] at e ⊢; exact e
  · rw [mupd_ne q] at e ⊢; exact h b o' e
theorem msub_none {M M' : DM} {p : Addr} (h : MSub M M') (e : M' p = none) : M p = none := by
  cases q : M p with
  | none => rfl
  | some o => rw [h _ _ q] at e; cases e
theorem MSub.tr {M M1 M2 : DM} (a : MSub M M1) (b : MSub M1 M2) : MSub M M2 := fun x o e => b _ _ (a _ _ e)
theorem splL_cons (c : Nat) : ∀ (acc L : List Nat), ∃ x r, splL c acc L = x :: r
  | acc, [] => ⟨acc, [], rfl⟩
  | acc, y :: r => by
    unfold splL
    by_cases q : y = c
    · rw [if_pos q]; exact ⟨_, _, rfl⟩
    · rw [if_neg q]; exact splL_cons c (acc ++ [y]) r
theorem splL_len (c : Nat) : ∀ (acc L : List Nat) (x : List Nat), x ∈ splL c acc L → x.length ≤ acc.length + L.length
  | acc, [], x, h => by unfold splL at h; rw [List.mem_singleton] at h; subst h; exact Nat.le_refl _
  | acc, y :: r, x, h => by
    unfold splL at h
    rw [List.length_cons]
    by_cases q : y = c
    · rw [if_pos q] at h
      rcases List.mem_cons.mp h with e | e
      · subst e; omega
      · have := splL_len c [] r x e
        rw [List.length_nil] at this; omega
    · rw [if_neg q] at h
      have := splL_len c (acc ++ [y]) r x h
      rw [List.length_append, List.length_cons, List.length_nil] at this; omega
theorem splL_cnt (c : Nat) : ∀ (acc L : List Nat), (splL c acc L).length ≤ L.length + 1
  | acc, [] => by unfold splL; simp
  | acc, y :: r => by
    unfold splL
    by_cases q : y = c
    · rw [if_pos q, List.length_cons, List.length_cons]; have := splL_cnt c [] r; omega
    · rw [if_neg q, List.length_cons]; have := splL_cnt c (acc ++ [y]) r; omega
def okM (A : Ad) (EX : DX) (M : DM) (i : Int) : Prop := ∀ dx, M dx = none → EX A.cBL [.ref dx] (mupd M dx (.xd "line" (.int i)))
def sp_read_program (A : Ad) (N : Nat) : DSp := fun ds M Q EX => ∃ T l0 ls w0 ws, ds = [.str T] ∧ T.length ≤ 100000 ∧ splL 10 [] T = l0 :: ls ∧ splL 32 [] l0 = w0 :: ws ∧
  (w0 ≠ w_reader ∨ rf (.tup (ws.map D.str)) ≠ none → okM A EX M 1) ∧
  (w0 = w_reader ∧ rf (.tup (ws.map D.str)) = none → ∃ d, (match ls with | [] => d = .non | l1 :: _ => RC N l1 d) ∧ (isN d = true → okM A EX M 2) ∧
    (isN d = false → okC 2 d = true ∧ (∀ M, GD M d) ∧ (1 < ls.length → okM A EX M 3) ∧ (ls.length ≤ 1 → ∀ a dx, M a = none → M dx = none → dx ≠ a → Q (.ref a) (mupd M a (prO A dx d (.tup (ws.map D.str)))))))
def t_read_program (A : Ad) (N : Nat) : DS := dSeq (dSet 1 (dMt "str" splitD (dVar 0) (dCons (dC (.str [10])) (dNil)))) (dSeq (dSet 2 (dMt "str" splitD (dOp ixD (dVar 1) (dC (.int 0))) (dCons (dC (.str [32])) (dNil)))) (dSeq (dSet 3 (dCB tupleD (dCons (dSl (dVar 2) (dPart (dC (.int 1))) (dNoPart)) (dNil)))) (dSeq (dIfS (dOr (dTest (dOp neD (dOp ixD (dVar 2) (dC (.int 0))) (dC (.str [114, 101, 97, 100, 101, 114])))) (dTest (dOp isNotD (dCall (sp_reader_fault A) (dCons (dVar 3) (dNil))) (dC .non)))) (dRaiseF A.cBL "line" (dC (.int 1))) (dNext)) (dSeq (dSet 4 (dIfE (dTest (dOp gtD (dCB lenD (dCons (dVar 1) (dNil))) (dC (.int 1)))) (dCall (sp_read_check A N) (dCons (dOp ixD (dVar 1) (dC (.int 1))) (dNil))) (dC .non))) (dSeq (dIfS (dTest (dOp isD (dVar 4) (dC .non))) (dRaiseF A.cBL "line" (dC (.int 2))) (dNext)) (dSeq (dIfS (dTest (dOp gtD (dCB lenD (dCons (dVar 1) (dNil))) (dC (.int 2)))) (dRaiseF A.cBL "line" (dC (.int 3))) (dNext)) (dRet (dMake A.cPr (sp_Program_init A) (dCons (dVar 4) (dCons (dVar 3) (dNil)))))))))))
abbrev n_read_program : List Str := ["text", "lines", "words", "reader", "check"]
theorem exl {A : Ad} {EX : DX} {M M' : DM} {i : Int} (h : okM A EX M i) (s : MSub M M') : ∀ dx, M' dx = none → WkX EX A.cBL [.ref dx] (mupd M' dx (.xd "line" (.int i))) := fun dx hdx => ⟨_, msub_upd s, h dx (msub_none s hdx)⟩
theorem gd_strs {M : DM} {ws : List (List Nat)} (h : ∀ w ∈ ws, w.length ≤ 100000) : GD M (.tup (ws.map D.str)) := .tup fun d hd => by
  rw [List.mem_map] at hd
  obtain ⟨w, hw, rfl⟩ := hd
  exact .str w (h w hw)
theorem atI0 {xs : List D} {x : D} : atI (x :: xs) 0 = some x := by unfold atI ixN; rw [if_pos (by omega), if_pos (by simp only [List.length_cons]; omega)]; rfl
theorem atI1 {xs : List D} {x y : D} : atI (x :: y :: xs) 1 = some y := by unfold atI ixN; rw [if_pos (by omega), if_pos (by simp only [List.length_cons]; omega)]; rfl
theorem pure_read_program {A : Ad} {N : Nat} (ds M R EX) (h : sp_read_program A N ds M R EX) : t_read_program A N (fun C fs _ M' => WkX EX C fs M') (endsOf R) (startD n_read_program ds) M := by
  obtain ⟨T, l0, ls, w0, ws, rfl, hT, hl, hw, k1, k2⟩ := h
  have z : sizeLine = 16777216 := sizeLine_eq
  have hll : ∀ x ∈ l0 :: ls, x.length ≤ 100000 := fun x hx => by
    have := splL_len 10 [] T x (by rw [hl]; exact hx)
    rw [List.length_nil] at this; omega
  have hl0 : l0.length ≤ 100000 := hll l0 (by simp)
  have hcnt : (l0 :: ls).length ≤ T.length + 1 := by have := splL_cnt 10 [] T; rw [hl] at this; exact this
  have hws : ∀ x ∈ w0 :: ws, x.length ≤ 100000 := fun x hx => by
    have := splL_len 32 [] l0 x (by rw [hw]; exact hx)
    rw [List.length_nil] at this; omega
  unfold t_read_program
  simp only [dVar, dC, dOp, dTest, dChain, dAnd, dOr, dNot, dAndV, dOrV, dNotV, dIfE, dNil, dCons, dTup, dLst, dNext, dSeq, dIfS, dRet, dRetN, dExpr, dBrk, dCnt, dSet, dNever, gN, gTp, gLs, gsNil, gsCons, dAsg, dCall, dRaise, dRaiseF, ixD, dSl, slD, dPart, dNoPart, dCB, lenD, minD, maxD, absD, intD, strD, tupleD, listD, dMt, dMt0, tyD, appendD, popD, joinD, splitD, countD, dIsi, gSb, setL, dFld, dFldSet, dMeth, dMake, dFldAug, dAug, dPar, dTru, dNeg, augAdd, dDep, dIsC, intI, cmpI, startD, endsOf, List.map_cons, List.map_nil, List.length_cons, List.length_nil, List.replicate, List.getElem?_cons_zero, List.getElem?_cons_succ, List.cons_append, List.nil_append, List.set_cons_zero, List.set_cons_succ, Nat.reduceAdd, Nat.reduceSub]
  refine ⟨trivial, by decide, by omega, fun p hp => ?_⟩
  rw [hl]
  have s1 : MSub M (mupd M p (.lst ((l0 :: ls).map D.str))) := msub_new hp
  refine ⟨_, _, mupd_same, atI0, trivial, by decide, by omega, fun p2 hp2 => ?_⟩
  rw [hw]
  have ne : p ≠ p2 := fun q => by subst q; rw [mupd_same] at hp2; cases hp2
  have s2 := s1.tr (msub_new (o := .lst ((w0 :: ws).map D.str)) hp2)
  refine ⟨_, mupd_same, fun p3 hp3 => ⟨_, _, mupd_same, msub_new hp3, ?_⟩⟩
  rw [show cutL ((w0 :: ws).map D.str) (some (1 : Int)) none = ws.map D.str from by rw [show (1 : Int) = ((1 : Nat) : Int) from rfl, cut_drop]; rfl]
  refine ⟨_, _, mupd_same, atI0, ?_⟩
  have eM : mupd (mupd M p (.lst ((l0 :: ls).map D.str))) p2 (.lst ((w0 :: ws).map D.str)) p = some (.lst ((l0 :: ls).map D.str)) := by rw [mupd_ne ne, mupd_same]
  show (match !decide (w0 = w_reader) with | true => _ | false => _)
  by_cases q1 : w0 = w_reader
  · rw [decide_eq_true q1]
    refine ⟨_, rfl, gd_strs fun w hw => hws w (by simp [hw]), ?_⟩
    cases q2 : rf (.tup (ws.map D.str)) with
    | some i => exact exl (k1 (.inr (by rw [q2]; simp))) s2
    | none =>
      obtain ⟨d, hd, k3, k4⟩ := k2 ⟨q1, q2⟩
      refine ⟨_, eM, ?_⟩
      cases ls with
      | nil =>
        subst hd
        exact exl (k3 rfl) s2
      | cons l1 ls =>
        rw [decide_eq_true (show (1 : Int) < ((List.map D.str (l0 :: l1 :: ls)).length : Int) by simp only [List.map_cons, List.length_cons]; omega)]
        refine ⟨_, _, eM, atI1, l1, d, rfl, hll l1 (by simp), hd, ?_⟩
        show (match isN d with | true => _ | false => _)
        cases q3 : isN d with
        | true => exact exl (k3 q3) s2
        | false =>
          obtain ⟨hC, hG, k5, k6⟩ := k4 q3
          refine ⟨_, eM, ?_⟩
          by_cases q4 : 1 < (l1 :: ls).length
          · rw [decide_eq_true (show (2 : Int) < ((List.map D.str (l0 :: l1 :: ls)).length : Int) by simp only [List.map_cons, List.length_cons, List.length_map] at q4 ⊢; omega)]
            exact exl (k5 q4) s2
          · rw [decide_eq_false (show ¬ (2 : Int) < ((List.map D.str (l0 :: l1 :: ls)).length : Int) by simp only [List.map_cons, List.length_cons, List.length_map] at q4 ⊢; omega)]
            intro x dx hx hdx hne
            refine ⟨x, dx, d, _, rfl, mupd_same, hG _, gd_strs fun w hw => hws w (by simp [hw]), (fun z => by rw [hC] at z; cases z), fun _ => ⟨fun _ => ⟨rfl, ?_⟩, (fun i z => by rw [q2] at z; cases z)⟩⟩
            rw [mupd_idem]
            exact ⟨_, msub_upd s2, k6 (by omega) x dx (msub_none s2 hx) (msub_none s2 hdx) hne⟩
  · rw [decide_eq_false q1]
    exact exl (k1 (.inl q1)) s2
def sp_Program_eq (A : Ad) : DSp := fun ds M Q _ => ∃ a b dx dy c r p q, ds = [.ref a, .ref b] ∧ M a = some (prO A dx c r) ∧ M b = some (prO A dy c r) ∧ PyOf M c p ∧ PyOf M r q ∧ SeqAt.shaped p = true ∧ SeqAt.shaped q = true ∧ Q (.bl true) M
def t_Program_eq (A : Ad) : DS := dRet (dAndV (dIsC A.cPr (dVar 1)) (dAndV (dOp eqD (dFld A.cPr "check" (dVar 0)) (dFld A.cPr "check" (dVar 1))) (dOp eqD (dFld A.cPr "reader" (dVar 0)) (dFld A.cPr "reader" (dVar 1)))))
abbrev n_Program_eq : List Str := ["self", "other"]
theorem eqv_refl0 {p : PyData} (h : SeqAt.shaped p = true) : PyData.eqv p p = true := SeqAt.eqv_refl p (SeqAt.canLay_of_shaped h)
theorem eq_self {M : DM} {x : D} {p : PyData} {R : DQ} (h : PyOf M x p) (hs : SeqAt.shaped p = true) (k : R (.bl true) M) : eqD x x M R := by
  unfold eqD
  cases e : eqS x x with
  | some b =>
    have : b = true := by cases x <;> simp [eqS] at e <;> (first | exact e | exact e.symm)
    subst this
    exact k
  | none => exact ⟨p, p, h, h, hs, hs, by rw [eqv_refl0 hs]; exact k⟩
theorem pure_Program_eq {A : Ad} (ds M R EX) (h : sp_Program_eq A ds M R EX) : t_Program_eq A (fun C fs _ M' => WkX EX C fs M') (endsOf R) (startD n_Program_eq ds) M := by
  obtain ⟨a, b, dx, dy, c, r, p, q, rfl, ea, eb, hp, hq, sp, sq, k⟩ := h
  unfold t_Program_eq
  simp only [dVar, dC, dOp, dTest, dChain, dAnd, dOr, dNot, dAndV, dOrV, dNotV, dIfE, dNil, dCons, dTup, dLst, dNext, dSeq, dIfS, dRet, dRetN, dExpr, dBrk, dCnt, dSet, dNever, gN, gTp, gLs, gsNil, gsCons, dAsg, dCall, dRaise, dRaiseF, ixD, dSl, slD, dPart, dNoPart, dCB, lenD, minD, maxD, absD, intD, strD, tupleD, listD, dMt, dMt0, tyD, appendD, popD, joinD, splitD, countD, dIsi, gSb, setL, dFld, dFldSet, dMeth, dMake, dFldAug, dAug, dPar, dTru, dNeg, augAdd, dDep, dIsC, intI, cmpI, startD, endsOf, List.map_cons, List.map_nil, List.length_cons, List.length_nil, List.replicate, List.getElem?_cons_zero, List.getElem?_cons_succ, List.cons_append, List.nil_append, List.set_cons_zero, List.set_cons_succ, Nat.reduceAdd, Nat.reduceSub]
  refine ⟨b, dy, _, _, rfl, eb, a, dx, _, _, 0, _, rfl, ea, rfl, rfl, b, dy, _, _, 0, _, rfl, eb, rfl, rfl, ?_⟩
  refine eq_self hp sp ?_
  refine ⟨a, dx, _, _, 1, _, rfl, ea, rfl, rfl, b, dy, _, _, 1, _, rfl, eb, rfl, rfl, ?_⟩
  exact eq_self hq sq (Wk.self k)
end DL

set_option Elab.async false
set_option linter.all false
set_option maxRecDepth 100000
set_option maxHeartbeats 1000000
namespace DL
open PySem L2
def bD : Option Nat → D
  | none => .non
  | some x => .int (x : Nat)
def bT : Option Nat → List Nat
  | none => [45]
  | some x => [48 + x]
def pD (p : List Nat × Nat × Option Nat) : D := .tup [.str p.1, .int (p.2.1 : Nat), bD p.2.2]
def pT (p : List Nat × Nat × Option Nat) : List Nat := [39] ++ p.1 ++ [39, 44] ++ bT (some p.2.1) ++ [44] ++ bT p.2.2
def OKL (l : List Nat) : Prop := okL (.str l) = true
def OKB (a : Nat) (b : Option Nat) : Prop := a ≤ 9 ∧ ∀ x, b = some x → a ≤ x ∧ x ≤ 9
def ORd (ss : List (List Nat)) : Prop := rf (.tup (ss.map D.str)) = none ∧ ss.length = 6 ∧ ∀ s ∈ ss, s.length ≤ 10 ∧ ∀ c ∈ s, c ∈ SMc
def brk (w t : List Nat) : List Nat := w ++ [40] ++ t ++ [41]
inductive CF : Nat → D → List Nat → Prop
  | pl {n : Nat} {w l : List Nat} : w ∈ PLc → OKL l → CF n (.tup [.str w, .str l]) (brk w ([39] ++ l ++ [39]))
  | lg {n a : Nat} {b : Option Nat} : OKB a b → CF n (.tup [.str w_long, .int (a : Nat), bD b]) (brk w_long (bT (some a) ++ [44] ++ bT b))
  | sh {n : Nat} {ps : List (List Nat × Nat × Option Nat)} : 1 ≤ ps.length → ps.length ≤ 5 → (∀ p ∈ ps, OKL p.1 ∧ OKB p.2.1 p.2.2) → CF n (.tup [.str w_shape, .tup (ps.map pD)]) (brk w_shape (joinL [59] (ps.map pT)))
  | tr {n : Nat} {ss : List (List Nat)} : ORd ss → CF n (.tup [.str w_tries, .tup (ss.map D.str)]) (brk w_tries (joinL [44] ss))
  | no {n : Nat} {c : D} {t : List Nat} : CF n c t → CF (n + 1) (.tup [.str w_no, c]) (brk w_no t)
  | many {n : Nat} {w : List Nat} {cts : List (D × List Nat)} : w ∈ [w_all, w_some] → cts.length ≤ 4 → (∀ x ∈ cts, CF n x.1 x.2) → CF (n + 1) (.tup [.str w, .tup (cts.map (·.1))]) (brk w (joinL [59] (cts.map (·.2))))
theorem OKL.len {l : List Nat} (h : OKL l) : 1 ≤ l.length ∧ l.length ≤ 9 ∧ ∀ c ∈ l, c ∈ SGc := by
  unfold OKL at h
  simp only [okL, Bool.and_eq_true, decide_eq_true_eq, List.all_eq_true] at h
  exact ⟨h.1.1, h.1.2, fun c hc => (h.2 c hc).1⟩
theorem join_len (s : List Nat) (b : Nat) : ∀ ts : List (List Nat), (∀ t ∈ ts, t.length ≤ b) → (joinL s ts).length ≤ ts.length * (b + s.length)
  | [], _ => Nat.zero_le _
  | [x], h => by
    have := h x (by simp)
    show x.length ≤ (0 + 1) * (b + s.length)
    omega
  | x :: y :: r, h => by
    have h1 := h x (by simp)
    have h2 := join_len s b (y :: r) fun t ht => h t (by simp [ht])
    show (x ++ (s ++ joinL s (y :: r))).length ≤ _
    rw [List.length_append, List.length_append, List.length_cons, Nat.add_mul]
    omega
theorem bT_len (b : Option Nat) : (bT b).length = 1 := by cases b <;> rfl
theorem brk_len (w t : List Nat) : (brk w t).length = w.length + t.length + 2 := by unfold brk; simp only [List.length_append, List.length_cons, List.length_nil]; omega
theorem sum_le (b : Nat) : ∀ ts : List (List Nat), (∀ t ∈ ts, t.length ≤ b) → (ts.map (·.length)).sum ≤ ts.length * b
  | [], _ => by simp
  | x :: r, h => by
    have h1 := h x (by simp)
    have h2 := sum_le b r fun t ht => h t (by simp [ht])
    rw [List.map_cons, List.sum_cons, List.length_cons, Nat.add_mul]
    omega
theorem pT_len {p : List Nat × Nat × Option Nat} (h : OKL p.1) : (pT p).length ≤ 20 := by
  have := h.len.2.1
  unfold pT
  simp only [List.length_append, List.length_cons, List.length_nil, bT_len]
  omega
theorem PL_len {w : List Nat} (h : w ∈ PLc) : w.length ≤ 6 := by
  unfold PLc at h
  simp only [List.mem_cons, List.not_mem_nil, or_false] at h
  rcases h with rfl | rfl | rfl <;> decide
theorem AS_len {w : List Nat} (h : w ∈ [w_all, w_some]) : w.length ≤ 4 := by
  simp only [List.mem_cons, List.not_mem_nil, or_false] at h
  rcases h with rfl | rfl <;> decide
theorem CF.len {n : Nat} {d : D} {t : List Nat} (h : CF n d t) : t.length ≤ 200 * 6 ^ n := by
  have one : ∀ n : Nat, 200 ≤ 200 * 6 ^ n := fun n => Nat.le_mul_of_pos_right _ (Nat.pow_pos (by decide))
  induction h with
  | @pl n w l hw hl =>
    refine Nat.le_trans ?_ (one _)
    rw [brk_len]
    have h1 := PL_len hw
    have h2 := hl.len.2.1
    simp only [List.length_append, List.length_cons, List.length_nil]
    omega
  | @lg n a b h =>
    refine Nat.le_trans ?_ (one _)
    rw [brk_len]
    simp only [List.length_append, List.length_cons, List.length_nil, bT_len]
    decide
  | @sh n ps h1 h2 h3 =>
    refine Nat.le_trans ?_ (one _)
    rw [brk_len]
    have := join_len [59] 20 (ps.map pT) fun t ht => by
      rw [List.mem_map] at ht
      obtain ⟨p, hp, rfl⟩ := ht
      exact pT_len (h3 p hp).1
    rw [List.length_map] at this
    have e : ps.length * (20 + ([59] : List Nat).length) ≤ 5 * 21 := Nat.mul_le_mul h2 (by decide)
    have e2 : w_shape.length = 5 := rfl
    omega
  | @tr n ss h =>
    refine Nat.le_trans ?_ (one _)
    rw [brk_len]
    have := join_len [44] 10 ss fun t ht => (h.2.2 t ht).1
    rw [h.2.1] at this
    have e2 : w_tries.length = 5 := rfl
    have e3 : ([44] : List Nat).length = 1 := rfl
    omega
  | @no n c t _ ih =>
    rw [brk_len, Nat.pow_succ]
    have e2 : w_no.length = 2 := rfl
    have := one n
    omega
  | @many n w cts hw hl _ ih =>
    rw [brk_len, Nat.pow_succ]
    have h1 := join_len [59] (200 * 6 ^ n) (cts.map (·.2)) fun t ht => by
      rw [List.mem_map] at ht
      obtain ⟨x, hx, rfl⟩ := ht
      exact ih x hx
    rw [List.length_map] at h1
    have e : cts.length * (200 * 6 ^ n + ([59] : List Nat).length) ≤ 4 * (200 * 6 ^ n + 1) := Nat.mul_le_mul hl (Nat.le_refl _)
    have := AS_len hw
    have := one n
    omega
theorem okB_of {a : Nat} {x : Nat} (h1 : a ≤ x) (h2 : x ≤ 9) : okB (.int (x : Nat)) (a : Nat) = true := by
  simp only [okB, Bool.and_eq_true, decide_eq_true_eq]
  omega
theorem okBs_of {a : Nat} {b : Option Nat} (h : OKB a b) : okBs (.int (a : Nat)) (bD b) = true := by
  unfold okBs
  rw [show okB (.int (a : Nat)) 0 = true from okB_of (a := 0) (Nat.zero_le _) h.1, Bool.true_and]
  cases b with
  | none => rfl
  | some x => exact okB_of (h.2 x rfl).1 (h.2 x rfl).2
theorem okC_step {n : Nat} {c : D} (h : okC n (.tup [.str w_no, c]) = true) : True := trivial
theorem CF.ok {n : Nat} {d : D} {t : List Nat} (h : CF n d t) : okC n d = true := by
  induction h with
  | @pl n w l hw hl =>
    rw [okC_eq]
    simp only [okC0]
    rw [if_neg (by intro z; subst z; revert hw; decide), if_neg (by simp), if_pos hw]
    exact hl
  | @lg n a b h =>
    rw [okC_eq]
    simp only [okC0]
    rw [if_pos trivial]
    exact okBs_of h
  | @sh n ps h1 h2 h3 =>
    rw [okC_eq]
    simp only [okC0]
    rw [if_neg (by decide), if_neg (by simp), if_neg (by decide), if_pos trivial]
    simp only [okPs, List.length_map, decide_eq_true h1, decide_eq_true h2, Bool.true_and, List.all_map, List.all_eq_true]
    intro p hp
    show (okL (.str p.1) && okBs (.int (p.2.1 : Nat)) (bD p.2.2)) = true
    rw [show okL (.str p.1) = true from (h3 p hp).1, okBs_of (h3 p hp).2]; rfl
  | @tr n ss h =>
    rw [okC_eq]
    simp only [okC0]
    rw [if_neg (by decide), if_neg (by simp), if_neg (by decide), if_neg (by decide), if_pos trivial, h.1]
    rfl
  | @no n c t _ ih =>
    rw [okC_eq]
    simp only [okC0]
    rw [if_neg (by decide), if_neg (by simp), if_neg (by decide), if_neg (by decide), if_neg (by decide), if_neg (by simp), if_pos trivial]
    exact ih
  | @many n w cts hw hl _ ih =>
    rw [okC_eq]
    simp only [okC0]
    have nw : ∀ u : List Nat, u ∉ [w_all, w_some] → ¬ w = u := fun u hu z => hu (z ▸ hw)
    rw [if_neg (nw _ (by decide)), if_neg (by simp), if_neg (fun z => by
      simp only [List.mem_cons, List.not_mem_nil, or_false] at hw
      rcases hw with rfl | rfl <;> revert z <;> decide), if_neg (nw _ (by decide)), if_neg (nw _ (by decide)), if_neg (by simp), if_neg (nw _ (by decide)), decide_eq_true hw, List.length_map, decide_eq_true hl, Bool.true_and, Bool.true_and, List.all_map, List.all_eq_true]
    exact ih
theorem bD_gd (M : DM) (b : Option Nat) : GD M (bD b) := by cases b with
  | none => exact .non
  | some x => exact .int _
theorem CF.gd {n : Nat} {d : D} {t : List Nat} (h : CF n d t) (M : DM) : GD M d := by
  have two : ∀ {w : List Nat} {x : D}, w.length ≤ 100000 → GD M x → GD M (.tup [.str w, x]) := fun hw hx => .tup fun d hd => by
    simp only [List.mem_cons, List.not_mem_nil, or_false] at hd
    rcases hd with rfl | rfl
    · exact .str _ hw
    · exact hx
  induction h with
  | @pl n w l hw hl => exact two (by have := PL_len hw; omega) (.str _ (by have := hl.len.2.1; omega))
  | @lg n a b h =>
    refine .tup fun d hd => ?_
    simp only [List.mem_cons, List.not_mem_nil, or_false] at hd
    rcases hd with rfl | rfl | rfl
    · exact .str _ (by decide)
    · exact .int _
    · exact bD_gd M b
  | @sh n ps h1 h2 h3 =>
    refine two (by decide) (.tup fun d hd => ?_)
    rw [List.mem_map] at hd
    obtain ⟨p, hp, rfl⟩ := hd
    refine .tup fun d hd => ?_
    simp only [List.mem_cons, List.not_mem_nil, or_false] at hd
    rcases hd with rfl | rfl | rfl
    · exact .str _ (by have := (h3 p hp).1.len.2.1; omega)
    · exact .int _
    · exact bD_gd M _
  | @tr n ss h => exact two (by decide) (gd_strs fun w hw => by have := (h.2.2 w hw).1; omega)
  | @no n c t _ ih => exact two (by decide) ih
  | @many n w cts hw hl _ ih =>
    refine two (by have := AS_len hw; omega) (.tup fun d hd => ?_)
    rw [List.mem_map] at hd
    obtain ⟨x, hx, rfl⟩ := hd
    exact ih x hx
end DL

set_option Elab.async false
set_option linter.all false
set_option maxRecDepth 100000
set_option maxHeartbeats 1000000
namespace DL
open PySem L2
theorem lcF_zip {g : DG} {te : DE} {gd : DM → Prop} {D0 : Addr} {ρ : Env} {K : DM → Prop} {M : DM} : ∀ (cts : List (D × D)) (acc : List D), acc.length + cts.length < sizeLine → (∀ acc, gd (mupd M D0 (.lst acc))) →
    (∀ x ∈ cts, ∀ acc R, R x.2 (mupd M D0 (.lst acc)) → g x.1 ρ (mupd M D0 (.lst acc)) fun ρ1 M1 => te noW ρ1 M1 R) → (∀ x (ρ ρ' : Env) M (P Q : Env → DM → Prop), (∀ ρ1 M1, P ρ1 M1 → Q ρ1 M1) → g x ρ M P → g x ρ M Q) →
    K (mupd M D0 (.lst (acc ++ cts.map (·.2)))) → lcF g dYes te gd D0 ρ K (cts.map (·.1)) (mupd M D0 (.lst acc))
  | [], acc, _, hg, _, _, hk => ⟨hg _, by simpa using hk⟩
  | x :: r, acc, hz, hg, hf, hm, hk => by
    refine ⟨hg _, ?_⟩
    refine hf x (by simp) acc (fun d M3 => ∃ acc', M3 D0 = some (.lst acc') ∧ acc'.length < sizeLine ∧ lcF g dYes te gd D0 ρ K (r.map (·.1)) (mupd M3 D0 (.lst (acc' ++ [d])))) ?_
    rw [List.length_cons] at hz
    refine ⟨acc, mupd_same, by omega, ?_⟩
    rw [mupd_idem]
    refine lcF_zip r (acc ++ [x.2]) (by rw [List.length_append, List.length_cons, List.length_nil]; omega) hg (fun y hy => hf y (by simp [hy])) hm ?_
    simpa using hk
theorem join_lc {g : DG} {te : DE} {gd : DM → Prop} {D0 : Addr} {ρ : Env} {s : List Nat} {cts : List (D × List Nat)} {b : Nat} {M : DM} {R : DQ} (hD : M D0 = none) (hz : cts.length ≤ 100) (hs : s.length ≤ 10) (hb : ∀ x ∈ cts, x.2.length ≤ b) (hb2 : b ≤ 100000) (hg : ∀ acc, gd (mupd M D0 (.lst acc)))
    (hf : ∀ x ∈ cts, ∀ acc R, R (.str x.2) (mupd M D0 (.lst acc)) → g x.1 ρ (mupd M D0 (.lst acc)) fun ρ1 M1 => te noW ρ1 M1 R) (hm : ∀ x (ρ ρ' : Env) M (P Q : Env → DM → Prop), (∀ ρ1 M1, P ρ1 M1 → Q ρ1 M1) → g x ρ M P → g x ρ M Q) (k : R (.str (joinL s (cts.map (·.2)))) M) :
    lcF g dYes te gd D0 ρ (fun M2 => joinD (.str s) [.ref D0] M2 R) (cts.map (·.1)) (mupd M D0 (.lst [])) := by
  have z : sizeLine = 16777216 := sizeLine_eq
  have e : cts.map (·.1) = (cts.map fun x => (x.1, D.str x.2)).map (·.1) := by rw [List.map_map]; rfl
  rw [e]
  refine lcF_zip (cts.map fun x => (x.1, D.str x.2)) [] (by rw [List.length_map, List.length_nil]; omega) hg (fun x hx acc R' h => ?_) hm ?_
  · rw [List.mem_map] at hx
    obtain ⟨y, hy, rfl⟩ := hx
    exact hf y hy acc R' h
  · refine ⟨cts.map (·.2), M, ?_, msub_new hD, ?_, k⟩
    · rw [mupd_same, List.nil_append, List.map_map, List.map_map]; rfl
    · have h1 := sum_le b (cts.map (·.2)) fun t ht => by
        rw [List.mem_map] at ht
        obtain ⟨x, hx, rfl⟩ := ht
        exact hb x hx
      rw [List.length_map] at h1 ⊢
      have h2 : cts.length * b ≤ 100 * 100000 := Nat.mul_le_mul hz hb2
      have h3 : cts.length * s.length ≤ 100 * 10 := Nat.mul_le_mul hz hs
      omega
theorem join_tup {s : List Nat} {ss : List (List Nat)} {M : DM} {R : DQ} (hs : s.length ≤ 10) (hn : ss.length ≤ 100) (hb : ∀ t ∈ ss, t.length ≤ 100) (k : R (.str (joinL s ss)) M) : joinD (.str s) [.tup (ss.map D.str)] M R := by
  refine ⟨ss, rfl, ?_, k⟩
  have h1 := sum_le 100 ss hb
  have h2 : ss.length * 100 ≤ 100 * 100 := Nat.mul_le_mul hn (Nat.le_refl _)
  have h3 : ss.length * s.length ≤ 100 * 10 := Nat.mul_le_mul hn hs
  omega
theorem str9 : ∀ x : Nat, x ≤ 9 → strInt (x : Int) = [48 + x] := by decide +kernel
theorem log9 : ∀ x : Nat, x ≤ 9 → (x : Int).natAbs.log2 < 1920 := by decide +kernel
def sp_bound_text (_ : Ad) : DSp := fun ds M Q _ => ∃ b, ds = [bD b] ∧ (∀ x, b = some x → x ≤ 9) ∧ Q (.str (bT b)) M
def t_bound_text (A : Ad) : DS := dRet (dIfE (dTest (dOp isD (dVar 0) (dC .non))) (dC (.str [45])) (dCB strD (dCons (dVar 0) (dNil))))
abbrev n_bound_text : List Str := ["value"]
theorem bound_run {b : Option Nat} {M : DM} {R : DQ} (h : ∀ x, b = some x → x ≤ 9) (k : R (.str (bT b)) M) : match isN (bD b) with
    | true => R (.str [45]) M
    | false => strD [bD b] M R := by
  cases b with
  | none => exact k
  | some x => exact ⟨log9 x (h x rfl), by rw [str9 x (h x rfl)]; exact k⟩
theorem pure_bound_text {A : Ad} (ds M R EX) (h : sp_bound_text A ds M R EX) : t_bound_text A (fun C fs _ M' => WkX EX C fs M') (endsOf R) (startD n_bound_text ds) M := by
  obtain ⟨b, rfl, h, k⟩ := h
  cases b with
  | none => exact Wk.self k
  | some x => exact ⟨log9 x (h x rfl), by rw [str9 x (h x rfl)]; exact Wk.self k⟩
theorem add_s {a b : List Nat} {M : DM} {R : DQ} (h : a.length + b.length ≤ 100000) (k : R (.str (a ++ b)) M) : addD (.str a) (.str b) M R := ⟨by have z : sizeLine = 16777216 := sizeLine_eq; omega, k⟩
theorem brk_run {R : DQ} {w t : List Nat} {M : DM} (hw : w.length ≤ 100) (ht : t.length ≤ 50000) (k : R (.str (brk w t)) M) : addD (.str w) (.str [40]) M fun x M1 => addD x (.str t) M1 fun x M2 => addD x (.str [41]) M2 R := by
  refine add_s (by simp only [List.length_cons, List.length_nil]; omega) (add_s ?_ (add_s ?_ k))
  · simp only [List.length_append, List.length_cons, List.length_nil]; omega
  · simp only [List.length_append, List.length_cons, List.length_nil]; omega
def sp_wr (n : Nat) : DSp := fun ds M Q _ => ∃ d t, ds = [d] ∧ n ≤ 2 ∧ CF n d t ∧ Q (.str t) M
theorem pow_le {n : Nat} (h : n ≤ 2) : 200 * 6 ^ n ≤ 7200 := by
  match n, h with
  | 0, _ => decide
  | 1, _ => decide
  | 2, _ => decide
theorem gd_mono : ∀ (is : List Nat) (xs : List D) (ρ : Env) (M : DM) (P Q : Env → DM → Prop), (∀ ρ1 M1, P ρ1 M1 → Q ρ1 M1) → gdAll is xs ρ M P → gdAll is xs ρ M Q
  | [], [], _, _, _, _, h, k => h _ _ k
  | [], _ :: _, _, _, _, _, _, k => k.elim
  | _ :: _, [], _, _, _, _, _, k => k.elim
  | i :: is, x :: xs, ρ, M, P, Q, h, k => gd_mono is xs (ρ.set i (some x)) M P Q h k
theorem part_run {A : Ad} {R : DQ} {p : List Nat × Nat × Option Nat} {M : DM} {sb : DSp} {E : DX} (hsb : ∀ b M R, (∀ x, b = some x → x ≤ 9) → R (.str (bT b)) M → sb [bD b] M R E) (h1 : OKL p.1) (h2 : OKB p.2.1 p.2.2) (k : R (.str (pT p)) M) :
    addD (.str [39]) (.str p.1) M fun x M1 => addD x (.str [39, 44]) M1 fun x M1 => sb [.int (p.2.1 : Nat)] M1 (fun y M2 => addD x y M2 fun x M1 => addD x (.str [44]) M1 fun x M1 => sb [bD p.2.2] M1 (fun y M2 => addD x y M2 R) E) E := by
  have hl := h1.len.2.1
  refine add_s (by simp only [List.length_cons, List.length_nil]; omega) (add_s (by simp only [List.length_append, List.length_cons, List.length_nil]; omega) ?_)
  refine hsb (some p.2.1) _ _ (fun x hx => by cases hx; exact h2.1) (add_s (by simp only [List.length_append, List.length_cons, List.length_nil, bT_len]; omega) (add_s (by simp only [List.length_append, List.length_cons, List.length_nil, bT_len]; omega) ?_))
  exact hsb p.2.2 _ _ (fun x hx => (h2.2 x hx).2) (add_s (by simp only [List.length_append, List.length_cons, List.length_nil, bT_len]; omega) k)
def t_check_line (A : Ad) (spR : DSp) : DS := dSeq (dPar 1 2 (dCons (dOp ixD (dVar 0) (dC (.int 0))) (dCons (dOp ixD (dVar 0) (dC (.int 1))) (dNil)))) (dSeq (dIfS (dTest (dOp inD (dVar 1) (dC c_PLAIN))) (dSet 3 (dOp addD (dOp addD (dC (.str [39])) (dVar 2)) (dC (.str [39])))) (dIfS (dTest (dOp eqD (dVar 1) (dC (.str [108, 111, 110, 103])))) (dSet 3 (dOp addD (dOp addD (dCall (sp_bound_text A) (dCons (dVar 2) (dNil))) (dC (.str [44]))) (dCall (sp_bound_text A) (dCons (dOp ixD (dVar 0) (dC (.int 2))) (dNil))))) (dIfS (dTest (dOp eqD (dVar 1) (dC (.str [115, 104, 97, 112, 101])))) (dSet 3 (dMt "str" joinD (dC (.str [59])) (dCons (dLc (dIter (dVar 2)) (gTp 3 (gdAll [4, 5, 6])) (dYes) (dOp addD (dOp addD (dOp addD (dOp addD (dOp addD (dC (.str [39])) (dVar 4)) (dC (.str [39, 44]))) (dCall (sp_bound_text A) (dCons (dVar 5) (dNil)))) (dC (.str [44]))) (dCall (sp_bound_text A) (dCons (dVar 6) (dNil)))) [4, 5, 6]) (dNil)))) (dIfS (dTest (dOp eqD (dVar 1) (dC (.str [116, 114, 105, 101, 115])))) (dSet 3 (dMt "str" joinD (dC (.str [44])) (dCons (dVar 2) (dNil)))) (dIfS (dTest (dOp eqD (dVar 1) (dC (.str [110, 111])))) (dSet 3 (dCall (spR) (dCons (dVar 2) (dNil)))) (dSet 3 (dMt "str" joinD (dC (.str [59])) (dCons (dLc (dIter (dVar 2)) (gN 7) (dYes) (dCall (spR) (dCons (dVar 7) (dNil))) [7]) (dNil))))))))) (dRet (dOp addD (dOp addD (dOp addD (dVar 1) (dC (.str [40]))) (dVar 3)) (dC (.str [41])))))
abbrev n_check_line : List Str := ["check", "word", "rest", "inner", "letters", "a", "b", "one"]
theorem pure_check_line {A : Ad} {n : Nat} {spR : DSp} (hR : ∀ m, n = m + 1 → spR = sp_wr m) (ds M R EX) (h : sp_wr n ds M R EX) : t_check_line A spR (fun C fs _ M' => WkX EX C fs M') (endsOf R) (startD n_check_line ds) M := by
  obtain ⟨d, t, rfl, hn, hc, k⟩ := h
  unfold t_check_line
  simp only [dVar, dC, dOp, dTest, dChain, dAnd, dOr, dNot, dAndV, dOrV, dNotV, dIfE, dNil, dCons, dTup, dLst, dNext, dSeq, dIfS, dRet, dRetN, dExpr, dBrk, dCnt, dSet, dNever, gN, gTp, gLs, gsNil, gsCons, dAsg, dCall, dRaise, dRaiseF, ixD, dSl, slD, dPart, dNoPart, dCB, lenD, minD, maxD, absD, intD, strD, tupleD, listD, dMt, dMt0, tyD, appendD, popD, splitD, countD, dIsi, gSb, setL, dFld, dFldSet, dMeth, dMake, dFldAug, dAug, dPar, dTru, dNeg, augAdd, dDep, dIsC, intI, cmpI, startD, endsOf, List.map_cons, List.map_nil, List.length_cons, List.length_nil, List.replicate, List.getElem?_cons_zero, List.getElem?_cons_succ, List.cons_append, List.nil_append, List.set_cons_zero, List.set_cons_succ, Nat.reduceAdd, Nat.reduceSub]
  cases hc with
  | @pl n w l hw hl =>
    refine in_strs (ys := PLc) ?_
    rw [decide_eq_true hw]
    have h1 := PL_len hw
    have h2 := hl.len.2.1
    refine add_s (by simp only [List.length_cons, List.length_nil]; omega) (add_s (by simp only [List.length_append, List.length_cons, List.length_nil]; omega) ?_)
    exact brk_run (by omega) (by simp only [List.length_append, List.length_cons, List.length_nil]; omega) (Wk.self k)
  | @lg n a b h =>
    refine in_strs (ys := PLc) ?_
    refine ⟨some a, rfl, (fun x hx => by cases hx; exact h.1), add_s (by rw [bT_len]; decide) ?_⟩
    refine ⟨b, rfl, (fun x hx => (h.2 x hx).2), add_s (by simp only [List.length_append, bT_len]; decide) ?_⟩
    exact brk_run (by decide) (by simp only [List.length_append, bT_len]; decide) (Wk.self k)
  | @sh n ps h1 h2 h3 =>
    refine in_strs (ys := PLc) ?_
    rw [show decide (w_shape ∈ PLc) = false from rfl]
    refine ⟨trivial, ?_⟩
    intro D0 hD
    rw [show ps.map pD = (ps.map fun p => (pD p, pT p)).map (·.1) from by rw [List.map_map]; rfl]
    have hj := join_len [59] 20 (ps.map pT) fun t ht => by
      rw [List.mem_map] at ht
      obtain ⟨p, hp, rfl⟩ := ht
      exact pT_len (h3 p hp).1
    rw [List.length_map] at hj
    have e5 : ps.length * (20 + ([59] : List Nat).length) ≤ 5 * 21 := Nat.mul_le_mul h2 (by decide)
    refine join_lc (b := 20) hD (by rw [List.length_map]; omega) (by decide) (fun x hx => ?_) (by decide) (fun _ => trivial) (fun x hx acc R' hR' => ?_) (fun x ρ ρ' M P Q h k => ?_) ?_
    · rw [List.mem_map] at hx
      obtain ⟨p, hp, rfl⟩ := hx
      exact pT_len (h3 p hp).1
    · rw [List.mem_map] at hx
      obtain ⟨p, hp, rfl⟩ := hx
      refine ⟨rfl, ?_⟩
      exact part_run (A := A) (sb := sp_bound_text A) (E := fun C fs M2 => False) (fun b M R h k => ⟨b, rfl, h, k⟩) (h3 p hp).1 (h3 p hp).2 hR'
    · cases x with
      | tup xs => exact ⟨k.1, gd_mono [4, 5, 6] xs _ _ _ _ h k.2⟩
      | _ => exact k.elim
    · rw [List.map_map]
      exact brk_run (by decide) (by show (joinL [59] (ps.map pT)).length ≤ _; omega) (Wk.self k)
  | @tr n ss h =>
    refine in_strs (ys := PLc) ?_
    rw [show decide (w_tries ∈ PLc) = false from rfl]
    refine ⟨trivial, ?_⟩
    refine join_tup (s := [44]) (by decide) (by rw [h.2.1]; decide) (fun t ht => by have := (h.2.2 t ht).1; omega) ?_
    have hj := join_len [44] 10 ss fun t ht => (h.2.2 t ht).1
    rw [h.2.1] at hj
    exact brk_run (by decide) (by have : ([44] : List Nat).length = 1 := rfl; omega) (Wk.self k)
  | @no m c t hc =>
    refine in_strs (ys := PLc) ?_
    have hl := hc.len
    have hp := pow_le (n := m) (by omega)
    rw [hR m rfl]
    exact ⟨c, t, rfl, by omega, hc, brk_run (by decide) (by omega) (Wk.self k)⟩
  | @many m w cts hw hl hc =>
    refine in_strs (ys := PLc) ?_
    have hp := pow_le (n := m) (by omega)
    have hj := join_len [59] 7200 (cts.map (·.2)) fun t ht => by
      rw [List.mem_map] at ht
      obtain ⟨x, hx, rfl⟩ := ht
      have := (hc x hx).len
      omega
    rw [List.length_map] at hj
    have e5 : cts.length * (7200 + ([59] : List Nat).length) ≤ 4 * 7201 := Nat.mul_le_mul hl (by decide)
    have hw4 := AS_len hw
    have nw : ∀ u : List Nat, u ∉ [w_all, w_some] → ¬ w = u := fun u hu z => hu (z ▸ hw)
    rw [decide_eq_false (show ¬ w ∈ PLc from fun z => by
      simp only [List.mem_cons, List.not_mem_nil, or_false] at hw
      rcases hw with rfl | rfl <;> revert z <;> decide)]
    show (match decide (w = w_long) with | true => _ | false => _)
    rw [decide_eq_false (nw _ (by decide))]
    show (match decide (w = w_shape) with | true => _ | false => _)
    rw [decide_eq_false (nw _ (by decide))]
    show (match decide (w = w_tries) with | true => _ | false => _)
    rw [decide_eq_false (nw _ (by decide))]
    show (match decide (w = w_no) with | true => _ | false => _)
    rw [decide_eq_false (nw _ (by decide))]
    refine ⟨trivial, ?_⟩
    intro D0 hD
    refine join_lc (b := 7200) hD (by omega) (by decide) (fun x hx => ?_) (by decide) (fun _ => trivial) (fun x hx acc R' hR' => ?_) (fun x ρ ρ' M P Q h k => h _ _ k) ?_
    · have := (hc x hx).len
      omega
    · show spR [x.1] _ _ _
      rw [hR m rfl]
      exact ⟨x.1, x.2, rfl, by omega, hc x hx, hR'⟩
    · exact brk_run (by omega) (by omega) (Wk.self k)
def wrT (ss : List (List Nat)) (t : List Nat) : List Nat := [114, 101, 97, 100, 101, 114, 32] ++ joinL [32] ss ++ [10, 99, 104, 101, 99, 107, 32] ++ t
def sp_write (A : Ad) : DSp := fun ds M Q _ => ∃ a dx c ss t, ds = [.ref a] ∧ M a = some (prO A dx c (.tup (ss.map D.str))) ∧ CF 2 c t ∧ ORd ss ∧ Q (.str (wrT ss t)) M
def t_write (A : Ad) : DS := dRet (dOp addD (dOp addD (dOp addD (dC (.str [114, 101, 97, 100, 101, 114, 32])) (dMt "str" joinD (dC (.str [32])) (dCons (dFld A.cPr "reader" (dVar 0)) (dNil)))) (dC (.str [10, 99, 104, 101, 99, 107, 32]))) (dCall (sp_wr 2) (dCons (dFld A.cPr "check" (dVar 0)) (dNil))))
abbrev n_write : List Str := ["program"]
theorem ORd.join {ss : List (List Nat)} (h : ORd ss) : (joinL [32] ss).length ≤ 66 := by
  have hj := join_len [32] 10 ss fun t ht => (h.2.2 t ht).1
  rw [h.2.1] at hj
  exact hj
theorem pure_write {A : Ad} (ds M R EX) (h : sp_write A ds M R EX) : t_write A (fun C fs _ M' => WkX EX C fs M') (endsOf R) (startD n_write ds) M := by
  obtain ⟨a, dx, c, ss, t, rfl, e, hc, hs, k⟩ := h
  unfold t_write
  simp only [dVar, dC, dOp, dTest, dChain, dAnd, dOr, dNot, dAndV, dOrV, dNotV, dIfE, dNil, dCons, dTup, dLst, dNext, dSeq, dIfS, dRet, dRetN, dExpr, dBrk, dCnt, dSet, dNever, gN, gTp, gLs, gsNil, gsCons, dAsg, dCall, dRaise, dRaiseF, ixD, dSl, slD, dPart, dNoPart, dCB, lenD, minD, maxD, absD, intD, strD, tupleD, listD, dMt, dMt0, tyD, appendD, popD, splitD, countD, dIsi, gSb, setL, dFld, dFldSet, dMeth, dMake, dFldAug, dAug, dPar, dTru, dNeg, augAdd, dDep, dIsC, intI, cmpI, startD, endsOf, List.map_cons, List.map_nil, List.length_cons, List.length_nil, List.replicate, List.getElem?_cons_zero, List.getElem?_cons_succ, List.cons_append, List.nil_append, List.set_cons_zero, List.set_cons_succ, Nat.reduceAdd, Nat.reduceSub]
  have hj := hs.join
  have ht := hc.len
  have hp := pow_le (n := 2) (by omega)
  refine ⟨trivial, a, dx, _, _, 1, _, rfl, e, rfl, rfl, join_tup (s := [32]) (by decide) (by rw [hs.2.1]; decide) (fun t ht => by have := (hs.2.2 t ht).1; omega) ?_⟩
  refine add_s (by simp only [List.length_cons, List.length_nil]; omega) (add_s (by simp only [List.length_append, List.length_cons, List.length_nil]; omega) ?_)
  refine ⟨a, dx, _, _, 0, _, rfl, e, rfl, rfl, c, t, rfl, by omega, hc, add_s (by simp only [List.length_append, List.length_cons, List.length_nil]; omega) (Wk.self k)⟩
end DL

set_option Elab.async false
set_option linter.all false
set_option maxRecDepth 100000
set_option maxHeartbeats 1000000
namespace DL
open PySem L2
def sp_law_bound (_ : Ad) : DSp := fun ds M Q _ => ∃ b, ds = [bD b] ∧ (∀ x, b = some x → x ≤ 9) ∧ Q (.str (bT b)) M
def t_law_bound (A : Ad) : DS := dSeq (dIfS (dTest (dOp isD (dVar 0) (dC .non))) (dRet (dC (.str [45]))) (dNext)) (dRet (dCB strD (dCons (dVar 0) (dNil))))
abbrev n_law_bound : List Str := ["_law_value"]
theorem pure_law_bound {A : Ad} (ds M R EX) (h : sp_law_bound A ds M R EX) : t_law_bound A (fun C fs _ M' => WkX EX C fs M') (endsOf R) (startD n_law_bound ds) M := by
  obtain ⟨b, rfl, h, k⟩ := h
  cases b with
  | none => exact Wk.self k
  | some x => exact ⟨log9 x (h x rfl), by rw [str9 x (h x rfl)]; exact Wk.self k⟩
def t_law_shown (A : Ad) (spR : DSp) : DS := dSeq (dSet 1 (dOp ixD (dVar 0) (dC (.int 0)))) (dSeq (dSet 2 (dC (.str []))) (dSeq (dIfS (dTest (dOp inD (dVar 1) (dTup (dCons (dC (.str [115, 105, 103, 110, 115])) (dCons (dC (.str [98, 101, 103, 105, 110, 115])) (dCons (dC (.str [101, 110, 100, 115])) (dNil))))))) (dSet 2 (dOp addD (dOp addD (dC (.str [39])) (dOp ixD (dVar 0) (dC (.int 1)))) (dC (.str [39])))) (dIfS (dTest (dOp eqD (dVar 1) (dC (.str [108, 111, 110, 103])))) (dSet 2 (dOp addD (dOp addD (dCall (sp_law_bound A) (dCons (dOp ixD (dVar 0) (dC (.int 1))) (dNil))) (dC (.str [44]))) (dCall (sp_law_bound A) (dCons (dOp ixD (dVar 0) (dC (.int 2))) (dNil))))) (dIfS (dTest (dOp eqD (dVar 1) (dC (.str [115, 104, 97, 112, 101])))) (dSeq (dSet 3 (dLst (dNil))) (dSeq (dFor (dIter (dOp ixD (dVar 0) (dC (.int 1)))) (gTp 3 (gsCons (gN 4) (gsCons (gN 5) (gsCons (gN 6) (gsNil))))) (dExpr (dMt "list" appendD (dVar 3) (dCons (dOp addD (dOp addD (dOp addD (dOp addD (dOp addD (dC (.str [39])) (dVar 4)) (dC (.str [39, 44]))) (dCall (sp_law_bound A) (dCons (dVar 5) (dNil)))) (dC (.str [44]))) (dCall (sp_law_bound A) (dCons (dVar 6) (dNil)))) (dNil))))) (dSet 2 (dMt "str" joinD (dC (.str [59])) (dCons (dVar 3) (dNil)))))) (dIfS (dTest (dOp eqD (dVar 1) (dC (.str [116, 114, 105, 101, 115])))) (dSet 2 (dMt "str" joinD (dC (.str [44])) (dCons (dOp ixD (dVar 0) (dC (.int 1))) (dNil)))) (dIfS (dTest (dOp eqD (dVar 1) (dC (.str [110, 111])))) (dSet 2 (dCall (spR) (dCons (dOp ixD (dVar 0) (dC (.int 1))) (dNil)))) (dSet 2 (dMt "str" joinD (dC (.str [59])) (dCons (dLc (dIter (dOp ixD (dVar 0) (dC (.int 1)))) (gN 7) (dYes) (dCall (spR) (dCons (dVar 7) (dNil))) [7]) (dNil))))))))) (dRet (dOp addD (dOp addD (dOp addD (dVar 1) (dC (.str [40]))) (dVar 2)) (dC (.str [41]))))))
abbrev n_law_shown : List Str := ["_law_check_here", "_law_word", "_law_inner", "_law_rows", "_law_letters_here", "_law_a", "_law_b", "_law_one"]
theorem rows_loop {A : Ad} {W : DW} {E : DEnds} {M : DM} {v w u : D} {p : Addr} : ∀ (ps : List (List Nat × Nat × Option Nat)) (acc : List D) (x y z s : Option D), M p = none → acc.length + ps.length ≤ 100 → (∀ q ∈ ps, OKL q.1 ∧ OKB q.2.1 q.2.2) →
    (∀ x y z, E.nx [some v, some w, some u, some (.ref p), x, y, z, s] (mupd M p (.lst (acc ++ ps.map fun q => .str (pT q))))) →
    dLoop (gTp 3 (gsCons (gN 4) (gsCons (gN 5) (gsCons (gN 6) (gsNil))))) (dExpr (dMt "list" appendD (dVar 3) (dCons (dOp addD (dOp addD (dOp addD (dOp addD (dOp addD (dC (.str [39])) (dVar 4)) (dC (.str [39, 44]))) (dCall (sp_law_bound A) (dCons (dVar 5) (dNil)))) (dC (.str [44]))) (dCall (sp_law_bound A) (dCons (dVar 6) (dNil)))) (dNil))) W) anyM (ps.map pD) E [some v, some w, some u, some (.ref p), x, y, z, s] (mupd M p (.lst acc))
  | [], acc, x, y, z, s, hp, hl, ho, k => ⟨trivial, by simpa using k x y z⟩
  | q :: r, acc, x, y, z, s, hp, hl, ho, k => by
    refine ⟨trivial, rfl, ?_⟩
    simp only [dVar, dC, dOp, dTest, dChain, dAnd, dOr, dNot, dAndV, dOrV, dNotV, dIfE, dNil, dCons, dTup, dLst, dNext, dSeq, dIfS, dRet, dRetN, dExpr, dBrk, dCnt, dSet, dNever, gN, gTp, gLs, gsNil, gsCons, dAsg, dCall, dRaise, dRaiseF, ixD, dSl, slD, dPart, dNoPart, dCB, lenD, minD, maxD, absD, intD, strD, tupleD, listD, dMt, dMt0, tyD, appendD, popD, splitD, countD, dIsi, gSb, setL, dFld, dFldSet, dMeth, dMake, dFldAug, dAug, dPar, dTru, dNeg, augAdd, dDep, dIsC, intI, cmpI, startD, endsOf, List.map_cons, List.map_nil, List.length_cons, List.length_nil, List.replicate, List.getElem?_cons_zero, List.getElem?_cons_succ, List.cons_append, List.nil_append, List.set_cons_zero, List.set_cons_succ, Nat.reduceAdd, Nat.reduceSub]
    refine ⟨.inl ⟨trivial, _, mupd_same⟩, ?_⟩
    refine part_run (A := A) (sb := sp_law_bound A) (fun b M R h k => ⟨b, rfl, h, k⟩) (ho q (by simp)).1 (ho q (by simp)).2 ?_
    rw [List.length_cons] at hl
    refine ⟨_, mupd_same, (by have z : sizeLine = 16777216 := sizeLine_eq; omega), ?_⟩
    rw [mupd_idem]
    refine rows_loop r (acc ++ [.str (pT q)]) _ _ _ s hp (by rw [List.length_append, List.length_cons, List.length_nil]; omega) (fun q hq => ho q (by simp [hq])) fun x y z => ?_
    have := k x y z
    simpa using this
theorem pure_law_shown {A : Ad} {n : Nat} {spR : DSp} (hR : ∀ m, n = m + 1 → spR = sp_wr m) (ds M R EX) (h : sp_wr n ds M R EX) : t_law_shown A spR (fun C fs _ M' => WkX EX C fs M') (endsOf R) (startD n_law_shown ds) M := by
  obtain ⟨d, t, rfl, hn, hc, k⟩ := h
  unfold t_law_shown
  simp only [dVar, dC, dOp, dTest, dChain, dAnd, dOr, dNot, dAndV, dOrV, dNotV, dIfE, dNil, dCons, dTup, dLst, dNext, dSeq, dIfS, dRet, dRetN, dExpr, dBrk, dCnt, dSet, dNever, gN, gTp, gLs, gsNil, gsCons, dAsg, dCall, dRaise, dRaiseF, ixD, dSl, slD, dPart, dNoPart, dCB, lenD, minD, maxD, absD, intD, strD, tupleD, listD, dMt, dMt0, tyD, appendD, popD, splitD, countD, dIsi, gSb, setL, dFld, dFldSet, dMeth, dMake, dFldAug, dAug, dPar, dTru, dNeg, augAdd, dDep, dIsC, intI, cmpI, startD, endsOf, List.map_cons, List.map_nil, List.length_cons, List.length_nil, List.replicate, List.getElem?_cons_zero, List.getElem?_cons_succ, List.cons_append, List.nil_append, List.set_cons_zero, List.set_cons_succ, Nat.reduceAdd, Nat.reduceSub]
  cases hc with
  | @pl n w l hw hl =>
    refine ⟨by show 3 ≤ sizeLine; decide, in_strs (ys := PLc) ?_⟩
    rw [decide_eq_true hw]
    have h1 := PL_len hw
    have h2 := hl.len.2.1
    refine add_s (by simp only [List.length_cons, List.length_nil]; omega) (add_s (by simp only [List.length_append, List.length_cons, List.length_nil]; omega) ?_)
    exact brk_run (by omega) (by simp only [List.length_append, List.length_cons, List.length_nil]; omega) (Wk.self k)
  | @lg n a b h =>
    refine ⟨by show 3 ≤ sizeLine; decide, in_strs (ys := PLc) ?_⟩
    refine ⟨some a, rfl, (fun x hx => by cases hx; exact h.1), add_s (by rw [bT_len]; decide) ?_⟩
    refine ⟨b, rfl, (fun x hx => (h.2 x hx).2), add_s (by simp only [List.length_append, bT_len]; decide) ?_⟩
    exact brk_run (by decide) (by simp only [List.length_append, bT_len]; decide) (Wk.self k)
  | @sh n ps h1 h2 h3 =>
    refine ⟨by show 3 ≤ sizeLine; decide, in_strs (ys := PLc) ?_⟩
    rw [show decide (w_shape ∈ PLc) = false from rfl]
    have hj := join_len [59] 20 (ps.map pT) fun t ht => by
      rw [List.mem_map] at ht
      obtain ⟨p, hp, rfl⟩ := ht
      exact pT_len (h3 p hp).1
    rw [List.length_map] at hj
    have e5 : ps.length * (20 + ([59] : List Nat).length) ≤ 5 * 21 := Nat.mul_le_mul h2 (by decide)
    refine ⟨by decide, ?_⟩
    intro p hp
    refine rows_loop (A := A) ps [] _ _ _ _ hp (by rw [List.length_nil]; omega) h3 fun x y z => ?_
    have hs := sum_le 20 (ps.map pT) fun t ht => by
      rw [List.mem_map] at ht
      obtain ⟨p, hp, rfl⟩ := ht
      exact pT_len (h3 p hp).1
    rw [List.length_map] at hs
    refine ⟨trivial, ps.map pT, M, ?_, msub_new hp, ?_, ?_⟩
    · rw [mupd_same, List.nil_append, List.map_map]; rfl
    · rw [List.length_map]
      have : ps.length * ([59] : List Nat).length ≤ 5 * 1 := Nat.mul_le_mul h2 (by decide)
      omega
    · exact brk_run (by decide) (by omega) (Wk.self k)
  | @tr n ss h =>
    refine ⟨by show 3 ≤ sizeLine; decide, in_strs (ys := PLc) ?_⟩
    rw [show decide (w_tries ∈ PLc) = false from rfl]
    refine ⟨trivial, ?_⟩
    refine join_tup (s := [44]) (by decide) (by rw [h.2.1]; decide) (fun t ht => by have := (h.2.2 t ht).1; omega) ?_
    have hj := join_len [44] 10 ss fun t ht => (h.2.2 t ht).1
    rw [h.2.1] at hj
    exact brk_run (by decide) (by have : ([44] : List Nat).length = 1 := rfl; omega) (Wk.self k)
  | @no m c t hc =>
    refine ⟨by show 3 ≤ sizeLine; decide, in_strs (ys := PLc) ?_⟩
    have hl := hc.len
    have hp := pow_le (n := m) (by omega)
    rw [hR m rfl]
    exact ⟨c, t, rfl, by omega, hc, brk_run (by decide) (by omega) (Wk.self k)⟩
  | @many m w cts hw hl hc =>
    refine ⟨by show 3 ≤ sizeLine; decide, in_strs (ys := PLc) ?_⟩
    have hp := pow_le (n := m) (by omega)
    have hj := join_len [59] 7200 (cts.map (·.2)) fun t ht => by
      rw [List.mem_map] at ht
      obtain ⟨x, hx, rfl⟩ := ht
      have := (hc x hx).len
      omega
    rw [List.length_map] at hj
    have e5 : cts.length * (7200 + ([59] : List Nat).length) ≤ 4 * 7201 := Nat.mul_le_mul hl (by decide)
    have hw4 := AS_len hw
    have nw : ∀ u : List Nat, u ∉ [w_all, w_some] → ¬ w = u := fun u hu z => hu (z ▸ hw)
    rw [decide_eq_false (show ¬ w ∈ PLc from fun z => by
      simp only [List.mem_cons, List.not_mem_nil, or_false] at hw
      rcases hw with rfl | rfl <;> revert z <;> decide)]
    show (match decide (w = w_long) with | true => _ | false => _)
    rw [decide_eq_false (nw _ (by decide))]
    show (match decide (w = w_shape) with | true => _ | false => _)
    rw [decide_eq_false (nw _ (by decide))]
    show (match decide (w = w_tries) with | true => _ | false => _)
    rw [decide_eq_false (nw _ (by decide))]
    show (match decide (w = w_no) with | true => _ | false => _)
    rw [decide_eq_false (nw _ (by decide))]
    refine ⟨trivial, ?_⟩
    intro D0 hD
    refine join_lc (b := 7200) hD (by omega) (by decide) (fun x hx => ?_) (by decide) (fun _ => trivial) (fun x hx acc R' hR' => ?_) (fun x ρ ρ' M P Q h k => h _ _ k) ?_
    · have := (hc x hx).len
      omega
    · show spR [x.1] _ _ _
      rw [hR m rfl]
      exact ⟨x.1, x.2, rfl, by omega, hc x hx, hR'⟩
    · exact brk_run (by omega) (by omega) (Wk.self k)
def lnR (ss : List (List Nat)) : List Nat := [114, 101, 97, 100, 101, 114, 32] ++ joinL [32] ss
def lnC (t : List Nat) : List Nat := [99, 104, 101, 99, 107, 32] ++ t
def sp_law_lines (_ : Ad) : DSp := fun ds M Q _ => ∃ c ss t, ds = [c, .tup (ss.map D.str)] ∧ CF 2 c t ∧ ORd ss ∧ ∀ p, M p = none → Q (.ref p) (mupd M p (.lst [.str (lnR ss), .str (lnC t)]))
def t_law_lines (A : Ad) : DS := dRet (dLst (dCons (dOp addD (dC (.str [114, 101, 97, 100, 101, 114, 32])) (dMt "str" joinD (dC (.str [32])) (dCons (dVar 1) (dNil)))) (dCons (dOp addD (dC (.str [99, 104, 101, 99, 107, 32])) (dCall (sp_wr 2) (dCons (dVar 0) (dNil)))) (dNil))))
abbrev n_law_lines : List Str := ["_law_check_here", "_law_reader_here"]
theorem pure_law_lines {A : Ad} (ds M R EX) (h : sp_law_lines A ds M R EX) : t_law_lines A (fun C fs _ M' => WkX EX C fs M') (endsOf R) (startD n_law_lines ds) M := by
  obtain ⟨c, ss, t, rfl, hc, hs, k⟩ := h
  unfold t_law_lines
  simp only [dVar, dC, dOp, dTest, dChain, dAnd, dOr, dNot, dAndV, dOrV, dNotV, dIfE, dNil, dCons, dTup, dLst, dNext, dSeq, dIfS, dRet, dRetN, dExpr, dBrk, dCnt, dSet, dNever, gN, gTp, gLs, gsNil, gsCons, dAsg, dCall, dRaise, dRaiseF, ixD, dSl, slD, dPart, dNoPart, dCB, lenD, minD, maxD, absD, intD, strD, tupleD, listD, dMt, dMt0, tyD, appendD, popD, splitD, countD, dIsi, gSb, setL, dFld, dFldSet, dMeth, dMake, dFldAug, dAug, dPar, dTru, dNeg, augAdd, dDep, dIsC, intI, cmpI, startD, endsOf, List.map_cons, List.map_nil, List.length_cons, List.length_nil, List.replicate, List.getElem?_cons_zero, List.getElem?_cons_succ, List.cons_append, List.nil_append, List.set_cons_zero, List.set_cons_succ, Nat.reduceAdd, Nat.reduceSub]
  have hj := hs.join
  have ht := hc.len
  have hp := pow_le (n := 2) (by omega)
  refine ⟨trivial, join_tup (s := [32]) (by decide) (by rw [hs.2.1]; decide) (fun t ht => by have := (hs.2.2 t ht).1; omega) ?_⟩
  refine add_s (by simp only [List.length_cons, List.length_nil]; omega) ?_
  refine ⟨c, t, rfl, by omega, hc, add_s (by simp only [List.length_cons, List.length_nil]; omega) ⟨by show 2 ≤ sizeLine; decide, fun p hp => Wk.self (k p hp)⟩⟩
end DL

set_option Elab.async false
set_option linter.all false
set_option maxRecDepth 100000
set_option maxHeartbeats 1000000
namespace DL
open PySem L2
structure Dr (M : DM) (x L : Addr) (ns : List Int) (i : Nat) (c s : Int) : Prop where
  mx : M x = some (.lst [.ref L, .int (i : Nat), .int c, .int s])
  mL : M L = some (.lst (ns.map D.int))
  ne : L ≠ x
  c0 : 0 ≤ c
  s0 : 0 ≤ s ∧ s < 2147483647
  nl : ns.length ≤ 100
def DrawsAt (M : DM) (x : Addr) : Prop := ∃ L ns i c s, Dr M x L ns i c s
theorem Dr.put {M : DM} {x L : Addr} {ns : List Int} {i : Nat} {c s : Int} (h : Dr M x L ns i c s) (i2 : Nat) (c2 s2 : Int) (hc : 0 ≤ c2) (hs : 0 ≤ s2 ∧ s2 < 2147483647) : Dr (mupd M x (.lst [.ref L, .int (i2 : Nat), .int c2, .int s2])) x L ns i2 c2 s2 :=
  ⟨mupd_same, by rw [mupd_ne h.ne]; exact h.mL, h.ne, hc, hs, h.nl⟩
def sp_law_begin (_ : Ad) : DSp := fun ds M Q _ => ∃ (a : Addr) (ns : List Int), ds = [.ref a] ∧ M a = some (.lst (ns.map D.int)) ∧ ns.length ≤ 100 ∧ ∀ x M', MSub M M' → M x = none → DrawsAt M' x → Q (.ref x) M'
def t_law_begin (A : Ad) : DS := dRet (dLst (dCons (dCB listD (dCons (dVar 0) (dNil))) (dCons (dC (.int 0)) (dCons (dC (.int 0)) (dCons (dC (.int 7)) (dNil))))))
abbrev n_law_begin : List Str := ["_law_script"]
theorem pure_law_begin {A : Ad} (ds M R EX) (h : sp_law_begin A ds M R EX) : t_law_begin A (fun C fs _ M' => WkX EX C fs M') (endsOf R) (startD n_law_begin ds) M := by
  obtain ⟨a, ns, rfl, e, hn, k⟩ := h
  unfold t_law_begin
  simp only [dVar, dC, dOp, dTest, dChain, dAnd, dOr, dNot, dAndV, dOrV, dNotV, dIfE, dNil, dCons, dTup, dLst, dNext, dSeq, dIfS, dRet, dRetN, dExpr, dBrk, dCnt, dSet, dNever, gN, gTp, gLs, gsNil, gsCons, dAsg, dCall, dRaise, dRaiseF, ixD, dSl, slD, dPart, dNoPart, dCB, lenD, minD, maxD, absD, intD, strD, tupleD, listD, dMt, dMt0, tyD, appendD, popD, splitD, countD, dIsi, gSb, setL, dFld, dFldSet, dMeth, dMake, dFldAug, dAug, dPar, dTru, dNeg, augAdd, dDep, dIsC, intI, cmpI, startD, endsOf, List.map_cons, List.map_nil, List.length_cons, List.length_nil, List.replicate, List.getElem?_cons_zero, List.getElem?_cons_succ, List.cons_append, List.nil_append, List.set_cons_zero, List.set_cons_succ, Nat.reduceAdd, Nat.reduceSub]
  refine ⟨_, e, fun L hL => ⟨by show 4 ≤ sizeLine; decide, fun x hx => Wk.self ?_⟩⟩
  have ne : L ≠ x := fun z => by subst z; rw [mupd_same] at hx; cases hx
  exact k x _ ((msub_new hL).tr (msub_new hx)) (msub_none (msub_new hL) hx) ⟨L, ns, 0, 0, 7, mupd_same, by rw [mupd_ne ne, mupd_same], ne, by decide, by decide, hn⟩
def LOf (M : DM) (x L : Addr) : Prop := ∃ a b c, M x = some (.lst [.ref L, a, b, c])
def LK (M : DM) (x : Addr) (l : List D) : Prop := ∀ L, LOf M x L → LOf (mupd M x (.lst l)) x L
theorem Dr.lk {M : DM} {x L : Addr} {ns : List Int} {i : Nat} {c s : Int} (h : Dr M x L ns i c s) (u v w : D) : LK M x [.ref L, u, v, w] := fun L2 ⟨a, b, d, e⟩ => by
  rw [h.mx] at e
  cases e
  exact ⟨u, v, w, mupd_same⟩
def spDraw (n : Nat) (x : Addr) (M : DM) (Q : DQ) : Prop := ∀ (r : Nat) (l : List D), r < n → DrawsAt (mupd M x (.lst l)) x → LK M x l → Q (.int (r : Nat)) (mupd M x (.lst l))
def sp_law_draw (_ : Ad) : DSp := fun ds M Q _ => ∃ x n, ds = [.ref x, .int (n : Nat)] ∧ 0 < n ∧ n < 1000000 ∧ DrawsAt M x ∧ spDraw n x M Q
def t_law_draw (A : Ad) : DS := dSeq (dIfS (dTest (dOp eqD (dOp ixD (dVar 0) (dC (.int 2))) (dC (.int 0)))) (dIfS (dTest (dOp ltD (dOp ixD (dVar 0) (dC (.int 1))) (dCB lenD (dCons (dOp ixD (dVar 0) (dC (.int 0))) (dNil))))) (dSeq (dSet 3 (dOp ixD (dOp ixD (dVar 0) (dC (.int 0))) (dOp ixD (dVar 0) (dC (.int 1))))) (dSeq (dAsg (dOp addD (dOp ixD (dVar 0) (dC (.int 1))) (dC (.int 1))) (gSb (dVar 0) (dC (.int 1)))) (dIfS (dTest (dOp geD (dVar 3) (dOp powD (dC (.int 10)) (dC (.int 18))))) (dAsg (dVar 3) (gSb (dVar 0) (dC (.int 2)))) (dAsg (dOp modD (dCB intD (dCons (dOp addD (dOp addD (dOp mulD (dOp ixD (dVar 0) (dC (.int 3))) (dC (.int 48271))) (dOp mulD (dVar 3) (dC (.int 69621)))) (dC (.int 11))) (dNil))) (dC (.int 2147483647))) (gSb (dVar 0) (dC (.int 3))))))) (dAsg (dOp modD (dCB intD (dCons (dOp addD (dOp mulD (dOp ixD (dVar 0) (dC (.int 3))) (dC (.int 48271))) (dC (.int 7))) (dNil))) (dC (.int 2147483647))) (gSb (dVar 0) (dC (.int 3))))) (dNext)) (dSeq (dIfS (dTest (dOp gtD (dOp ixD (dVar 0) (dC (.int 2))) (dC (.int 0)))) (dSeq (dSet 2 (dOp modD (dCB intD (dCons (dOp ixD (dVar 0) (dC (.int 2))) (dNil))) (dVar 1))) (dSeq (dAsg (dOp fdivD (dOp ixD (dVar 0) (dC (.int 2))) (dVar 1)) (gSb (dVar 0) (dC (.int 2)))) (dRet (dVar 2)))) (dNext)) (dRet (dOp modD (dOp modD (dCB intD (dCons (dOp mulD (dOp ixD (dVar 0) (dC (.int 3))) (dC (.int 16807))) (dNil))) (dC (.int 2147483629))) (dVar 1))))
abbrev n_law_draw : List Str := ["_law_draws", "_law_many", "_law_found", "_law_cell"]
abbrev drTail : DS := dSeq (dIfS (dTest (dOp gtD (dOp ixD (dVar 0) (dC (.int 2))) (dC (.int 0)))) (dSeq (dSet 2 (dOp modD (dCB intD (dCons (dOp ixD (dVar 0) (dC (.int 2))) (dNil))) (dVar 1))) (dSeq (dAsg (dOp fdivD (dOp ixD (dVar 0) (dC (.int 2))) (dVar 1)) (gSb (dVar 0) (dC (.int 2)))) (dRet (dVar 2)))) (dNext)) (dRet (dOp modD (dOp modD (dCB intD (dCons (dOp mulD (dOp ixD (dVar 0) (dC (.int 3))) (dC (.int 16807))) (dNil))) (dC (.int 2147483629))) (dVar 1)))
theorem mod_nat {a : Int} {n : Nat} (h : 0 < n) : ∃ r : Nat, r < n ∧ a % (n : Int) = (r : Int) := by
  have h1 := Int.emod_nonneg a (show (n : Int) ≠ 0 by omega)
  have h2 := Int.emod_lt_of_pos a (show (0 : Int) < n by omega)
  exact ⟨(a % (n : Int)).toNat, by omega, by omega⟩
theorem dr_tail {W : DW} {E : DEnds} {M : DM} {x L : Addr} {ns : List Int} {i : Nat} {c s : Int} {n : Nat} {y z : Option D} (h : Dr M x L ns i c s) (hn : 0 < n) (hn2 : n < 1000000) (k : spDraw n x M E.rt) : drTail W E [some (.ref x), some (.int (n : Nat)), y, z] M := by
  simp only [dVar, dC, dOp, dTest, dChain, dAnd, dOr, dNot, dAndV, dOrV, dNotV, dIfE, dNil, dCons, dTup, dLst, dNext, dSeq, dIfS, dRet, dRetN, dExpr, dBrk, dCnt, dSet, dNever, gN, gTp, gLs, gsNil, gsCons, dAsg, dCall, dRaise, dRaiseF, ixD, dSl, slD, dPart, dNoPart, dCB, lenD, minD, maxD, absD, intD, strD, tupleD, listD, dMt, dMt0, tyD, appendD, popD, splitD, countD, dIsi, gSb, setL, dFld, dFldSet, dMeth, dMake, dFldAug, dAug, dPar, dTru, dNeg, augAdd, dDep, dIsC, intI, cmpI, startD, endsOf, List.map_cons, List.map_nil, List.length_cons, List.length_nil, List.replicate, List.getElem?_cons_zero, List.getElem?_cons_succ, List.cons_append, List.nil_append, List.set_cons_zero, List.set_cons_succ, Nat.reduceAdd, Nat.reduceSub]
  refine ⟨_, _, h.mx, rfl, ?_⟩
  show (match decide (c > 0) with | true => _ | false => _)
  by_cases q : c > 0
  · rw [decide_eq_true q]
    obtain ⟨r, hr, er⟩ := mod_nat (a := c) hn
    refine ⟨_, _, h.mx, rfl, (by omega), _, _, h.mx, rfl, ⟨by omega, by omega⟩, _, 2, h.mx, rfl, ?_⟩
    show E.rt (.int (c % (n : Int))) _
    rw [er]
    exact k r _ hr ⟨L, ns, i, _, s, h.put i (c / (n : Int)) s (Int.ediv_nonneg h.c0 (by omega)) h.s0⟩ (h.lk _ _ _)
  · rw [decide_eq_false q]
    obtain ⟨r, hr, er⟩ := mod_nat (a := s * 16807 % 2147483629) hn
    refine ⟨_, _, h.mx, rfl, .inr ⟨by decide, by decide⟩, (by decide), (by omega), ?_⟩
    show E.rt (.int (s * 16807 % 2147483629 % (n : Int))) _
    rw [er]
    have := k r [.ref L, .int (i : Nat), .int c, .int s] hr ⟨L, ns, i, c, s, h.put i c s h.c0 h.s0⟩ (h.lk _ _ _)
    rw [mupd_self h.mx] at this
    exact this
theorem pure_law_draw {A : Ad} (ds M R EX) (h : sp_law_draw A ds M R EX) : t_law_draw A (fun C fs _ M' => WkX EX C fs M') (endsOf R) (startD n_law_draw ds) M := by
  obtain ⟨x, n, rfl, hn, hn2, ⟨L, ns, i, c, s, h⟩, k⟩ := h
  have fin : ∀ (M' : DM) (i : Nat) (c s : Int) (l : List D) (y z : Option D), M' = mupd M x (.lst l) → Dr M' x L ns i c s → drTail (fun C fs _ M' => WkX EX C fs M') (endsOf R) [some (.ref x), some (.int (n : Nat)), y, z] M' := fun M' i c s l y z e hd => by
    refine dr_tail hd hn hn2 fun r l2 hr h2 hk2 => Wk.self ?_
    have hk3 : LK M x l2 := fun L2 ⟨a, b, d, e2⟩ => by
      rw [h.mx] at e2
      cases e2
      have := hk2 L ⟨_, _, _, hd.mx⟩
      rw [e, mupd_idem] at this
      exact this
    subst e
    rw [mupd_idem] at h2 ⊢
    exact k r l2 hr h2 hk3
  have md : ∀ a : Int, 0 ≤ a % 2147483647 ∧ a % 2147483647 < 2147483647 := fun a => ⟨Int.emod_nonneg a (by decide), Int.emod_lt_of_pos a (by decide)⟩
  show dSeq _ drTail _ _ _ _
  unfold dSeq
  simp only [dIfS, dTest, dOp, dVar, dC, dCB, dCons, dNil, dNext, lenD, ixD, dSeq, dSet, dAsg, gSb, setL, intD, cmpI, intI, startD, List.map_cons, List.map_nil, List.length_cons, List.length_nil, List.replicate, List.getElem?_cons_zero, List.getElem?_cons_succ, List.cons_append, List.nil_append, List.set_cons_zero, List.set_cons_succ, Nat.reduceAdd, Nat.reduceSub]
  refine ⟨_, _, h.mx, rfl, ?_⟩
  show (match decide (c = 0) with | true => _ | false => _)
  by_cases q : c = 0
  · rw [decide_eq_true q]
    refine ⟨_, _, h.mx, rfl, _, _, h.mx, rfl, _, h.mL, ?_⟩
    show (match decide ((i : Int) < ((ns.map D.int).length : Int)) with | true => _ | false => _)
    by_cases q1 : i < ns.length
    · rw [decide_eq_true (show (i : Int) < ((ns.map D.int).length : Int) by rw [List.length_map]; omega)]
      obtain ⟨v, hv⟩ : ∃ v, ns[i]? = some v := ⟨ns[i], List.getElem?_eq_getElem q1⟩
      have ha : atI (ns.map D.int) (i : Int) = some (.int v) := by
        unfold atI ixN
        rw [if_pos (by omega), if_pos (by rw [List.length_map]; omega)]
        simp [hv]
      have hd2 := h.put (i + 1) c s h.c0 h.s0
      refine ⟨_, _, h.mx, rfl, _, _, h.mx, rfl, _, _, h.mL, ha, _, _, h.mx, rfl, _, 1, h.mx, rfl, ?_⟩
      refine ⟨⟨by decide, by decide, by decide⟩, ?_⟩
      show (match decide (v ≥ 10 ^ 18) with | true => _ | false => _)
      by_cases q2 : v ≥ 10 ^ 18
      · rw [decide_eq_true q2]
        refine ⟨_, 2, hd2.mx, rfl, ?_⟩
        rw [mupd_idem]
        exact fin _ (i + 1) v s _ _ _ rfl (h.put (i + 1) v s (by omega) h.s0)
      · rw [decide_eq_false q2]
        refine ⟨_, _, hd2.mx, rfl, .inr ⟨by decide, by decide⟩, .inr ⟨by decide, by decide⟩, by decide, _, 3, hd2.mx, rfl, ?_⟩
        rw [mupd_idem]
        exact fin _ (i + 1) c _ _ _ _ rfl (h.put (i + 1) c ((s * 48271 + v * 69621 + 11) % 2147483647) h.c0 (md _))
    · rw [decide_eq_false (show ¬ (i : Int) < ((ns.map D.int).length : Int) by rw [List.length_map]; omega)]
      refine ⟨_, _, h.mx, rfl, .inr ⟨by decide, by decide⟩, by decide, _, 3, h.mx, rfl, ?_⟩
      exact fin _ i c _ _ _ _ rfl (h.put i c ((s * 48271 + 7) % 2147483647) h.c0 (md _))
  · rw [decide_eq_false q]
    exact fin M i c s [.ref L, .int (i : Nat), .int c, .int s] _ _ (mupd_self h.mx).symm h
end DL

set_option Elab.async false
set_option linter.all false
set_option maxRecDepth 100000
set_option maxHeartbeats 1000000
namespace DL
open PySem L2
structure At (M : DM) (x : Addr) (M' : DM) : Prop where
  d : DrawsAt M' x
  k : ∀ b o, b ≠ x → M b = some o → M' b = some o
  l : ∀ L, LOf M x L → LOf M' x L
theorem At.self {M : DM} {x : Addr} (h : DrawsAt M x) : At M x M := ⟨h, fun _ _ _ e => e, fun _ h => h⟩
theorem At.tr {M M1 M2 : DM} {x : Addr} (a : At M x M1) (b : At M1 x M2) : At M x M2 := ⟨b.d, fun c o n e => b.k c o n (a.k c o n e), fun L h => b.l L (a.l L h)⟩
theorem DrawsAt.some {M : DM} {x : Addr} (h : DrawsAt M x) : ∃ o, M x = some o := let ⟨_, _, _, _, _, d⟩ := h; ⟨_, d.mx⟩
theorem DrawsAt.new {M : DM} {x p : Addr} {o : MO} (h : DrawsAt M x) (hp : M p = none) : DrawsAt (mupd M p o) x := by
  obtain ⟨L, ns, i, c, s, d⟩ := h
  exact ⟨L, ns, i, c, s, msub_new hp _ _ d.mx, msub_new hp _ _ d.mL, d.ne, d.c0, d.s0, d.nl⟩
theorem LOf.new {M : DM} {x L p : Addr} {o : MO} (h : LOf M x L) (hp : M p = none) : LOf (mupd M p o) x L := let ⟨a, b, c, e⟩ := h; ⟨a, b, c, msub_new hp _ _ e⟩
theorem At.new {M M1 : DM} {x p : Addr} {o : MO} (h : At M x M1) (hp : M1 p = none) : At M x (mupd M1 p o) := ⟨h.d.new hp, fun b u n e => msub_new hp _ _ (h.k b u n e), fun L q => (h.l L q).new hp⟩
theorem At.old {M M' : DM} {x p : Addr} {o : MO} (h : At (mupd M p o) x M') (hp : M p = none) : At M x M' := ⟨h.d, fun b u n e => h.k b u n (msub_new hp _ _ e), fun L q => h.l L (q.new hp)⟩
theorem At.put {M M1 : DM} {x p : Addr} {o : MO} (h : At M x M1) (hd : DrawsAt M x) (hp : M p = none) : At M x (mupd M1 p o) := by
  obtain ⟨L0, ns0, i0, c0, s0, d0⟩ := hd
  obtain ⟨L, ns, i, c, s, d⟩ := h.d
  have hx : x ≠ p := fun z => by subst z; rw [d0.mx] at hp; cases hp
  have hL0 : L0 ≠ p := fun z => by subst z; rw [d0.mL] at hp; cases hp
  obtain ⟨_, _, _, e⟩ := h.l L0 ⟨_, _, _, d0.mx⟩
  rw [d.mx] at e
  cases e
  refine ⟨⟨L0, ns, i, c, s, by rw [mupd_ne hx]; exact d.mx, by rw [mupd_ne hL0]; exact d.mL, d.ne, d.c0, d.s0, d.nl⟩, fun b u n e => ?_, fun L2 q => ?_⟩
  · have hb : b ≠ p := fun z => by subst z; rw [hp] at e; cases e
    rw [mupd_ne hb]; exact h.k b u n e
  · obtain ⟨u, v, w, e⟩ := h.l L2 q
    exact ⟨u, v, w, by rw [mupd_ne hx]; exact e⟩
theorem draw_call {A : Ad} {M : DM} {x : Addr} {n : Nat} {R : DQ} {E : DX} (h : DrawsAt M x) (hn : 0 < n) (hn2 : n < 1000000) (k : ∀ (r : Nat) M', r < n → At M x M' → R (.int (r : Nat)) M') : sp_law_draw A [.ref x, .int (n : Nat)] M R E :=
  ⟨x, n, rfl, hn, hn2, h, fun r l hr hd hk => k r _ hr ⟨hd, (fun b o n e => by rw [mupd_ne n]; exact e), hk⟩⟩
theorem atI_nat {xs : List D} {r : Nat} (h : r < xs.length) : ∃ d, d ∈ xs ∧ atI xs (r : Int) = some d := by
  refine ⟨xs[r], List.getElem_mem h, ?_⟩
  unfold atI ixN
  rw [if_pos (by omega), if_pos (by omega)]
  simp [h]
theorem pick {A : Ad} {M : DM} {x : Addr} {xs : List D} {n : Nat} {R : DQ} {E : DX} (h : DrawsAt M x) (hn : n = xs.length) (h0 : 0 < n) (hn2 : n < 1000000) (k : ∀ d M', d ∈ xs → At M x M' → R d M') :
    ∀ p, M p = none → sp_law_draw A [.ref x, .int (n : Nat)] (mupd M p (.lst xs)) (fun y M2 => ixD (.ref p) y M2 R) E := by
  intro p hp
  refine draw_call (h.new hp) h0 hn2 fun r M' hr ha => ?_
  obtain ⟨d, hd, e⟩ := atI_nat (xs := xs) (r := r) (by omega)
  have ne : p ≠ x := fun z => by subst z; obtain ⟨o, e⟩ := h.some; rw [hp] at e; cases e
  refine ⟨xs, d, ha.k p _ ne mupd_same, e, k d M' hd (ha.old hp)⟩
def sp_law_reader (_ : Ad) : DSp := fun ds M Q _ => ∃ x, ds = [.ref x] ∧ DrawsAt M x ∧ ∀ ss M', ORd ss → At M x M' → Q (.tup (ss.map D.str)) M'
def t_law_reader (A : Ad) : DS := dSeq (dSet 1 (dOp ixD (dLst (dCons (dC (.str [110, 111, 110, 101])) (dCons (dC (.str [102, 114, 101, 101])) (dCons (dC (.str [101, 105, 103, 104, 116])) (dNil))))) (dCall (sp_law_draw A) (dCons (dVar 0) (dCons (dC (.int 3)) (dNil)))))) (dSeq (dSet 2 (dOp ixD (dLst (dCons (dC (.str [110, 111, 110, 101])) (dCons (dC (.str [110, 111, 110, 101])) (dCons (dC (.str [115, 105, 110, 103, 108, 101])) (dCons (dC (.str [102, 114, 101, 101])) (dNil)))))) (dCall (sp_law_draw A) (dCons (dVar 0) (dCons (dC (.int 4)) (dNil)))))) (dSeq (dSet 3 (dOp ixD (dLst (dCons (dC (.str [110, 111, 110, 101])) (dCons (dC (.str [112, 97, 114, 116])) (dCons (dC (.str [108, 111, 111, 115, 101])) (dCons (dC (.str [114, 111, 119, 115])) (dNil)))))) (dCall (sp_law_draw A) (dCons (dVar 0) (dCons (dC (.int 4)) (dNil)))))) (dSeq (dIfS (dTest (dOp eqD (dVar 1) (dC (.str [101, 105, 103, 104, 116])))) (dSet 3 (dC (.str [110, 111, 110, 101]))) (dNext)) (dSeq (dIfS (dTest (dOp eqD (dVar 3) (dC (.str [114, 111, 119, 115])))) (dSet 2 (dC (.str [110, 111, 110, 101]))) (dNext)) (dSeq (dSet 4 (dOp ixD (dLst (dCons (dC (.str [110, 111, 110, 101])) (dCons (dC (.str [101, 110, 100, 115])) (dNil)))) (dCall (sp_law_draw A) (dCons (dVar 0) (dCons (dC (.int 2)) (dNil)))))) (dSeq (dSet 5 (dOp ixD (dLst (dCons (dC (.str [110, 111, 110, 101])) (dCons (dC (.str [109, 105, 110, 117, 115])) (dCons (dC (.str [98, 111, 116, 104])) (dNil))))) (dCall (sp_law_draw A) (dCons (dVar 0) (dCons (dC (.int 3)) (dNil)))))) (dRet (dTup (dCons (dVar 4) (dCons (dVar 5) (dCons (dVar 1) (dCons (dVar 2) (dCons (dVar 3) (dCons (dOp ixD (dLst (dCons (dC (.str [112, 108, 97, 105, 110])) (dCons (dC (.str [97, 108, 108])) (dNil)))) (dCall (sp_law_draw A) (dCons (dVar 0) (dCons (dC (.int 2)) (dNil))))) (dNil)))))))))))))))
abbrev n_law_reader : List Str := ["_law_draws", "_law_noughts", "_law_under", "_law_point", "_law_blanks", "_law_sign"]
def AWc : List (List Nat) := [o_none, [101, 110, 100, 115], [109, 105, 110, 117, 115], [98, 111, 116, 104], [102, 114, 101, 101], o_eight, [115, 105, 110, 103, 108, 101], [112, 97, 114, 116], [108, 111, 111, 115, 101], o_rows, [112, 108, 97, 105, 110], [97, 108, 108]]
theorem AW_ok : ∀ s ∈ AWc, s.length ≤ 10 ∧ ∀ c ∈ s, c ∈ SMc := by decide +kernel
theorem OP_sub : ∀ o ∈ OPc, ∀ s ∈ o, s ∈ AWc := by decide +kernel
theorem ORd_of {a b c d e f : List Nat} (ha : a ∈ OPc.getD 0 []) (hb : b ∈ OPc.getD 1 []) (hc : c ∈ OPc.getD 2 []) (hd : d ∈ OPc.getD 3 []) (he : e ∈ OPc.getD 4 []) (hf : f ∈ OPc.getD 5 []) (h1 : c = o_eight → e = o_none) (h2 : e = o_rows → d = o_none) : ORd [a, b, c, d, e, f] := by
  refine ⟨?_, rfl, ?_⟩
  · show rf (.tup [.str a, .str b, .str c, .str d, .str e, .str f]) = none
    have z : bad1 0 [.str a, .str b, .str c, .str d, .str e, .str f] OPc = none := by
      have t : ∀ {s : List Nat} {o : List (List Nat)} {i : Nat} {ds : List D} {os : List (List (List Nat))}, s ∈ o → bad1 i (.str s :: ds) (o :: os) = bad1 (i + 1) ds os := fun {s o _ _ _} h => by
        simp only [bad1]; rw [if_pos (show okO (.str s) o = true from decide_eq_true h)]
      exact (t ha).trans ((t hb).trans ((t hc).trans ((t hd).trans ((t he).trans (t hf)))))
    simp only [rf, z]
    rw [if_neg (fun q => q.2 (h1 q.1)), if_neg (fun q => q.2 (h2 q.1))]
  · intro s hs
    refine AW_ok s ?_
    simp only [List.mem_cons, List.not_mem_nil, or_false] at hs
    rcases hs with rfl | rfl | rfl | rfl | rfl | rfl
    · exact OP_sub _ (by decide) _ ha
    · exact OP_sub _ (by decide) _ hb
    · exact OP_sub _ (by decide) _ hc
    · exact OP_sub _ (by decide) _ hd
    · exact OP_sub _ (by decide) _ he
    · exact OP_sub _ (by decide) _ hf
theorem mem_str {xs : List (List Nat)} {d : D} (h : d ∈ xs.map D.str) : ∃ s, s ∈ xs ∧ d = .str s := by
  rw [List.mem_map] at h
  obtain ⟨s, hs, e⟩ := h
  exact ⟨s, hs, e.symm⟩
theorem pure_law_reader {A : Ad} (ds M R EX) (h : sp_law_reader A ds M R EX) : t_law_reader A (fun C fs _ M' => WkX EX C fs M') (endsOf R) (startD n_law_reader ds) M := by
  obtain ⟨x, rfl, hd, k⟩ := h
  unfold t_law_reader
  simp only [dVar, dC, dOp, dTest, dChain, dAnd, dOr, dNot, dAndV, dOrV, dNotV, dIfE, dNil, dCons, dTup, dLst, dNext, dSeq, dIfS, dRet, dRetN, dExpr, dBrk, dCnt, dSet, dNever, gN, gTp, gLs, gsNil, gsCons, dAsg, dCall, dRaise, dRaiseF, dSl, slD, dPart, dNoPart, dCB, lenD, minD, maxD, absD, intD, strD, tupleD, listD, dMt, dMt0, tyD, appendD, popD, splitD, countD, dIsi, gSb, setL, dFld, dFldSet, dMeth, dMake, dFldAug, dAug, dPar, dTru, dNeg, augAdd, dDep, dIsC, intI, cmpI, startD, endsOf, List.map_cons, List.map_nil, List.length_cons, List.length_nil, List.replicate, List.getElem?_cons_zero, List.getElem?_cons_succ, List.cons_append, List.nil_append, List.set_cons_zero, List.set_cons_succ, Nat.reduceAdd, Nat.reduceSub]
  refine ⟨by show 3 ≤ sizeLine; decide, pick (n := 3) hd rfl (by decide) (by decide) fun d M1 h1 a1 => ?_⟩
  obtain ⟨c, hc, rfl⟩ := mem_str (xs := OPc.getD 2 []) h1
  refine ⟨by show 4 ≤ sizeLine; decide, pick (n := 4) a1.d rfl (by decide) (by decide) fun d M2 h2 a2 => ?_⟩
  obtain ⟨u, hu, rfl⟩ := mem_str (xs := [o_none, o_none, [115, 105, 110, 103, 108, 101], [102, 114, 101, 101]]) h2
  have hu2 : u ∈ OPc.getD 3 [] := (show ∀ u ∈ [o_none, o_none, [115, 105, 110, 103, 108, 101], [102, 114, 101, 101]], u ∈ OPc.getD 3 [] from by decide +kernel) u hu
  refine ⟨by show 4 ≤ sizeLine; decide, pick (n := 4) a2.d rfl (by decide) (by decide) fun d M3 h3 a3 => ?_⟩
  obtain ⟨p, hp, rfl⟩ := mem_str (xs := OPc.getD 4 []) h3
  have a3 := (a1.tr a2).tr a3
  have rest : ∀ (u p : List Nat), u ∈ OPc.getD 3 [] → p ∈ OPc.getD 4 [] → (c = o_eight → p = o_none) → (p = o_rows → u = o_none) → ([D.str o_none, D.str [101, 110, 100, 115]].length ≤ sizeLine ∧ ∀ q, M3 q = none → sp_law_draw A [.ref x, .int 2] (mupd M3 q (.lst [.str o_none, .str [101, 110, 100, 115]])) (fun y M2 => ixD (.ref q) y M2 fun d M1 =>
      [D.str o_none, D.str [109, 105, 110, 117, 115], D.str [98, 111, 116, 104]].length ≤ sizeLine ∧ ∀ q, M1 q = none → sp_law_draw A [.ref x, .int 3] (mupd M1 q (.lst [D.str o_none, D.str [109, 105, 110, 117, 115], D.str [98, 111, 116, 104]])) (fun y M2 => ixD (.ref q) y M2 fun e M1 =>
        [D.str [112, 108, 97, 105, 110], D.str [97, 108, 108]].length ≤ sizeLine ∧ ∀ q, M1 q = none → sp_law_draw A [.ref x, .int 2] (mupd M1 q (.lst [D.str [112, 108, 97, 105, 110], D.str [97, 108, 108]])) (fun y M2 => ixD (.ref q) y M2 fun f M1 => [d, e, .str c, .str u, .str p, f].length ≤ sizeLine ∧ Wk R (.tup [d, e, .str c, .str u, .str p, f]) M1)
          fun C fs M2 => WkX EX C fs M2) fun C fs M2 => WkX EX C fs M2) fun C fs M2 => WkX EX C fs M2) := by
    intro u p hu hp q1 q2
    refine ⟨by show 2 ≤ sizeLine; decide, pick (n := 2) a3.d rfl (by decide) (by decide) fun d M4 h4 a4 => ?_⟩
    obtain ⟨b, hb, rfl⟩ := mem_str (xs := OPc.getD 0 []) h4
    refine ⟨by show 3 ≤ sizeLine; decide, pick (n := 3) a4.d rfl (by decide) (by decide) fun d M5 h5 a5 => ?_⟩
    obtain ⟨s, hs, rfl⟩ := mem_str (xs := OPc.getD 1 []) h5
    refine ⟨by show 2 ≤ sizeLine; decide, pick (n := 2) a5.d rfl (by decide) (by decide) fun d M6 h6 a6 => ?_⟩
    obtain ⟨f, hf, rfl⟩ := mem_str (xs := OPc.getD 5 []) h6
    exact ⟨by show 6 ≤ sizeLine; decide, Wk.self (k [b, s, c, u, p, f] M6 (ORd_of hb hs hc hu hp hf q1 q2) (((a3.tr a4).tr a5).tr a6))⟩
  show (match decide (c = o_eight) with | true => _ | false => _)
  by_cases q1 : c = o_eight
  · rw [decide_eq_true q1]
    exact rest u o_none hu2 (by decide) (fun _ => rfl) (fun z => absurd z (by decide))
  · rw [decide_eq_false q1]
    show (match decide (p = o_rows) with | true => _ | false => _)
    by_cases q2 : p = o_rows
    · rw [decide_eq_true q2]
      exact rest o_none p (by decide) hp (fun z => absurd z q1) (fun _ => rfl)
    · rw [decide_eq_false q2]
      exact rest u p hu2 hp (fun z => absurd z q1) (fun z => absurd z q2)
def LTc : List (List Nat) := [[48, 49, 56], [48], [45], [43, 45], [48, 49, 56, 116], [32], [46], [49], [48, 49, 56, 95], [56, 116], [32, 43, 45, 46, 48, 49, 56, 95, 116]]
theorem LT_ok : ∀ l ∈ LTc, OKL l := by unfold OKL; decide +kernel
def sp_law_letters (_ : Ad) : DSp := fun ds M Q _ => ∃ x, ds = [.ref x] ∧ DrawsAt M x ∧ ∀ l M', OKL l → At M x M' → Q (.str l) M'
def t_law_letters (A : Ad) : DS := dRet (dOp ixD (dLst (dCons (dC (.str [48, 49, 56])) (dCons (dC (.str [48])) (dCons (dC (.str [45])) (dCons (dC (.str [43, 45])) (dCons (dC (.str [48, 49, 56, 116])) (dCons (dC (.str [32])) (dCons (dC (.str [46])) (dCons (dC (.str [49])) (dCons (dC (.str [48, 49, 56, 95])) (dCons (dC (.str [56, 116])) (dCons (dC (.str [32, 43, 45, 46, 48, 49, 56, 95, 116])) (dNil))))))))))))) (dCall (sp_law_draw A) (dCons (dVar 0) (dCons (dC (.int 11)) (dNil)))))
abbrev n_law_letters : List Str := ["_law_draws"]
theorem pure_law_letters {A : Ad} (ds M R EX) (h : sp_law_letters A ds M R EX) : t_law_letters A (fun C fs _ M' => WkX EX C fs M') (endsOf R) (startD n_law_letters ds) M := by
  obtain ⟨x, rfl, hd, k⟩ := h
  unfold t_law_letters
  simp only [dVar, dC, dOp, dTest, dChain, dAnd, dOr, dNot, dAndV, dOrV, dNotV, dIfE, dNil, dCons, dTup, dLst, dNext, dSeq, dIfS, dRet, dRetN, dExpr, dBrk, dCnt, dSet, dNever, gN, gTp, gLs, gsNil, gsCons, dAsg, dCall, dRaise, dRaiseF, dSl, slD, dPart, dNoPart, dCB, lenD, minD, maxD, absD, intD, strD, tupleD, listD, dMt, dMt0, tyD, appendD, popD, splitD, countD, dIsi, gSb, setL, dFld, dFldSet, dMeth, dMake, dFldAug, dAug, dPar, dTru, dNeg, augAdd, dDep, dIsC, intI, cmpI, startD, endsOf, List.map_cons, List.map_nil, List.length_cons, List.length_nil, List.replicate, List.getElem?_cons_zero, List.getElem?_cons_succ, List.cons_append, List.nil_append, List.set_cons_zero, List.set_cons_succ, Nat.reduceAdd, Nat.reduceSub]
  refine ⟨by show 11 ≤ sizeLine; decide, pick (n := 11) hd rfl (by decide) (by decide) fun d M1 h1 a1 => ?_⟩
  obtain ⟨l, hl, rfl⟩ := mem_str (xs := LTc) h1
  exact Wk.self (k l M1 (LT_ok l hl) a1)
def sp_law_bounds (_ : Ad) : DSp := fun ds M Q _ => ∃ x, ds = [.ref x] ∧ DrawsAt M x ∧ ∀ (a : Nat) (b : Option Nat) p M', a ≤ 3 → OKB a b → At M x M' → M' p = none → Q (.ref p) (mupd M' p (.lst [.int (a : Nat), bD b]))
def t_law_bounds (A : Ad) : DS := dSeq (dSet 1 (dCall (sp_law_draw A) (dCons (dVar 0) (dCons (dC (.int 4)) (dNil))))) (dRet (dLst (dCons (dVar 1) (dCons (dOp ixD (dLst (dCons (dC .non) (dCons (dVar 1) (dCons (dOp addD (dVar 1) (dC (.int 1))) (dCons (dOp addD (dVar 1) (dC (.int 2))) (dNil)))))) (dCall (sp_law_draw A) (dCons (dVar 0) (dCons (dC (.int 4)) (dNil))))) (dNil)))))
abbrev n_law_bounds : List Str := ["_law_draws", "_law_a"]
theorem pure_law_bounds {A : Ad} (ds M R EX) (h : sp_law_bounds A ds M R EX) : t_law_bounds A (fun C fs _ M' => WkX EX C fs M') (endsOf R) (startD n_law_bounds ds) M := by
  obtain ⟨x, rfl, hd, k⟩ := h
  unfold t_law_bounds
  simp only [dVar, dC, dOp, dTest, dChain, dAnd, dOr, dNot, dAndV, dOrV, dNotV, dIfE, dNil, dCons, dTup, dLst, dNext, dSeq, dIfS, dRet, dRetN, dExpr, dBrk, dCnt, dSet, dNever, gN, gTp, gLs, gsNil, gsCons, dAsg, dCall, dRaise, dRaiseF, dSl, slD, dPart, dNoPart, dCB, lenD, minD, maxD, absD, intD, strD, tupleD, listD, dMt, dMt0, tyD, appendD, popD, splitD, countD, dIsi, gSb, setL, dFld, dFldSet, dMeth, dMake, dFldAug, dAug, dPar, dTru, dNeg, augAdd, dDep, dIsC, intI, cmpI, startD, endsOf, List.map_cons, List.map_nil, List.length_cons, List.length_nil, List.replicate, List.getElem?_cons_zero, List.getElem?_cons_succ, List.cons_append, List.nil_append, List.set_cons_zero, List.set_cons_succ, Nat.reduceAdd, Nat.reduceSub]
  refine draw_call (n := 4) hd (by decide) (by decide) fun a M1 ha a1 => ?_
  refine ⟨by show 4 ≤ sizeLine; decide, pick (n := 4) a1.d rfl (by decide) (by decide) fun d M2 h2 a2 => ⟨by show 2 ≤ sizeLine; decide, fun p hp => Wk.self ?_⟩⟩
  have fin : ∀ b, d = bD b → OKB a b → R (.ref p) (mupd M2 p (.lst [.int (a : Nat), d])) := fun b e hb => by rw [e]; exact k a b p M2 (by omega) hb (a1.tr a2) hp
  simp only [List.mem_cons, List.not_mem_nil, or_false] at h2
  rcases h2 with e | e | e | e
  · exact fin none e ⟨by omega, fun x hx => by cases hx⟩
  · exact fin (some a) e ⟨by omega, fun x hx => by cases hx; omega⟩
  · exact fin (some (a + 1)) (by rw [e]; rfl) ⟨by omega, fun x hx => by cases hx; omega⟩
  · exact fin (some (a + 2)) (by rw [e]; rfl) ⟨by omega, fun x hx => by cases hx; omega⟩
end DL

set_option Elab.async false
set_option linter.all false
set_option maxRecDepth 100000
set_option maxHeartbeats 1000000
namespace DL
open PySem L2
theorem CF.up {n : Nat} {d : D} {t : List Nat} (h : CF 0 d t) : CF n d t := by
  cases h with
  | pl a b => exact .pl a b
  | lg a => exact .lg a
  | sh a b c => exact .sh a b c
  | tr a => exact .tr a
def sp_law_plain (_ : Ad) : DSp := fun ds M Q _ => ∃ x, ds = [.ref x] ∧ DrawsAt M x ∧ ∀ d t M', CF 0 d t → At M x M' → Q d M'
def t_law_plain (A : Ad) : DS := dSeq (dSet 1 (dCall (sp_law_draw A) (dCons (dVar 0) (dCons (dC (.int 7)) (dNil))))) (dSeq (dIfS (dTest (dOp leD (dVar 1) (dC (.int 2)))) (dRet (dTup (dCons (dOp ixD (dLst (dCons (dC (.str [115, 105, 103, 110, 115])) (dCons (dC (.str [98, 101, 103, 105, 110, 115])) (dCons (dC (.str [101, 110, 100, 115])) (dNil))))) (dVar 1)) (dCons (dCall (sp_law_letters A) (dCons (dVar 0) (dNil))) (dNil))))) (dNext)) (dSeq (dIfS (dTest (dOp eqD (dVar 1) (dC (.int 3)))) (dSeq (dAsg (dCall (sp_law_bounds A) (dCons (dVar 0) (dNil))) (gLs 2 (gsCons (gN 2) (gsCons (gN 3) (gsNil))))) (dRet (dTup (dCons (dC (.str [108, 111, 110, 103])) (dCons (dVar 2) (dCons (dVar 3) (dNil))))))) (dNext)) (dSeq (dIfS (dTest (dOp leD (dVar 1) (dC (.int 5)))) (dSeq (dSet 4 (dLst (dNil))) (dSeq (dFor (dRng1 (dCons (dOp addD (dC (.int 1)) (dCall (sp_law_draw A) (dCons (dVar 0) (dCons (dC (.int 3)) (dNil))))) (dNil))) (gN 5) (dSeq (dAsg (dCall (sp_law_bounds A) (dCons (dVar 0) (dNil))) (gLs 2 (gsCons (gN 2) (gsCons (gN 3) (gsNil))))) (dSeq (dIfS (dTest (dOp gtD (dVar 5) (dC (.int 0)))) (dSeq (dSet 2 (dCB minD (dCons (dVar 2) (dCons (dC (.int 1)) (dNil))))) (dIfS (dTest (dOp isNotD (dVar 3) (dC .non))) (dSet 3 (dCB maxD (dCons (dVar 2) (dCons (dCB minD (dCons (dVar 3) (dCons (dC (.int 2)) (dNil)))) (dNil))))) (dNext))) (dNext)) (dExpr (dMt "list" appendD (dVar 4) (dCons (dTup (dCons (dCall (sp_law_letters A) (dCons (dVar 0) (dNil))) (dCons (dVar 2) (dCons (dVar 3) (dNil))))) (dNil))))))) (dRet (dTup (dCons (dC (.str [115, 104, 97, 112, 101])) (dCons (dCB tupleD (dCons (dVar 4) (dNil))) (dNil))))))) (dNext)) (dRet (dTup (dCons (dC (.str [116, 114, 105, 101, 115])) (dCons (dCall (sp_law_reader A) (dCons (dVar 0) (dNil))) (dNil))))))))
abbrev n_law_plain : List Str := ["_law_draws", "_law_at", "_law_a", "_law_b", "_law_parts", "_law_k"]
abbrev plBody (A : Ad) : DS := dSeq (dAsg (dCall (sp_law_bounds A) (dCons (dVar 0) (dNil))) (gLs 2 (gsCons (gN 2) (gsCons (gN 3) (gsNil))))) (dSeq (dIfS (dTest (dOp gtD (dVar 5) (dC (.int 0)))) (dSeq (dSet 2 (dCB minD (dCons (dVar 2) (dCons (dC (.int 1)) (dNil))))) (dIfS (dTest (dOp isNotD (dVar 3) (dC .non))) (dSet 3 (dCB maxD (dCons (dVar 2) (dCons (dCB minD (dCons (dVar 3) (dCons (dC (.int 2)) (dNil)))) (dNil))))) (dNext))) (dNext)) (dExpr (dMt "list" appendD (dVar 4) (dCons (dTup (dCons (dCall (sp_law_letters A) (dCons (dVar 0) (dNil))) (dCons (dVar 2) (dCons (dVar 3) (dNil))))) (dNil)))))
structure PSt (M : DM) (x p : Addr) (M' : DM) (ps : List (List Nat × Nat × Option Nat)) : Prop where
  at_ : At M x M'
  mp : M' p = some (.lst (ps.map pD))
  ok : ∀ q ∈ ps, OKL q.1 ∧ OKB q.2.1 q.2.2
theorem PSt.add {M M1 M2 : DM} {x p : Addr} {ps : List (List Nat × Nat × Option Nat)} {l : List Nat} {a : Nat} {b : Option Nat} (hs : PSt M x p M1 ps) (hd : DrawsAt M x) (hp : M p = none) (a2 : At M1 x M2) (hl : OKL l) (hb : OKB a b) : PSt M x p (mupd M2 p (.lst (ps.map pD ++ [.tup [.str l, .int (a : Nat), bD b]]))) (ps ++ [(l, a, b)]) :=
  ⟨(hs.at_.tr a2).put hd hp, by rw [mupd_same, List.map_append]; rfl, fun q hq => by
    rcases List.mem_append.mp hq with h | h
    · exact hs.ok q h
    · rw [List.mem_singleton] at h; subst h; exact ⟨hl, hb⟩⟩
theorem pl_loop {A : Ad} {W : DW} {E : DEnds} {M : DM} {x p : Addr} {u : D} (hd : DrawsAt M x) (hp : M p = none) : ∀ (ks : List Nat) (ps : List (List Nat × Nat × Option Nat)) (M1 : DM) (a b z : Option D), PSt M x p M1 ps → ps.length + ks.length ≤ 5 →
    (∀ M2 ps2 a b z, PSt M x p M2 ps2 → ps2.length = ps.length + ks.length → E.nx [some (.ref x), some u, a, b, some (.ref p), z] M2) →
    dLoop (gN 5) (plBody A W) anyM (ks.map fun i => .int (0 + (i : Nat))) E [some (.ref x), some u, a, b, some (.ref p), z] M1
  | [], ps, M1, a, b, z, hs, hl, k => ⟨trivial, k M1 ps a b z hs rfl⟩
  | i :: ks, ps, M1, a, b, z, hs, hl, k => by
    have hpx : p ≠ x := fun z => by subst z; obtain ⟨o, e⟩ := hd.some; rw [hp] at e; cases e
    rw [List.length_cons] at hl
    refine ⟨trivial, ?_⟩
    simp only [dVar, dC, dOp, dTest, dChain, dAnd, dOr, dNot, dAndV, dOrV, dNotV, dIfE, dNil, dCons, dTup, dLst, dNext, dSeq, dIfS, dRet, dRetN, dExpr, dBrk, dCnt, dSet, dNever, gN, gTp, gLs, gsNil, gsCons, dAsg, dCall, dRaise, dRaiseF, ixD, dSl, slD, dPart, dNoPart, dCB, lenD, minD, maxD, absD, intD, strD, tupleD, listD, dMt, dMt0, tyD, appendD, popD, splitD, countD, dIsi, gSb, setL, dFld, dFldSet, dMeth, dMake, dFldAug, dAug, dPar, dTru, dNeg, augAdd, dDep, dIsC, intI, cmpI, startD, endsOf, List.map_cons, List.map_nil, List.length_cons, List.length_nil, List.replicate, List.getElem?_cons_zero, List.getElem?_cons_succ, List.cons_append, List.nil_append, List.set_cons_zero, List.set_cons_succ, Nat.reduceAdd, Nat.reduceSub]
    refine ⟨x, rfl, hs.at_.d, fun a b q M2 ha hb a2 hq => ⟨_, mupd_same, rfl, ?_⟩⟩
    have a3 : At M x (mupd M2 q (.lst [.int (a : Nat), bD b])) := (hs.at_.tr a2).new hq
    have hs2 : PSt M x p (mupd M2 q (.lst [.int (a : Nat), bD b])) ps := ⟨a3, msub_new hq _ _ (a2.k p _ hpx hs.mp), hs.ok⟩
    have nxt : ∀ l M3 a b (ea eb : Option D), PSt M x p M3 (ps ++ [(l, a, b)]) → dLoop (gN 5) (plBody A W) anyM (ks.map fun i => .int (0 + (i : Nat))) E [some (.ref x), some u, ea, eb, some (.ref p), some (.int (0 + (i : Nat)))] M3 := fun l M3 a b ea eb h3 => by
      refine pl_loop hd hp ks (ps ++ [(l, a, b)]) M3 _ _ _ h3 (by rw [List.length_append, List.length_cons, List.length_nil]; omega) fun M4 ps2 a b z h4 h5 => k M4 ps2 a b z h4 ?_
      rw [h5, List.length_append, List.length_cons, List.length_cons, List.length_nil]; omega
    show (match decide ((0 + (i : Int)) > 0) with | true => _ | false => _)
    by_cases q1 : (0 + (i : Int)) > 0
    · rw [decide_eq_true q1]
      have e1 : (if (1 : Int) < (a : Int) then (1 : Int) else (a : Int)) = ((min a 1 : Nat) : Int) := by split <;> omega
      cases b with
      | none =>
        refine ⟨.inl ⟨trivial, _, hs2.mp⟩, x, rfl, hs2.at_.d, fun l M3 hl3 a4 => ⟨by decide, _, a4.k p _ hpx hs2.mp, (by rw [List.length_map]; have z : sizeLine = 16777216 := sizeLine_eq; omega), ?_⟩⟩
        rw [e1]
        exact nxt l _ _ _ _ _ (hs2.add hd hp a4 hl3 (a := min a 1) (b := none) ⟨by omega, fun x hx => by cases hx⟩)
      | some v =>
        have e2 : (if (if (2 : Int) < (v : Int) then (2 : Int) else (v : Int)) > ((min a 1 : Nat) : Int) then (if (2 : Int) < (v : Int) then (2 : Int) else (v : Int)) else ((min a 1 : Nat) : Int)) = ((max (min a 1) (min v 2) : Nat) : Int) := by
          split <;> split <;> omega
        refine ⟨.inl ⟨trivial, _, hs2.mp⟩, x, rfl, hs2.at_.d, fun l M3 hl3 a4 => ⟨by decide, _, a4.k p _ hpx hs2.mp, (by rw [List.length_map]; have z : sizeLine = 16777216 := sizeLine_eq; omega), ?_⟩⟩
        rw [e1, e2]
        exact nxt l _ _ _ _ _ (hs2.add hd hp a4 hl3 (a := min a 1) (b := some (max (min a 1) (min v 2))) ⟨by omega, fun x hx => by cases hx; omega⟩)
    · rw [decide_eq_false q1]
      refine ⟨.inl ⟨trivial, _, hs2.mp⟩, x, rfl, hs2.at_.d, fun l M3 hl3 a4 => ⟨by decide, _, a4.k p _ hpx hs2.mp, (by rw [List.length_map]; have z : sizeLine = 16777216 := sizeLine_eq; omega), ?_⟩⟩
      exact nxt l _ _ _ _ _ (hs2.add hd hp a4 hl3 hb)
theorem pure_law_plain {A : Ad} (ds M R EX) (h : sp_law_plain A ds M R EX) : t_law_plain A (fun C fs _ M' => WkX EX C fs M') (endsOf R) (startD n_law_plain ds) M := by
  obtain ⟨x, rfl, hd, k⟩ := h
  unfold t_law_plain
  simp only [dFor, dRng1, dVar, dC, dOp, dTest, dChain, dAnd, dOr, dNot, dAndV, dOrV, dNotV, dIfE, dNil, dCons, dTup, dLst, dNext, dSeq, dIfS, dRet, dRetN, dExpr, dBrk, dCnt, dSet, dNever, gN, gTp, gLs, gsNil, gsCons, dAsg, dCall, dRaise, dRaiseF, ixD, dSl, slD, dPart, dNoPart, dCB, lenD, minD, maxD, absD, intD, strD, tupleD, listD, dMt, dMt0, tyD, appendD, popD, splitD, countD, dIsi, gSb, setL, dFld, dFldSet, dMeth, dMake, dFldAug, dAug, dPar, dTru, dNeg, augAdd, dDep, dIsC, intI, cmpI, startD, endsOf, List.map_cons, List.map_nil, List.length_cons, List.length_nil, List.replicate, List.getElem?_cons_zero, List.getElem?_cons_succ, List.cons_append, List.nil_append, List.set_cons_zero, List.set_cons_succ, Nat.reduceAdd, Nat.reduceSub]
  refine draw_call (n := 7) hd (by decide) (by decide) fun r M1 hr a1 => ?_
  show (match decide ((r : Int) ≤ 2) with | true => _ | false => _)
  by_cases q1 : r ≤ 2
  · rw [decide_eq_true (show (r : Int) ≤ 2 by omega)]
    refine ⟨by decide, fun p hp => ?_⟩
    obtain ⟨d, hd2, e⟩ := atI_nat (xs := PLc.map D.str) (r := r) (by show r < 3; omega)
    obtain ⟨w, hw, rfl⟩ := mem_str hd2
    refine ⟨_, _, mupd_same, e, x, rfl, a1.d.new hp, fun l M2 hl a2 => ⟨by decide, Wk.self (k _ _ M2 (.pl hw hl) (a1.tr (a2.old hp)))⟩⟩
  rw [decide_eq_false (show ¬ (r : Int) ≤ 2 by omega)]
  show (match decide ((r : Int) = 3) with | true => _ | false => _)
  by_cases q2 : r = 3
  · rw [decide_eq_true (show (r : Int) = 3 by omega)]
    refine ⟨x, rfl, a1.d, fun a b p M2 ha hb a2 hp => ⟨_, mupd_same, rfl, by decide, Wk.self (k _ _ _ (.lg hb) ((a1.tr a2).new hp))⟩⟩
  rw [decide_eq_false (show ¬ (r : Int) = 3 by omega)]
  show (match decide ((r : Int) ≤ 5) with | true => _ | false => _)
  by_cases q3 : r ≤ 5
  · rw [decide_eq_true (show (r : Int) ≤ 5 by omega)]
    refine ⟨by decide, fun p hp => ?_⟩
    refine draw_call (n := 3) (a1.d.new hp) (by decide) (by decide) fun r2 M2 hr2 a2 => ?_
    refine ⟨⟨by omega, by omega⟩, ?_⟩
    rw [show (1 + (r2 : Int)).toNat = 1 + r2 from by omega]
    have hpx : p ≠ x := fun z => by subst z; obtain ⟨o, e⟩ := a1.d.some; rw [hp] at e; cases e
    refine pl_loop (M := M1) a1.d hp (List.range (1 + r2)) [] M2 _ _ _ ⟨a2.old hp, a2.k p _ hpx mupd_same, fun q hq => by cases hq⟩ (by rw [List.length_range, List.length_nil]; omega) fun M3 ps a b z h3 h4 => ?_
    rw [List.length_range, List.length_nil] at h4
    exact ⟨_, M3, h3.mp, fun _ _ e => e, by decide, Wk.self (k _ _ M3 (.sh (by omega) (by omega) h3.ok) (a1.tr h3.at_))⟩
  · rw [decide_eq_false (show ¬ (r : Int) ≤ 5 by omega)]
    exact ⟨x, rfl, a1.d, fun ss M2 hs a2 => ⟨by decide, Wk.self (k _ _ M2 (.tr hs) (a1.tr a2))⟩⟩
def sp_lc (n : Nat) : DSp := fun ds M Q _ => ∃ x, ds = [.ref x, .int (n : Nat)] ∧ n ≤ 2 ∧ DrawsAt M x ∧ ∀ d t M', CF n d t → At M x M' → Q d M'
def t_law_check (A : Ad) (spR : DSp) : DS := dSeq (dSet 2 (dCall (sp_law_draw A) (dCons (dVar 0) (dCons (dC (.int 5)) (dNil))))) (dSeq (dIfS (dOr (dTest (dOp eqD (dVar 1) (dC (.int 0)))) (dTest (dOp leD (dVar 2) (dC (.int 1))))) (dRet (dCall (sp_law_plain A) (dCons (dVar 0) (dNil)))) (dNext)) (dSeq (dIfS (dTest (dOp eqD (dVar 2) (dC (.int 2)))) (dRet (dTup (dCons (dC (.str [110, 111])) (dCons (dCall (spR) (dCons (dVar 0) (dCons (dOp subD (dVar 1) (dC (.int 1))) (dNil)))) (dNil))))) (dNext)) (dRet (dTup (dCons (dOp ixD (dLst (dCons (dC (.str [97, 108, 108])) (dCons (dC (.str [115, 111, 109, 101])) (dNil)))) (dOp subD (dVar 2) (dC (.int 3)))) (dCons (dCB tupleD (dCons (dLc (dRng1 (dCons (dCall (sp_law_draw A) (dCons (dVar 0) (dCons (dC (.int 4)) (dNil)))) (dNil))) (gN 3) (dYes) (dCall (spR) (dCons (dVar 0) (dCons (dOp subD (dVar 1) (dC (.int 1))) (dNil)))) [3]) (dNil))) (dNil)))))))
abbrev n_law_check : List Str := ["_law_draws", "_law_left", "_law_at", "_law_k"]
theorem lc_loop {g : DG} {te : DE} {gd : DM → Prop} {x D0 : Addr} {ρ : Env} {K : DM → Prop} {M : DM} {n : Nat} (hd : DrawsAt M x) (hD : M D0 = none) (hg : ∀ M, gd M)
    (hf : ∀ i M1 (R : DQ), DrawsAt M1 x → (∀ d t M2, CF n d t → At M1 x M2 → R d M2) → g i ρ M1 fun ρ1 M1 => te noW ρ1 M1 R) :
    ∀ (is : List D) (cts : List (D × List Nat)) (M1 : DM), At M x M1 → M1 D0 = some (.lst (cts.map (·.1))) → (∀ q ∈ cts, CF n q.1 q.2) → cts.length + is.length ≤ 100 → (∀ (cts2 : List (D × List Nat)) M2, At M x M2 → M2 D0 = some (.lst (cts2.map (·.1))) → (∀ q ∈ cts2, CF n q.1 q.2) → cts2.length = cts.length + is.length → K M2) → lcF g dYes te gd D0 ρ K is M1
  | [], cts, M1, a1, e, hc, hl, k => ⟨hg _, k cts M1 a1 e hc rfl⟩
  | i :: is, cts, M1, a1, e, hc, hl, k => by
    have hx : D0 ≠ x := fun z => by subst z; obtain ⟨o, e⟩ := hd.some; rw [hD] at e; cases e
    rw [List.length_cons] at hl
    refine ⟨hg _, hf i M1 (fun d M3 => ∃ acc, M3 D0 = some (.lst acc) ∧ acc.length < sizeLine ∧ lcF g dYes te gd D0 ρ K is (mupd M3 D0 (.lst (acc ++ [d])))) a1.d fun d t M2 hc2 a2 => ?_⟩
    refine ⟨_, a2.k D0 _ hx e, (by rw [List.length_map]; have z : sizeLine = 16777216 := sizeLine_eq; omega), ?_⟩
    refine lc_loop hd hD hg hf is (cts ++ [(d, t)]) _ ((a1.tr a2).put hd hD) (by rw [mupd_same, List.map_append]; rfl) (fun q hq => ?_) (by rw [List.length_append, List.length_cons, List.length_nil]; omega) fun cts2 M3 a3 e3 hc3 hl3 => k cts2 M3 a3 e3 hc3 ?_
    · rcases List.mem_append.mp hq with h | h
      · exact hc q h
      · rw [List.mem_singleton] at h; subst h; exact hc2
    · rw [hl3, List.length_append, List.length_cons, List.length_cons, List.length_nil]; omega
theorem pure_law_check {A : Ad} {n : Nat} {spR : DSp} (hR : ∀ m, n = m + 1 → spR = sp_lc m) (ds M R EX) (h : sp_lc n ds M R EX) : t_law_check A spR (fun C fs _ M' => WkX EX C fs M') (endsOf R) (startD n_law_check ds) M := by
  obtain ⟨x, rfl, hn, hd, k⟩ := h
  unfold t_law_check
  simp only [dRng1, dLc, dVar, dC, dOp, dTest, dChain, dAnd, dOr, dNot, dAndV, dOrV, dNotV, dIfE, dNil, dCons, dTup, dLst, dNext, dSeq, dIfS, dRet, dRetN, dExpr, dBrk, dCnt, dSet, dNever, gN, gTp, gLs, gsNil, gsCons, dAsg, dCall, dRaise, dRaiseF, ixD, dSl, slD, dPart, dNoPart, dCB, lenD, minD, maxD, absD, intD, strD, tupleD, listD, dMt, dMt0, tyD, appendD, popD, splitD, countD, dIsi, gSb, setL, dFld, dFldSet, dMeth, dMake, dFldAug, dAug, dPar, dTru, dNeg, augAdd, dDep, dIsC, intI, cmpI, startD, endsOf, List.map_cons, List.map_nil, List.length_cons, List.length_nil, List.replicate, List.getElem?_cons_zero, List.getElem?_cons_succ, List.cons_append, List.nil_append, List.set_cons_zero, List.set_cons_succ, Nat.reduceAdd, Nat.reduceSub]
  refine draw_call (n := 5) hd (by decide) (by decide) fun r M1 hr a1 => ?_
  cases n with
  | zero => exact ⟨x, rfl, a1.d, fun d t M2 hc a2 => Wk.self (k d t M2 hc (a1.tr a2))⟩
  | succ m =>
    have es : ((m + 1 : Nat) : Int) - 1 = (m : Int) := by omega
    show (match decide ((r : Int) ≤ 1) with | true => _ | false => _)
    by_cases q1 : r ≤ 1
    · rw [decide_eq_true (show (r : Int) ≤ 1 by omega)]
      exact ⟨x, rfl, a1.d, fun d t M2 hc a2 => Wk.self (k d t M2 hc.up (a1.tr a2))⟩
    rw [decide_eq_false (show ¬ (r : Int) ≤ 1 by omega)]
    show (match decide ((r : Int) = 2) with | true => _ | false => _)
    by_cases q2 : r = 2
    · rw [decide_eq_true (show (r : Int) = 2 by omega)]
      rw [hR m rfl]
      refine ⟨trivial, x, by rw [es], by omega, a1.d, fun d t M2 hc a2 => ⟨by decide, Wk.self (k _ _ M2 (.no hc) (a1.tr a2))⟩⟩
    rw [decide_eq_false (show ¬ (r : Int) = 2 by omega)]
    refine ⟨by decide, fun p hp => ⟨trivial, ?_⟩⟩
    obtain ⟨d, hd2, e⟩ := atI_nat (xs := [w_all, w_some].map D.str) (r := r - 3) (by show r - 3 < 2; omega)
    obtain ⟨w, hw, rfl⟩ := mem_str hd2
    rw [show (((r - 3 : Nat) : Nat) : Int) = (r : Int) - 3 from by omega] at e
    refine ⟨_, _, mupd_same, e, ?_⟩
    refine draw_call (n := 4) (a1.d.new hp) (by decide) (by decide) fun r2 M2 hr2 a2 => ?_
    refine ⟨⟨by omega, by omega⟩, fun D0 hD => ?_⟩
    have a3 : At M x M2 := a1.tr (a2.old hp)
    rw [show ((r2 : Nat) : Int).toNat = r2 from by omega]
    refine lc_loop (M := M2) (x := x) (n := m) a3.d hD (fun _ => trivial) (fun i M3 R' hd3 hk => ?_) _ [] _ ((At.self a3.d).new hD) mupd_same (fun q hq => by cases hq) (by rw [List.length_map, List.length_range, List.length_nil]; omega) fun cts M4 a4 e4 hc4 hl4 => ?_
    · refine ⟨trivial, ?_⟩
      show spR [.ref x, .int (((m + 1 : Nat) : Int) - 1)] _ _ _
      rw [hR m rfl, es]
      exact ⟨x, rfl, by omega, hd3, hk⟩
    · rw [List.length_map, List.length_range, List.length_nil] at hl4
      exact ⟨_, M4, e4, fun _ _ e => e, by decide, Wk.self (k _ _ M4 (.many hw (by omega) hc4) (a3.tr a4))⟩
end DL

set_option Elab.async false
set_option linter.all false
set_option maxRecDepth 100000
set_option maxHeartbeats 1000000
namespace DL
open PySem L2
theorem drop_app {L a b : List Nat} {i : Nat} (h : L.drop i = a ++ b) : L.drop (i + a.length) = b := by
  rw [← List.drop_drop, h, List.drop_left]
theorem look_of {L r : List Nat} {i c : Nat} (h : L.drop i = c :: r) : look L i = [c] := by unfold look; rw [h]; rfl
theorem drop_one {L r : List Nat} {i c : Nat} (h : L.drop i = c :: r) : L.drop (i + 1) = r := by rw [← List.drop_drop, h]; rfl
theorem tw_of {S L w r : List Nat} {i c : Nat} (h : L.drop i = w ++ c :: r) (hw : ∀ x ∈ w, x ∈ S) (hc : c ∉ S) : tw S L i = w := by
  unfold tw
  rw [h]
  clear h
  induction w with
  | nil => rw [List.nil_append, List.takeWhile_cons, if_neg (by simpa using hc)]
  | cons x w ih =>
    rw [List.cons_append, List.takeWhile_cons, if_pos (by simpa using hw x (by simp)), ih fun y hy => hw y (by simp [hy])]
theorem pL_of {L l r : List Nat} {i : Nat} (h : L.drop i = [39] ++ l ++ [39] ++ r) (hl : OKL l) : pL L i = (.str l, i + (l.length + 2)) := by
  have h1 : L.drop i = 39 :: (l ++ 39 :: r) := by rw [h]; simp
  have h2 := drop_one h1
  have e1 := tw_of (S := SGc) h2 hl.len.2.2 (by decide)
  have h3 : L.drop (i + 1 + l.length) = 39 :: r := drop_app h2
  unfold pL
  rw [if_pos (look_of h1), e1, if_pos (look_of h3)]
  rw [show i + 1 + l.length + 1 = i + (l.length + 2) from by omega]
theorem bd9 : ∀ x : Nat, x ≤ 9 → [48 + x] ∈ BDc ∧ [48 + x] ≠ [45] := by decide +kernel
theorem bT_mem {b : Option Nat} (h : ∀ x, b = some x → x ≤ 9) : bT b ∈ BDc ∧ bnd (bT b) = bD b := by
  cases b with
  | none => exact ⟨by decide, rfl⟩
  | some x =>
    obtain ⟨h1, h2⟩ := bd9 x (h x rfl)
    refine ⟨h1, ?_⟩
    unfold bnd bT
    simp only
    rw [if_neg h2]
    show D.int (((48 + x) - 48 : Nat) : Int) = .int (x : Nat)
    rw [Nat.add_sub_cancel_left]
theorem bT_one (b : Option Nat) : ∃ c, bT b = [c] := by cases b <;> exact ⟨_, rfl⟩
theorem pB_of {L r : List Nat} {i a : Nat} {b : Option Nat} (h : L.drop i = bT (some a) ++ [44] ++ bT b ++ r) (hb : OKB a b) : pB L i = (.tup [.int (a : Nat), bD b], i + 3) := by
  obtain ⟨c, hc⟩ := bT_one b
  have h0 : L.drop i = (48 + a) :: 44 :: c :: r := by rw [h, hc]; rfl
  have h1 := drop_one h0
  have h2 := drop_one h1
  have m1 := bT_mem (b := some a) fun x hx => by cases hx; exact hb.1
  have m2 := bT_mem (b := b) fun x hx => (hb.2 x hx).2
  have l0 : look L i = bT (some a) := look_of h0
  have l1 : look L (i + 1) = [44] := look_of h1
  have l2 : look L (i + 1 + 1) = bT b := by rw [look_of h2, hc]
  have sj : skj L (i + 1) 44 = i + 1 + 1 := by unfold skj; rw [if_pos l1]
  unfold pB
  rw [sj, l0, l1, l2, if_pos ⟨rfl, m1.1, m2.1⟩, m1.2, m2.2]
  rfl
theorem pT_len2 (p : List Nat × Nat × Option Nat) : (pT p).length = p.1.length + 6 := by
  unfold pT
  simp only [List.length_append, List.length_cons, List.length_nil, bT_len]
  omega
theorem pP_of {L r : List Nat} {i : Nat} {p : List Nat × Nat × Option Nat} (h : L.drop i = pT p ++ r) (h1 : OKL p.1) (h2 : OKB p.2.1 p.2.2) : pP L i = (pD p, i + (pT p).length) := by
  have e0 : L.drop i = [39] ++ p.1 ++ [39] ++ (44 :: (bT (some p.2.1) ++ [44] ++ bT p.2.2 ++ r)) := by rw [h]; unfold pT; simp
  have e1 := pL_of e0 h1
  have e2 : L.drop (i + (p.1.length + 2)) = 44 :: (bT (some p.2.1) ++ [44] ++ bT p.2.2 ++ r) := by
    have := drop_app e0
    simpa using this
  have e3 := pB_of (drop_one e2) h2
  have e4 : (pL L i).2 = i + (p.1.length + 2) := by rw [e1]
  have e5 : (pL L i).1 = .str p.1 := by rw [e1]
  unfold pP
  rw [e4, e5, if_neg (by intro z; rcases z with z | z; exact Bool.noConfusion (show false = true from z); exact z (look_of e2)), e3, pT_len2]
  show (pD p, i + (p.1.length + 2) + 1 + 3) = _
  rw [show i + (p.1.length + 2) + 1 + 3 = i + (p.1.length + 6) from by omega]
theorem tail_of {P : Nat → D → Nat → Prop} {L : List Nat} : ∀ (cts : List (D × List Nat)) (d : D) (j : Nat) (r : List Nat), isN d = false → (∀ x ∈ cts, isN x.1 = false ∧ ∀ i r, L.drop i = x.2 ++ r → P i x.1 (i + x.2.length)) →
    L.drop j = (cts.map fun x => 59 :: x.2).flatten ++ 41 :: r → PTail P L d j (cts.map (·.1)) (j + (cts.map fun x => 59 :: x.2).flatten.length)
  | [], d, j, r, hd, hc, h => .stop (.inr (by rw [look_of (show L.drop j = 41 :: r from h)]; decide))
  | x :: cts, d, j, r, hd, hc, h => by
    have h0 : L.drop j = 59 :: (x.2 ++ ((cts.map fun x => 59 :: x.2).flatten ++ 41 :: r)) := by rw [h]; simp
    have h1 := drop_one h0
    have h2 := drop_app h1
    obtain ⟨n1, p1⟩ := hc x (by simp)
    have t := tail_of cts x.1 (j + 1 + x.2.length) r n1 (fun y hy => hc y (by simp [hy])) h2
    have e : j + ((x :: cts).map fun x => 59 :: x.2).flatten.length = j + 1 + x.2.length + (cts.map fun x => 59 :: x.2).flatten.length := by simp; omega
    rw [e]
    exact .more hd (look_of h0) (p1 _ _ h1) t
theorem joinL_flat (s : List Nat) : ∀ (x : List Nat) (xs : List (List Nat)), joinL s (x :: xs) = x ++ (xs.map fun y => s ++ y).flatten
  | x, [] => by simp [joinL]
  | x, y :: r => by
    show x ++ (s ++ joinL s (y :: r)) = _
    rw [joinL_flat s y r]
    simp
theorem sep_of {P : Nat → D → Nat → Prop} {L : List Nat} {cts : List (D × List Nat)} {i : Nat} {r : List Nat} (hne : cts ≠ []) (hc : ∀ x ∈ cts, isN x.1 = false ∧ ∀ i r, L.drop i = x.2 ++ r → P i x.1 (i + x.2.length)) (h : L.drop i = joinL [59] (cts.map (·.2)) ++ 41 :: r) :
    PSep P L i (cts.map (·.1)) (i + (joinL [59] (cts.map (·.2))).length) ∧ resD (cts.map (·.1)) = .tup (cts.map (·.1)) := by
  cases cts with
  | nil => exact absurd rfl hne
  | cons x cts =>
    have ef : (cts.map fun x => 59 :: x.2).flatten = ((cts.map (·.2)).map fun y => [59] ++ y).flatten := by rw [List.map_map]; rfl
    have ej : joinL [59] ((x :: cts).map (·.2)) = x.2 ++ (cts.map fun x => 59 :: x.2).flatten := by rw [List.map_cons, joinL_flat, ef]
    rw [ej] at h ⊢
    obtain ⟨n1, p1⟩ := hc x (by simp)
    have h1 : L.drop i = x.2 ++ ((cts.map fun x => 59 :: x.2).flatten ++ 41 :: r) := by rw [h, List.append_assoc]
    have t := tail_of cts x.1 (i + x.2.length) r n1 (fun y hy => hc y (by simp [hy])) (drop_app h1)
    refine ⟨⟨x.1, i + x.2.length, cts.map (·.1), p1 _ _ h1, by rw [List.length_append, ← Nat.add_assoc]; exact t, rfl⟩, ?_⟩
    have last : ∀ (y : D) (ys : List D), isN y = false → (∀ z ∈ ys, isN z = false) → lastN (y :: ys) = false := fun y ys => by
      induction ys generalizing y with
      | nil => intro h _; exact h
      | cons z ys ih => intro _ h; exact ih z (h z (by simp)) fun w hw => h w (by simp [hw])
    unfold resD
    rw [List.map_cons, last x.1 _ n1 fun z hz => by
      rw [List.mem_map] at hz
      obtain ⟨y, hy, rfl⟩ := hz
      exact (hc y (by simp [hy])).1]
    rfl
theorem opt_of {L : List Nat} : ∀ (ss : List (List Nat)) (i : Nat) (r : List Nat), ss ≠ [] → (∀ s ∈ ss, ∀ c ∈ s, c ∈ SMc) → L.drop i = joinL [44] ss ++ 41 :: r → POpt L i ss (i + (joinL [44] ss).length)
  | [], _, _, h, _, _ => absurd rfl h
  | [s], i, r, _, hs, h => by
    have e : tw SMc L i = s := tw_of (show L.drop i = s ++ 41 :: r from h) (hs s (by simp)) (by decide)
    have := POpt.one (L := L) (i := i) (by rw [e, look_of (drop_app (show L.drop i = s ++ 41 :: r from h))]; decide)
    rw [e] at this
    exact this
  | s :: s2 :: ss, i, r, _, hs, h => by
    have h0 : L.drop i = s ++ 44 :: (joinL [44] (s2 :: ss) ++ 41 :: r) := by
      rw [h]; show (s ++ ([44] ++ joinL [44] (s2 :: ss))) ++ 41 :: r = _; simp
    have e : tw SMc L i = s := tw_of h0 (hs s (by simp)) (by decide)
    have h1 := drop_app h0
    have ih := opt_of (s2 :: ss) (i + s.length + 1) r (by simp) (fun t ht => hs t (by simp [ht])) (drop_one h1)
    have := POpt.more (L := L) (i := i) (by rw [e]; exact look_of h1) (by rw [e]; exact ih)
    rw [e] at this
    have el : (joinL [44] (s :: s2 :: ss)).length = s.length + 1 + (joinL [44] (s2 :: ss)).length := by
      show (s ++ ([44] ++ joinL [44] (s2 :: ss))).length = _
      simp only [List.length_append, List.length_cons, List.length_nil]; omega
    rw [el, show i + (s.length + 1 + (joinL [44] (s2 :: ss)).length) = i + s.length + 1 + (joinL [44] (s2 :: ss)).length from by omega]
    exact this
end DL

set_option Elab.async false
set_option linter.all false
set_option maxRecDepth 100000
set_option maxHeartbeats 1000000
namespace DL
open PySem L2
def recP (L : List Nat) : Nat → PR
  | 0 => fun _ _ _ => False
  | n + 1 => PC L n
theorem PC_eq (L : List Nat) (n : Nat) : PC L n = PCof (recP L n) L := by cases n <;> rfl
theorem PL_low : ∀ w ∈ PLc, (∀ c ∈ w, c ∈ SMc) ∧ w ∈ WDc ∧ w ≠ w_long := by decide +kernel
theorem AS_low : ∀ w ∈ [w_all, w_some], (∀ c ∈ w, c ∈ SMc) ∧ w ∈ WDc ∧ w ≠ w_long ∧ w ∉ PLc ∧ w ≠ w_shape ∧ w ≠ w_tries ∧ w ≠ w_no := by decide +kernel
theorem pc_of {rec : PR} {L w t r : List Nat} {i : Nat} {xs : List D} (hw : ∀ c ∈ w, c ∈ SMc) (hW : w ∈ WDc) (h : L.drop i = brk w t ++ r) (hx : xs.length ≤ 2) (hp : PI rec w L (i + w.length + 1) (.tup xs) (i + w.length + 1 + t.length)) :
    PCof rec L i (.tup (.str w :: xs)) (i + (brk w t).length) := by
  have h0 : L.drop i = w ++ 40 :: (t ++ 41 :: r) := by rw [h]; unfold brk; simp
  have e : tw SMc L i = w := tw_of h0 hw (by decide)
  have h1 := drop_app h0
  have h2 := drop_app (drop_one h1)
  unfold PCof
  rw [e, if_pos ⟨hW, look_of h1⟩]
  refine ⟨.tup xs, _, hp, ?_⟩
  rw [if_neg (by intro z; rcases z with z | z; exact Bool.noConfusion (show false = true from z); exact z (look_of h2))]
  exact ⟨xs, rfl, hx, rfl, by rw [brk_len]; omega⟩
theorem inner_at {L w t r : List Nat} {i : Nat} (h : L.drop i = brk w t ++ r) : L.drop (i + w.length + 1) = t ++ 41 :: r := by
  have h0 : L.drop i = w ++ 40 :: (t ++ 41 :: r) := by rw [h]; unfold brk; simp
  exact drop_one (drop_app h0)
theorem CF.notN {n : Nat} {d : D} {t : List Nat} (h : CF n d t) : isN d = false := by cases h <;> rfl
theorem look_not {L t r : List Nat} {i c : Nat} (h : L.drop i = t ++ r) (ht : t ≠ []) (hc : c ∉ t) : look L i ≠ [c] := by
  cases t with
  | nil => exact absurd rfl ht
  | cons x t =>
    rw [look_of (show L.drop i = x :: (t ++ r) from h)]
    intro z
    cases z
    exact hc (by simp)
theorem brk_first {w t : List Nat} (h : ∃ c u, w = c :: u ∧ c ≠ 41) : ∃ c u, brk w t = c :: u ∧ c ≠ 41 := let ⟨c, u, e, hn⟩ := h; ⟨c, u ++ [40] ++ t ++ [41], by rw [e]; rfl, hn⟩
theorem CF.first {n : Nat} {d : D} {t : List Nat} (h : CF n d t) : ∃ c u, t = c :: u ∧ c ≠ 41 := by
  cases h with
  | pl hw _ =>
    refine brk_first ?_
    simp only [PLc, List.mem_cons, List.not_mem_nil, or_false] at hw
    rcases hw with rfl | rfl | rfl <;> exact ⟨_, _, rfl, by decide⟩
  | lg _ => exact brk_first ⟨_, _, rfl, by decide⟩
  | sh _ _ _ => exact brk_first ⟨_, _, rfl, by decide⟩
  | tr _ => exact brk_first ⟨_, _, rfl, by decide⟩
  | no _ => exact brk_first ⟨_, _, rfl, by decide⟩
  | many hw _ _ =>
    refine brk_first ?_
    simp only [List.mem_cons, List.not_mem_nil, or_false] at hw
    rcases hw with rfl | rfl <;> exact ⟨_, _, rfl, by decide⟩
theorem CF.pc {n : Nat} {d : D} {t : List Nat} (h : CF n d t) : ∀ {L r : List Nat} {i : Nat}, L.drop i = t ++ r → PC L n i d (i + t.length) := by
  induction h with
  | @pl n w l hw hl =>
    intro L r i h
    obtain ⟨h1, h2, h3⟩ := PL_low w hw
    rw [PC_eq]
    refine pc_of h1 h2 h (by simp) ?_
    unfold PI
    rw [if_neg h3]
    refine ⟨.str l, rfl, ?_⟩
    rw [if_pos hw, pL_of (l := l) (by have := inner_at h; simpa using this) hl]
    simp only [List.length_append, List.length_cons, List.length_nil]
    rw [show i + w.length + 1 + (l.length + 2) = i + w.length + 1 + (0 + 1 + l.length + (0 + 1)) from by omega]
  | @lg n a b hb =>
    intro L r i h
    rw [PC_eq]
    refine pc_of (by decide) (by decide) h (by simp) ?_
    unfold PI
    rw [if_pos rfl, pB_of (b := b) (by have := inner_at h; simpa using this) hb]
    simp only [List.length_append, List.length_cons, List.length_nil, bT_len]
  | @sh n ps h1 h2 h3 =>
    intro L r i h
    rw [PC_eq]
    refine pc_of (by decide) (by decide) h (by simp) ?_
    unfold PI
    rw [if_neg (by decide)]
    have ht := inner_at h
    have e1 : ps.map pT = (ps.map fun p => (pD p, pT p)).map (·.2) := by rw [List.map_map]; rfl
    have e2 : ps.map pD = (ps.map fun p => (pD p, pT p)).map (·.1) := by rw [List.map_map]; rfl
    rw [e1] at ht ⊢
    have hs := sep_of (P := isP L) (cts := ps.map fun p => (pD p, pT p)) (by intro z; rw [List.map_eq_nil_iff] at z; rw [z] at h1; exact absurd h1 (by decide)) (fun x hx => by
      rw [List.mem_map] at hx
      obtain ⟨p, hp, rfl⟩ := hx
      exact ⟨rfl, fun i r hh => pP_of hh (h3 p hp).1 (h3 p hp).2⟩) ht
    refine ⟨.tup (ps.map pD), rfl, ?_⟩
    rw [if_neg (by decide), if_pos rfl]
    refine ⟨_, hs.1, ?_⟩
    rw [hs.2, e2]
  | @tr n ss hs =>
    intro L r i h
    rw [PC_eq]
    refine pc_of (by decide) (by decide) h (by simp) ?_
    unfold PI
    rw [if_neg (by decide)]
    refine ⟨.tup (ss.map D.str), rfl, ?_⟩
    rw [if_neg (by decide), if_neg (by decide), if_pos rfl]
    exact ⟨ss, opt_of ss _ r (by intro z; have := hs.2.1; rw [z] at this; cases this) (fun s hm => (hs.2.2 s hm).2) (inner_at h), rfl⟩
  | @no n c t hc ih =>
    intro L r i h
    refine pc_of (by decide) (by decide) h (by simp) ?_
    unfold PI
    rw [if_neg (by decide)]
    refine ⟨c, by unfold wrapD; rw [hc.notN]; rfl, ?_⟩
    rw [if_neg (by decide), if_neg (by decide), if_neg (by decide), if_pos rfl]
    exact ih (inner_at h)
  | @many n w cts hw hl hc ih =>
    intro L r i h
    obtain ⟨h1, h2, h3, h4, h5, h6, h7⟩ := AS_low w hw
    refine pc_of h1 h2 h (by simp) ?_
    unfold PI
    rw [if_neg h3]
    refine ⟨.tup (cts.map (·.1)), rfl, ?_⟩
    rw [if_neg h4, if_neg h5, if_neg h6, if_neg h7]
    have ht := inner_at h
    cases cts with
    | nil => exact .inl ⟨look_of (show L.drop _ = 41 :: r from ht), rfl, rfl⟩
    | cons x cts =>
      have hs := sep_of (P := PC L n) (cts := x :: cts) (by simp) (fun y hy => ⟨(hc y hy).notN, fun i r hh => ih y hy hh⟩) ht
      refine .inr ⟨?_, _, hs.1, hs.2.symm⟩
      have ne := (hc x (by simp)).first
      obtain ⟨c, u, e, hn⟩ := ne
      have hh : ∃ v, L.drop (i + w.length + 1) = c :: v := by
        rw [ht]
        rw [List.map_cons, joinL_flat, e]
        exact ⟨_, rfl⟩
      obtain ⟨v, hv⟩ := hh
      rw [look_of hv]
      intro z
      cases z
      exact hn rfl
end DL

set_option Elab.async false
set_option linter.all false
set_option maxRecDepth 100000
set_option maxHeartbeats 1000000
namespace DL
open PySem L2
def Bal (k : Nat) (t : List Nat) : Prop := ∀ (f d : Int) (r : List Nat), ∃ f', f' ≤ max f (d + k) ∧ dpv f d (t ++ r) = dpv f' d r
theorem Bal.app {k : Nat} {a b : List Nat} (ha : Bal k a) (hb : Bal k b) : Bal k (a ++ b) := fun f d r => by
  obtain ⟨f1, h1, e1⟩ := ha f d (b ++ r)
  obtain ⟨f2, h2, e2⟩ := hb f1 d r
  exact ⟨f2, by omega, by rw [List.append_assoc, e1, e2]⟩
theorem Bal.nil {k : Nat} : Bal k [] := fun f d r => ⟨f, by omega, rfl⟩
theorem Bal.no {k : Nat} : ∀ {t : List Nat}, (∀ c ∈ t, c ≠ 40 ∧ c ≠ 41) → Bal k t
  | [], _ => .nil
  | c :: t, h => fun f d r => by
    have e : dstep c = 0 := by
      unfold dstep
      rw [if_neg (by simpa using (h c (by simp)).1), if_neg (by simpa using (h c (by simp)).2)]
    obtain ⟨f', h1, h2⟩ := Bal.no (k := k) (t := t) (fun x hx => h x (by simp [hx])) (if d + 0 > f then d + 0 else f) d r
    refine ⟨f', ?_, ?_⟩
    · split at h1 <;> omega
    · show dpv (if d + dstep c > f then d + dstep c else f) (d + dstep c) (t ++ r) = _
      rw [e, show d + (0 : Int) = d from by omega]
      rw [show d + (0 : Int) = d from by omega] at h2
      exact h2
theorem Bal.mono {k m : Nat} {t : List Nat} (h : Bal k t) (hm : k ≤ m) : Bal m t := fun f d r => by
  obtain ⟨f', h1, h2⟩ := h f d r
  exact ⟨f', by omega, h2⟩
theorem Bal.brk {k : Nat} {w t : List Nat} (hw : ∀ c ∈ w, c ≠ 40 ∧ c ≠ 41) (h : Bal k t) : Bal (k + 1) (brk w t) := fun f d r => by
  obtain ⟨f1, h1, e1⟩ := Bal.no (k := 0) hw f d (40 :: (t ++ 41 :: r))
  obtain ⟨f2, h2, e2⟩ := h (if d + 1 > f1 then d + 1 else f1) (d + 1) (41 :: r)
  refine ⟨if d + 1 + -1 > f2 then d + 1 + -1 else f2, ?_, ?_⟩
  · split at h2 <;> split <;> omega
  · have e0 : DL.brk w t ++ r = w ++ 40 :: (t ++ 41 :: r) := by unfold DL.brk; simp
    rw [e0, e1]
    show dpv (if d + dstep 40 > f1 then d + dstep 40 else f1) (d + dstep 40) (t ++ 41 :: r) = _
    rw [show dstep 40 = 1 from rfl, e2]
    show dpv (if d + 1 + dstep 41 > f2 then d + 1 + dstep 41 else f2) (d + 1 + dstep 41) r = _
    rw [show dstep 41 = -1 from rfl, show d + 1 + -1 = d from by omega]
theorem Bal.join {k : Nat} {s : List Nat} (hs : Bal k s) : ∀ ts : List (List Nat), (∀ t ∈ ts, Bal k t) → Bal k (joinL s ts)
  | [], _ => .nil
  | [x], h => h x (by simp)
  | x :: y :: r, h => (h x (by simp)).app (hs.app (Bal.join hs (y :: r) fun t ht => h t (by simp [ht])))
theorem SG_nb : ∀ c ∈ SGc, c ≠ 40 ∧ c ≠ 41 ∧ c ≠ 10 := by decide
theorem SM_nb : ∀ c ∈ SMc, c ≠ 40 ∧ c ≠ 41 ∧ c ≠ 10 ∧ c ≠ 32 := by decide
theorem bT_nb (b : Option Nat) : ∀ c ∈ bT b, c ≠ 40 ∧ c ≠ 41 ∧ c ≠ 10 := by
  cases b with
  | none => decide
  | some x =>
    intro c hc
    simp only [bT, List.mem_singleton] at hc
    omega
theorem pT_nb {p : List Nat × Nat × Option Nat} (h : OKL p.1) : ∀ c ∈ pT p, c ≠ 40 ∧ c ≠ 41 ∧ c ≠ 10 := by
  intro c hc
  simp only [pT, List.mem_append] at hc
  rcases hc with ((((hc | hc) | hc) | hc) | hc) | hc
  · revert c; decide
  · exact SG_nb c (h.len.2.2 c hc)
  · revert c; decide
  · exact bT_nb _ c hc
  · revert c; decide
  · exact bT_nb _ c hc
theorem low_w {w : List Nat} (h : ∀ c ∈ w, c ∈ SMc) : ∀ c ∈ w, c ≠ 40 ∧ c ≠ 41 := fun c hc => ⟨(SM_nb c (h c hc)).1, (SM_nb c (h c hc)).2.1⟩
theorem CF.bal {n : Nat} {d : D} {t : List Nat} (h : CF n d t) : Bal (n + 1) t := by
  induction h with
  | @pl n w l hw hl =>
    refine Bal.brk (low_w (PL_low w hw).1) (.no fun c hc => ?_)
    simp only [List.mem_append, List.mem_singleton] at hc
    rcases hc with (rfl | hc) | rfl
    · decide
    · exact ⟨(SG_nb c (hl.len.2.2 c hc)).1, (SG_nb c (hl.len.2.2 c hc)).2.1⟩
    · decide
  | @lg n a b hb =>
    refine Bal.brk (by decide) (.no fun c hc => ?_)
    simp only [List.mem_append, List.mem_singleton] at hc
    rcases hc with (hc | rfl) | hc
    · exact ⟨(bT_nb _ c hc).1, (bT_nb _ c hc).2.1⟩
    · decide
    · exact ⟨(bT_nb _ c hc).1, (bT_nb _ c hc).2.1⟩
  | @sh n ps h1 h2 h3 =>
    refine Bal.brk (by decide) (.join (.no (by decide)) _ fun t ht => ?_)
    rw [List.mem_map] at ht
    obtain ⟨p, hp, rfl⟩ := ht
    exact .no fun c hc => ⟨(pT_nb (h3 p hp).1 c hc).1, (pT_nb (h3 p hp).1 c hc).2.1⟩
  | @tr n ss hs => exact Bal.brk (by decide) (.join (.no (by decide)) _ fun t ht => .no (low_w (hs.2.2 t ht).2))
  | @no n c t _ ih => exact Bal.brk (by decide) ih
  | @many n w cts hw hl _ ih =>
    refine Bal.brk (low_w (AS_low w hw).1) (.join (.no (by decide)) _ fun t ht => ?_)
    rw [List.mem_map] at ht
    obtain ⟨x, hx, rfl⟩ := ht
    exact ih x hx
def NoC (c : Nat) (t : List Nat) : Prop := ∀ x ∈ t, x ≠ c
theorem NoC.app {c : Nat} {a b : List Nat} (ha : NoC c a) (hb : NoC c b) : NoC c (a ++ b) := fun x hx => (List.mem_append.mp hx).elim (ha x) (hb x)
theorem NoC.join {c : Nat} {s : List Nat} (hs : NoC c s) : ∀ ts : List (List Nat), (∀ t ∈ ts, NoC c t) → NoC c (joinL s ts)
  | [], _ => fun x hx => by cases hx
  | [x], h => h x (by simp)
  | x :: y :: r, h => (h x (by simp)).app (hs.app (NoC.join hs (y :: r) fun t ht => h t (by simp [ht])))
theorem NoC.brk {w t : List Nat} (hw : NoC 10 w) (h : NoC 10 t) : NoC 10 (brk w t) := ((hw.app (by unfold NoC; decide)).app h).app (by unfold NoC; decide)
theorem low_10 {w : List Nat} (h : ∀ c ∈ w, c ∈ SMc) : NoC 10 w := fun c hc => (SM_nb c (h c hc)).2.2.1
theorem CF.no10 {n : Nat} {d : D} {t : List Nat} (h : CF n d t) : NoC 10 t := by
  induction h with
  | @pl n w l hw hl => exact NoC.brk (low_10 (PL_low w hw).1) (((show NoC 10 [39] by unfold NoC; decide).app fun c hc => (SG_nb c (hl.len.2.2 c hc)).2.2).app (by unfold NoC; decide))
  | @lg n a b hb => exact NoC.brk (by unfold NoC; decide) (((show NoC 10 (bT (some a)) from fun c hc => (bT_nb _ c hc).2.2).app (by unfold NoC; decide)).app fun c hc => (bT_nb _ c hc).2.2)
  | @sh n ps h1 h2 h3 =>
    refine NoC.brk (by unfold NoC; decide) (.join (by unfold NoC; decide) _ fun t ht => ?_)
    rw [List.mem_map] at ht
    obtain ⟨p, hp, rfl⟩ := ht
    exact fun c hc => (pT_nb (h3 p hp).1 c hc).2.2
  | @tr n ss hs => exact NoC.brk (by unfold NoC; decide) (.join (by unfold NoC; decide) _ fun t ht => low_10 (hs.2.2 t ht).2)
  | @no n c t _ ih => exact NoC.brk (by unfold NoC; decide) ih
  | @many n w cts hw hl _ ih =>
    refine NoC.brk (low_10 (AS_low w hw).1) (.join (by unfold NoC; decide) _ fun t ht => ?_)
    rw [List.mem_map] at ht
    obtain ⟨x, hx, rfl⟩ := ht
    exact ih x hx
theorem spl_run {c : Nat} : ∀ (x acc r : List Nat), NoC c x → splL c acc (x ++ r) = splL c (acc ++ x) r
  | [], acc, r, _ => by rw [List.nil_append, List.append_nil]
  | y :: x, acc, r, h => by
    show (if y = c then _ else splL c (acc ++ [y]) (x ++ r)) = _
    rw [if_neg (h y (by simp)), spl_run x (acc ++ [y]) r fun z hz => h z (by simp [hz])]
    rw [List.append_assoc]; rfl
theorem spl_join {c : Nat} : ∀ (xs : List (List Nat)), xs ≠ [] → (∀ x ∈ xs, NoC c x) → splL c [] (joinL [c] xs) = xs
  | [], h, _ => absurd rfl h
  | [x], _, h => by
    have := spl_run x [] [] (h x (by simp))
    rw [List.append_nil] at this
    show splL c [] x = [x]
    rw [this]; rfl
  | x :: y :: r, _, h => by
    show splL c [] (x ++ ([c] ++ joinL [c] (y :: r))) = _
    rw [spl_run x [] _ (h x (by simp))]
    show (if c = c then ([] ++ x) :: splL c [] (joinL [c] (y :: r)) else _) = _
    rw [if_pos rfl, spl_join (y :: r) (by simp) fun z hz => h z (by simp [hz])]; rfl
theorem lnR_eq {ss : List (List Nat)} (h : ORd ss) : lnR ss = joinL [32] (w_reader :: ss) := by
  cases ss with
  | nil => exact absurd h.2.1 (by decide)
  | cons s r => rfl
theorem wr_eq (ss : List (List Nat)) (t : List Nat) : wrT ss t = joinL [10] [lnR ss, lnC t] := by
  show [114, 101, 97, 100, 101, 114, 32] ++ joinL [32] ss ++ [10, 99, 104, 101, 99, 107, 32] ++ t = lnR ss ++ ([10] ++ lnC t)
  unfold lnR lnC
  simp
theorem spl_lines {ss : List (List Nat)} {c : D} {t : List Nat} (hs : ORd ss) (hc : CF 2 c t) : splL 10 [] (wrT ss t) = [lnR ss, lnC t] := by
  rw [wr_eq]
  refine spl_join _ (by simp) fun x hx => ?_
  simp only [List.mem_cons, List.not_mem_nil, or_false] at hx
  rcases hx with rfl | rfl
  · exact (show NoC 10 [114, 101, 97, 100, 101, 114, 32] by unfold NoC; decide).app (.join (by unfold NoC; decide) _ fun s hm => low_10 (hs.2.2 s hm).2)
  · exact (show NoC 10 [99, 104, 101, 99, 107, 32] by unfold NoC; decide).app hc.no10
theorem spl_words {ss : List (List Nat)} (hs : ORd ss) : splL 32 [] (lnR ss) = w_reader :: ss := by
  rw [lnR_eq hs]
  refine spl_join _ (by simp) fun x hx => ?_
  rcases List.mem_cons.mp hx with rfl | hx
  · unfold NoC; decide
  · exact fun c hc => (SM_nb c ((hs.2.2 x hx).2 c hc)).2.2.2
theorem RC_of {c : D} {t : List Nat} (hc : CF 2 c t) : RC 2 (lnC t) c := by
  unfold RC
  have e1 : (lnC t).take 6 = w_check := rfl
  have e2 : (lnC t).drop 6 = t := rfl
  have e3 : ¬ dpv 0 0 (lnC t) > 8 := by
    have hb : Bal 3 (lnC t) := (Bal.no (t := [99, 104, 101, 99, 107, 32]) (by decide)).app hc.bal
    obtain ⟨f, h1, h2⟩ := hb 0 0 []
    rw [List.append_nil] at h2
    rw [h2]
    show ¬ f > 8
    omega
  rw [if_neg (by intro z; rcases z with z | z; exact z e1; exact e3 z), e2]
  have hp := hc.pc (L := t) (r := []) (i := 0) (by simp)
  refine ⟨c, 0 + t.length, hp, hc.gd, ?_⟩
  rw [if_neg (by rw [hc.notN, hc.ok]; intro z; rcases z with z | z | z; exact Bool.noConfusion z; omega; exact Bool.noConfusion z)]
end DL

set_option Elab.async false
set_option linter.all false
set_option maxRecDepth 100000
set_option maxHeartbeats 1000000
namespace DL
open PySem L2
def Py (k : Nat) (d : D) : Prop := ∃ p : PyData, (∀ M, PyOf M d p) ∧ p.canLay0 = true ∧ p.depth ≤ k
theorem Py.mono {k m : Nat} {d : D} (h : Py k d) (hm : k ≤ m) : Py m d := let ⟨p, a, b, c⟩ := h; ⟨p, a, b, Nat.le_trans c hm⟩
theorem Py.non : Py 0 .non := ⟨.none, fun _ => .non, by simp only [PyData.canLay0], by simp only [PyData.depth]; exact Nat.le_refl _⟩
theorem Py.int (i : Int) : Py 0 (.int i) := ⟨.int i, fun _ => .int i, by simp only [PyData.canLay0], by simp only [PyData.depth]; exact Nat.le_refl _⟩
theorem Py.str {s : List Nat} (h : ∀ c ∈ s, c < 200) : Py 0 (.str s) := ⟨.str (sV s), fun _ => .str s, by
    simp only [PyData.canLay0]
    unfold PyData.strOk sV
    rw [Array.all_eq_true']
    intro c hc
    have := h c (by simpa using hc)
    exact decide_eq_true (by omega), by simp only [PyData.depth]; exact Nat.le_refl _⟩
theorem Py.all {k : Nat} : ∀ {ds : List D}, (∀ d ∈ ds, Py k d) → ∃ ps : List PyData, (∀ M, PyAll M ds ps) ∧ PyData.canLayAll0 ps = true ∧ PyData.depthAll ps ≤ k
  | [], _ => ⟨[], fun _ => .nil, by simp only [PyData.canLayAll0], by simp only [PyData.depthAll]; exact Nat.zero_le _⟩
  | d :: ds, h => by
    obtain ⟨p, a, b, c⟩ := h d (by simp)
    obtain ⟨ps, a2, b2, c2⟩ := Py.all fun x hx => h x (List.mem_cons_of_mem _ hx)
    exact ⟨p :: ps, fun M => .cons (a M) (a2 M), by simp only [PyData.canLayAll0, b, b2, Bool.and_self], by simp only [PyData.depthAll]; omega⟩
theorem Py.tup {k : Nat} {ds : List D} (h : ∀ d ∈ ds, Py k d) : Py (k + 1) (.tup ds) := by
  obtain ⟨ps, a, b, c⟩ := Py.all h
  exact ⟨.tuple ps, fun M => .tup (a M), by simp only [PyData.canLay0]; exact b, by simp only [PyData.depth]; omega⟩
theorem Py.two {k : Nat} {w : List Nat} {d : D} (hw : ∀ c ∈ w, c < 200) (h : Py k d) : Py (k + 1) (.tup [.str w, d]) := .tup fun x hx => by
  simp only [List.mem_cons, List.not_mem_nil, or_false] at hx
  rcases hx with rfl | rfl
  · exact (Py.str hw).mono (Nat.zero_le _)
  · exact h
theorem SM_lt : ∀ c ∈ SMc, c < 200 := by decide
theorem SG_lt : ∀ c ∈ SGc, c < 200 := by decide
theorem Py.bD (b : Option Nat) : Py 0 (bD b) := by cases b with
  | none => exact .non
  | some x => exact .int _
theorem ORd.py {ss : List (List Nat)} (h : ORd ss) : Py 1 (.tup (ss.map D.str)) := .tup fun d hd => by
  obtain ⟨s, hs, rfl⟩ := mem_str hd
  exact .str fun c hc => SM_lt c ((h.2.2 s hs).2 c hc)
theorem CF.py {n : Nat} {d : D} {t : List Nat} (h : CF n d t) : Py (3 + 2 * n) d := by
  induction h with
  | @pl n w l hw hl => exact (Py.two (fun c hc => SM_lt c ((PL_low w hw).1 c hc)) (.str fun c hc => SG_lt c (hl.len.2.2 c hc))).mono (by omega)
  | @lg n a b hb =>
    refine Py.mono (k := 1) (.tup fun d hd => ?_) (by omega)
    simp only [List.mem_cons, List.not_mem_nil, or_false] at hd
    rcases hd with rfl | rfl | rfl
    · exact .str (by decide)
    · exact .int _
    · exact .bD b
  | @sh n ps h1 h2 h3 =>
    refine Py.mono (k := 3) (.two (by decide) (.tup fun d hd => ?_)) (by omega)
    rw [List.mem_map] at hd
    obtain ⟨p, hp, rfl⟩ := hd
    refine .tup fun d hd => ?_
    simp only [List.mem_cons, List.not_mem_nil, or_false] at hd
    rcases hd with rfl | rfl | rfl
    · exact .str fun c hc => SG_lt c ((h3 p hp).1.len.2.2 c hc)
    · exact .int _
    · exact .bD _
  | @tr n ss hs => exact Py.mono (k := 2) (.two (by decide) hs.py) (by omega)
  | @no n c t _ ih => exact Py.mono (.two (by decide) ih) (by omega)
  | @many n w cts hw hl _ ih =>
    refine Py.mono (.two (fun c hc => SM_lt c ((AS_low w hw).1 c hc)) (.tup (k := 3 + 2 * n) fun d hd => ?_)) (by omega)
    rw [List.mem_map] at hd
    obtain ⟨x, hx, rfl⟩ := hd
    exact ih x hx
theorem Py.sh {k : Nat} {d : D} (h : Py k d) (hk : k ≤ 64) : ∃ p : PyData, (∀ M, PyOf M d p) ∧ SeqAt.shaped p = true := by
  obtain ⟨p, a, b, c⟩ := h
  exact ⟨p, a, by unfold SeqAt.shaped; rw [b, decide_eq_true (Nat.le_trans c hk)]; rfl⟩
def sp_law (_ : Ad) : DSp := fun ds M Q _ => ∃ (a : Addr) (ns : List Int), ds = [.ref a] ∧ M a = some (.lst (ns.map D.int)) ∧ ns.length ≤ 100 ∧ ∀ M', Q (.bl true) M'
def t_law (A : Ad) : DS := dSeq (dSet 1 (dCall (sp_law_begin A) (dCons (dVar 0) (dNil)))) (dSeq (dSet 2 (dCall (sp_lc 2) (dCons (dVar 1) (dCons (dC (.int 2)) (dNil))))) (dSeq (dSet 3 (dCall (sp_law_reader A) (dCons (dVar 1) (dNil)))) (dSeq (dSet 4 (dMake A.cPr (sp_Program_init A) (dCons (dVar 2) (dCons (dVar 3) (dNil))))) (dSeq (dSet 5 (dCall (sp_write A) (dCons (dVar 4) (dNil)))) (dSeq (dIfS (dOr (dNot (dTest (dIsi Tn.str (dVar 5)))) (dTest (dOp neD (dVar 5) (dMt "str" joinD (dC (.str [10])) (dCons (dCall (sp_law_lines A) (dCons (dVar 2) (dCons (dVar 3) (dNil)))) (dNil)))))) (dRet (dC (.bl false))) (dNext)) (dSeq (dSet 6 (dCall (sp_read_program A 2) (dCons (dVar 5) (dNil)))) (dRet (dAndV (dIsC A.cPr (dVar 6)) (dOp (eqP A.cPr (sp_Program_eq A)) (dVar 6) (dVar 4))))))))))
abbrev n_law : List Str := ["_law_script", "_law_draws", "_law_check_here", "_law_reader_here", "_law_program", "_law_text_here", "_law_back"]
def tR_law (A : Ad) : DS := dSeq (dSet 2 (dCall (sp_lc 2) (dCons (dVar 1) (dCons (dC (.int 2)) (dNil))))) (dSeq (dSet 3 (dCall (sp_law_reader A) (dCons (dVar 1) (dNil)))) (dSeq (dSet 4 (dMake A.cPr (sp_Program_init A) (dCons (dVar 2) (dCons (dVar 3) (dNil))))) (dSeq (dSet 5 (dCall (sp_write A) (dCons (dVar 4) (dNil)))) (dSeq (dIfS (dOr (dNot (dTest (dIsi Tn.str (dVar 5)))) (dTest (dOp neD (dVar 5) (dMt "str" joinD (dC (.str [10])) (dCons (dCall (sp_law_lines A) (dCons (dVar 2) (dCons (dVar 3) (dNil)))) (dNil)))))) (dRet (dC (.bl false))) (dNext)) (dSeq (dSet 6 (dCall (sp_read_program A 2) (dCons (dVar 5) (dNil)))) (dRet (dAndV (dIsC A.cPr (dVar 6)) (dOp (eqP A.cPr (sp_Program_eq A)) (dVar 6) (dVar 4)))))))))
theorem pure_lawR {A : Ad} {W : DW} {R : DQ} {M1 : DM} {x : Addr} {o : Option D} (d1 : DrawsAt M1 x) (k : ∀ M', R (.bl true) M') : tR_law A W (endsOf R) [o, some (.ref x), none, none, none, none, none] M1 := by
  unfold tR_law
  simp only [dVar, dC, dOp, dTest, dChain, dAnd, dOr, dNot, dAndV, dOrV, dNotV, dIfE, dNil, dCons, dTup, dLst, dNext, dSeq, dIfS, dRet, dRetN, dExpr, dBrk, dCnt, dSet, dNever, gN, gTp, gLs, gsNil, gsCons, dAsg, dCall, dRaise, dRaiseF, ixD, dSl, slD, dPart, dNoPart, dCB, lenD, minD, maxD, absD, intD, strD, tupleD, listD, dMt, dMt0, tyD, appendD, popD, splitD, countD, dIsi, gSb, setL, dFld, dFldSet, dMeth, dMake, dFldAug, dAug, dPar, dTru, dNeg, augAdd, dDep, dIsC, intI, cmpI, startD, endsOf, List.map_cons, List.map_nil, List.length_cons, List.length_nil, List.replicate, List.getElem?_cons_zero, List.getElem?_cons_succ, List.cons_append, List.nil_append, List.set_cons_zero, List.set_cons_succ, Nat.reduceAdd, Nat.reduceSub]
  refine ⟨x, rfl, by decide, d1, fun c t M2 hc a2 => ?_⟩
  refine ⟨x, rfl, a2.d, fun ss M3 hs a3 => ?_⟩
  intro p dx hp hdx hne
  refine ⟨p, dx, c, _, rfl, mupd_same, hc.gd _, gd_strs (fun w hw => by have := (hs.2.2 w hw).1; omega), (fun z => by rw [hc.ok] at z; cases z), fun _ => ⟨fun _ => ⟨rfl, ?_⟩, (fun i z => by rw [hs.1] at z; cases z)⟩⟩
  rw [mupd_idem]
  refine ⟨p, dx, c, ss, t, rfl, mupd_same, hc, hs, ?_⟩
  have ht := hc.len
  have hp2 := pow_le (n := 2) (by omega)
  have hj := hs.join
  have hlen : (wrT ss t).length ≤ 10000 := by
    unfold wrT
    simp only [List.length_append, List.length_cons, List.length_nil]; omega
  refine ⟨trivial, c, ss, t, rfl, hc, hs, fun q hq => ?_⟩
  refine ⟨[lnR ss, lnC t], mupd M3 p (prO A dx c (.tup (ss.map D.str))), mupd_same, msub_new hq, ?_, ?_⟩
  · unfold lnR lnC
    simp only [List.map_cons, List.map_nil, List.sum_cons, List.sum_nil, List.length_append, List.length_cons, List.length_nil]; omega
  show (match !decide (wrT ss t = joinL [10] [lnR ss, lnC t]) with | true => _ | false => _)
  rw [decide_eq_true (wr_eq ss t)]
  refine ⟨wrT ss t, lnR ss, [lnC t], w_reader, ss, rfl, by omega, spl_lines hs hc, spl_words hs, (fun z => ?_), fun _ => ⟨c, RC_of hc, (fun z => by rw [hc.notN] at z; cases z), fun _ => ⟨hc.ok, hc.gd, (fun z => absurd z (by simp)), fun _ b bx hb hbx hbn => ?_⟩⟩⟩
  · rcases z with z | z
    · exact absurd rfl z
    · exact absurd hs.1 z
  have nbp : p ≠ b := fun z => by subst z; rw [mupd_same] at hb; cases hb
  refine ⟨b, bx, _, _, rfl, mupd_same, ?_⟩
  have ep : mupd (mupd M3 p (prO A dx c (.tup (ss.map D.str)))) b (prO A bx c (.tup (ss.map D.str))) p = some (prO A dx c (.tup (ss.map D.str))) := by rw [mupd_ne nbp, mupd_same]
  obtain ⟨pc, h1, h2⟩ := hc.py.sh (by decide)
  obtain ⟨pr, h3, h4⟩ := hs.py.sh (by decide)
  refine ⟨b, p, bx, dx, _, _, _, _, rfl, rfl, mupd_same, ep, b, p, bx, dx, c, _, pc, pr, rfl, mupd_same, ep, h1 _, h3 _, h2, h4, true, rfl, Wk.self (k _)⟩
end DL

set_option Elab.async false
set_option linter.all false
set_option maxRecDepth 100000
set_option maxHeartbeats 1000000
namespace DL
open PySem PySem.Spec PyProof.Rows L2
theorem PSep.mono {P : Nat → D → Nat → Prop} {L : List Nat} (mono : ∀ i d j, P i d j → i ≤ j) {i k : Nat} {ds : List D} (h : PSep P L i ds k) : i ≤ k := by
  obtain ⟨d, j, r, h1, h2, _⟩ := h
  exact Nat.le_trans (mono _ _ _ h1) (h2.len mono).2
theorem PI.mono {rec : PR} {w L : List Nat} {i k : Nat} {d : D} (mono : ∀ i d j, rec i d j → i ≤ j) (h : PI rec w L i d k) : i ≤ k := by
  unfold PI at h
  split at h
  · have := pB_mono L i; rw [h] at this; exact this
  · obtain ⟨f, _, h⟩ := h
    split at h
    · have := pL_mono L i; rw [h] at this; exact this
    · split at h
      · obtain ⟨ds, h, _⟩ := h; exact h.mono isP_mono
      · split at h
        · obtain ⟨ws, h, _⟩ := h; exact h.len.2
        · split at h
          · exact mono _ _ _ h
          · rcases h with ⟨_, _, rfl⟩ | ⟨_, ds, h, _⟩
            · exact Nat.le_refl _
            · exact h.mono mono
theorem PCof_mono {rec : PR} {L : List Nat} (mono : ∀ i d j, rec i d j → i ≤ j) : ∀ i d j, PCof rec L i d j → i ≤ j := fun i d k h => by
  unfold PCof at h
  split at h
  · obtain ⟨x, j, hp, h⟩ := h
    have := hp.mono mono
    split at h
    · omega
    · obtain ⟨xs, _, _, _, e⟩ := h; omega
  · omega
theorem PC_mono : ∀ (n : Nat) (L : List Nat) (i : Nat) (d : D) (j : Nat), PC L n i d j → i ≤ j
  | 0, L => PCof_mono fun _ _ _ h => h.elim
  | n + 1, L => PCof_mono (PC_mono n L)
def rec0 : List Nat → PR := fun _ _ _ _ => False
def spF : DSp := fun _ _ _ _ => False
section
variable {P : Program} {w : World} {mg : Str → Option Value} {base : Heap} {Z : ZP} {CX : CXT} {k : Nat} {f : Addr} {fd : FuncData} {ps : List Str} {sp : DSp}
theorem fn_never (h : ∀ ds M Q E, ¬ sp ds M Q E) : FnOk P w Z.K mg base CX k f fd ps (lSp Z sp) where
  len := fun _ _ _ _ ⟨_, _, _, _, _, _, _, z, _⟩ => absurd z (h _ _ _ _)
  run := fun _ _ _ _ _ _ _ _ _ _ _ _ _ ⟨_, _, _, _, _, _, _, z, _⟩ => absurd z (h _ _ _ _)
end
theorem spO_never {A : Ad} : ∀ ds M Q E, ¬ spO A rec0 ds M Q E := fun _ _ _ _ ⟨_, _, _, _, _, _, _, _, z, _⟩ => z
def KT (K : PySem.W.Frag) (v : Value) (ds : List D) : Prop := ∃ a, v = .ref a ∧ ∀ H, RD K H (.tup ds) (.ref a)
theorem kt_mk {K : PySem.W.Frag} {a : Addr} {od : Option Addr} {its : Array Value} {n : Nat} {sl : Array (Option Value)} {ds : List D} (l : K.lookup a = some ⟨.type "tuple", od, .seq its n, sl⟩) (hz : its.size ≤ sizeLine) (h : ∃ vs, Vals vs its.toList ∧ ∀ H, RDs K H ds vs) : KT K (.ref a) ds := by
  obtain ⟨vs, h1, h2⟩ := h
  exact ⟨a, rfl, fun H => ⟨a, vs, rfl, .inr ⟨_, its, n, l, rfl, rfl, hz, h1⟩, h2 H⟩⟩
def ItV (K : PySem.W.Frag) (d : D) (u : Value) : Prop := ∃ v, RelV v u ∧ ∀ H, RD K H d v
theorem iv_str {K : PySem.W.Frag} {s : List Nat} {t : Str} {tk : Nat} (e : t = sV s) : ItV K (.str s) (.str t tk) := ⟨.str (sV s), ⟨tk, by rw [e]⟩, fun H => by rw [RD]⟩
theorem iv_kt {K : PySem.W.Frag} {u : Value} {ds : List D} (h : KT K u ds) : ItV K (.tup ds) u := by
  obtain ⟨a, rfl, h⟩ := h
  exact ⟨.ref a, rfl, h⟩
def ItVs (K : PySem.W.Frag) : List D → List Value → Prop
  | [], us => us = []
  | d :: ds, us => ∃ u r, us = u :: r ∧ ItV K d u ∧ ItVs K ds r
theorem ivs_all {K : PySem.W.Frag} : ∀ {ds : List D} {us : List Value}, ItVs K ds us → ∃ vs, Vals vs us ∧ ∀ H, RDs K H ds vs
  | [], _, h => ⟨[], by rw [show _ = [] from h]; exact .nil, fun H => by rw [RDs]⟩
  | d :: ds, _, ⟨u, r, rfl, ⟨v, h1, h2⟩, h⟩ => by
    obtain ⟨vs, h3, h4⟩ := ivs_all h
    exact ⟨v :: vs, .cons h1 h3, fun H => ⟨v, vs, rfl, h2 H, h4 H⟩⟩
theorem qe_cv {Z : ZP} {G : Hp} {X : Cx} {x : Str} {d : D} {pos : Pos} (h : ∃ u, X.mg x = some u ∧ ItV Z.K d u) (hg : Gl X x := by rfl) (hd : (x == ("__debug__" : Str)) = false := by decide) : QE Z G X (.Name x pos) (dC d) := by
  obtain ⟨u, hm, v, r, rd⟩ := h
  exact qe_glob hm r rd hg hd
theorem room64 {k : Nat} {A : Around} (r : Room k A) : A.units + 64 < cLine := by have := r.un; omega
theorem room65 {k : Nat} {A : Around} (r : Room k A) : A.units + 65 < cLine := by have := r.un; omega
theorem room1 {k : Nat} {A : Around} (r : Room k A) : A.units + 1 < cLine := by have := r.un; omega
end DL

set_option Elab.async false
set_option linter.all false
set_option maxRecDepth 100000
set_option maxHeartbeats 4000000
namespace DL
open PySem L2
theorem iIfS {c : DT} {t u : DS} {W : DW} {E : DEnds} {ρ : Env} {M : DM} : dIfS c t u W E ρ M = c W ρ M fun b M1 => if b = true then t W E ρ M1 else u W E ρ M1 := by
  unfold dIfS; congr 1; funext b M1; cases b <;> rfl
theorem iAnd {t u : DT} {W : DW} {ρ : Env} {M : DM} {R : Bool → DM → Prop} : dAnd t u W ρ M R = t W ρ M fun b M1 => if b = true then u W ρ M1 R else R false M1 := by
  unfold dAnd; congr 1; funext b M1; cases b <;> rfl
theorem iOr {t u : DT} {W : DW} {ρ : Env} {M : DM} {R : Bool → DM → Prop} : dOr t u W ρ M R = t W ρ M fun b M1 => if b = true then R true M1 else u W ρ M1 R := by
  unfold dOr; congr 1; funext b M1; cases b <;> rfl
theorem iAndV {t u : DE} {W : DW} {ρ : Env} {M : DM} {R : DQ} : dAndV t u W ρ M R = t W ρ M fun x M1 => match x with
    | .bl b => if b = true then u W ρ M1 R else R (.bl false) M1
    | _ => False := by
  unfold dAndV; congr 1; funext x M1
  cases x with
  | bl b => cases b <;> rfl
  | _ => rfl
theorem iOrV {t u : DE} {W : DW} {ρ : Env} {M : DM} {R : DQ} : dOrV t u W ρ M R = t W ρ M fun x M1 => match x with
    | .bl b => if b = true then R (.bl true) M1 else u W ρ M1 R
    | _ => False := by
  unfold dOrV; congr 1; funext x M1
  cases x with
  | bl b => cases b <;> rfl
  | _ => rfl
theorem iIfE {c : DT} {t u : DE} {W : DW} {ρ : Env} {M : DM} {R : DQ} : dIfE c t u W ρ M R = c W ρ M fun b M1 => if b = true then t W ρ M1 R else u W ρ M1 R := by
  unfold dIfE; congr 1; funext b M1; cases b <;> rfl
theorem iEqS {a b : List Nat} {M : DM} {R : DQ} : eqD (.str a) (.str b) M R = R (.bl (decide (a = b))) M := rfl
theorem iEqI {a b : Int} {M : DM} {R : DQ} : eqD (.int a) (.int b) M R = R (.bl (decide (a = b))) M := rfl
theorem iEqB {a b : Bool} {M : DM} {R : DQ} : eqD (.bl a) (.bl b) M R = R (.bl (decide (a = b))) M := rfl
theorem iNeS {a b : List Nat} {M : DM} {R : DQ} : neD (.str a) (.str b) M R = R (.bl (!decide (a = b))) M := rfl
theorem iNeI {a b : Int} {M : DM} {R : DQ} : neD (.int a) (.int b) M R = R (.bl (!decide (a = b))) M := rfl
theorem iIs {x : D} {M : DM} {R : DQ} : isD x .non M R = R (.bl (isN x)) M := rfl
theorem iIsNot {x : D} {M : DM} {R : DQ} : isNotD x .non M R = R (.bl (!isN x)) M := rfl
theorem iInC {c : Nat} {s : List Nat} {M : DM} {R : DQ} : inD (.str [c]) (.str s) M R = R (.bl (decide (c ∈ s))) M := rfl
theorem iNotInC {c : Nat} {s : List Nat} {M : DM} {R : DQ} : notInD (.str [c]) (.str s) M R = R (.bl (!decide (c ∈ s))) M := rfl
theorem iInT {x : List Nat} {ys : List (List Nat)} {M : DM} {R : DQ} (h : R (.bl (decide (x ∈ ys))) M) : inD (.str x) (.tup (ys.map D.str)) M R := in_strs h
theorem iAddI {a b : Int} {M : DM} {R : DQ} : addD (.int a) (.int b) M R = R (.int (a + b)) M := rfl
theorem iAddT {a b : List D} {M : DM} {R : DQ} : addD (.tup a) (.tup b) M R = (a.length + b.length ≤ sizeLine ∧ R (.tup (a ++ b)) M) := rfl
theorem iAddS {a b : List Nat} {M : DM} {R : DQ} : addD (.str a) (.str b) M R = (a.length + b.length ≤ sizeLine ∧ R (.str (a ++ b)) M) := rfl
theorem iIxT {ds : List D} {i : Int} {M : DM} {R : DQ} {d : D} (e : atI ds i = some d) : ixD (.tup ds) (.int i) M R = R d M := by
  unfold ixD; simp only [e]
end DL

set_option Elab.async false
set_option linter.all false
set_option maxRecDepth 100000
set_option maxHeartbeats 4000000
namespace DL
open PySem L2
def o_ends : List Nat := [101, 110, 100, 115]
def o_minus : List Nat := [109, 105, 110, 117, 115]
def o_both : List Nat := [98, 111, 116, 104]
def o_free : List Nat := [102, 114, 101, 101]
def o_single : List Nat := [115, 105, 110, 103, 108, 101]
def o_part : List Nat := [112, 97, 114, 116]
def o_loose : List Nat := [108, 111, 111, 115, 101]
def o_plain : List Nat := [112, 108, 97, 105, 110]
def o_all : List Nat := [97, 108, 108]
def h_start : List Nat := [115, 116, 97, 114, 116]
def h_signed : List Nat := [115, 105, 103, 110, 101, 100]
def h_number : List Nat := [110, 117, 109, 98, 101, 114]
def h_tail : List Nat := [116, 97, 105, 108]
structure Rdr where
  a : List Nat
  b : List Nat
  c : List Nat
  d : List Nat
  e : List Nat
  f : List Nat
def Rdr.l (r : Rdr) : List (List Nat) := [r.a, r.b, r.c, r.d, r.e, r.f]
def Rdr.D (r : Rdr) : D := .tup [.str r.a, .str r.b, .str r.c, .str r.d, .str r.e, .str r.f]
structure RS where
  ph : List Nat
  fi : List Nat
  ma : Nat
  ro : Nat
  rd : Bool
  la : List Nat
  po : Bool
def stD (s : RS) : D := .tup [.str s.ph, .str s.fi, .int (s.ma : Nat), .int (s.ro : Nat), .bl s.rd, .str s.la, .bl s.po]
def osD : Option RS → D
  | none => .non
  | some s => stD s
def fst0 : RS := ⟨h_start, [], 0, 0, false, [], false⟩
def c_FIRST : D := stD fst0
def c_FIGURES : D := .str [48, 49, 56, 116]
def c_PARTS : D := .tup [.str o_part, .str o_loose]
def whole (r : Rdr) : Option RS → Bool
  | none => false
  | some s => if ¬s.ph = h_number then decide (s.ph = h_tail) else if s.la = [102] then (if s.rd = false then true else decide ((s.ro : Int) = 3)) else if s.la = [112] then (if r.e = o_loose then decide (0 < (s.ma : Int)) else false) else false
def sp_is_whole (_ : Ad) : DSp := fun ds M Q _ => ∃ (r : Rdr) (o : Option RS), ds = [r.D, osD o] ∧ Q (.bl (whole r o)) M
def t_is_whole (A : Ad) : DS := dSeq (dIfS (dTest (dOp isD (dVar 1) (dC .non))) (dRet (dC (.bl false))) (dNext)) (dSeq (dAsg (dVar 1) (gTp 7 (gsCons (gN 2) (gsCons (gN 3) (gsCons (gN 4) (gsCons (gN 5) (gsCons (gN 6) (gsCons (gN 7) (gsCons (gN 8) (gsNil)))))))))) (dSeq (dIfS (dTest (dOp neD (dVar 2) (dC (.str [110, 117, 109, 98, 101, 114])))) (dRet (dOp eqD (dVar 2) (dC (.str [116, 97, 105, 108])))) (dNext)) (dSeq (dIfS (dTest (dOp eqD (dVar 7) (dC (.str [102])))) (dRet (dOrV (dNotV (dVar 6)) (dOp eqD (dVar 5) (dC (.int 3))))) (dNext)) (dRet (dAndV (dOp eqD (dVar 7) (dC (.str [112]))) (dAndV (dOp eqD (dOp ixD (dVar 0) (dC (.int 4))) (dC (.str [108, 111, 111, 115, 101]))) (dOp gtD (dVar 4) (dC (.int 0)))))))))
abbrev n_is_whole : List Str := ["reader", "state", "phase", "first", "many", "row", "rowed", "last", "pointed"]
theorem rx0 {r : Rdr} : atI [.str r.a, .str r.b, .str r.c, .str r.d, .str r.e, D.str r.f] 0 = some (.str r.a) := rfl
theorem rx1 {r : Rdr} : atI [.str r.a, .str r.b, .str r.c, .str r.d, .str r.e, D.str r.f] 1 = some (.str r.b) := rfl
theorem rx2 {r : Rdr} : atI [.str r.a, .str r.b, .str r.c, .str r.d, .str r.e, D.str r.f] 2 = some (.str r.c) := rfl
theorem rx3 {r : Rdr} : atI [.str r.a, .str r.b, .str r.c, .str r.d, .str r.e, D.str r.f] 3 = some (.str r.d) := rfl
theorem rx4 {r : Rdr} : atI [.str r.a, .str r.b, .str r.c, .str r.d, .str r.e, D.str r.f] 4 = some (.str r.e) := rfl
theorem rx5 {r : Rdr} : atI [.str r.a, .str r.b, .str r.c, .str r.d, .str r.e, D.str r.f] 5 = some (.str r.f) := rfl
theorem pure_is_whole {A : Ad} (ds M R EX) (h : sp_is_whole A ds M R EX) : t_is_whole A (fun C fs _ M' => WkX EX C fs M') (endsOf R) (startD n_is_whole ds) M := by
  obtain ⟨r, o, rfl, k⟩ := h
  unfold t_is_whole
  cases o with
  | none => exact Wk.self k
  | some s =>
    replace k := Wk.self k
    unfold whole at k
    simp only [dVar, dC, dOp, dTest, dNot, dNil, dCons, dTup, dLst, dNext, dSeq, dRet, dRetN, dExpr, dBrk, dCnt, dSet, gN, gTp, gLs, gsNil, gsCons, dAsg, dCall, dPart, dNoPart, dCB, lenD, minD, maxD, absD, dNeg, dPar, dAug, augAdd, dNotV, startD, endsOf, intI, cmpI, iIfS, iAnd, iOr, iAndV, iOrV, iIfE, iEqS, iEqI, iEqB, iNeS, iNeI, iIs, iIsNot, iInC, iNotInC, iAddI, iAddT, iAddS, List.map_cons, List.map_nil, List.length_cons, List.length_nil, List.replicate, List.getElem?_cons_zero, List.getElem?_cons_succ, List.cons_append, List.nil_append, List.set_cons_zero, List.set_cons_succ, Nat.reduceAdd, Nat.reduceSub, true_and, decide_eq_true_eq, Bool.not_eq_true', decide_eq_false_iff_not, osD, stD, Rdr.D, isN, ixD, rx4]
    simp only [h_number, h_tail, o_loose] at k
    by_cases c1 : s.ph = [110, 117, 109, 98, 101, 114] <;> by_cases c2 : s.la = [102] <;> by_cases c3 : s.rd = false <;> by_cases c4 : s.la = [112] <;> by_cases c5 : r.e = [108, 111, 111, 115, 101] <;> simp [c1, c2, c3, c4, c5] at k ⊢ <;> exact k
theorem imin (n j : Nat) : (if (j : Int) < (n : Int) + 1 then (j : Int) else (n : Int) + 1) = ((min (n + 1) j : Nat) : Int) := by split <;> omega
theorem imin2 (n : Nat) : (if (2 : Int) < (n : Int) + 1 then (2 : Int) else (n : Int) + 1) = ((min (n + 1) 2 : Nat) : Int) := imin n 2
theorem imin4 (n : Nat) : (if (4 : Int) < (n : Int) + 1 then (4 : Int) else (n : Int) + 1) = ((min (n + 1) 4 : Nat) : Int) := imin n 4
def bhF (r : Rdr) (s : RS) (c : Nat) : Option RS :=
  if [c] = [116] ∧ r.f = o_plain then none
  else if s.po = true then some ⟨h_number, s.fi, s.ma, s.ro, s.rd, [102], true⟩
  else if s.fi = [] then (if s.rd = true ∧ (s.ro : Int) = 3 then none else some ⟨h_number, if [c] = [48] then [48] else [49], min (s.ma + 1) 2, min (s.ro + 1) 4, s.rd, [102], false⟩)
  else if s.fi = [48] ∧ (r.c = o_none ∨ (r.c = o_eight ∧ [c] = [56])) then none
  else if s.rd = true ∧ (s.ro : Int) = 3 then none else some ⟨h_number, s.fi, min (s.ma + 1) 2, min (s.ro + 1) 4, s.rd, [102], false⟩
def sp_behind_figure (_ : Ad) : DSp := fun ds M Q _ => ∃ (r : Rdr) (s : RS) (c : Nat), ds = [r.D, stD s, .str [c]] ∧ Q (osD (bhF r s c)) M
def t_behind_figure (A : Ad) : DS := dSeq (dAsg (dVar 1) (gTp 7 (gsCons (gN 3) (gsCons (gN 4) (gsCons (gN 5) (gsCons (gN 6) (gsCons (gN 7) (gsCons (gN 8) (gsCons (gN 9) (gsNil)))))))))) (dSeq (dIfS (dAnd (dTest (dOp eqD (dVar 2) (dC (.str [116])))) (dTest (dOp eqD (dOp ixD (dVar 0) (dC (.int 5))) (dC (.str [112, 108, 97, 105, 110]))))) (dRet (dC .non)) (dNext)) (dSeq (dIfS (dTest (dVar 9)) (dRet (dTup (dCons (dC (.str [110, 117, 109, 98, 101, 114])) (dCons (dVar 4) (dCons (dVar 5) (dCons (dVar 6) (dCons (dVar 7) (dCons (dC (.str [102])) (dCons (dC (.bl true)) (dNil)))))))))) (dNext)) (dSeq (dIfS (dTest (dOp eqD (dVar 4) (dC (.str [])))) (dSet 4 (dIfE (dTest (dOp eqD (dVar 2) (dC (.str [48])))) (dC (.str [48])) (dC (.str [49])))) (dIfS (dAnd (dTest (dOp eqD (dVar 4) (dC (.str [48])))) (dOr (dTest (dOp eqD (dOp ixD (dVar 0) (dC (.int 2))) (dC (.str [110, 111, 110, 101])))) (dAnd (dTest (dOp eqD (dOp ixD (dVar 0) (dC (.int 2))) (dC (.str [101, 105, 103, 104, 116])))) (dTest (dOp eqD (dVar 2) (dC (.str [56]))))))) (dRet (dC .non)) (dNext))) (dSeq (dIfS (dAnd (dTest (dVar 7)) (dTest (dOp eqD (dVar 6) (dC (.int 3))))) (dRet (dC .non)) (dNext)) (dRet (dTup (dCons (dC (.str [110, 117, 109, 98, 101, 114])) (dCons (dVar 4) (dCons (dCB minD (dCons (dOp addD (dVar 5) (dC (.int 1))) (dCons (dC (.int 2)) (dNil)))) (dCons (dCB minD (dCons (dOp addD (dVar 6) (dC (.int 1))) (dCons (dC (.int 4)) (dNil)))) (dCons (dVar 7) (dCons (dC (.str [102])) (dCons (dC (.bl false)) (dNil))))))))))))))
abbrev n_behind_figure : List Str := ["reader", "state", "sign", "phase", "first", "many", "row", "rowed", "last", "pointed"]
theorem pure_behind_figure {A : Ad} (ds M R EX) (h : sp_behind_figure A ds M R EX) : t_behind_figure A (fun C fs _ M' => WkX EX C fs M') (endsOf R) (startD n_behind_figure ds) M := by
  obtain ⟨r, s, c, rfl, k⟩ := h
  unfold t_behind_figure
  replace k := Wk.self k
  unfold bhF at k
  simp only [dVar, dC, dOp, dTest, dNot, dNil, dCons, dTup, dLst, dNext, dSeq, dRet, dRetN, dExpr, dBrk, dCnt, dSet, gN, gTp, gLs, gsNil, gsCons, dAsg, dCall, dPart, dNoPart, dCB, lenD, minD, maxD, absD, dNeg, dPar, dAug, augAdd, dNotV, startD, endsOf, intI, cmpI, iIfS, iAnd, iOr, iAndV, iOrV, iIfE, iEqS, iEqI, iEqB, iNeS, iNeI, iIs, iIsNot, iInC, iNotInC, iAddI, iAddT, iAddS, List.map_cons, List.map_nil, List.length_cons, List.length_nil, List.replicate, List.getElem?_cons_zero, List.getElem?_cons_succ, List.cons_append, List.nil_append, List.set_cons_zero, List.set_cons_succ, Nat.reduceAdd, Nat.reduceSub, true_and, decide_eq_true_eq, Bool.not_eq_true', decide_eq_false_iff_not, osD, stD, Rdr.D, isN, ixD, rx2, rx5, imin2, imin4]
  simp only [h_number, o_plain, o_none, o_eight] at k
  have z : 7 ≤ sizeLine := by rw [sizeLine_eq]; decide
  by_cases c1 : c = 116 <;> by_cases c2 : r.f = [112, 108, 97, 105, 110] <;> by_cases c3 : s.po = true <;> try (simp [c1, c2, c3, osD, stD, z] at k ⊢; done)
  all_goals try (simp [c1, c2, c3, osD, stD, z] at k ⊢; exact k)
  all_goals (by_cases c4 : s.fi = [] <;> by_cases c5 : s.fi = [48] <;> by_cases c6 : s.rd = true <;> by_cases c7 : (s.ro : Int) = 3 <;> by_cases c8 : c = 48)
  all_goals try (simp [c1, c2, c3, c4, c5, c6, c7, c8, osD, stD, z] at k ⊢; exact k)
  all_goals (by_cases c9 : r.c = [110, 111, 110, 101] <;> by_cases c10 : r.c = [101, 105, 103, 104, 116] <;> by_cases c11 : c = 56)
  all_goals (simp [c1, c2, c3, c4, c5, c6, c7, c8, c9, c10, c11, osD, stD, z] at k ⊢; try exact k)
def bhP (r : Rdr) (s : RS) : Option RS :=
  if r.e = o_rows then (if ¬s.la = [102] ∨ (3 : Int) < (s.ro : Int) ∨ (s.rd = true ∧ ¬(s.ro : Int) = 3) then none else some ⟨h_number, s.fi, s.ma, 0, true, [112], false⟩)
  else if r.e ∉ [o_part, o_loose] ∨ s.po = true then none
  else if s.la = [102] ∨ (s.la = [] ∧ r.e = o_loose) then some ⟨h_number, s.fi, s.ma, s.ro, s.rd, [112], true⟩ else none
def sp_behind_point (_ : Ad) : DSp := fun ds M Q _ => ∃ (r : Rdr) (s : RS), ds = [r.D, stD s] ∧ Q (osD (bhP r s)) M
def t_behind_point (A : Ad) : DS := dSeq (dAsg (dVar 1) (gTp 7 (gsCons (gN 2) (gsCons (gN 3) (gsCons (gN 4) (gsCons (gN 5) (gsCons (gN 6) (gsCons (gN 7) (gsCons (gN 8) (gsNil)))))))))) (dSeq (dIfS (dTest (dOp eqD (dOp ixD (dVar 0) (dC (.int 4))) (dC (.str [114, 111, 119, 115])))) (dSeq (dIfS (dOr (dTest (dOp neD (dVar 7) (dC (.str [102])))) (dOr (dTest (dOp gtD (dVar 5) (dC (.int 3)))) (dAnd (dTest (dVar 6)) (dTest (dOp neD (dVar 5) (dC (.int 3))))))) (dRet (dC .non)) (dNext)) (dRet (dTup (dCons (dC (.str [110, 117, 109, 98, 101, 114])) (dCons (dVar 3) (dCons (dVar 4) (dCons (dC (.int 0)) (dCons (dC (.bl true)) (dCons (dC (.str [112])) (dCons (dC (.bl false)) (dNil))))))))))) (dNext)) (dSeq (dIfS (dOr (dTest (dOp notInD (dOp ixD (dVar 0) (dC (.int 4))) (dC c_PARTS))) (dTest (dVar 8))) (dRet (dC .non)) (dNext)) (dSeq (dIfS (dOr (dTest (dOp eqD (dVar 7) (dC (.str [102])))) (dAnd (dTest (dOp eqD (dVar 7) (dC (.str [])))) (dTest (dOp eqD (dOp ixD (dVar 0) (dC (.int 4))) (dC (.str [108, 111, 111, 115, 101])))))) (dRet (dTup (dCons (dC (.str [110, 117, 109, 98, 101, 114])) (dCons (dVar 3) (dCons (dVar 4) (dCons (dVar 5) (dCons (dVar 6) (dCons (dC (.str [112])) (dCons (dC (.bl true)) (dNil)))))))))) (dNext)) (dRet (dC .non)))))
abbrev n_behind_point : List Str := ["reader", "state", "phase", "first", "many", "row", "rowed", "last", "pointed"]
theorem iNotParts {x : List Nat} {M : DM} {R : DQ} : notInD (.str x) c_PARTS M R = R (.bl (!decide (x ∈ [o_part, o_loose]))) M := by
  have e : inF (.str x) ([o_part, o_loose].map D.str) = decide (x ∈ [o_part, o_loose]) := inF_strs x _
  have f : ([o_part, o_loose].map D.str).all flatD = true := flat_strs _
  unfold notInD inG c_PARTS
  simp only [List.map_cons, List.map_nil] at e f
  simp only [e, f, flatD, Bool.true_and, if_true]
theorem pure_behind_point {A : Ad} (ds M R EX) (h : sp_behind_point A ds M R EX) : t_behind_point A (fun C fs _ M' => WkX EX C fs M') (endsOf R) (startD n_behind_point ds) M := by
  obtain ⟨r, s, rfl, k⟩ := h
  unfold t_behind_point
  replace k := Wk.self k
  unfold bhP at k
  simp only [dVar, dC, dOp, dTest, dNot, dNil, dCons, dTup, dLst, dNext, dSeq, dRet, dRetN, dExpr, dBrk, dCnt, dSet, gN, gTp, gLs, gsNil, gsCons, dAsg, dCall, dPart, dNoPart, dCB, lenD, minD, maxD, absD, dNeg, dPar, dAug, augAdd, dNotV, startD, endsOf, intI, cmpI, iIfS, iAnd, iOr, iAndV, iOrV, iIfE, iEqS, iEqI, iEqB, iNeS, iNeI, iIs, iIsNot, iInC, iNotInC, iAddI, iAddT, iAddS, List.map_cons, List.map_nil, List.length_cons, List.length_nil, List.replicate, List.getElem?_cons_zero, List.getElem?_cons_succ, List.cons_append, List.nil_append, List.set_cons_zero, List.set_cons_succ, Nat.reduceAdd, Nat.reduceSub, true_and, decide_eq_true_eq, Bool.not_eq_true', decide_eq_false_iff_not, osD, stD, Rdr.D, isN, ixD, rx4, iNotParts]
  simp only [h_number, o_rows, o_loose, o_part] at k ⊢
  have z : 7 ≤ sizeLine := by rw [sizeLine_eq]; decide
  by_cases c1 : r.e = [114, 111, 119, 115]
  · by_cases c2 : s.la = [102] <;> by_cases c3 : (3 : Int) < (s.ro : Int) <;> by_cases c4 : s.rd = true <;> by_cases c5 : (s.ro : Int) = 3
    all_goals (simp [c1, c2, c3, c4, c5, osD, stD, z] at k ⊢; try exact k)
  · by_cases c2 : r.e = [112, 97, 114, 116] <;> by_cases c3 : r.e = [108, 111, 111, 115, 101] <;> by_cases c4 : s.po = true <;> by_cases c5 : s.la = [102] <;> by_cases c6 : s.la = []
    all_goals (simp [c1, c2, c3, c4, c5, c6, osD, stD, z] at k ⊢; try exact k)
def bhU (r : Rdr) (s : RS) : Option RS := if r.d = o_none ∨ (¬s.la = [102] ∧ ¬(s.la = [117] ∧ r.d = o_free)) then none else some ⟨s.ph, s.fi, s.ma, s.ro, s.rd, [117], s.po⟩
def sp_behind_under (_ : Ad) : DSp := fun ds M Q _ => ∃ (r : Rdr) (s : RS), ds = [r.D, stD s] ∧ Q (osD (bhU r s)) M
def t_behind_under (A : Ad) : DS := dSeq (dAsg (dVar 1) (gTp 7 (gsCons (gN 2) (gsCons (gN 3) (gsCons (gN 4) (gsCons (gN 5) (gsCons (gN 6) (gsCons (gN 7) (gsCons (gN 8) (gsNil)))))))))) (dSeq (dIfS (dOr (dTest (dOp eqD (dOp ixD (dVar 0) (dC (.int 3))) (dC (.str [110, 111, 110, 101])))) (dAnd (dTest (dOp neD (dVar 7) (dC (.str [102])))) (dNot (dAnd (dTest (dOp eqD (dVar 7) (dC (.str [117])))) (dTest (dOp eqD (dOp ixD (dVar 0) (dC (.int 3))) (dC (.str [102, 114, 101, 101])))))))) (dRet (dC .non)) (dNext)) (dRet (dTup (dCons (dVar 2) (dCons (dVar 3) (dCons (dVar 4) (dCons (dVar 5) (dCons (dVar 6) (dCons (dC (.str [117])) (dCons (dVar 8) (dNil)))))))))))
abbrev n_behind_under : List Str := ["reader", "state", "phase", "first", "many", "row", "rowed", "last", "pointed"]
theorem pure_behind_under {A : Ad} (ds M R EX) (h : sp_behind_under A ds M R EX) : t_behind_under A (fun C fs _ M' => WkX EX C fs M') (endsOf R) (startD n_behind_under ds) M := by
  obtain ⟨r, s, rfl, k⟩ := h
  unfold t_behind_under
  replace k := Wk.self k
  unfold bhU at k
  simp only [dVar, dC, dOp, dTest, dNot, dNil, dCons, dTup, dLst, dNext, dSeq, dRet, dRetN, dExpr, dBrk, dCnt, dSet, gN, gTp, gLs, gsNil, gsCons, dAsg, dCall, dPart, dNoPart, dCB, lenD, minD, maxD, absD, dNeg, dPar, dAug, augAdd, dNotV, startD, endsOf, intI, cmpI, iIfS, iAnd, iOr, iAndV, iOrV, iIfE, iEqS, iEqI, iEqB, iNeS, iNeI, iIs, iIsNot, iInC, iNotInC, iAddI, iAddT, iAddS, List.map_cons, List.map_nil, List.length_cons, List.length_nil, List.replicate, List.getElem?_cons_zero, List.getElem?_cons_succ, List.cons_append, List.nil_append, List.set_cons_zero, List.set_cons_succ, Nat.reduceAdd, Nat.reduceSub, true_and, decide_eq_true_eq, Bool.not_eq_true', decide_eq_false_iff_not, osD, stD, Rdr.D, isN, ixD, rx3]
  simp only [o_none, o_free] at k ⊢
  have z : 7 ≤ sizeLine := by rw [sizeLine_eq]; decide
  by_cases c1 : r.d = [110, 111, 110, 101] <;> by_cases c2 : s.la = [102] <;> by_cases c3 : s.la = [117] <;> by_cases c4 : r.d = [102, 114, 101, 101]
  all_goals (simp [c1, c2, c3, c4, osD, stD, z] at k ⊢; try exact k)
end DL

set_option Elab.async false
set_option linter.all false
set_option maxRecDepth 100000
set_option maxHeartbeats 4000000
namespace DL
open PySem L2
def c_SIGNS2 : List Nat := [32, 43, 45, 46, 48, 49, 56, 95, 116]
def bh (r : Rdr) (o : Option RS) (c : Nat) : Option RS := match o with
  | none => none
  | some s =>
    if c = 32 then (if r.a = o_none then none else if s.ph = h_signed then none else if s.ph = h_number then (if whole r (some s) = true then some ⟨h_tail, s.fi, s.ma, s.ro, s.rd, s.la, s.po⟩ else none) else some s)
    else if s.ph = h_tail then none
    else if c ∈ [43, 45] then (if ¬s.ph = h_start then none else if r.b = o_none then none else if c = 43 ∧ r.b = o_minus then none else some ⟨h_signed, s.fi, s.ma, s.ro, s.rd, s.la, s.po⟩)
    else if c ∈ [48, 49, 56, 116] then bhF r s c
    else if c = 46 then bhP r s else bhU r s
def sp_behind (_ : Ad) : DSp := fun ds M Q _ => ∃ (r : Rdr) (o : Option RS) (c : Nat), ds = [r.D, osD o, .str [c]] ∧ Q (osD (bh r o c)) M
def t_behind (A : Ad) : DS := dSeq (dIfS (dTest (dOp isD (dVar 1) (dC .non))) (dRet (dC .non)) (dNext)) (dSeq (dSet 3 (dOp ixD (dVar 1) (dC (.int 0)))) (dSeq (dIfS (dTest (dOp eqD (dVar 2) (dC (.str [32])))) (dSeq (dIfS (dOr (dTest (dOp eqD (dOp ixD (dVar 0) (dC (.int 0))) (dC (.str [110, 111, 110, 101])))) (dTest (dOp eqD (dVar 3) (dC (.str [115, 105, 103, 110, 101, 100]))))) (dRet (dC .non)) (dNext)) (dSeq (dIfS (dTest (dOp eqD (dVar 3) (dC (.str [110, 117, 109, 98, 101, 114])))) (dRet (dIfE (dTest (dCall (sp_is_whole A) (dCons (dVar 0) (dCons (dVar 1) (dNil))))) (dOp addD (dTup (dCons (dC (.str [116, 97, 105, 108])) (dNil))) (dSl (dVar 1) (dPart (dC (.int 1))) (dNoPart))) (dC .non))) (dNext)) (dRet (dVar 1)))) (dNext)) (dSeq (dIfS (dTest (dOp eqD (dVar 3) (dC (.str [116, 97, 105, 108])))) (dRet (dC .non)) (dNext)) (dSeq (dIfS (dTest (dOp inD (dVar 2) (dC (.str [43, 45])))) (dSeq (dIfS (dOr (dTest (dOp neD (dVar 3) (dC (.str [115, 116, 97, 114, 116])))) (dOr (dTest (dOp eqD (dOp ixD (dVar 0) (dC (.int 1))) (dC (.str [110, 111, 110, 101])))) (dAnd (dTest (dOp eqD (dVar 2) (dC (.str [43])))) (dTest (dOp eqD (dOp ixD (dVar 0) (dC (.int 1))) (dC (.str [109, 105, 110, 117, 115]))))))) (dRet (dC .non)) (dNext)) (dRet (dOp addD (dTup (dCons (dC (.str [115, 105, 103, 110, 101, 100])) (dNil))) (dSl (dVar 1) (dPart (dC (.int 1))) (dNoPart))))) (dNext)) (dSeq (dIfS (dTest (dOp inD (dVar 2) (dC c_FIGURES))) (dRet (dCall (sp_behind_figure A) (dCons (dVar 0) (dCons (dVar 1) (dCons (dVar 2) (dNil)))))) (dNext)) (dSeq (dIfS (dTest (dOp eqD (dVar 2) (dC (.str [46])))) (dRet (dCall (sp_behind_point A) (dCons (dVar 0) (dCons (dVar 1) (dNil))))) (dNext)) (dRet (dCall (sp_behind_under A) (dCons (dVar 0) (dCons (dVar 1) (dNil)))))))))))
abbrev n_behind : List Str := ["reader", "state", "sign", "phase"]
theorem sl_st {s : RS} {M : DM} {R : DQ} : slD (stD s) (some 1) none M R = R (.tup [.str s.fi, .int (s.ma : Nat), .int (s.ro : Nat), .bl s.rd, .str s.la, .bl s.po]) M := rfl
theorem ix_st {s : RS} {M : DM} {R : DQ} : ixD (stD s) (.int 0) M R = R (.str s.ph) M := rfl
theorem ixr0 {r : Rdr} {M : DM} {R : DQ} : ixD r.D (.int 0) M R = R (.str r.a) M := rfl
theorem ixr1 {r : Rdr} {M : DM} {R : DQ} : ixD r.D (.int 1) M R = R (.str r.b) M := rfl
theorem ixr2 {r : Rdr} {M : DM} {R : DQ} : ixD r.D (.int 2) M R = R (.str r.c) M := rfl
theorem ixr3 {r : Rdr} {M : DM} {R : DQ} : ixD r.D (.int 3) M R = R (.str r.d) M := rfl
theorem ixr4 {r : Rdr} {M : DM} {R : DQ} : ixD r.D (.int 4) M R = R (.str r.e) M := rfl
theorem ixr5 {r : Rdr} {M : DM} {R : DQ} : ixD r.D (.int 5) M R = R (.str r.f) M := rfl
theorem isN_st {s : RS} : isN (stD s) = false := rfl
theorem call_whole {A : Ad} {r : Rdr} {o : Option RS} {M : DM} {R : DQ} {E : DX} (k : R (.bl (whole r o)) M) : sp_is_whole A [r.D, osD o] M R E := ⟨r, o, rfl, k⟩
theorem add_ph {p : List Nat} {s : RS} {M : DM} {R : DQ} (k : R (stD ⟨p, s.fi, s.ma, s.ro, s.rd, s.la, s.po⟩) M) : addD (.tup [.str p]) (.tup [.str s.fi, .int (s.ma : Nat), .int (s.ro : Nat), .bl s.rd, .str s.la, .bl s.po]) M R := ⟨by show 7 ≤ sizeLine; decide, k⟩
theorem if_t {p : Prop} [Decidable p] {a b : Prop} (h : p) (k : a) : if p then a else b := by rw [if_pos h]; exact k
theorem if_f {p : Prop} [Decidable p] {a b : Prop} (h : ¬p) (k : b) : if p then a else b := by rw [if_neg h]; exact k
theorem pure_behind {A : Ad} (ds M R EX) (h : sp_behind A ds M R EX) : t_behind A (fun C fs _ M' => WkX EX C fs M') (endsOf R) (startD n_behind ds) M := by
  obtain ⟨r, o, c, rfl, k⟩ := h
  unfold t_behind
  replace k := Wk.self k
  unfold bh at k
  cases o with
  | none => exact k
  | some s =>
    simp only [dVar, dC, dOp, dTest, dNot, dNil, dCons, dTup, dLst, dNext, dSeq, dRet, dRetN, dExpr, dBrk, dCnt, dSet, gN, gTp, gLs, gsNil, gsCons, dAsg, dCall, dPart, dNoPart, dCB, lenD, minD, maxD, absD, dNeg, dPar, dAug, augAdd, dNotV, startD, endsOf, intI, cmpI, iIfS, iAnd, iOr, iAndV, iOrV, iIfE, iEqS, iEqI, iEqB, iNeS, iNeI, iIs, iIsNot, iInC, iNotInC, iAddI, iAddT, iAddS, List.map_cons, List.map_nil, List.length_cons, List.length_nil, List.replicate, List.getElem?_cons_zero, List.getElem?_cons_succ, List.cons_append, List.nil_append, List.set_cons_zero, List.set_cons_succ, Nat.reduceAdd, Nat.reduceSub, true_and, decide_eq_true_eq, Bool.not_eq_true', decide_eq_false_iff_not, osD, isN_st, ix_st, dSl, sl_st, c_FIGURES, ixr0, ixr1]
    simp only [h_number, h_tail, h_start, h_signed, o_none, o_minus] at k ⊢
    have z : 1 ≤ sizeLine := by rw [sizeLine_eq]; decide
    by_cases c1 : c = 32
    · subst c1
      by_cases c2 : r.a = [110, 111, 110, 101]
      · simp [c2] at k ⊢; exact k
      · by_cases c3 : s.ph = [115, 105, 103, 110, 101, 100]
        · simp [c2, c3] at k ⊢; exact k
        · by_cases c4 : s.ph = [110, 117, 109, 98, 101, 114]
          · cases q : whole r (some s) with
            | true => simp [c2, c3, c4, q] at k ⊢; exact call_whole (o := some s) (by rw [q]; exact ⟨z, add_ph k⟩)
            | false => simp [c2, c3, c4, q] at k ⊢; exact call_whole (o := some s) (by rw [q]; exact k)
          · simp [c2, c3, c4] at k ⊢; exact k
    · by_cases c2 : s.ph = [116, 97, 105, 108]
      · simp [c1, c2] at k ⊢; exact k
      · by_cases c3 : c = 43 ∨ c = 45
        · by_cases c4 : s.ph = [115, 116, 97, 114, 116]
          · by_cases c5 : r.b = [110, 111, 110, 101]
            · simp [c1, c2, c3, c4, c5] at k ⊢; exact k
            · by_cases c6 : c = 43 ∧ r.b = [109, 105, 110, 117, 115]
              · obtain ⟨rfl, c7⟩ := c6
                simp [c4, c5, c7] at k ⊢; exact k
              · simp only [c1, c2, c3, c4, c5, c6, if_true, if_false, not_true, not_false_eq_true, List.mem_cons, List.not_mem_nil, or_false] at k ⊢
                by_cases c7 : c = 43
                · have c8 : ¬ r.b = [109, 105, 110, 117, 115] := fun h => c6 ⟨c7, h⟩
                  simp [c7, c5, c8, c4] at k ⊢; exact ⟨z, add_ph k⟩
                · simp only [c7, c5, c4, c1, if_true, if_false, false_and, decide_false, List.cons.injEq, and_true] at k ⊢
                  have c8 : c = 45 := by omega
                  subst c8
                  simp [c5, c4] at k ⊢
                  exact ⟨z, add_ph k⟩
          · simp [c1, c2, c3, c4] at k ⊢; exact k
        · have c4 : ¬c = 43 := fun h => c3 (.inl h)
          have c5 : ¬c = 45 := fun h => c3 (.inr h)
          by_cases c6 : c = 48 ∨ c = 49 ∨ c = 56 ∨ c = 116
          · simp only [List.mem_cons, List.not_mem_nil, or_false, c1, c2, c4, c5, c6, if_true, if_false, or_self, List.cons.injEq, and_true] at k ⊢
            exact ⟨r, s, c, rfl, k⟩
          · by_cases c7 : c = 46
            · simp only [List.mem_cons, List.not_mem_nil, or_false, c1, c2, c4, c5, c6, if_true, if_false, or_self, List.cons.injEq, and_true] at k ⊢
              rw [if_pos c7] at k ⊢
              exact ⟨r, s, rfl, k⟩
            · simp only [List.mem_cons, List.not_mem_nil, or_false, c1, c2, c4, c5, c6, c7, if_true, if_false, or_self, List.cons.injEq, and_true] at k ⊢
              exact ⟨r, s, rfl, k⟩
end DL

set_option Elab.async false
set_option linter.all false
set_option maxRecDepth 100000
set_option maxHeartbeats 4000000
namespace DL
open PySem L2
def okT (s : List Nat) : Bool := s.all fun c => decide (c ∈ SGc)
def sp_is_text (_ : Ad) : DSp := fun ds M Q _ => ∃ s : List Nat, ds = [.str s] ∧ s.length ≤ 100000 ∧ Q (.bl (okT s)) M
def t_is_text (A : Ad) : DS := dRet (dAndV (dIsi Tn.str (dVar 0)) (dCB allD (dCons (dLc (dIter (dVar 0)) (gN 1) (dYes) (dOp inD (dVar 1) (dC c_SIGNS)) [1]) (dNil))))
abbrev n_is_text : List Str := ["value", "sign"]
theorem pure_is_text {A : Ad} (ds M R EX) (h : sp_is_text A ds M R EX) : t_is_text A (fun C fs _ M' => WkX EX C fs M') (endsOf R) (startD n_is_text ds) M := by
  obtain ⟨s, rfl, hs, k⟩ := h
  unfold t_is_text
  simp only [dVar, dC, dOp, dTest, dChain, dAnd, dOr, dNot, dAndV, dOrV, dNotV, dIfE, dNil, dCons, dTup, dLst, dNext, dSeq, dIfS, dRet, dRetN, dExpr, dBrk, dCnt, dSet, dNever, gN, gTp, gLs, gsNil, gsCons, dAsg, dCall, dRaise, dRaiseF, ixD, dSl, slD, dPart, dNoPart, dCB, lenD, minD, maxD, absD, intD, strD, tupleD, listD, dMt, dMt0, tyD, appendD, popD, splitD, countD, dIsi, gSb, setL, dFld, dFldSet, dMeth, dMake, dFldAug, dAug, dPar, dTru, dNeg, augAdd, dDep, dIsC, intI, cmpI, startD, endsOf, List.map_cons, List.map_nil, List.length_cons, List.length_nil, List.replicate, List.getElem?_cons_zero, List.getElem?_cons_succ, List.cons_append, List.nil_append, List.set_cons_zero, List.set_cons_succ, Nat.reduceAdd, Nat.reduceSub]
  intro D0 hD
  refine all_lc (p := fun x => match x with | .str [c] => decide (c ∈ SGc) | _ => false) hD (by rw [List.length_map]; have z := sizeLine_eq; omega) (fun _ => trivial) (fun x hx acc R' hR => ?_) (fun x ρ ρ' M P Q h k => h _ _ k) ?_
  · rw [List.mem_map] at hx
    obtain ⟨c, _, rfl⟩ := hx
    exact hR
  · rw [List.all_map]
    exact Wk.self k
def sp_check_text (A : Ad) : DSp := fun ds M Q E => ∃ s : List Nat, ds = [.str s] ∧ s.length ≤ 100000 ∧ (okT s = true → Q .non M) ∧ (okT s = false → E A.cBT [] M)
def t_check_text (A : Ad) : DS := dIfS (dNot (dTest (dCall (sp_is_text A) (dCons (dVar 0) (dNil))))) (dRaise A.cBT) (dNext)
abbrev n_check_text : List Str := ["text"]
theorem pure_check_text {A : Ad} (ds M R EX) (h : sp_check_text A ds M R EX) : t_check_text A (fun C fs _ M' => WkX EX C fs M') (endsOf R) (startD n_check_text ds) M := by
  obtain ⟨s, rfl, hs, k1, k2⟩ := h
  unfold t_check_text
  simp only [dVar, dC, dOp, dTest, dChain, dAnd, dOr, dNot, dAndV, dOrV, dNotV, dIfE, dNil, dCons, dTup, dLst, dNext, dSeq, dIfS, dRet, dRetN, dExpr, dBrk, dCnt, dSet, dNever, gN, gTp, gLs, gsNil, gsCons, dAsg, dCall, dRaise, dRaiseF, ixD, dSl, slD, dPart, dNoPart, dCB, lenD, minD, maxD, absD, intD, strD, tupleD, listD, dMt, dMt0, tyD, appendD, popD, splitD, countD, dIsi, gSb, setL, dFld, dFldSet, dMeth, dMake, dFldAug, dAug, dPar, dTru, dNeg, augAdd, dDep, dIsC, intI, cmpI, startD, endsOf, List.map_cons, List.map_nil, List.length_cons, List.length_nil, List.replicate, List.getElem?_cons_zero, List.getElem?_cons_succ, List.cons_append, List.nil_append, List.set_cons_zero, List.set_cons_succ, Nat.reduceAdd, Nat.reduceSub]
  refine ⟨s, rfl, hs, ?_⟩
  cases q : okT s with
  | true => exact Wk.self (k1 q)
  | false => exact ⟨M, fun _ _ e => e, k2 q⟩
def run (r : Rdr) (s : List Nat) (o : Option RS) : Option RS := s.foldl (bh r) o
def rdB (r : Rdr) (s : List Nat) : Bool := whole r (run r s (some fst0))
def sp_is_read (_ : Ad) : DSp := fun ds M Q _ => ∃ (r : Rdr) (s : List Nat), ds = [r.D, .str s] ∧ Q (.bl (rdB r s)) M
def t_is_read (A : Ad) : DS := dSeq (dSet 2 (dC c_FIRST)) (dSeq (dFor (dIter (dVar 1)) (gN 3) (dSet 2 (dCall (sp_behind A) (dCons (dVar 0) (dCons (dVar 2) (dCons (dVar 3) (dNil))))))) (dRet (dCall (sp_is_whole A) (dCons (dVar 0) (dCons (dVar 2) (dNil))))))
abbrev n_is_read : List Str := ["reader", "text", "state", "sign"]
theorem read_loop {A : Ad} {W : DW} {r : Rdr} {t : D} {M : DM} {E : DEnds} : ∀ (s : List Nat) (o : Option RS) (x : Option D), (∀ x, E.nx [some r.D, some t, some (osD (run r s o)), x] M) →
    dLoop (gN 3) ((dSet 2 (dCall (sp_behind A) (dCons (dVar 0) (dCons (dVar 2) (dCons (dVar 3) (dNil)))))) W) anyM (s.map fun c => .str [c]) E [some r.D, some t, some (osD o), x] M
  | [], o, x, k => ⟨trivial, k x⟩
  | c :: s, o, x, k => ⟨trivial, r, o, c, rfl, read_loop s (bh r o c) _ k⟩
theorem pure_is_read {A : Ad} (ds M R EX) (h : sp_is_read A ds M R EX) : t_is_read A (fun C fs _ M' => WkX EX C fs M') (endsOf R) (startD n_is_read ds) M := by
  obtain ⟨r, s, rfl, k⟩ := h
  unfold t_is_read
  exact read_loop s (some fst0) _ fun x => ⟨r, _, rfl, Wk.self k⟩
def lowD (p q : Int) : D := .tup [.int (p / (Int.gcd p q : Nat)), .int (q / (Int.gcd p q : Nat))]
def QOk (q : Int) : Prop := 0 < q ∧ q < 2 ^ 8000
def sp_lowest (_ : Ad) : DSp := fun ds M Q _ => ∃ p q : Int, ds = [.int p, .int q] ∧ QOk q ∧ Q (lowD p q) M
def t_lowest (A : Ad) : DS := dSeq (dPar 2 3 (dCons (dCB absD (dCons (dVar 0) (dNil))) (dCons (dVar 1) (dNil)))) (dSeq (dWhile (dTru (dVar 3)) (dPar 2 3 (dCons (dVar 3) (dCons (dOp modD (dVar 2) (dVar 3)) (dNil))))) (dRet (dTup (dCons (dOp fdivWD (dVar 0) (dVar 2)) (dCons (dOp fdivWD (dVar 1) (dVar 2)) (dNil))))))
abbrev n_lowest : List Str := ["p", "q", "one", "other"]
theorem gcd_ok {p q : Int} (h : QOk q) : CDivW p (Int.gcd p q : Nat) ∧ CDivW q (Int.gcd p q : Nat) := by
  have h0 : 0 < Int.gcd p q := Int.gcd_pos_of_ne_zero_right p (by have := h.1; omega)
  have h1 : Int.gcd p q ≤ q.natAbs := Nat.le_of_dvd (by have := h.1; omega) (Nat.gcd_dvd_right _ _)
  have h2 : q.natAbs < 2 ^ 8000 := by
    have := h.2
    have e : ((q.natAbs : Nat) : Int) = q := by have := h.1; omega
    exact Int.ofNat_lt.mp (by rw [e]; exact_mod_cast this)
  have h3 : ((Int.gcd p q : Nat) : Int).natAbs.log2 < 9000 := by
    rw [Int.natAbs_natCast]
    exact Nat.lt_trans ((Nat.log2_lt (by omega)).mpr (Nat.lt_of_le_of_lt h1 h2)) (by decide)
  exact ⟨⟨by exact_mod_cast h0, h3⟩, ⟨by exact_mod_cast h0, h3⟩⟩
theorem pure_lowest {A : Ad} (ds M R EX) (h : sp_lowest A ds M R EX) : t_lowest A (fun C fs _ M' => WkX EX C fs M') (endsOf R) (startD n_lowest ds) M := by
  obtain ⟨p, q, rfl, hq, k⟩ := h
  unfold t_lowest
  simp only [dVar, dC, dOp, dTest, dChain, dAnd, dOr, dNot, dAndV, dOrV, dNotV, dIfE, dNil, dCons, dTup, dLst, dNext, dSeq, dIfS, dRet, dRetN, dExpr, dBrk, dCnt, dSet, dNever, gN, gTp, gLs, gsNil, gsCons, dAsg, dCall, dRaise, dRaiseF, ixD, dSl, slD, dPart, dNoPart, dCB, lenD, minD, maxD, absD, intD, strD, tupleD, listD, dMt, dMt0, tyD, appendD, popD, splitD, countD, dIsi, gSb, setL, dFld, dFldSet, dMeth, dMake, dFldAug, dAug, dPar, dTru, dNeg, augAdd, dDep, dIsC, intI, cmpI, startD, endsOf, List.map_cons, List.map_nil, List.length_cons, List.length_nil, List.replicate, List.getElem?_cons_zero, List.getElem?_cons_succ, List.cons_append, List.nil_append, List.set_cons_zero, List.set_cons_succ, Nat.reduceAdd, Nat.reduceSub]
  refine ⟨fun n ρ M' => ∃ one : Nat, M' = M ∧ ρ = [some (.int p), some (.int q), some (.int (one : Nat)), some (.int (n : Nat))] ∧ Nat.gcd one n = Int.gcd p q, ⟨q.natAbs, p.natAbs, rfl, ?_, rfl⟩, ?_⟩
  · have e : ((q.natAbs : Nat) : Int) = q := by have := hq.1; omega
    rw [e, show (if p < 0 then -p else p) = ((p.natAbs : Nat) : Int) from by split <;> omega]
  · rintro n ρ M' ⟨one, rfl, rfl, e⟩
    simp only [dVar, dC, dOp, dTest, dChain, dAnd, dOr, dNot, dAndV, dOrV, dNotV, dIfE, dNil, dCons, dTup, dLst, dNext, dSeq, dIfS, dRet, dRetN, dExpr, dBrk, dCnt, dSet, dNever, gN, gTp, gLs, gsNil, gsCons, dAsg, dCall, dRaise, dRaiseF, ixD, dSl, slD, dPart, dNoPart, dCB, lenD, minD, maxD, absD, intD, strD, tupleD, listD, dMt, dMt0, tyD, appendD, popD, splitD, countD, dIsi, gSb, setL, dFld, dFldSet, dMeth, dMake, dFldAug, dAug, dPar, dTru, dNeg, augAdd, dDep, dIsC, intI, cmpI, startD, endsOf, List.map_cons, List.map_nil, List.length_cons, List.length_nil, List.replicate, List.getElem?_cons_zero, List.getElem?_cons_succ, List.cons_append, List.nil_append, List.set_cons_zero, List.set_cons_succ, Nat.reduceAdd, Nat.reduceSub, truD]
    by_cases z : n = 0
    · subst z
      have e2 : one = Int.gcd p q := by rw [← e, Nat.gcd_zero_right]
      subst e2
      obtain ⟨c1, c2⟩ := gcd_ok (p := p) hq
      exact ⟨c1, c2, by show 2 ≤ sizeLine; decide, Wk.self k⟩
    · have hb : (((n : Nat) : Int) != 0) = true := by simp [z]
      rw [hb]
      refine ⟨by omega, one % n, Nat.mod_lt _ (by omega), n, (by first | trivial | rfl), (by first | trivial | rfl), ?_⟩
      rw [← e, Nat.gcd_comm n, ← Nat.gcd_rec, Nat.gcd_comm]
def FGc : List Nat := [48, 49, 56, 116]
def figs (s : List Nat) : List Nat := s.filter fun c => decide (c ∈ FGc)
def wI (c : Nat) : Int := (wv c).getD 0
def numB (b : Int) (n : Int) (s : List Nat) : Int := s.foldl (fun n c => n * b + wI c) n
def divB (d : Int) (s : List Nat) : Int := s.foldl (fun d c => if c ∈ FGc then d * 10 else d) d
def baseR (r : Rdr) (f : List Nat) : Int := if r.c = o_eight ∧ f.head? = some 48 then 8 else 10
def dvR (r : Rdr) (s : List Nat) : Int := if r.e ∈ [o_part, o_loose] ∧ 46 ∈ s then divB 1 (s.drop (idxL 46 s)) else 1
def sgR (s : List Nat) (n : Int) : Int := if 45 ∈ s then -n else n
def numR (r : Rdr) (s : List Nat) : D := lowD (sgR s (numB (baseR r (figs s)) 0 (figs s))) (dvR r s)
def sp_number_of (_ : Ad) : DSp := fun ds M Q _ => ∃ (r : Rdr) (s : List Nat), ds = [r.D, .str s] ∧ s.length ≤ 1000 ∧ figs s ≠ [] ∧ Q (numR r s) M
def t_number_of (A : Ad) : DS := dSeq (dSet 2 (dLc (dIter (dVar 1)) (gN 5) (dTest (dOp inD (dVar 5) (dC c_FIGURES))) (dVar 5) [5])) (dSeq (dSet 3 (dIfE (dAnd (dTest (dOp eqD (dOp ixD (dVar 0) (dC (.int 2))) (dC (.str [101, 105, 103, 104, 116])))) (dTest (dOp eqD (dOp ixD (dVar 2) (dC (.int 0))) (dC (.str [48]))))) (dC (.int 8)) (dC (.int 10)))) (dSeq (dSet 4 (dC (.int 0))) (dSeq (dFor (dIter (dVar 2)) (gN 5) (dSet 4 (dOp addD (dOp mulD (dVar 4) (dVar 3)) (dWorth (dVar 5))))) (dSeq (dSet 6 (dC (.int 1))) (dSeq (dIfS (dAnd (dTest (dOp inD (dOp ixD (dVar 0) (dC (.int 4))) (dC c_PARTS))) (dTest (dOp inD (dC (.str [46])) (dVar 1)))) (dFor (dIter (dSl (dVar 1) (dPart (dMt "str" indexD (dVar 1) (dCons (dC (.str [46])) (dNil)))) (dNoPart))) (gN 5) (dSet 6 (dIfE (dTest (dOp inD (dVar 5) (dC c_FIGURES))) (dOp mulD (dVar 6) (dC (.int 10))) (dVar 6)))) (dNext)) (dRet (dCall (sp_lowest A) (dCons (dIfE (dTest (dOp inD (dC (.str [45])) (dVar 1))) (dNeg (dVar 4)) (dVar 4)) (dCons (dVar 6) (dNil))))))))))
abbrev n_number_of : List Str := ["reader", "text", "figures", "base", "number", "sign", "divisor"]
theorem figs_loop {D0 : Addr} {r : D} {t : D} {M : DM} {K : DM → Prop} : ∀ (s acc : List Nat), acc.length + s.length < sizeLine → K (mupd M D0 (.lst ((acc ++ figs s).map fun c => .str [c]))) →
    lcF (gN 5) (dTest (dOp inD (dVar 5) (dC c_FIGURES))) (dVar 5) anyM D0 [some r, some t, none, none, none, none, none] K (s.map fun c => .str [c]) (mupd M D0 (.lst (acc.map fun c => .str [c])))
  | [], acc, _, k => ⟨trivial, by simpa [figs] using k⟩
  | c :: s, acc, hz, k => by
    refine ⟨trivial, ?_⟩
    show (match decide (c ∈ FGc) with | true => _ | false => _)
    by_cases h : c ∈ FGc
    · rw [decide_eq_true h]
      refine ⟨_, mupd_same, by simp at hz ⊢; omega, ?_⟩
      rw [mupd_upd]
      have := figs_loop (D0 := D0) (r := r) (t := t) (M := M) (K := K) s (acc ++ [c]) (by simp at hz ⊢; omega) (by simpa [figs, h] using k)
      simpa using this
    · rw [decide_eq_false h]
      exact figs_loop s acc (by simp at hz ⊢; omega) (by simpa [figs, h] using k)
theorem wv_fig {c : Nat} (h : c ∈ FGc) : wv c = some (wI c) := by
  simp only [FGc, List.mem_cons, List.not_mem_nil, or_false] at h
  rcases h with rfl | rfl | rfl | rfl <;> rfl
theorem cmul_r {i j : Int} (h : -100 < j) (h2 : j < 100) : CMul i j := .inr ⟨by omega, by omega⟩
theorem num_loop {r t f : D} {b : Int} {W : DW} {M : DM} {E : DEnds} {D0 : Addr} {L : List D} (hb : -100 < b ∧ b < 100) (hM : M D0 = some (.lst L)) : ∀ (s : List Nat) (n : Int) (x : Option D), (∀ c ∈ s, c ∈ FGc) → (∀ x, E.nx [some r, some t, some f, some (.int b), some (.int (numB b n s)), x, none] M) →
    dLoop (gN 5) ((dSet 4 (dOp addD (dOp mulD (dVar 4) (dVar 3)) (dWorth (dVar 5)))) W) (fun M => M D0 = some (.lst L)) (s.map fun c => .str [c]) E [some r, some t, some f, some (.int b), some (.int n), x, none] M
  | [], n, x, _, k => ⟨hM, k x⟩
  | c :: s, n, x, hs, k => ⟨hM, cmul_r hb.1 hb.2, wI c, wv_fig (hs c (by simp)), num_loop hb hM s (n * b + wI c) _ (fun c h => hs c (by simp [h])) k⟩
theorem div_loop {r t f b n : D} {W : DW} {M : DM} {E : DEnds} : ∀ (s : List Nat) (d : Int) (x : Option D), (∀ x, E.nx [some r, some t, some f, some b, some n, x, some (.int (divB d s))] M) →
    dLoop (gN 5) ((dSet 6 (dIfE (dTest (dOp inD (dVar 5) (dC c_FIGURES))) (dOp mulD (dVar 6) (dC (.int 10))) (dVar 6))) W) anyM (s.map fun c => .str [c]) E [some r, some t, some f, some b, some n, x, some (.int d)] M
  | [], d, x, k => ⟨trivial, k x⟩
  | c :: s, d, x, k => by
    refine ⟨trivial, ?_⟩
    show (match decide (c ∈ FGc) with | true => _ | false => _)
    by_cases h : c ∈ FGc
    · rw [decide_eq_true h]
      refine ⟨cmul_r (by decide) (by decide), ?_⟩
      exact div_loop s (d * 10) _ (by simpa [divB, h] using k)
    · rw [decide_eq_false h]
      exact div_loop s d _ (by simpa [divB, h] using k)
theorem divB_pow (s : List Nat) : ∀ d : Int, ∃ k, k ≤ s.length ∧ divB d s = d * 10 ^ k := by
  induction s with
  | nil => intro d; exact ⟨0, Nat.le_refl _, by simp [divB]⟩
  | cons c s ih =>
    intro d
    by_cases h : c ∈ FGc
    · obtain ⟨k, hk, e⟩ := ih (d * 10)
      refine ⟨k + 1, by simp; omega, ?_⟩
      show divB (if c ∈ FGc then d * 10 else d) s = _
      rw [if_pos h, e, Int.mul_assoc, Int.pow_succ, Int.mul_comm 10]
    · obtain ⟨k, hk, e⟩ := ih d
      refine ⟨k, by simp; omega, ?_⟩
      show divB (if c ∈ FGc then d * 10 else d) s = _
      rw [if_neg h, e]
theorem qok_pow {k : Nat} (h : k ≤ 1000) : QOk (10 ^ k) := by
  have a : (10 : Nat) ^ k < 2 ^ 8000 := by
    have h1 : (10 : Nat) ^ k ≤ 16 ^ k := Nat.pow_le_pow_left (by decide) k
    have h2 : (16 : Nat) ^ k = 2 ^ (4 * k) := by rw [show (16 : Nat) = 2 ^ 4 from rfl, ← Nat.pow_mul]
    have h3 : (2 : Nat) ^ (4 * k) < 2 ^ 8000 := Nat.pow_lt_pow_right (by decide) (by omega)
    omega
  have b : 0 < (10 : Nat) ^ k := Nat.pow_pos (by decide)
  exact ⟨by exact_mod_cast b, by exact_mod_cast a⟩
theorem dv_ok {r : Rdr} {s : List Nat} (h : s.length ≤ 1000) : QOk (dvR r s) := by
  unfold dvR
  split
  · obtain ⟨k, hk, e⟩ := divB_pow (s.drop (idxL 46 s)) 1
    rw [e, Int.one_mul]
    exact qok_pow (by rw [List.length_drop] at hk; omega)
  · exact qok_pow (k := 0) (by decide)
theorem cut_from {s : List Nat} {n : Nat} (h : n ≤ s.length) : cutL s (some (n : Int)) none = s.drop n := by
  have := cutL_nat s n s.length h
  unfold cutL at this ⊢
  have e : HT.sIx s.length s.length none = s.length := rfl
  rw [e]
  rw [HT.sIx_nat, Nat.min_eq_left h, List.take_of_length_le]
  simp
theorem iInParts {x : List Nat} {M : DM} {R : DQ} : inD (.str x) c_PARTS M R = R (.bl (decide (x ∈ [o_part, o_loose]))) M := by
  have e : inF (.str x) ([o_part, o_loose].map D.str) = decide (x ∈ [o_part, o_loose]) := inF_strs x _
  have f : ([o_part, o_loose].map D.str).all flatD = true := flat_strs _
  unfold inD inG c_PARTS
  simp only [List.map_cons, List.map_nil] at e f
  simp only [e, f, flatD, Bool.true_and, if_true]
  rfl
theorem atI_hd {α : Type} {x : α} {xs : List α} : atI (x :: xs) 0 = some x := by
  unfold atI ixN
  simp
theorem idx_le (c : Nat) (s : List Nat) : idxL c s ≤ s.length := (List.takeWhile_prefix _).length_le
theorem pure_number_of {A : Ad} (ds M R EX) (h : sp_number_of A ds M R EX) : t_number_of A (fun C fs _ M' => WkX EX C fs M') (endsOf R) (startD n_number_of ds) M := by
  obtain ⟨r, s, rfl, hs, hf, k⟩ := h
  have k0 : ∀ D0, M D0 = none → Wk R (numR r s) (mupd M D0 (.lst ((figs s).map fun c => .str [c]))) := fun D0 h => ⟨M, msub_new h, k⟩
  have zl : 1000 < sizeLine := by rw [sizeLine_eq]; decide
  have hff : ∀ c ∈ figs s, c ∈ FGc := fun c h => by simpa [figs] using (List.mem_filter.mp h).2
  unfold t_number_of
  intro D0 hD
  refine figs_loop (D0 := D0) (M := M) s [] (by simp; omega) ?_
  have k1 := k0 D0 hD
  unfold numR at k1
  rw [List.nil_append]
  have hM : (mupd M D0 (.lst ((figs s).map fun c => .str [c]))) D0 = some (.lst ((figs s).map fun c => .str [c])) := mupd_same
  generalize mupd M D0 (.lst ((figs s).map fun c => .str [c])) = M1 at k1 hM
  obtain ⟨f0, fr, ef⟩ : ∃ f0 fr, figs s = f0 :: fr := by cases q : figs s with | nil => exact absurd q hf | cons a b => exact ⟨a, b, rfl⟩
  -- the base
  have step : ∀ (b : Int), b = baseR r (figs s) → (-100 < b ∧ b < 100) → (dSet 4 (dC (.int 0))) (fun C fs _ M' => WkX EX C fs M') { endsOf R with nx := fun ρ M => (dSeq (dFor (dIter (dVar 2)) (gN 5) (dSet 4 (dOp addD (dOp mulD (dVar 4) (dVar 3)) (dWorth (dVar 5))))) (dSeq (dSet 6 (dC (.int 1))) (dSeq (dIfS (dAnd (dTest (dOp inD (dOp ixD (dVar 0) (dC (.int 4))) (dC c_PARTS))) (dTest (dOp inD (dC (.str [46])) (dVar 1)))) (dFor (dIter (dSl (dVar 1) (dPart (dMt "str" indexD (dVar 1) (dCons (dC (.str [46])) (dNil)))) (dNoPart))) (gN 5) (dSet 6 (dIfE (dTest (dOp inD (dVar 5) (dC c_FIGURES))) (dOp mulD (dVar 6) (dC (.int 10))) (dVar 6)))) (dNext)) (dRet (dCall (sp_lowest A) (dCons (dIfE (dTest (dOp inD (dC (.str [45])) (dVar 1))) (dNeg (dVar 4)) (dVar 4)) (dCons (dVar 6) (dNil)))))))) (fun C fs _ M' => WkX EX C fs M') (endsOf R) ρ M } [some r.D, some (.str s), some (.ref D0), some (.int b), none, none, none] M1 := by
    intro b eb hb
    refine ⟨_, hM, ?_⟩
    refine num_loop hb hM (figs s) 0 _ hff fun x => ?_
    rw [eb]
    have fin : ∀ x, (dRet (dCall (sp_lowest A) (dCons (dIfE (dTest (dOp inD (dC (.str [45])) (dVar 1))) (dNeg (dVar 4)) (dVar 4)) (dCons (dVar 6) (dNil))))) (fun C fs _ M' => WkX EX C fs M') (endsOf R) [some r.D, some (.str s), some (.ref D0), some (.int (baseR r (figs s))), some (.int (numB (baseR r (figs s)) 0 (figs s))), x, some (.int (dvR r s))] M1 := by
      intro x
      show (match decide (45 ∈ s) with | true => _ | false => _)
      unfold sgR at k1
      by_cases q : 45 ∈ s
      · rw [decide_eq_true q]
        rw [if_pos q] at k1
        exact ⟨_, _, rfl, dv_ok hs, k1⟩
      · rw [decide_eq_false q]
        rw [if_neg q] at k1
        exact ⟨_, _, rfl, dv_ok hs, k1⟩
    show (dIfS (dAnd (dTest (dOp inD (dOp ixD (dVar 0) (dC (.int 4))) (dC c_PARTS))) (dTest (dOp inD (dC (.str [46])) (dVar 1)))) _ _) _ _ [some r.D, some (.str s), some (.ref D0), some (.int (baseR r (figs s))), some (.int (numB (baseR r (figs s)) 0 (figs s))), x, some (.int 1)] M1
    simp only [dVar, dC, dOp, dTest, dNot, dNil, dCons, dTup, dLst, dNext, dSeq, dRet, dRetN, dExpr, dBrk, dCnt, dSet, gN, gTp, gLs, gsNil, gsCons, dAsg, dCall, dPart, dNoPart, dCB, lenD, minD, maxD, absD, dNeg, dPar, dAug, augAdd, dNotV, startD, endsOf, intI, cmpI, iIfS, iAnd, iOr, iAndV, iOrV, iIfE, iEqS, iEqI, iEqB, iNeS, iNeI, iIs, iIsNot, iInC, iNotInC, iAddI, iAddT, iAddS, List.map_cons, List.map_nil, List.length_cons, List.length_nil, List.replicate, List.getElem?_cons_zero, List.getElem?_cons_succ, List.cons_append, List.nil_append, List.set_cons_zero, List.set_cons_succ, Nat.reduceAdd, Nat.reduceSub, true_and, decide_eq_true_eq, Bool.not_eq_true', decide_eq_false_iff_not, ixr4, iInParts]
    by_cases q1 : r.e ∈ [o_part, o_loose]
    · rw [if_pos q1]
      by_cases q2 : 46 ∈ s
      · rw [if_pos q2]
        refine ⟨rfl, q2, ?_⟩
        refine ⟨by omega, ?_⟩
        rw [cut_from (idx_le 46 s)]
        refine div_loop (s.drop (idxL 46 s)) 1 _ fun x => ?_
        have := fin x
        unfold dvR at this
        rw [if_pos ⟨q1, q2⟩] at this
        simp only [dVar, dC, dOp, dTest, dNot, dNil, dCons, dTup, dLst, dNext, dSeq, dRet, dRetN, dExpr, dBrk, dCnt, dSet, gN, gTp, gLs, gsNil, gsCons, dAsg, dCall, dPart, dNoPart, dCB, lenD, minD, maxD, absD, dNeg, dPar, dAug, augAdd, dNotV, startD, endsOf, intI, cmpI, iIfS, iAnd, iOr, iAndV, iOrV, iIfE, iEqS, iEqI, iEqB, iNeS, iNeI, iIs, iIsNot, iInC, iNotInC, iAddI, iAddT, iAddS, List.map_cons, List.map_nil, List.length_cons, List.length_nil, List.replicate, List.getElem?_cons_zero, List.getElem?_cons_succ, List.cons_append, List.nil_append, List.set_cons_zero, List.set_cons_succ, Nat.reduceAdd, Nat.reduceSub, true_and, decide_eq_true_eq, Bool.not_eq_true', decide_eq_false_iff_not] at this ⊢
        exact this
      · rw [if_neg q2]
        have := fin x
        unfold dvR at this
        rw [if_neg (fun h => q2 h.2)] at this
        simp only [dVar, dC, dOp, dTest, dNot, dNil, dCons, dTup, dLst, dNext, dSeq, dRet, dRetN, dExpr, dBrk, dCnt, dSet, gN, gTp, gLs, gsNil, gsCons, dAsg, dCall, dPart, dNoPart, dCB, lenD, minD, maxD, absD, dNeg, dPar, dAug, augAdd, dNotV, startD, endsOf, intI, cmpI, iIfS, iAnd, iOr, iAndV, iOrV, iIfE, iEqS, iEqI, iEqB, iNeS, iNeI, iIs, iIsNot, iInC, iNotInC, iAddI, iAddT, iAddS, List.map_cons, List.map_nil, List.length_cons, List.length_nil, List.replicate, List.getElem?_cons_zero, List.getElem?_cons_succ, List.cons_append, List.nil_append, List.set_cons_zero, List.set_cons_succ, Nat.reduceAdd, Nat.reduceSub, true_and, decide_eq_true_eq, Bool.not_eq_true', decide_eq_false_iff_not] at this ⊢
        exact this
    · rw [if_neg q1]
      have := fin x
      unfold dvR at this
      rw [if_neg (fun h => q1 h.1)] at this
      simp only [dVar, dC, dOp, dTest, dNot, dNil, dCons, dTup, dLst, dNext, dSeq, dRet, dRetN, dExpr, dBrk, dCnt, dSet, gN, gTp, gLs, gsNil, gsCons, dAsg, dCall, dPart, dNoPart, dCB, lenD, minD, maxD, absD, dNeg, dPar, dAug, augAdd, dNotV, startD, endsOf, intI, cmpI, iIfS, iAnd, iOr, iAndV, iOrV, iIfE, iEqS, iEqI, iEqB, iNeS, iNeI, iIs, iIsNot, iInC, iNotInC, iAddI, iAddT, iAddS, List.map_cons, List.map_nil, List.length_cons, List.length_nil, List.replicate, List.getElem?_cons_zero, List.getElem?_cons_succ, List.cons_append, List.nil_append, List.set_cons_zero, List.set_cons_succ, Nat.reduceAdd, Nat.reduceSub, true_and, decide_eq_true_eq, Bool.not_eq_true', decide_eq_false_iff_not, Bool.false_eq_true, if_false] at this ⊢
      exact this
  clear k k0 hD hf
  simp only [dVar, dC, dOp, dTest, dNot, dNil, dCons, dTup, dLst, dNext, dSeq, dRet, dRetN, dExpr, dBrk, dCnt, dSet, gN, gTp, gLs, gsNil, gsCons, dAsg, dCall, dPart, dNoPart, dCB, lenD, minD, maxD, absD, dNeg, dPar, dAug, augAdd, dNotV, startD, endsOf, intI, cmpI, iIfS, iAnd, iOr, iAndV, iOrV, iIfE, iEqS, iEqI, iEqB, iNeS, iNeI, iIs, iIsNot, iInC, iNotInC, iAddI, iAddT, iAddS, List.map_cons, List.map_nil, List.length_cons, List.length_nil, List.replicate, List.getElem?_cons_zero, List.getElem?_cons_succ, List.cons_append, List.nil_append, List.set_cons_zero, List.set_cons_succ, Nat.reduceAdd, Nat.reduceSub, true_and, decide_eq_true_eq, Bool.not_eq_true', decide_eq_false_iff_not, ixr2] at step ⊢
  have ix0 : atI ((figs s).map fun c => D.str [c]) 0 = some (.str [f0]) := by rw [ef]; exact atI_hd
  by_cases q1 : r.c = [101, 105, 103, 104, 116]
  · rw [if_pos q1]
    refine ⟨_, _, hM, ix0, ?_⟩
    by_cases q2 : f0 = 48
    · subst q2
      exact step 8 (by unfold baseR; rw [ef]; exact (if_pos ⟨q1, rfl⟩).symm) (by decide)
    · have e : baseR r (figs s) = 10 := by unfold baseR; rw [ef]; exact if_neg (fun h => q2 (Option.some.inj h.2))
      have := step 10 e.symm (by decide)
      simp only [iEqS, List.cons.injEq, and_true, q2, decide_false]
      exact this
  · rw [if_neg q1]
    exact step 10 (by unfold baseR; exact (if_neg (fun h => q1 h.1)).symm) (by decide)
def resR (r : Rdr) (s : List Nat) : D := if rdB r s = true then numR r s else .non
def RdrV (r : Rdr) : Prop := rf r.D = none ∧ r.a.length ≤ 100 ∧ r.b.length ≤ 100 ∧ r.c.length ≤ 100 ∧ r.d.length ≤ 100 ∧ r.e.length ≤ 100 ∧ r.f.length ≤ 100
theorem RdrV.gd {r : Rdr} {M : DM} (h : RdrV r) : GD M r.D := by
  obtain ⟨_, h1, h2, h3, h4, h5, h6⟩ := h
  refine .tup fun d hd => ?_
  simp only [List.mem_cons, List.not_mem_nil, or_false] at hd
  rcases hd with rfl | rfl | rfl | rfl | rfl | rfl <;> exact .str _ (by omega)
def sp_read (A : Ad) : DSp := fun ds M Q E => ∃ (r : Rdr) (s : List Nat), ds = [r.D, .str s] ∧ RdrV r ∧ s.length ≤ 1000 ∧ (okT s = true → (rdB r s = true → figs s ≠ []) ∧ Q (resR r s) M) ∧ (okT s = false → E A.cBT [] M)
def t_read (A : Ad) : DS := dSeq (dExpr (dCall (sp_check_reader A) (dCons (dVar 0) (dNil)))) (dSeq (dExpr (dCall (sp_check_text A) (dCons (dVar 1) (dNil)))) (dRet (dIfE (dTest (dCall (sp_is_read A) (dCons (dVar 0) (dCons (dVar 1) (dNil))))) (dCall (sp_number_of A) (dCons (dVar 0) (dCons (dVar 1) (dNil)))) (dC .non))))
abbrev n_read : List Str := ["reader", "text"]
theorem pure_read {A : Ad} (ds M R EX) (h : sp_read A ds M R EX) : t_read A (fun C fs _ M' => WkX EX C fs M') (endsOf R) (startD n_read ds) M := by
  obtain ⟨r, s, rfl, hr, hs, k1, k2⟩ := h
  unfold t_read
  refine ⟨r.D, rfl, hr.gd, fun _ => ?_, fun i hi => (by rw [hr.1] at hi; cases hi)⟩
  refine ⟨s, rfl, by omega, fun h1 => ?_, fun h1 => ⟨M, fun _ _ e => e, k2 h1⟩⟩
  obtain ⟨k3, k4⟩ := k1 h1
  refine ⟨r, s, rfl, ?_⟩
  unfold resR at k4
  show (match rdB r s with | true => _ | false => _)
  cases q : rdB r s with
  | true =>
    rw [if_pos q] at k4
    exact ⟨r, s, rfl, hs, k3 q, Wk.self k4⟩
  | false =>
    rw [if_neg (by rw [q]; exact Bool.false_ne_true)] at k4
    exact Wk.self k4
def sp_law_lowest (_ : Ad) : DSp := fun ds M Q _ => ∃ p q : Int, ds = [.int p, .int q] ∧ QOk q ∧ Q (lowD p q) M
def t_law_lowest (A : Ad) : DS := dSeq (dSet 2 (dCB absD (dCons (dVar 0) (dNil)))) (dSeq (dSet 3 (dVar 1)) (dSeq (dWhile (dTest (dOp gtD (dVar 3) (dC (.int 0)))) (dPar 2 3 (dCons (dVar 3) (dCons (dOp modD (dVar 2) (dVar 3)) (dNil))))) (dRet (dTup (dCons (dOp fdivWD (dVar 0) (dVar 2)) (dCons (dOp fdivWD (dVar 1) (dVar 2)) (dNil)))))))
abbrev n_law_lowest : List Str := ["_law_p", "_law_q", "_law_one", "_law_other"]
theorem pure_law_lowest {A : Ad} (ds M R EX) (h : sp_law_lowest A ds M R EX) : t_law_lowest A (fun C fs _ M' => WkX EX C fs M') (endsOf R) (startD n_law_lowest ds) M := by
  obtain ⟨p, q, rfl, hq, k⟩ := h
  unfold t_law_lowest
  simp only [dVar, dC, dOp, dTest, dChain, dAnd, dOr, dNot, dAndV, dOrV, dNotV, dIfE, dNil, dCons, dTup, dLst, dNext, dSeq, dIfS, dRet, dRetN, dExpr, dBrk, dCnt, dSet, dNever, gN, gTp, gLs, gsNil, gsCons, dAsg, dCall, dRaise, dRaiseF, ixD, dSl, slD, dPart, dNoPart, dCB, lenD, minD, maxD, absD, intD, strD, tupleD, listD, dMt, dMt0, tyD, appendD, popD, splitD, countD, dIsi, gSb, setL, dFld, dFldSet, dMeth, dMake, dFldAug, dAug, dPar, dTru, dNeg, augAdd, dDep, dIsC, intI, cmpI, startD, endsOf, List.map_cons, List.map_nil, List.length_cons, List.length_nil, List.replicate, List.getElem?_cons_zero, List.getElem?_cons_succ, List.cons_append, List.nil_append, List.set_cons_zero, List.set_cons_succ, Nat.reduceAdd, Nat.reduceSub]
  refine ⟨fun n ρ M' => ∃ one : Nat, M' = M ∧ ρ = [some (.int p), some (.int q), some (.int (one : Nat)), some (.int (n : Nat))] ∧ Nat.gcd one n = Int.gcd p q, ⟨q.natAbs, p.natAbs, rfl, ?_, rfl⟩, ?_⟩
  · have e : ((q.natAbs : Nat) : Int) = q := by have := hq.1; omega
    rw [e, show (if p < 0 then -p else p) = ((p.natAbs : Nat) : Int) from by split <;> omega]
  · rintro n ρ M' ⟨one, rfl, rfl, e⟩
    simp only [dVar, dC, dOp, dTest, dChain, dAnd, dOr, dNot, dAndV, dOrV, dNotV, dIfE, dNil, dCons, dTup, dLst, dNext, dSeq, dIfS, dRet, dRetN, dExpr, dBrk, dCnt, dSet, dNever, gN, gTp, gLs, gsNil, gsCons, dAsg, dCall, dRaise, dRaiseF, ixD, dSl, slD, dPart, dNoPart, dCB, lenD, minD, maxD, absD, intD, strD, tupleD, listD, dMt, dMt0, tyD, appendD, popD, splitD, countD, dIsi, gSb, setL, dFld, dFldSet, dMeth, dMake, dFldAug, dAug, dPar, dTru, dNeg, augAdd, dDep, dIsC, intI, cmpI, startD, endsOf, List.map_cons, List.map_nil, List.length_cons, List.length_nil, List.replicate, List.getElem?_cons_zero, List.getElem?_cons_succ, List.cons_append, List.nil_append, List.set_cons_zero, List.set_cons_succ, Nat.reduceAdd, Nat.reduceSub]
    by_cases z : n = 0
    · subst z
      have e2 : one = Int.gcd p q := by rw [← e, Nat.gcd_zero_right]
      subst e2
      obtain ⟨c1, c2⟩ := gcd_ok (p := p) hq
      exact ⟨c1, c2, by show 2 ≤ sizeLine; decide, Wk.self k⟩
    · have hb : decide ((0 : Int) < ((n : Nat) : Int)) = true := decide_eq_true (by omega)
      rw [hb]
      refine ⟨by omega, one % n, Nat.mod_lt _ (by omega), n, (by first | trivial | rfl), (by first | trivial | rfl), ?_⟩
      rw [← e, Nat.gcd_comm n, ← Nat.gcd_rec, Nat.gcd_comm]
def sp_lk0 : DSp := fun ds M Q _ => ∃ a : Int, ds = [.int a, .int a] ∧ Q (.bl true) M
def sp_lk1 : DSp := fun ds M Q _ => ∃ d : D, ds = [d, d] ∧ (d = .non ∨ ∃ a b : Int, d = .tup [.int a, .int b]) ∧ Q (.bl true) M
def t_law_like (A : Ad) (spR : DSp) : DS := dSeq (dIfS (dTest (dOp isD (dVar 1) (dC .non))) (dRet (dOp isD (dVar 0) (dC .non))) (dNext)) (dSeq (dIfS (dTest (dIsi Tn.bool (dVar 1))) (dRet (dAndV (dIsi Tn.bool (dVar 0)) (dOp eqD (dVar 0) (dVar 1)))) (dNext)) (dSeq (dIfS (dTest (dIsi Tn.int (dVar 1))) (dRet (dAndV (dIsi Tn.int (dVar 0)) (dAndV (dNotV (dIsi Tn.bool (dVar 0))) (dOp eqD (dVar 0) (dVar 1))))) (dNext)) (dSeq (dIfS (dTest (dIsi Tn.str (dVar 1))) (dRet (dAndV (dIsi Tn.str (dVar 0)) (dOp eqD (dVar 0) (dVar 1)))) (dNext)) (dSeq (dIfS (dTest (dIsi Tn.tuple (dVar 1))) (dIfS (dOr (dNot (dTest (dIsi Tn.tuple (dVar 0)))) (dTest (dOp neD (dCB lenD (dCons (dVar 0) (dNil))) (dCB lenD (dCons (dVar 1) (dNil)))))) (dRet (dC (.bl false))) (dNext)) (dIfS (dOr (dNot (dTest (dIsi Tn.list (dVar 0)))) (dTest (dOp neD (dCB lenD (dCons (dVar 0) (dNil))) (dCB lenD (dCons (dVar 1) (dNil)))))) (dRet (dC (.bl false))) (dNext))) (dSeq (dFor (dRng1 (dCons (dCB lenD (dCons (dVar 1) (dNil))) (dNil))) (gN 2) (dIfS (dNot (dTest (dCall (spR) (dCons (dOp ixD (dVar 0) (dVar 2)) (dCons (dOp ixD (dVar 1) (dVar 2)) (dNil)))))) (dRet (dC (.bl false))) (dNext))) (dRet (dC (.bl true))))))))
abbrev n_law_like : List Str := ["_law_actual", "_law_due", "_law_k"]
theorem pure_lk0 {A : Ad} {spR : DSp} (ds M R EX) (h : sp_lk0 ds M R EX) : t_law_like A spR (fun C fs _ M' => WkX EX C fs M') (endsOf R) (startD n_law_like ds) M := by
  obtain ⟨a, rfl, k⟩ := h
  unfold t_law_like
  simp only [dVar, dC, dOp, dTest, dNot, dNil, dCons, dTup, dLst, dNext, dSeq, dRet, dRetN, dExpr, dBrk, dCnt, dSet, gN, gTp, gLs, gsNil, gsCons, dAsg, dCall, dPart, dNoPart, dCB, lenD, minD, maxD, absD, dNeg, dPar, dAug, augAdd, dNotV, startD, endsOf, intI, cmpI, iIfS, iAnd, iOr, iAndV, iOrV, iIfE, iEqS, iEqI, iEqB, iNeS, iNeI, iIs, iIsNot, iInC, iNotInC, iAddI, iAddT, iAddS, List.map_cons, List.map_nil, List.length_cons, List.length_nil, List.replicate, List.getElem?_cons_zero, List.getElem?_cons_succ, List.cons_append, List.nil_append, List.set_cons_zero, List.set_cons_succ, Nat.reduceAdd, Nat.reduceSub, true_and, decide_eq_true_eq, Bool.not_eq_true', decide_eq_false_iff_not, dIsi, tnD, isiT]
  simp only [Bool.false_eq_true, if_false, if_true, Bool.not_true, Bool.not_false, decide_true, decide_false, Bool.or_false, Bool.true_and]
  exact Wk.self k
theorem pure_lk1 {A : Ad} (ds M R EX) (h : sp_lk1 ds M R EX) : t_law_like A sp_lk0 (fun C fs _ M' => WkX EX C fs M') (endsOf R) (startD n_law_like ds) M := by
  obtain ⟨d, rfl, hd, k⟩ := h
  unfold t_law_like
  rcases hd with rfl | ⟨a, b, rfl⟩
  · exact Wk.self k
  · exact ⟨⟨by show -(2 ^ 62) ≤ ((2 : Nat) : Int); decide, by show ((2 : Nat) : Int) < 2 ^ 62; decide⟩, trivial, ⟨a, rfl, ⟨trivial, ⟨b, rfl, ⟨trivial, Wk.self k⟩⟩⟩⟩⟩
end DL

set_option Elab.async false
set_option linter.all false
set_option maxRecDepth 100000
set_option maxHeartbeats 4000000
namespace DL
open PySem L2
structure Gr where
  ok : D → Prop
  st : D → Nat → D
  gl : D → Bool
  cd : D → Nat
  B : Nat
structure GrOk (g : Gr) : Prop where
  nx : ∀ d c, g.ok d → c ∈ SGc → g.st d c = .non ∨ g.ok (g.st d c)
  key : ∀ d, g.ok d → isK d
  inj : ∀ d e, g.ok d → g.ok e → nk d = nk e → d = e
  cdi : ∀ d e, g.ok d → g.ok e → g.cd d = g.cd e → d = e
  lt : ∀ d, g.ok d → g.cd d < g.B
  le : g.B ≤ 4000000
theorem GrOk.nn {g : Gr} (h : GrOk g) {d : D} (o : g.ok d) : isN d = false := by
  obtain ⟨_, _, ds, e⟩ := h.key d o
  rw [e]; rfl
def stp (g : Gr) (d : D) (c : Nat) : D := if isN d = true then .non else g.st d c
def rch (g : Gr) (b : D) (v : List Nat) : D := v.foldl (stp g) b
theorem rch_snoc (g : Gr) (b : D) (v : List Nat) (c : Nat) : rch g b (v ++ [c]) = stp g (rch g b v) c := by unfold rch; rw [List.foldl_append]; rfl
def vl (v : List Nat) : Nat := v.foldl (fun n c => n * 128 + c) 0
theorem vl_snoc (v : List Nat) (c : Nat) : vl (v ++ [c]) = vl v * 128 + c := by unfold vl; rw [List.foldl_append]; rfl
def ahd (u v : List Nat) : Prop := u.length < v.length ∨ (u.length = v.length ∧ vl u < vl v)
theorem ahd.trans {u v w : List Nat} (h : ahd u v) (k : ahd v w) : ahd u w := by unfold ahd at *; omega
theorem ahd.irr {u : List Nat} (h : ahd u u) : False := by unfold ahd at h; omega
theorem ahd.snoc {u v : List Nat} {a b : Nat} (h : ahd u v) (ha : a < 128) : ahd (u ++ [a]) (v ++ [b]) := by
  unfold ahd at *
  rw [vl_snoc, vl_snoc, List.length_append, List.length_append]
  simp only [List.length_cons, List.length_nil]
  omega
theorem ahd.last {u : List Nat} {a b : Nat} (h : a < b) : ahd (u ++ [a]) (u ++ [b]) := .inr ⟨by simp, by rw [vl_snoc, vl_snoc]; omega⟩
theorem ahd.grow {u : List Nat} {a : Nat} : ahd u (u ++ [a]) := by unfold ahd; simp
theorem sg_lt {c : Nat} (h : c ∈ SGc) : c < 128 := by simp [SGc] at h; omega
theorem nodup_lt : ∀ (B : Nat) (l : List Nat), l.Nodup → (∀ x ∈ l, x < B) → l.length ≤ B
  | 0, l, _, h => by
    cases l with
    | nil => exact Nat.le_refl _
    | cons x l => exact absurd (h x (by simp)) (by omega)
  | B + 1, l, nd, h => by
    by_cases q : B ∈ l
    · have := nodup_lt B (l.erase B) (nd.erase B) fun x hx => by
        have h1 := (nd.mem_erase_iff).mp hx
        have := h x h1.2
        omega
      rw [List.length_erase_of_mem q] at this
      omega
    · have := nodup_lt B l nd fun x hx => by
        have h1 := h x hx
        have : x ≠ B := fun z => q (z ▸ hx)
        omega
      omega
structure BI (g : Gr) (b : D) (W : List (D × List Nat)) (at_ : Nat) (dn : List Nat) : Prop where
  first : W[0]? = some (b, [])
  spots : ∀ p ∈ W, g.ok p.1 ∧ rch g b p.2 = p.1 ∧ (∀ c ∈ p.2, c ∈ SGc) ∧ p.2.length < W.length
  nd : (W.map (·.1)).Nodup
  srt : W.Pairwise fun p q => ahd p.2 q.2
  par : ∀ p ∈ W, p.2 = [] ∨ ∃ i q c, W[i]? = some q ∧ p.2 = q.2 ++ [c] ∧ c ∈ SGc ∧ (i < at_ ∨ (i = at_ ∧ c ∈ dn))
  seen : ∀ i p, W[i]? = some p → i < at_ → g.gl p.1 = false
  clo : ∀ i p c, W[i]? = some p → (i < at_ ∨ (i = at_ ∧ c ∈ dn)) → c ∈ SGc → g.st p.1 c = .non ∨ ∃ q ∈ W, q.1 = g.st p.1 c ∧ (q.2 = p.2 ++ [c] ∨ ahd q.2 (p.2 ++ [c]))
theorem BI.len {g : Gr} {b : D} {W : List (D × List Nat)} {a : Nat} {dn : List Nat} (h : GrOk g) (i : BI g b W a dn) : W.length ≤ g.B := by
  have nd2 : (W.map fun p => g.cd p.1).Nodup := by
    have go : ∀ W : List (D × List Nat), (∀ p ∈ W, g.ok p.1) → (W.map (·.1)).Nodup → (W.map fun p => g.cd p.1).Nodup := by
      intro W
      induction W with
      | nil => intro _ _; exact List.nodup_nil
      | cons p W ih =>
        intro ho hn
        rw [List.map_cons, List.nodup_cons] at hn ⊢
        refine ⟨fun z => hn.1 ?_, ih (fun q hq => ho q (by simp [hq])) hn.2⟩
        obtain ⟨q, hq, e⟩ := List.mem_map.mp z
        have := h.cdi q.1 p.1 (ho q (by simp [hq])) (ho p (by simp)) e
        exact List.mem_map.mpr ⟨q, hq, this⟩
    exact go W (fun p hp => (i.spots p hp).1) i.nd
  have := nodup_lt g.B _ nd2 fun x hx => by
    obtain ⟨p, hp, rfl⟩ := List.mem_map.mp hx
    exact h.lt _ (i.spots p hp).1
  simpa using this
theorem BI.start {g : Gr} {b : D} (h : g.ok b) : BI g b [(b, [])] 0 [] := by
  refine ⟨rfl, fun p hp => ?_, by simp, by simp, fun p hp => ?_, fun i p e hi => by omega, fun i p c e hi _ => ?_⟩
  · rw [List.mem_singleton.mp hp]; exact ⟨h, rfl, by simp, by simp⟩
  · rw [List.mem_singleton.mp hp]; exact .inl rfl
  · rcases hi with hi | ⟨_, hi⟩
    · omega
    · cases hi
theorem BI.ahead {g : Gr} {b : D} {W : List (D × List Nat)} {a : Nat} {dn : List Nat} (i : BI g b W a dn) {p : D × List Nat} (hp : W[a]? = some p) {c : Nat} (hdn : ∀ x ∈ dn, x < c) : ∀ q ∈ W, ahd q.2 (p.2 ++ [c]) := by
  intro q hq
  rcases i.par q hq with e | ⟨j, r, x, ej, e, hx, hj⟩
  · rw [e]; unfold ahd; simp
  · rw [e]
    rcases hj with hj | ⟨hj, hx2⟩
    · have ha : a < W.length := (List.getElem?_eq_some_iff.mp hp).1
      have hjl : j < W.length := by omega
      have s := List.pairwise_iff_getElem.mp i.srt j a hjl ha hj
      have e1 := (List.getElem?_eq_some_iff.mp ej).2
      have e2 := (List.getElem?_eq_some_iff.mp hp).2
      rw [e1, e2] at s
      exact s.snoc (sg_lt hx)
    · subst hj
      rw [hp] at ej
      cases ej
      exact ahd.last (hdn x hx2)
theorem getElem?_snoc {α : Type} {W : List α} {x : α} {i : Nat} {p : α} (h : W[i]? = some p) : (W ++ [x])[i]? = some p := by
  rw [List.getElem?_append_left (List.getElem?_eq_some_iff.mp h).1]; exact h
theorem BI.old {g : Gr} {b : D} {W : List (D × List Nat)} {a : Nat} {dn : List Nat} (i : BI g b W a dn) {p : D × List Nat} (hp : W[a]? = some p) {c : Nat} (hdn : ∀ x ∈ dn, x < c) (hc : c ∈ SGc) (h : g.st p.1 c = .non ∨ g.st p.1 c ∈ W.map (·.1)) : BI g b W a (dn ++ [c]) := by
  refine ⟨i.first, i.spots, i.nd, i.srt, fun q hq => ?_, i.seen, fun j q x e hj hx => ?_⟩
  · rcases i.par q hq with e | ⟨j, r, x, ej, e, hx, hj⟩
    · exact .inl e
    · exact .inr ⟨j, r, x, ej, e, hx, hj.imp id fun z => ⟨z.1, by simp [z.2]⟩⟩
  · rcases hj with hj | ⟨hj, hx2⟩
    · exact i.clo j q x e (.inl hj) hx
    · rcases List.mem_append.mp hx2 with hx2 | hx2
      · exact i.clo j q x e (.inr ⟨hj, hx2⟩) hx
      · rw [List.mem_singleton.mp hx2]
        subst hj
        rw [hp] at e
        cases e
        rcases h with h | h
        · exact .inl h
        · obtain ⟨r, hr, er⟩ := List.mem_map.mp h
          exact .inr ⟨r, hr, er, .inr (i.ahead hp hdn r hr)⟩
theorem BI.new {g : Gr} {b : D} {W : List (D × List Nat)} {a : Nat} {dn : List Nat} (hg : GrOk g) (i : BI g b W a dn) {p : D × List Nat} (hp : W[a]? = some p) {c : Nat} (hdn : ∀ x ∈ dn, x < c) (hc : c ∈ SGc) (h : g.ok (g.st p.1 c)) (hn : g.st p.1 c ∉ W.map (·.1)) : BI g b (W ++ [(g.st p.1 c, p.2 ++ [c])]) a (dn ++ [c]) := by
  have hpm : p ∈ W := List.mem_of_getElem? hp
  obtain ⟨s1, s2, s3, s4⟩ := i.spots p hpm
  refine ⟨getElem?_snoc i.first, fun q hq => ?_, ?_, ?_, fun q hq => ?_, fun j q e hj => ?_, fun j q x e hj hx => ?_⟩
  · rw [List.length_append, List.length_singleton]
    rcases List.mem_append.mp hq with hq | hq
    · obtain ⟨t1, t2, t3, t4⟩ := i.spots q hq
      exact ⟨t1, t2, t3, by omega⟩
    · rw [List.mem_singleton.mp hq]
      refine ⟨h, ?_, fun x hx => ?_, by simp; omega⟩
      · rw [rch_snoc, s2]
        unfold stp
        rw [hg.nn s1]; rfl
      · rcases List.mem_append.mp hx with hx | hx
        · exact s3 x hx
        · rw [List.mem_singleton.mp hx]; exact hc
  · rw [List.map_append, List.nodup_append]
    refine ⟨i.nd, by simp, fun x hx y hy => ?_⟩
    simp at hy
    subst hy
    exact fun z => hn (z ▸ hx)
  · rw [List.pairwise_append]
    refine ⟨i.srt, by simp, fun q hq r hr => ?_⟩
    rw [List.mem_singleton.mp hr]
    exact i.ahead hp hdn q hq
  · rcases List.mem_append.mp hq with hq | hq
    · rcases i.par q hq with e | ⟨j, r, x, ej, e, hx, hj⟩
      · exact .inl e
      · exact .inr ⟨j, r, x, getElem?_snoc ej, e, hx, hj.imp id fun z => ⟨z.1, by simp [z.2]⟩⟩
    · rw [List.mem_singleton.mp hq]
      exact .inr ⟨a, p, c, getElem?_snoc hp, rfl, hc, .inr ⟨rfl, by simp⟩⟩
  · have ha : a < W.length := (List.getElem?_eq_some_iff.mp hp).1
    rw [List.getElem?_append_left (by omega)] at e
    exact i.seen j q e hj
  · have ha : a < W.length := (List.getElem?_eq_some_iff.mp hp).1
    have hjl : j < W.length := by omega
    rw [List.getElem?_append_left hjl] at e
    have up : ∀ {P : Prop}, (P ∨ ∃ r ∈ W, r.1 = g.st q.1 x ∧ (r.2 = q.2 ++ [x] ∨ ahd r.2 (q.2 ++ [x]))) → (P ∨ ∃ r ∈ W ++ [(g.st p.1 c, p.2 ++ [c])], r.1 = g.st q.1 x ∧ (r.2 = q.2 ++ [x] ∨ ahd r.2 (q.2 ++ [x]))) := fun z => z.imp id fun ⟨r, hr, z⟩ => ⟨r, by simp [hr], z⟩
    rcases hj with hj | ⟨hj, hx2⟩
    · exact up (i.clo j q x e (.inl hj) hx)
    · rcases List.mem_append.mp hx2 with hx2 | hx2
      · exact up (i.clo j q x e (.inr ⟨hj, hx2⟩) hx)
      · rw [List.mem_singleton.mp hx2]
        subst hj
        rw [hp] at e
        cases e
        exact .inr ⟨(g.st p.1 c, p.2 ++ [c]), by simp, rfl, .inl rfl⟩
theorem BI.step {g : Gr} {b : D} {W : List (D × List Nat)} {a : Nat} (i : BI g b W a SGc) {p : D × List Nat} (hp : W[a]? = some p) (h : g.gl p.1 = false) : BI g b W (a + 1) [] := by
  refine ⟨i.first, i.spots, i.nd, i.srt, fun q hq => ?_, fun j q e hj => ?_, fun j q x e hj hx => ?_⟩
  · rcases i.par q hq with e | ⟨j, r, x, ej, e, hx, hj⟩
    · exact .inl e
    · exact .inr ⟨j, r, x, ej, e, hx, .inl (by rcases hj with hj | hj <;> omega)⟩
  · by_cases z : j = a
    · subst z
      rw [hp] at e
      cases e
      exact h
    · exact i.seen j q e (by omega)
  · rcases hj with hj | ⟨_, hj⟩
    · by_cases z : j = a
      · exact i.clo j q x e (.inr ⟨z, hx⟩) hx
      · exact i.clo j q x e (.inl (by omega)) hx
    · cases hj
theorem BI.all {g : Gr} {b : D} {W : List (D × List Nat)} {a : Nat} (hg : GrOk g) (i : BI g b W a []) : ∀ (n : Nat) (v : List Nat), v.length = n → (∀ c ∈ v, c ∈ SGc) → isN (rch g b v) = false →
    (∃ (j : Nat) (p : D × List Nat), W[j]? = some p ∧ p.1 = rch g b v ∧ (p.2 = v ∨ ahd p.2 v)) ∨ ∃ (j : Nat) (p : D × List Nat), a ≤ j ∧ W[j]? = some p ∧ ahd p.2 v
  | 0, v, hl, _, _ => by
    have : v = [] := List.eq_nil_of_length_eq_zero hl
    subst this
    exact .inl ⟨0, _, i.first, rfl, .inl rfl⟩
  | n + 1, v, hl, hv, hr => by
    obtain ⟨u, c, rfl⟩ : ∃ u c, v = u ++ [c] := ⟨v.dropLast, v.getLast (fun z => by rw [z] at hl; cases hl), (List.dropLast_concat_getLast _).symm⟩
    have hu : ∀ x ∈ u, x ∈ SGc := fun x hx => hv x (by simp [hx])
    have hc : c ∈ SGc := hv c (by simp)
    rw [rch_snoc] at hr
    have hru : isN (rch g b u) = false := by
      cases z : isN (rch g b u) with
      | false => rfl
      | true => unfold stp at hr; rw [z, if_pos rfl] at hr; cases hr
    rcases BI.all hg i n u (by simpa using hl) hu hru with ⟨j, p, ej, ep, ho⟩ | ⟨j, p, hj, ej, ho⟩
    · by_cases hj : j < a
      · rcases i.clo j p c ej (.inl hj) hc with z | ⟨q, hq, eq, oq⟩
        · unfold stp at hr
          rw [hru, ← ep, z] at hr
          cases hr
        · obtain ⟨k, ek⟩ := List.mem_iff_getElem?.mp hq
          refine .inl ⟨k, q, ek, ?_, ?_⟩
          · rw [rch_snoc, eq, ep]
            unfold stp
            rw [hru]; rfl
          · have o2 : p.2 ++ [c] = u ++ [c] ∨ ahd (p.2 ++ [c]) (u ++ [c]) := ho.imp (fun z => by rw [z]) fun z => z.snoc (sg_lt hc)
            rcases oq with oq | oq
            · rw [oq]; exact o2
            · rcases o2 with o2 | o2
              · rw [← o2]; exact .inr oq
              · exact .inr (oq.trans o2)
      · refine .inr ⟨j, p, by omega, ej, ?_⟩
        rcases ho with ho | ho
        · rw [ho]; exact ahd.grow
        · exact ho.trans ahd.grow
    · exact .inr ⟨j, p, hj, ej, ho.trans ahd.grow⟩
def BRes (g : Gr) (b : D) : Option (List Nat) → Prop
  | none => ∀ v, (∀ c ∈ v, c ∈ SGc) → isN (rch g b v) = false → g.gl (rch g b v) = false
  | some w => (∀ c ∈ w, c ∈ SGc) ∧ isN (rch g b w) = false ∧ g.gl (rch g b w) = true ∧ ∀ v, (∀ c ∈ v, c ∈ SGc) → ahd v w → isN (rch g b v) = false → g.gl (rch g b v) = false
theorem BI.found {g : Gr} {b : D} {W : List (D × List Nat)} {a : Nat} (hg : GrOk g) (i : BI g b W a []) {p : D × List Nat} (hp : W[a]? = some p) (h : g.gl p.1 = true) : BRes g b (some p.2) := by
  obtain ⟨s1, s2, s3, s4⟩ := i.spots p (List.mem_of_getElem? hp)
  have ord : ∀ j q, a ≤ j → W[j]? = some q → ahd q.2 p.2 → False := by
    intro j q hj ej hq
    by_cases z : j = a
    · subst z; rw [hp] at ej; cases ej; exact hq.irr
    · have ha : a < W.length := (List.getElem?_eq_some_iff.mp hp).1
      have hjl : j < W.length := (List.getElem?_eq_some_iff.mp ej).1
      have s := List.pairwise_iff_getElem.mp i.srt a j ha hjl (by omega)
      rw [(List.getElem?_eq_some_iff.mp ej).2, (List.getElem?_eq_some_iff.mp hp).2] at s
      exact (hq.trans s).irr
  refine ⟨s3, by rw [s2]; exact hg.nn s1, by rw [s2]; exact h, fun v hv hva hr => ?_⟩
  rcases i.all hg v.length v rfl hv hr with ⟨j, q, ej, eq, ho⟩ | ⟨j, q, hj, ej, ho⟩
  · have hqp : ahd q.2 p.2 := by
      rcases ho with ho | ho
      · rw [ho]; exact hva
      · exact ho.trans hva
    have hj : j < a := Nat.lt_of_not_le fun z => ord j q z ej hqp
    rw [← eq]
    exact i.seen j q ej hj
  · exact (ord j q hj ej (ho.trans hva)).elim
theorem BI.none {g : Gr} {b : D} {W : List (D × List Nat)} {a : Nat} (hg : GrOk g) (i : BI g b W a []) (h : W.length ≤ a) : BRes g b none := by
  intro v hv hr
  rcases i.all hg v.length v rfl hv hr with ⟨j, q, ej, eq, ho⟩ | ⟨j, q, hj, ej, ho⟩
  · rw [← eq]
    exact i.seen j q ej (by have := (List.getElem?_eq_some_iff.mp ej).1; omega)
  · have := (List.getElem?_eq_some_iff.mp ej).1
    omega
end DL

set_option Elab.async false
set_option linter.all false
set_option maxRecDepth 100000
set_option maxHeartbeats 4000000
namespace DL
open PySem L2
def ftD : Option (List Nat) → D
  | none => .non
  | some w => .str w
def sps (g : Gr) (Pm : DM → Prop) : DSp := fun ds M Q _ => ∃ d c, ds = [d, .str [c]] ∧ g.ok d ∧ c ∈ SGc ∧ Pm M ∧ Q (g.st d c) M
def spg (g : Gr) (Pm : DM → Prop) : DSp := fun ds M Q _ => ∃ d, ds = [d] ∧ g.ok d ∧ Pm M ∧ Q (.bl (g.gl d)) M
def sp_first_text (ks kg : Clo) (g : Gr) (Pm : DM → Prop) : DSp := fun ds M Q _ => ∃ b, ds = [b, .ref ks.f, .ref kg.f] ∧ CloM ks M ∧ CloM kg M ∧ g.ok b ∧ Pm M ∧ GrOk g ∧ (∀ M M', MSub M M' → Pm M → Pm M') ∧ ∀ res, BRes g b res → Q (ftD res) M
def t_first_text (A : Ad) (ks kg : Clo) (g : Gr) (Pm : DM → Prop) : DS := dSeq (dSet 3 (dDisp (dVar 0) (dC (.bl true)))) (dSeq (dSet 4 (dLst (dCons (dTup (dCons (dVar 0) (dCons (dC (.str [])) (dNil)))) (dNil)))) (dSeq (dSet 5 (dC (.int 0))) (dSeq (dWhile (dTest (dOp ltD (dVar 5) (dCB lenD (dCons (dVar 4) (dNil))))) (dSeq (dAsg (dOp ixD (dVar 4) (dVar 5)) (gTp 2 (gsCons (gN 6) (gsCons (gN 7) (gsNil))))) (dSeq (dAug 5 augAdd (dC (.int 1))) (dSeq (dIfS (dTest (dClo 2 (fun _ : Unit => kg) (fun _ => spg g Pm) (dCons (dVar 6) (dNil)))) (dRet (dVar 7)) (dNext)) (dFor (dIter (dC c_SIGNS)) (gN 8) (dSeq (dSet 9 (dClo 1 (fun _ : Unit => ks) (fun _ => sps g Pm) (dCons (dVar 6) (dCons (dVar 8) (dNil))))) (dIfS (dAnd (dTest (dOp isNotD (dVar 9) (dC .non))) (dTest (dOp (inN true) (dVar 9) (dVar 3)))) (dSeq (dAsg (dC (.bl true)) (gSbN (dVar 3) (dVar 9))) (dExpr (dMt "list" appendD (dVar 4) (dCons (dTup (dCons (dVar 9) (dCons (dOp addD (dVar 7) (dVar 8)) (dNil)))) (dNil))))) (dNext)))))))) (dRet (dC .non)))))
abbrev n_first_text : List Str := ["begin", "step", "is_goal", "known", "waiting", "at", "spot", "text", "sign", "after"]
abbrev ftBody (ks : Clo) (g : Gr) (Pm : DM → Prop) : DS := dSeq (dSet 9 (dClo 1 (fun _ : Unit => ks) (fun _ => sps g Pm) (dCons (dVar 6) (dCons (dVar 8) (dNil))))) (dIfS (dAnd (dTest (dOp isNotD (dVar 9) (dC .non))) (dTest (dOp (inN true) (dVar 9) (dVar 3)))) (dSeq (dAsg (dC (.bl true)) (gSbN (dVar 3) (dVar 9))) (dExpr (dMt "list" appendD (dVar 4) (dCons (dTup (dCons (dVar 9) (dCons (dOp addD (dVar 7) (dVar 8)) (dNil)))) (dNil))))) (dNext))
structure FM (M0 : DM) (pk pw : Addr) (W : List (D × List Nat)) (M : DM) : Prop where
  k : M pk = some (.dcN (W.map fun p => (p.1, .bl true)))
  w : M pw = some (.lst (W.map fun p => .tup [p.1, .str p.2]))
  s : MSub M0 M
theorem FM.new {M0 M : DM} {pk pw : Addr} {W : List (D × List Nat)} (h : FM M0 pk pw W M) (nk : M0 pk = none) (nw : M0 pw = none) (ne : pk ≠ pw) (p : D × List Nat) :
    FM M0 pk pw (W ++ [p]) (mupd (mupd M pk (.dcN ((W.map fun p => (p.1, D.bl true)) ++ [(p.1, .bl true)]))) pw (.lst ((W.map fun p => .tup [p.1, .str p.2]) ++ [.tup [p.1, .str p.2]]))) := by
  refine ⟨?_, ?_, fun b o e => ?_⟩
  · rw [mupd_ne ne, mupd_same, List.map_append]; rfl
  · rw [mupd_same, List.map_append]; rfl
  · have h1 : b ≠ pw := fun z => by rw [z, nw] at e; cases e
    have h2 : b ≠ pk := fun z => by rw [z, nk] at e; cases e
    rw [mupd_ne h1, mupd_ne h2]
    exact h.s b o e
theorem hasN_mem {g : Gr} (hg : GrOk g) {W : List (D × List Nat)} (hW : ∀ p ∈ W, g.ok p.1) {d : D} (hd : g.ok d) : hasN (W.map fun p => (p.1, D.bl true)) d = true ↔ d ∈ W.map (·.1) := by
  unfold hasN
  rw [List.any_eq_true]
  constructor
  · rintro ⟨x, hx, e⟩
    obtain ⟨p, hp, rfl⟩ := List.mem_map.mp hx
    have := hg.inj p.1 d (hW p hp) hd (of_decide_eq_true e)
    exact List.mem_map.mpr ⟨p, hp, this⟩
  · intro h
    obtain ⟨p, hp, e⟩ := List.mem_map.mp h
    exact ⟨(p.1, .bl true), List.mem_map.mpr ⟨p, hp, rfl⟩, decide_eq_true (by rw [← e])⟩
theorem ft_signs {ks kg : Clo} {g : Gr} {Pm : DM → Prop} {W : DW} {E : DEnds} {M0 : DM} {pk pw : Addr} {b : D} {a : Nat} {p : D × List Nat} (hg : GrOk g) (nk0 : M0 pk = none) (nw0 : M0 pw = none) (ne : pk ≠ pw) (cs : CloM ks M0) (hP : ∀ M, MSub M0 M → Pm M) :
    ∀ (todo dn : List Nat) (V : List (D × List Nat)) (M : DM) (x y : Option D), BI g b V a dn → V[a]? = some p → FM M0 pk pw V M → (∀ c ∈ todo, c ∈ SGc) → (∀ c ∈ todo, ∀ z ∈ dn, z < c) → todo.Pairwise (· < ·) →
    (∀ V' M' x y, BI g b V' a (dn ++ todo) → V'[a]? = some p → FM M0 pk pw V' M' → E.nx [some b, some (.ref ks.f), some (.ref kg.f), some (.ref pk), some (.ref pw), some (.int ((a + 1 : Nat) : Int)), some p.1, some (.str p.2), x, y] M') →
    dLoop (gN 8) (ftBody ks g Pm W) anyM (todo.map fun c => .str [c]) E [some b, some (.ref ks.f), some (.ref kg.f), some (.ref pk), some (.ref pw), some (.int ((a + 1 : Nat) : Int)), some p.1, some (.str p.2), x, y] M
  | [], dn, V, M, x, y, i, hp, fm, _, _, _, k => ⟨trivial, k V M x y (by rw [List.append_nil]; exact i) hp fm⟩
  | c :: todo, dn, V, M, x, y, i, hp, fm, hc, hdn, hs, k => by
    have zl : sizeLine = 16777216 := sizeLine_eq
    have hpm := List.mem_of_getElem? hp
    obtain ⟨s1, s2, s3, s4⟩ := i.spots p hpm
    have hcc := hc c (by simp)
    have hd1 : ∀ z ∈ dn, z < c := hdn c (by simp)
    rw [List.pairwise_cons] at hs
    have hdn2 : ∀ x ∈ todo, ∀ z ∈ dn ++ [c], z < x := fun x hx z hz => by
      rcases List.mem_append.mp hz with h | h
      · exact hdn x (by simp [hx]) z h
      · rw [List.mem_singleton.mp h]; exact hs.1 x hx
    have k2 : ∀ V' M' x y, BI g b V' a ((dn ++ [c]) ++ todo) → V'[a]? = some p → FM M0 pk pw V' M' → E.nx [some b, some (.ref ks.f), some (.ref kg.f), some (.ref pk), some (.ref pw), some (.int ((a + 1 : Nat) : Int)), some p.1, some (.str p.2), x, y] M' := fun V' M' x y h => k V' M' x y (by rw [List.append_assoc] at h; exact h)
    have go := fun V' M' x y i' hp' fm' => ft_signs (W := W) (E := E) (b := b) (a := a) (p := p) hg nk0 nw0 ne cs hP todo (dn ++ [c]) V' M' x y i' hp' fm' (fun z h => hc z (by simp [h])) hdn2 hs.2 k2
    refine ⟨trivial, (), rfl, cs.sub fm.s, cs.sub fm.s, p.1, c, rfl, s1, hcc, hP M fm.s, ?_⟩
    rcases hg.nx p.1 c s1 hcc with h | h
    · rw [h]
      exact go V M _ _ (i.old hp hd1 hcc (.inl h)) hp fm
    · have nn := hg.nn h
      show (match (!isN (g.st p.1 c)) with | true => _ | false => _)
      rw [nn]
      refine ⟨_, fm.k, hg.key _ h, ?_⟩
      have hm := hasN_mem hg (fun q hq => (i.spots q hq).1) h
      by_cases q : g.st p.1 c ∈ V.map (·.1)
      · replace hm := hm.mpr q
        show (match (!hasN (V.map fun p => (p.1, D.bl true)) (g.st p.1 c)) with | true => _ | false => _)
        rw [hm]
        exact go V M _ _ (i.old hp hd1 hcc (.inr q)) hp fm
      · replace hm : hasN (V.map fun p => (p.1, D.bl true)) (g.st p.1 c) = false := by rw [Bool.eq_false_iff]; exact fun z => q (hm.mp z)
        show (match (!hasN (V.map fun p => (p.1, D.bl true)) (g.st p.1 c)) with | true => _ | false => _)
        rw [hm]
        have i2 := i.new hg hp hd1 hcc h q
        have l1 := BI.len hg i
        have l2 := hg.le
        refine ⟨_, fm.k, hg.key _ h, hm, by rw [List.length_map]; omega, ?_⟩
        have ew : mupd M pk (.dcN ((V.map fun p => (p.1, D.bl true)) ++ [(g.st p.1 c, .bl true)])) pw = some (.lst (V.map fun p => .tup [p.1, .str p.2])) := by rw [mupd_ne ne.symm]; exact fm.w
        refine ⟨.inl ⟨rfl, _, ew⟩, by simp only [List.length_cons, List.length_nil]; omega, by show 2 ≤ sizeLine; omega, _, ew, by rw [List.length_map]; omega, ?_⟩
        exact go _ _ _ _ i2 (getElem?_snoc hp) (fm.new nk0 nw0 ne (g.st p.1 c, p.2 ++ [c]))
theorem sg_pair : SGc.Pairwise (· < ·) := by decide
theorem pure_first_text {A : Ad} {ks kg : Clo} {g : Gr} {Pm : DM → Prop} (ds M R EX) (h : sp_first_text ks kg g Pm ds M R EX) : t_first_text A ks kg g Pm (fun C fs _ M' => WkX EX C fs M') (endsOf R) (startD n_first_text ds) M := by
  obtain ⟨b, rfl, cs, cg, hb, hP, hg, hPm, k⟩ := h
  have zl : sizeLine = 16777216 := sizeLine_eq
  intro pk hk
  refine ⟨mupd_same, hg.key b hb, ?_⟩
  refine ⟨by show 2 ≤ sizeLine; omega, by show 1 ≤ sizeLine; omega, fun pw hw => ?_⟩
  have e0 : mupd (mupd M pk (.dcN [])) pk (.dcN [(b, .bl true)]) = mupd M pk (.dcN [(b, .bl true)]) := mupd_upd
  rw [e0] at hw ⊢
  have ne : pk ≠ pw := fun z => by rw [← z, mupd_same] at hw; cases hw
  have nw : M pw = none := by rw [mupd_ne ne.symm] at hw; exact hw
  have fm0 : FM M pk pw [(b, [])] (mupd (mupd M pk (.dcN [(b, .bl true)])) pw (.lst [.tup [b, .str []]])) := by
    refine ⟨by rw [mupd_ne ne, mupd_same]; rfl, mupd_same, fun c o e => ?_⟩
    rw [mupd_ne (fun z => by rw [z, nw] at e; cases e), mupd_ne (fun z => by rw [z, hk] at e; cases e)]
    exact e
  refine ⟨fun n ρ M' => ∃ (a : Nat) (W : List (D × List Nat)) (x y z u : Option D), n + a = g.B + 1 ∧ a ≤ g.B ∧ BI g b W a [] ∧ FM M pk pw W M' ∧ ρ = [some b, some (.ref ks.f), some (.ref kg.f), some (.ref pk), some (.ref pw), some (.int (a : Nat)), x, y, z, u], ⟨g.B + 1, 0, _, none, none, none, none, rfl, Nat.zero_le _, BI.start hb, fm0, rfl⟩, ?_⟩
  rintro n ρ M' ⟨a, W, x, y, z, u, hn, ha, i, fm, rfl⟩
  have lW := BI.len hg i
  have lB := hg.le
  refine ⟨_, fm.w, ?_⟩
  rw [List.length_map]
  show (match decide ((a : Int) < (W.length : Int)) with | true => _ | false => _)
  by_cases q : a < W.length
  · rw [decide_eq_true (show (a : Int) < (W.length : Int) by omega)]
    obtain ⟨p, hp⟩ : ∃ p, W[a]? = some p := ⟨W[a], List.getElem?_eq_getElem q⟩
    obtain ⟨s1, s2, s3, s4⟩ := i.spots p (List.mem_of_getElem? hp)
    have eat : atI (W.map fun p => D.tup [p.1, .str p.2]) (a : Int) = some (.tup [p.1, .str p.2]) := by
      unfold atI ixN
      rw [if_pos (by omega), if_pos (by rw [List.length_map]; omega)]
      simp [hp]
    refine ⟨_, _, fm.w, eat, rfl, ?_⟩
    refine ⟨(), rfl, cg.sub fm.s, cg.sub fm.s, p.1, rfl, s1, hPm _ _ fm.s hP, ?_⟩
    show (match g.gl p.1 with | true => _ | false => _)
    cases qg : g.gl p.1 with
    | true => exact ⟨M, fm.s, k (some p.2) (i.found hg hp qg)⟩
    | false =>
      refine ft_signs hg hk nw ne cs (fun M' h => hPm _ _ h hP) SGc [] W M' _ _ i hp fm (fun c h => h) (fun c _ z hz => by cases hz) sg_pair fun V' M2 x' y' i' hp' fm' => ?_
      refine ⟨n - 1, by omega, a + 1, V', _, _, _, _, by omega, ?_, i'.step hp' qg, fm', rfl⟩
      have := BI.len hg i'
      have := (List.getElem?_eq_some_iff.mp hp').1
      omega
  · rw [decide_eq_false (show ¬ (a : Int) < (W.length : Int) by omega)]
    exact ⟨M, fm.s, k none (i.none hg (by omega))⟩
end DL

set_option Elab.async false
set_option linter.all false
set_option maxRecDepth 100000
set_option maxHeartbeats 4000000
namespace DL
open PySem L2
structure KS where
  fi : List Nat
  ma : Nat
  po : Bool
def ksD (k : KS) : D := .tup [.str k.fi, .int (k.ma : Nat), .bl k.po]
def fgB (k : KS) (c : Nat) : KS := if c = 46 then ⟨k.fi, k.ma, true⟩ else if c ∉ FGc then k else ⟨if k.fi = [] then [c] else k.fi, if 0 < k.ma ∨ ¬c = 48 then min (k.ma + 1) 2 else k.ma, k.po⟩
def sp_figures_behind (_ : Ad) : DSp := fun ds M Q _ => ∃ (k : KS) (c : Nat), ds = [ksD k, .str [c]] ∧ Q (ksD (fgB k c)) M
def t_figures_behind (A : Ad) : DS := dSeq (dAsg (dVar 0) (gTp 3 (gsCons (gN 2) (gsCons (gN 3) (gsCons (gN 4) (gsNil)))))) (dSeq (dIfS (dTest (dOp eqD (dVar 1) (dC (.str [46])))) (dRet (dTup (dCons (dVar 2) (dCons (dVar 3) (dCons (dC (.bl true)) (dNil)))))) (dNext)) (dSeq (dIfS (dTest (dOp notInD (dVar 1) (dC c_FIGURES))) (dRet (dVar 0)) (dNext)) (dSeq (dIfS (dOr (dTest (dOp gtD (dVar 3) (dC (.int 0)))) (dTest (dOp neD (dVar 1) (dC (.str [48]))))) (dSet 3 (dCB minD (dCons (dOp addD (dVar 3) (dC (.int 1))) (dCons (dC (.int 2)) (dNil))))) (dNext)) (dRet (dTup (dCons (dIfE (dTest (dOp neD (dVar 2) (dC (.str [])))) (dVar 2) (dVar 1)) (dCons (dVar 3) (dCons (dVar 4) (dNil)))))))))
abbrev n_figures_behind : List Str := ["known", "sign", "first", "many", "pointed"]
theorem iGt' {a b : Int} {M : DM} {R : DQ} : gtD (.int a) (.int b) M R = R (.bl (decide (b < a))) M := rfl
theorem pure_figures_behind {A : Ad} (ds M R EX) (h : sp_figures_behind A ds M R EX) : t_figures_behind A (fun C fs _ M' => WkX EX C fs M') (endsOf R) (startD n_figures_behind ds) M := by
  obtain ⟨s, c, rfl, k⟩ := h
  unfold t_figures_behind
  replace k := Wk.self k
  unfold fgB at k
  have z : 3 ≤ sizeLine := by rw [sizeLine_eq]; decide
  simp only [dVar, dC, dOp, dTest, dNot, dNil, dCons, dTup, dLst, dNext, dSeq, dRet, dRetN, dExpr, dBrk, dCnt, dSet, gN, gTp, gLs, gsNil, gsCons, dAsg, dCall, dPart, dNoPart, dCB, lenD, minD, maxD, absD, dNeg, dPar, dAug, augAdd, dNotV, startD, endsOf, intI, cmpI, iIfS, iAnd, iOr, iAndV, iOrV, iIfE, iEqS, iEqI, iEqB, iNeS, iNeI, iIs, iIsNot, iInC, iNotInC, iAddI, iAddT, iAddS, List.map_cons, List.map_nil, List.length_cons, List.length_nil, List.replicate, List.getElem?_cons_zero, List.getElem?_cons_succ, List.cons_append, List.nil_append, List.set_cons_zero, List.set_cons_succ, Nat.reduceAdd, Nat.reduceSub, true_and, decide_eq_true_eq, Bool.not_eq_true', decide_eq_false_iff_not, ksD, c_FIGURES, imin2]
  simp only [FGc] at k
  have e2 : (if (2 : Int) < (s.ma : Int) + 1 then (2 : Int) else (s.ma : Int) + 1) = ((min (s.ma + 1) 2 : Nat) : Int) := by split <;> omega
  by_cases c1 : c = 46
  · subst c1
    simp at k ⊢
    exact ⟨z, k⟩
  · by_cases c2 : c = 48 ∨ c = 49 ∨ c = 56 ∨ c = 116
    · simp only [List.mem_cons, List.not_mem_nil, or_false, c1, c2, ksD, if_true, if_false, not_true, List.cons.injEq, and_true] at k ⊢
      have e3 : ((0 : Int) < (s.ma : Int)) = (0 < s.ma) := propext (by omega)
      simp only [iGt', e3, decide_eq_true_eq] at k ⊢
      by_cases c3 : 0 < s.ma <;> by_cases c4 : c = 48 <;> by_cases c5 : s.fi = []
      all_goals (simp only [c3, c4, c5, if_true, if_false, not_true, not_false_eq_true, or_true, true_or, or_self, decide_true, decide_false, Bool.not_true, Bool.not_false, Bool.false_eq_true] at k ⊢)
      all_goals exact ⟨z, k⟩
    · simp [c1, c2, ksD] at k ⊢
      exact k
def unF (k : KS) (a b c d : Bool) : Bool := if 0 < k.ma ∧ k.po = true ∧ a ≠ b then true else decide (1 < k.ma ∧ k.fi = [48] ∧ c ≠ d)
def unB (one other : Rdr) (k : KS) : Bool := unF k (decide (one.e ∈ [o_part, o_loose])) (decide (other.e ∈ [o_part, o_loose])) (decide (one.c = o_eight)) (decide (other.c = o_eight))
def sp_are_unlike_numbers (_ : Ad) : DSp := fun ds M Q _ => ∃ (r q : Rdr) (k : KS), ds = [r.D, q.D, ksD k] ∧ Q (.bl (unB r q k)) M
def t_are_unlike_numbers (A : Ad) : DS := dSeq (dAsg (dVar 2) (gTp 3 (gsCons (gN 3) (gsCons (gN 4) (gsCons (gN 5) (gsNil)))))) (dSeq (dIfS (dAnd (dTest (dOp gtD (dVar 4) (dC (.int 0)))) (dAnd (dTest (dVar 5)) (dTest (dOp neD (dOp inD (dOp ixD (dVar 0) (dC (.int 4))) (dC c_PARTS)) (dOp inD (dOp ixD (dVar 1) (dC (.int 4))) (dC c_PARTS)))))) (dRet (dC (.bl true))) (dNext)) (dRet (dAndV (dOp gtD (dVar 4) (dC (.int 1))) (dAndV (dOp eqD (dVar 3) (dC (.str [48]))) (dOp neD (dOp eqD (dOp ixD (dVar 0) (dC (.int 2))) (dC (.str [101, 105, 103, 104, 116]))) (dOp eqD (dOp ixD (dVar 1) (dC (.int 2))) (dC (.str [101, 105, 103, 104, 116]))))))))
abbrev n_are_unlike_numbers : List Str := ["one", "other", "known", "first", "many", "pointed"]
theorem iNeB {a b : Bool} {M : DM} {R : DQ} : neD (.bl a) (.bl b) M R = R (.bl (!decide (a = b))) M := rfl
theorem pure_are_unlike_numbers {A : Ad} (ds M R EX) (h : sp_are_unlike_numbers A ds M R EX) : t_are_unlike_numbers A (fun C fs _ M' => WkX EX C fs M') (endsOf R) (startD n_are_unlike_numbers ds) M := by
  obtain ⟨r, q, s, rfl, k⟩ := h
  unfold t_are_unlike_numbers
  replace k : Wk R (.bl (unF s (decide (r.e ∈ [o_part, o_loose])) (decide (q.e ∈ [o_part, o_loose])) (decide (r.c = [101, 105, 103, 104, 116])) (decide (q.c = [101, 105, 103, 104, 116])))) M := Wk.self k
  have ix4 : ∀ {r : Rdr} {M : DM} {R : DQ}, ixD r.D (.int 4) M R = R (.str r.e) M := rfl
  have ix2 : ∀ {r : Rdr} {M : DM} {R : DQ}, ixD r.D (.int 2) M R = R (.str r.c) M := rfl
  have e0 : ((0 : Int) < (s.ma : Int)) = (0 < s.ma) := propext (by omega)
  have e1 : ((1 : Int) < (s.ma : Int)) = (1 < s.ma) := propext (by omega)
  simp only [dVar, dC, dOp, dTest, dNot, dNil, dCons, dTup, dLst, dNext, dSeq, dRet, dRetN, dExpr, dBrk, dCnt, dSet, gN, gTp, gLs, gsNil, gsCons, dAsg, dCall, dPart, dNoPart, dCB, lenD, minD, maxD, absD, dNeg, dPar, dAug, augAdd, dNotV, startD, endsOf, intI, cmpI, iIfS, iAnd, iOr, iAndV, iOrV, iIfE, iEqS, iEqI, iEqB, iNeS, iNeI, iIs, iIsNot, iInC, iNotInC, iAddI, iAddT, iAddS, List.map_cons, List.map_nil, List.length_cons, List.length_nil, List.replicate, List.getElem?_cons_zero, List.getElem?_cons_succ, List.cons_append, List.nil_append, List.set_cons_zero, List.set_cons_succ, Nat.reduceAdd, Nat.reduceSub, true_and, decide_eq_true_eq, Bool.not_eq_true', decide_eq_false_iff_not, ksD, ix4, ix2, iInParts, iNeB, iGt', e0, e1]
  generalize decide (r.e ∈ [o_part, o_loose]) = x1 at k ⊢
  generalize decide (q.e ∈ [o_part, o_loose]) = x2 at k ⊢
  generalize decide (r.c = [101, 105, 103, 104, 116]) = x3 at k ⊢
  generalize decide (q.c = [101, 105, 103, 104, 116]) = x4 at k ⊢
  unfold unF at k
  by_cases c1 : 0 < s.ma <;> by_cases c4 : 1 < s.ma <;> by_cases c5 : s.fi = [48] <;> cases c2 : s.po <;> cases x1 <;> cases x2 <;> cases x3 <;> cases x4
  all_goals simp [c1, c4, c5, c2] at k ⊢
  all_goals exact k
end DL

set_option Elab.async false
set_option linter.all false
set_option maxRecDepth 100000
set_option maxHeartbeats 4000000
namespace DL
open PySem L2
def SOk (r : Rdr) (s : RS) : Prop :=
  ((s.ph = h_start ∨ s.ph = h_signed) ∧ s.fi = [] ∧ s.ma = 0 ∧ s.ro = 0 ∧ s.rd = false ∧ s.la = [] ∧ s.po = false) ∨
  ((s.ph = h_number ∨ s.ph = h_tail) ∧ ((s.fi = [] ∧ s.ma = 0) ∨ ((s.fi = [48] ∨ s.fi = [49]) ∧ (s.ma = 1 ∨ s.ma = 2))) ∧ s.ro ≤ 4 ∧ (s.la = [102] ∨ s.la = [112] ∨ s.la = [117]) ∧ (s.rd = true → r.e = o_rows) ∧ (s.po = true → ¬r.e = o_rows))
theorem sok_first (r : Rdr) : SOk r fst0 := .inl ⟨.inl rfl, rfl, rfl, rfl, rfl, rfl, rfl⟩
def SCore (r : Rdr) (s : RS) : Prop := ((s.fi = [] ∧ s.ma = 0) ∨ ((s.fi = [48] ∨ s.fi = [49]) ∧ (s.ma = 1 ∨ s.ma = 2))) ∧ s.ro ≤ 4 ∧ (s.rd = true → r.e = o_rows) ∧ (s.po = true → ¬r.e = o_rows)
theorem SOk.core {r : Rdr} {s : RS} (h : SOk r s) : SCore r s := by
  rcases h with ⟨_, h1, h2, h3, h4, _, h5⟩ | ⟨_, h1, h2, _, h3, h4⟩
  · exact ⟨.inl ⟨h1, h2⟩, by omega, fun z => (by rw [h4] at z; cases z), fun z => (by rw [h5] at z; cases z)⟩
  · exact ⟨h1, h2, h3, h4⟩
theorem sok_F {r : Rdr} {s t : RS} {c : Nat} (h : SOk r s) (e : bhF r s c = some t) : SOk r t := by
  obtain ⟨h1, h2, h3, h4⟩ := h.core
  unfold bhF at e
  split at e
  · cases e
  · split at e
    · rename_i hp
      cases e
      exact .inr ⟨.inl rfl, h1, h2, .inl rfl, h3, fun _ => h4 hp⟩
    · split at e
      · rename_i hf
        split at e
        · cases e
        · have ma0 : s.ma = 0 := by rcases h1 with ⟨_, z⟩ | ⟨z | z, _⟩; exact z; rw [hf] at z; cases z; rw [hf] at z; cases z
          cases e
          refine .inr ⟨.inl rfl, .inr ⟨?_, ?_⟩, ?_, .inl rfl, h3, fun z => by cases z⟩
          · show (if [c] = [48] then [48] else [49] : List Nat) = [48] ∨ (if [c] = [48] then [48] else [49] : List Nat) = [49]
            split
            · exact .inl rfl
            · exact .inr rfl
          · show min (s.ma + 1) 2 = 1 ∨ min (s.ma + 1) 2 = 2; omega
          · show min (s.ro + 1) 4 ≤ 4; omega
      · rename_i hf
        split at e
        · cases e
        · split at e
          · cases e
          · cases e
            refine .inr ⟨.inl rfl, ?_, ?_, .inl rfl, h3, fun z => by cases z⟩
            · rcases h1 with ⟨z, _⟩ | ⟨z, _⟩
              · exact absurd z hf
              · exact .inr ⟨z, by show min (s.ma + 1) 2 = 1 ∨ min (s.ma + 1) 2 = 2; omega⟩
            · show min (s.ro + 1) 4 ≤ 4; omega
theorem sok_P {r : Rdr} {s t : RS} (h : SOk r s) (e : bhP r s = some t) : SOk r t := by
  obtain ⟨h1, h2, h3, h4⟩ := h.core
  unfold bhP at e
  split at e
  · rename_i he
    split at e
    · cases e
    · cases e
      exact .inr ⟨.inl rfl, h1, Nat.zero_le _, .inr (.inl rfl), fun _ => he, fun z => by cases z⟩
  · rename_i he
    split at e
    · cases e
    · split at e
      · cases e
        exact .inr ⟨.inl rfl, h1, h2, .inr (.inl rfl), h3, fun _ => he⟩
      · cases e
theorem sok_U {r : Rdr} {s t : RS} (h : SOk r s) (e : bhU r s = some t) : SOk r t := by
  unfold bhU at e
  split at e
  · cases e
  · rename_i hn
    cases e
    rcases h with ⟨_, _, _, _, _, hl, _⟩ | ⟨h0, h1, h2, _, h3, h4⟩
    · refine absurd (.inr ⟨by rw [hl]; decide, fun z => ?_⟩) hn
      have := z.1
      rw [hl] at this
      exact absurd this (by decide)
    · exact .inr ⟨h0, h1, h2, .inr (.inr rfl), h3, h4⟩
theorem sok_bh {r : Rdr} {s t : RS} {c : Nat} (h : SOk r s) (e : bh r (some s) c = some t) : SOk r t := by
  unfold bh at e
  simp only at e
  split at e
  · split at e
    · cases e
    · split at e
      · cases e
      · split at e
        · rename_i hp
          split at e
          · cases e
            rcases h with ⟨z, _⟩ | ⟨_, h1⟩
            · rw [hp] at z; rcases z with z | z <;> exact absurd z (by decide)
            · exact .inr ⟨.inr rfl, h1⟩
          · cases e
        · cases e; exact h
  · split at e
    · cases e
    · split at e
      · split at e
        · cases e
        · rename_i hp
          split at e
          · cases e
          · split at e
            · cases e
            · cases e
              rcases h with ⟨_, h1⟩ | ⟨z, _⟩
              · exact .inl ⟨.inr rfl, h1⟩
              · have hp' : s.ph = h_start := Classical.byContradiction hp
                rw [hp'] at z; rcases z with z | z <;> exact absurd z (by decide)
      · split at e
        · exact sok_F h e
        · split at e
          · exact sok_P h e
          · exact sok_U h e
end DL

set_option Elab.async false
set_option linter.all false
set_option maxRecDepth 100000
set_option maxHeartbeats 4000000
namespace DL
open PySem L2
def fmC (s : RS) : Nat := if s.fi = [] then 0 else if s.fi = [48] then s.ma else 2 + s.ma
def laC (s : RS) : Nat := if s.la = [102] then 0 else if s.la = [112] then 1 else 2
def zC (s : RS) : Nat := if s.rd = true ∨ s.po = true then 1 else 0
def phC (s : RS) : Nat := if s.ph = h_tail then 1 else 0
def cdS (s : RS) : Nat := if s.ph = h_start then 1 else if s.ph = h_signed then 2 else 3 + (((phC s * 5 + fmC s) * 5 + s.ro) * 2 + zC s) * 3 + laC s
def cdO : Option RS → Nat
  | none => 0
  | some s => cdS s
structure SNum (r : Rdr) (s : RS) : Prop where
  ph : s.ph = h_number ∨ s.ph = h_tail
  fm : (s.fi = [] ∧ s.ma = 0) ∨ ((s.fi = [48] ∨ s.fi = [49]) ∧ (s.ma = 1 ∨ s.ma = 2))
  ro : s.ro ≤ 4
  la : s.la = [102] ∨ s.la = [112] ∨ s.la = [117]
  rd : s.rd = true → r.e = o_rows
  po : s.po = true → ¬r.e = o_rows
theorem SNum.lt {r : Rdr} {s : RS} (h : SNum r s) : phC s ≤ 1 ∧ fmC s ≤ 4 ∧ zC s ≤ 1 ∧ laC s ≤ 2 := by
  refine ⟨by unfold phC; split <;> omega, ?_, by unfold zC; split <;> omega, by unfold laC; split; omega; split <;> omega⟩
  unfold fmC
  rcases h.fm with ⟨h1, h2⟩ | ⟨h1 | h1, h2⟩
  · rw [if_pos h1]; omega
  · rw [if_neg (by rw [h1]; decide), if_pos h1]; omega
  · rw [if_neg (by rw [h1]; decide), if_neg (by rw [h1]; decide)]; omega
theorem SNum.cd {r : Rdr} {s : RS} (h : SNum r s) : cdS s = 3 + (((phC s * 5 + fmC s) * 5 + s.ro) * 2 + zC s) * 3 + laC s := by
  unfold cdS
  rw [if_neg (by rcases h.ph with z | z <;> rw [z] <;> decide), if_neg (by rcases h.ph with z | z <;> rw [z] <;> decide)]
theorem SOk.num {r : Rdr} {s : RS} (h : SOk r s) : SNum r s ∨ s = ⟨h_start, [], 0, 0, false, [], false⟩ ∨ s = ⟨h_signed, [], 0, 0, false, [], false⟩ := by
  obtain ⟨ph, fi, ma, ro, rd, la, po⟩ := s
  rcases h with ⟨h0, h1, h2, h3, h4, h5, h6⟩ | ⟨h0, h1, h2, h3, h4, h5⟩
  · simp only at h0 h1 h2 h3 h4 h5 h6
    subst h1 h2 h3 h4 h5 h6
    rcases h0 with h0 | h0
    · subst h0; exact .inr (.inl rfl)
    · subst h0; exact .inr (.inr rfl)
  · exact .inl ⟨h0, h1, h2, h3, h4, h5⟩
theorem cdS_lt {r : Rdr} {s : RS} (h : SOk r s) : 0 < cdS s ∧ cdS s < 303 := by
  rcases h.num with h | h | h
  · have := h.lt
    have := h.ro
    rw [h.cd]
    omega
  · subst h; decide
  · subst h; decide
theorem num_inj {r : Rdr} {s t : RS} (hs : SNum r s) (ht : SNum r t) (e : cdS s = cdS t) : s = t := by
  have l1 := hs.lt
  have l2 := ht.lt
  have r1 := hs.ro
  have r2 := ht.ro
  rw [hs.cd, ht.cd] at e
  have e1 : laC s = laC t := by omega
  have e2 : zC s = zC t := by omega
  have e3 : s.ro = t.ro := by omega
  have e4 : fmC s = fmC t := by omega
  have e5 : phC s = phC t := by omega
  have f1 : s.la = t.la := by
    unfold laC at e1
    rcases hs.la with a | a | a <;> rcases ht.la with b | b | b <;> rw [a, b] at e1 ⊢ <;> first | rfl | (revert e1; decide)
  have f5 : s.ph = t.ph := by
    unfold phC at e5
    rcases hs.ph with a | a <;> rcases ht.ph with b | b <;> rw [a, b] at e5 ⊢ <;> first | rfl | (revert e5; decide)
  have f4 : s.fi = t.fi ∧ s.ma = t.ma := by
    unfold fmC at e4
    rcases hs.fm with ⟨a, a2⟩ | ⟨a | a, a2⟩ <;> rcases ht.fm with ⟨b, b2⟩ | ⟨b | b, b2⟩ <;> rw [a, b] at e4 ⊢ <;> simp at e4 ⊢ <;> omega
  have f2 : s.rd = t.rd ∧ s.po = t.po := by
    unfold zC at e2
    have a1 := hs.rd
    have a2 := hs.po
    have b1 := ht.rd
    have b2 := ht.po
    cases x1 : s.rd <;> cases x2 : s.po <;> cases y1 : t.rd <;> cases y2 : t.po <;> simp [x1, x2, y1, y2] at e2 a1 a2 b1 b2 ⊢
    all_goals first | exact absurd a1 b2 | exact absurd b1 a2 | exact absurd a1 a2 | exact absurd b1 b2
  obtain ⟨p1, p2, p3, p4, p5, p6, p7⟩ := s
  obtain ⟨q1, q2, q3, q4, q5, q6, q7⟩ := t
  simp only at f1 f2 f4 f5 e3
  rw [f1, f2.1, f2.2, f4.1, f4.2, f5, e3]
theorem cd_start : cdS ⟨h_start, [], 0, 0, false, [], false⟩ = 1 := by decide
theorem cd_signed : cdS ⟨h_signed, [], 0, 0, false, [], false⟩ = 2 := by decide
theorem cdS_inj {r : Rdr} {s t : RS} (hs : SOk r s) (ht : SOk r t) (e : cdS s = cdS t) : s = t := by
  rcases hs.num with a | a | a <;> rcases ht.num with b | b | b
  · exact num_inj a b e
  · rw [a.cd, b, cd_start] at e; omega
  · rw [a.cd, b, cd_signed] at e; omega
  · rw [b.cd, a, cd_start] at e; omega
  · rw [a, b]
  · rw [a, b, cd_start, cd_signed] at e; cases e
  · rw [b.cd, a, cd_signed] at e; omega
  · rw [a, b, cd_start, cd_signed] at e; cases e
  · rw [a, b]
def OOk (r : Rdr) (o : Option RS) : Prop := ∀ s, o = some s → SOk r s
theorem cdO_lt {r : Rdr} {o : Option RS} (h : OOk r o) : cdO o < 303 := by
  cases o with
  | none => show 0 < 303; decide
  | some s => exact (cdS_lt (h s rfl)).2
theorem cdO_inj {r : Rdr} {o p : Option RS} (h : OOk r o) (k : OOk r p) (e : cdO o = cdO p) : o = p := by
  cases o with
  | none =>
    cases p with
    | none => rfl
    | some t => have := (cdS_lt (k t rfl)).1; change 0 = cdS t at e; omega
  | some s =>
    cases p with
    | none => have := (cdS_lt (h s rfl)).1; change cdS s = 0 at e; omega
    | some t => rw [cdS_inj (h s rfl) (k t rfl) e]
end DL

set_option Elab.async false
set_option linter.all false
set_option maxRecDepth 100000
set_option maxHeartbeats 4000000
namespace DL
open PySem L2
def KOk (k : KS) : Prop := (k.fi = [] ∨ ∃ c, c ∈ FGc ∧ k.fi = [c]) ∧ k.ma ≤ 2
def fiC (f : List Nat) : Nat := if f = [] then 0 else if f = [48] then 1 else if f = [49] then 2 else if f = [56] then 3 else 4
def kC (k : KS) : Nat := (fiC k.fi * 3 + k.ma) * 2 + (if k.po = true then 1 else 0)
theorem kok_step {k : KS} (h : KOk k) (c : Nat) : KOk (fgB k c) := by
  unfold fgB
  split
  · exact h
  · split
    · exact h
    · rename_i hc
      have hf : c ∈ FGc := Classical.byContradiction hc
      refine ⟨?_, ?_⟩
      · show (if k.fi = [] then [c] else k.fi) = [] ∨ _
        split
        · exact .inr ⟨c, hf, rfl⟩
        · exact h.1
      · show (if 0 < k.ma ∨ ¬c = 48 then min (k.ma + 1) 2 else k.ma) ≤ 2
        have := h.2
        split <;> omega
theorem fiC_cases {f : List Nat} (h : f = [] ∨ ∃ c, c ∈ FGc ∧ f = [c]) : f = [] ∨ f = [48] ∨ f = [49] ∨ f = [56] ∨ f = [116] := by
  rcases h with h | ⟨c, hc, h⟩
  · exact .inl h
  · simp [FGc] at hc
    rcases hc with z | z | z | z <;> subst z <;> simp [h]
theorem kC_lt {k : KS} (h : KOk k) : kC k < 30 := by
  have : fiC k.fi ≤ 4 := by unfold fiC; repeat' split
                            all_goals omega
  have := h.2
  unfold kC
  split <;> omega
theorem kC_inj {k j : KS} (h : KOk k) (g : KOk j) (e : kC k = kC j) : k = j := by
  have l1 := h.2
  have l2 := g.2
  unfold kC at e
  have e1 : fiC k.fi = fiC j.fi := by revert e; split <;> split <;> intro e <;> omega
  have e2 : k.ma = j.ma := by revert e; split <;> split <;> intro e <;> omega
  have e3 : k.po = j.po := by
    cases x : k.po <;> cases y : j.po <;> simp [x, y] at e ⊢ <;> omega
  have e4 : k.fi = j.fi := by
    rcases fiC_cases h.1 with a | a | a | a | a <;> rcases fiC_cases g.1 with b | b | b | b | b <;> rw [a, b] at e1 ⊢ <;> first | rfl | (revert e1; decide)
  obtain ⟨a, b, c⟩ := k
  obtain ⟨d, f, i⟩ := j
  simp only at e2 e3 e4
  rw [e2, e3, e4]
def spD (o p : Option RS) (k : KS) : D := .tup [osD o, osD p, ksD k]
theorem osD_inj {o p : Option RS} (h : osD o = osD p) : o = p := by
  cases o with
  | none =>
    cases p with
    | none => rfl
    | some t => unfold osD stD at h; cases h
  | some s =>
    cases p with
    | none => unfold osD stD at h; cases h
    | some t =>
      obtain ⟨a1, a2, a3, a4, a5, a6, a7⟩ := s
      obtain ⟨b1, b2, b3, b4, b5, b6, b7⟩ := t
      simp only [osD, stD, D.tup.injEq, List.cons.injEq, D.str.injEq, D.int.injEq, D.bl.injEq, Int.ofNat_inj, Int.natCast_inj, and_true] at h
      obtain ⟨h1, h2, h3, h4, h5, h6, h7⟩ := h
      subst h1 h2 h3 h4 h5 h6 h7
      rfl
theorem ksD_inj {k j : KS} (h : ksD k = ksD j) : k = j := by
  obtain ⟨a, b, c⟩ := k
  obtain ⟨d, e, f⟩ := j
  simp only [ksD, D.tup.injEq, List.cons.injEq, D.str.injEq, D.int.injEq, D.bl.injEq, Int.ofNat_inj, Int.natCast_inj, and_true] at h
  obtain ⟨h1, h2, h3⟩ := h
  subst h1 h2 h3
  rfl
end DL

set_option Elab.async false
set_option linter.all false
set_option maxRecDepth 100000
set_option maxHeartbeats 4000000
namespace DL
open PySem L2
def SpOk (r q : Rdr) (d : D) : Prop := ∃ o p k, d = spD o p k ∧ OOk r o ∧ OOk q p ∧ KOk k
noncomputable def spP (d : D) : Option RS × Option RS × KS := by
  classical
  exact if h : ∃ x : Option RS × Option RS × KS, d = spD x.1 x.2.1 x.2.2 then Classical.choose h else (none, none, ⟨[], 0, false⟩)
theorem spD_inj {o p o2 p2 : Option RS} {k k2 : KS} (h : spD o p k = spD o2 p2 k2) : o = o2 ∧ p = p2 ∧ k = k2 := by
  unfold spD at h
  simp only [D.tup.injEq, List.cons.injEq, and_true] at h
  exact ⟨osD_inj h.1, osD_inj h.2.1, ksD_inj h.2.2⟩
theorem spP_is (o p : Option RS) (k : KS) : spP (spD o p k) = (o, p, k) := by
  unfold spP
  have h : ∃ x : Option RS × Option RS × KS, spD o p k = spD x.1 x.2.1 x.2.2 := ⟨(o, p, k), rfl⟩
  rw [dif_pos h]
  have e := Classical.choose_spec h
  obtain ⟨e1, e2, e3⟩ := spD_inj e
  exact (Prod.ext e1 (Prod.ext e2 e3)).symm
noncomputable def gr2 (r q : Rdr) (want : Bool → Bool → Bool → Bool) : Gr where
  ok := SpOk r q
  st := fun d c => let x := spP d; if bh r x.1 c = none ∧ bh q x.2.1 c = none then .non else spD (bh r x.1 c) (bh q x.2.1 c) (fgB x.2.2 c)
  gl := fun d => let x := spP d; want (whole r x.1) (whole q x.2.1) (unB r q x.2.2)
  cd := fun d => let x := spP d; (cdO x.1 * 303 + cdO x.2.1) * 30 + kC x.2.2
  B := 303 * 303 * 30
theorem ook_bh {r : Rdr} {o : Option RS} {c : Nat} (h : OOk r o) : OOk r (bh r o c) := fun t e => by
  cases o with
  | none => cases e
  | some s => exact sok_bh (h s rfl) e
theorem gr2_ok (r q : Rdr) (want : Bool → Bool → Bool → Bool) (hk : ∀ d, SpOk r q d → isK d) (hn : ∀ d e, SpOk r q d → SpOk r q e → nk d = nk e → d = e) : GrOk (gr2 r q want) where
  nx := fun d c ⟨o, p, k, e, h1, h2, h3⟩ hc => by
    subst e
    show (let x := spP (spD o p k); if bh r x.1 c = none ∧ bh q x.2.1 c = none then D.non else spD (bh r x.1 c) (bh q x.2.1 c) (fgB x.2.2 c)) = .non ∨ SpOk r q _
    rw [spP_is]
    dsimp only
    by_cases z : bh r o c = none ∧ bh q p c = none
    · exact .inl (if_pos z)
    · right
      show SpOk r q (let x := spP (spD o p k); if bh r x.1 c = none ∧ bh q x.2.1 c = none then D.non else spD (bh r x.1 c) (bh q x.2.1 c) (fgB x.2.2 c))
      rw [spP_is]
      dsimp only
      rw [if_neg z]
      exact ⟨_, _, _, rfl, ook_bh h1, ook_bh h2, kok_step h3 c⟩
  key := hk
  inj := hn
  cdi := fun d e ⟨o, p, k, e1, h1, h2, h3⟩ ⟨o2, p2, k2, e2, g1, g2, g3⟩ h => by
    subst e1 e2
    change (let x := spP (spD o p k); (cdO x.1 * 303 + cdO x.2.1) * 30 + kC x.2.2) = (let x := spP (spD o2 p2 k2); (cdO x.1 * 303 + cdO x.2.1) * 30 + kC x.2.2) at h
    rw [spP_is, spP_is] at h
    dsimp only at h
    have a1 := cdO_lt h1
    have a2 := cdO_lt h2
    have a3 := kC_lt h3
    have b1 := cdO_lt g1
    have b2 := cdO_lt g2
    have b3 := kC_lt g3
    have c3 : kC k = kC k2 := by omega
    have c2 : cdO p = cdO p2 := by omega
    have c1 : cdO o = cdO o2 := by omega
    rw [cdO_inj h1 g1 c1, cdO_inj h2 g2 c2, kC_inj h3 g3 c3]
  lt := fun d ⟨o, p, k, e1, h1, h2, h3⟩ => by
    subst e1
    show (let x := spP (spD o p k); (cdO x.1 * 303 + cdO x.2.1) * 30 + kC x.2.2) < 303 * 303 * 30
    rw [spP_is]
    dsimp only
    have a1 := cdO_lt h1
    have a2 := cdO_lt h2
    have a3 := kC_lt h3
    omega
  le := by show 303 * 303 * 30 ≤ 4000000; decide
end DL

set_option Elab.async false
set_option linter.all false
set_option maxRecDepth 100000
set_option maxHeartbeats 4000000
namespace DL
open PySem L2
theorem spot_key {o p : Option RS} {k : KS} : isK (spD o p k) := by
  refine ⟨?_, ?_, _, rfl⟩
  · cases o <;> cases p <;> rfl
  · cases o <;> cases p <;> (simp only [spD, osD, stD, ksD, nk, nks]; simp [NestedKey.depth, NestedKey.depthAll])
theorem nkS {a b : List Nat} (h : NestedKey.text (sV a) = NestedKey.text (sV b)) : a = b := sV_inj (NestedKey.text.inj h)
theorem nk_os {o p : Option RS} (h : nk (osD o) = nk (osD p)) : o = p := by
  cases o with
  | none =>
    cases p with
    | none => rfl
    | some t => simp only [osD, stD, nk] at h; cases h
  | some s =>
    cases p with
    | none => simp only [osD, stD, nk] at h; cases h
    | some t =>
      obtain ⟨a1, a2, a3, a4, a5, a6, a7⟩ := s
      obtain ⟨b1, b2, b3, b4, b5, b6, b7⟩ := t
      simp only [osD, stD, nk, nks, NestedKey.tup.injEq, List.cons.injEq, NestedKey.text.injEq, NestedKey.num.injEq, and_true] at h
      obtain ⟨h1, h2, h3, h4, h5, h6, h7⟩ := h
      have e1 := sV_inj h1
      have e2 := sV_inj h2
      have e6 := sV_inj h6
      have e3 : a3 = b3 := by omega
      have e4 : a4 = b4 := by omega
      have e5 : a5 = b5 := by cases a5 <;> cases b5 <;> first | rfl | (simp at h5)
      have e7 : a7 = b7 := by cases a7 <;> cases b7 <;> first | rfl | (simp at h7)
      subst e1 e2 e3 e4 e5 e6 e7
      rfl
theorem nk_ks {k j : KS} (h : nk (ksD k) = nk (ksD j)) : k = j := by
  obtain ⟨a, b, c⟩ := k
  obtain ⟨d, e, f⟩ := j
  simp only [ksD, nk, nks, NestedKey.tup.injEq, List.cons.injEq, NestedKey.text.injEq, NestedKey.num.injEq, and_true] at h
  obtain ⟨h1, h2, h3⟩ := h
  have e1 := sV_inj h1
  have e2 : b = e := by omega
  have e3 : c = f := by cases c <;> cases f <;> first | rfl | (simp at h3)
  subst e1 e2 e3
  rfl
theorem gr_ok (r q : Rdr) (want : Bool → Bool → Bool → Bool) : GrOk (gr2 r q want) := gr2_ok r q want (fun d ⟨o, p, k, e, _⟩ => by rw [e]; exact spot_key) fun d e ⟨o, p, k, e1, _⟩ ⟨o2, p2, k2, e2, _⟩ h => by
  subst e1 e2
  simp only [spD, nk, nks, NestedKey.tup.injEq, List.cons.injEq, and_true] at h
  rw [nk_os h.1, nk_os h.2.1, nk_ks h.2.2]
end DL

set_option Elab.async false
set_option linter.all false
set_option maxRecDepth 100000
set_option maxHeartbeats 4000000
namespace DL
open PySem L2
abbrev Want := Bool → Bool → Bool → Bool
def spW (want : Want) : DSp := fun ds M Q _ => ∃ a b c, ds = [.bl a, .bl b, .bl c] ∧ Q (.bl (want a b c)) M
def sp_text_for_step (_ : Ad) : DSpN := fun wd ds M Q _ => ∃ (r q : Rdr) (o p : Option RS) (k : KS) (c : Nat), wd = [r.D, q.D] ∧ ds = [spD o p k, .str [c]] ∧ Q (if bh r o c = none ∧ bh q p c = none then .non else spD (bh r o c) (bh q p c) (fgB k c)) M
def t_text_for_step (A : Ad) : DS := dSeq (dPar 4 5 (dCons (dCall (sp_behind A) (dCons (dVar 2) (dCons (dOp ixD (dVar 0) (dC (.int 0))) (dCons (dVar 1) (dNil))))) (dCons (dCall (sp_behind A) (dCons (dVar 3) (dCons (dOp ixD (dVar 0) (dC (.int 1))) (dCons (dVar 1) (dNil))))) (dNil)))) (dSeq (dIfS (dAnd (dTest (dOp isD (dVar 4) (dC .non))) (dTest (dOp isD (dVar 5) (dC .non)))) (dRet (dC .non)) (dNext)) (dRet (dTup (dCons (dVar 4) (dCons (dVar 5) (dCons (dCall (sp_figures_behind A) (dCons (dOp ixD (dVar 0) (dC (.int 2))) (dCons (dVar 1) (dNil)))) (dNil)))))))
abbrev n_text_for_step : List Str := ["spot", "sign", "one", "other", "here", "there"]
theorem isN_os (o : Option RS) : isN (osD o) = decide (o = none) := by cases o <;> rfl
theorem pure_text_for_step {A : Ad} (wd ds M R EX) (h : sp_text_for_step A wd ds M R EX) : t_text_for_step A (fun C fs _ M' => WkX EX C fs M') (endsOf R) (startND n_text_for_step ds wd) M := by
  obtain ⟨r, q, o, p, k, c, rfl, rfl, h⟩ := h
  have z : 3 ≤ sizeLine := by rw [sizeLine_eq]; decide
  unfold t_text_for_step
  replace h := Wk.self h
  have i0 : ∀ {M : DM} {R : DQ}, ixD (spD o p k) (.int 0) M R = R (osD o) M := rfl
  have i1 : ∀ {M : DM} {R : DQ}, ixD (spD o p k) (.int 1) M R = R (osD p) M := rfl
  have i2 : ∀ {M : DM} {R : DQ}, ixD (spD o p k) (.int 2) M R = R (ksD k) M := rfl
  simp only [dVar, dC, dOp, dTest, dNot, dNil, dCons, dTup, dLst, dNext, dSeq, dRet, dRetN, dExpr, dBrk, dCnt, dSet, gN, gTp, gLs, gsNil, gsCons, dAsg, dCall, dPart, dNoPart, dCB, lenD, minD, maxD, absD, dNeg, dPar, dAug, augAdd, dNotV, startD, endsOf, intI, cmpI, iIfS, iAnd, iOr, iAndV, iOrV, iIfE, iEqS, iEqI, iEqB, iNeS, iNeI, iIs, iIsNot, iInC, iNotInC, iAddI, iAddT, iAddS, List.map_cons, List.map_nil, List.length_cons, List.length_nil, List.replicate, List.getElem?_cons_zero, List.getElem?_cons_succ, List.cons_append, List.nil_append, List.set_cons_zero, List.set_cons_succ, Nat.reduceAdd, Nat.reduceSub, true_and, decide_eq_true_eq, Bool.not_eq_true', decide_eq_false_iff_not, startND, i0, i1, i2, iIs, isN_os]
  refine ⟨r, o, c, rfl, q, p, c, rfl, ?_⟩
  simp only [iIs, isN_os]
  by_cases c1 : bh r o c = none
  · by_cases c2 : bh q p c = none
    · simp only [c1, c2, and_self, if_true, decide_true] at h ⊢
      exact h
    · simp only [c1, c2, and_false, if_false, if_true, decide_true, decide_false, Bool.false_eq_true] at h ⊢
      exact ⟨k, c, rfl, z, h⟩
  · simp only [c1, false_and, if_false, decide_false, Bool.false_eq_true] at h ⊢
    exact ⟨k, c, rfl, z, h⟩
def sp_text_for_is_goal (_ : Ad) (OkW : Clo → Want → Prop) : DSpN := fun wd ds M Q _ => ∃ (r q : Rdr) (o p : Option RS) (k : KS) (kw : Clo) (want : Want), OkW kw want ∧ wd = [.ref kw.f, r.D, q.D] ∧ ds = [spD o p k] ∧ CloM kw M ∧ Q (.bl (want (whole r o) (whole q p) (unB r q k))) M
def t_text_for_is_goal (A : Ad) (OkW : Clo → Want → Prop) : DS := dRet (dClo 1 (fun z : {z : Clo × (Bool → Bool → Bool → Bool) // OkW z.1 z.2} => z.1.1) (fun z => spW z.1.2) (dCons (dCall (sp_is_whole A) (dCons (dVar 2) (dCons (dOp ixD (dVar 0) (dC (.int 0))) (dNil)))) (dCons (dCall (sp_is_whole A) (dCons (dVar 3) (dCons (dOp ixD (dVar 0) (dC (.int 1))) (dNil)))) (dCons (dCall (sp_are_unlike_numbers A) (dCons (dVar 2) (dCons (dVar 3) (dCons (dOp ixD (dVar 0) (dC (.int 2))) (dNil))))) (dNil)))))
abbrev n_text_for_is_goal : List Str := ["spot", "is_wanted", "one", "other"]
theorem pure_text_for_is_goal {A : Ad} {OkW : Clo → Want → Prop} (wd ds M R EX) (h : sp_text_for_is_goal A OkW wd ds M R EX) : t_text_for_is_goal A OkW (fun C fs _ M' => WkX EX C fs M') (endsOf R) (startND n_text_for_is_goal ds wd) M := by
  obtain ⟨r, q, o, p, k, kw, want, hk, rfl, rfl, cm, h⟩ := h
  replace h := Wk.self h
  have i0 : ∀ {M : DM} {R : DQ}, ixD (spD o p k) (.int 0) M R = R (osD o) M := rfl
  have i1 : ∀ {M : DM} {R : DQ}, ixD (spD o p k) (.int 1) M R = R (osD p) M := rfl
  have i2 : ∀ {M : DM} {R : DQ}, ixD (spD o p k) (.int 2) M R = R (ksD k) M := rfl
  unfold t_text_for_is_goal
  simp only [dClo, dVar, dC, dOp, dTest, dNot, dNil, dCons, dTup, dLst, dNext, dSeq, dRet, dRetN, dExpr, dBrk, dCnt, dSet, gN, gTp, gLs, gsNil, gsCons, dAsg, dCall, dPart, dNoPart, dCB, lenD, minD, maxD, absD, dNeg, dPar, dAug, augAdd, dNotV, startD, endsOf, intI, cmpI, iIfS, iAnd, iOr, iAndV, iOrV, iIfE, iEqS, iEqI, iEqB, iNeS, iNeI, iIs, iIsNot, iInC, iNotInC, iAddI, iAddT, iAddS, List.map_cons, List.map_nil, List.length_cons, List.length_nil, List.replicate, List.getElem?_cons_zero, List.getElem?_cons_succ, List.cons_append, List.nil_append, List.set_cons_zero, List.set_cons_succ, Nat.reduceAdd, Nat.reduceSub, true_and, decide_eq_true_eq, Bool.not_eq_true', decide_eq_false_iff_not, startND, i0, i1, i2]
  exact ⟨⟨(kw, want), hk⟩, rfl, cm, r, o, rfl, q, p, rfl, r, q, k, rfl, cm, _, _, _, rfl, h⟩
def spot0 : D := spD (some fst0) (some fst0) ⟨[], 0, false⟩
def sp_text_for (_ : Ad) (OkW : Clo → Want → Prop) : DSp := fun ds M Q _ => ∃ (r q : Rdr) (kw : Clo) (want : Want), OkW kw want ∧ ds = [r.D, q.D, .ref kw.f] ∧ CloM kw M ∧ ∀ res, BRes (gr2 r q want) spot0 res → Q (ftD res) M
structure TfZ (OkW : Clo → Want → Prop) where
  r : Rdr
  q : Rdr
  want : Want
  kw : Clo
  ok : OkW kw want
  fs : Addr
  cs : Addr
  fg : Addr
  cg : Addr
def TfZ.side {OkW : Clo → Want → Prop} (z : TfZ OkW) : Env → DM → Prop := fun ρ _ => ρ[0]? = some (some z.r.D) ∧ ρ[1]? = some (some z.q.D) ∧ ρ[2]? = some (some (.ref z.kw.f))
noncomputable def TfZ.g {OkW : Clo → Want → Prop} (z : TfZ OkW) : Gr := gr2 z.r z.q z.want
noncomputable def TfZ.sp {OkW : Clo → Want → Prop} (mk1 mk2 : Addr → NdefX.NF) (z : TfZ OkW) : DSp := sp_first_text (cloNF z.fs (mk1 z.cs)) (cloNF z.fg (mk2 z.cg)) z.g (CloM z.kw)
noncomputable def t_text_for (_ : Ad) (OkW : Clo → Want → Prop) (mk1 mk2 : Addr → NdefX.NF) : DS := dSeq (dNdef 3 mk1) (dSeq (dNdef 4 mk2) (dRet (dCallC (ι := TfZ OkW) TfZ.side (TfZ.sp mk1 mk2) (dCons (dTup (dCons (dC c_FIRST) (dCons (dC c_FIRST) (dCons (dTup (dCons (dC (.str [])) (dCons (dC (.int 0)) (dCons (dC (.bl false)) dNil)))) dNil)))) (dCons (dVar 3) (dCons (dVar 4) dNil))))))
abbrev n_text_for : List Str := ["one", "other", "is_wanted", "step", "is_goal"]
theorem msub_raw {M : DM} {f c : Addr} {o : MO} {u : MO} (hf : M f = none) (hs : MSub M (mupd M c u)) (ne : f ≠ c) : MSub M (mupd (mupd M c u) f o) := hs.trans (MSub.new (by rw [mupd_ne ne]; exact hf))
theorem spot0_ok {r q : Rdr} : SpOk r q spot0 := ⟨some fst0, some fst0, ⟨[], 0, false⟩, rfl, (fun s e => by cases e; exact sok_first r), (fun s e => by cases e; exact sok_first q), .inl rfl, Nat.zero_le _⟩
theorem pure_text_for {A : Ad} {OkW : Clo → Want → Prop} (mk1 mk2 : Addr → NdefX.NF) (h1 : ∀ c, (mk1 c).c = c) (h2 : ∀ c, (mk2 c).c = c) (ds M R EX) (h : sp_text_for A OkW ds M R EX) : t_text_for A OkW mk1 mk2 (fun C fs _ M' => WkX EX C fs M') (endsOf R) (startD n_text_for ds) M := by
  obtain ⟨r, q, kw, want, hk, rfl, cm, k⟩ := h
  have z : 3 ≤ sizeLine := by rw [sizeLine_eq]; decide
  intro fs cs mfs ms1 ne1 fg cg mfg ms2 ne2
  have s1 := msub_raw (o := .raw (NdefX.FnO fs (mk1 cs))) mfs ms1 ne1
  have s2 := msub_raw (o := .raw (NdefX.FnO fg (mk2 cg))) mfg ms2 ne2
  refine ⟨z, z, ⟨r, q, want, kw, hk, fs, cs, fg, cg⟩, ⟨rfl, rfl, rfl⟩, ?_⟩
  refine ⟨spot0, rfl, ?_, ?_, spot0_ok, cm.sub (s1.trans s2), gr_ok _ _ _, fun M M' s c => c.sub s, fun res hres => ⟨M, s1.trans s2, k res hres⟩⟩
  · refine CloM.sub ⟨?_, ?_⟩ s2
    · exact mupd_same
    · show mupd (mupd M cs _) fs _ (mk1 cs).c = _
      rw [h1, mupd_ne ne1.symm, mupd_same]
      show some (MO.raw (LamX.CodeO cs (mk1 cs).qual)) = some (.raw (LamX.CodeO (mk1 cs).c (mk1 cs).qual))
      rw [h1]
  · refine ⟨?_, ?_⟩
    · exact mupd_same
    · show mupd (mupd _ cg _) fg _ (mk2 cg).c = _
      rw [h2, mupd_ne ne2.symm, mupd_same]
      show some (MO.raw (LamX.CodeO cg (mk2 cg).qual)) = some (.raw (LamX.CodeO (mk2 cg).c (mk2 cg).qual))
      rw [h2]
theorem rdr_of {d : D} (h : rf d = none) : ∃ r : Rdr, d = r.D := by
  unfold rf at h
  split at h
  · rename_i a b c d e f
    cases q : bad1 0 [a, b, c, d, e, f] OPc with
    | some i => rw [q] at h; cases h
    | none =>
      obtain ⟨ss, e1, e2⟩ := bad1_none _ _ _ q rfl
      match ss, e1, e2 with
      | [a', b', c', d', e', f'], e1, _ => exact ⟨⟨a', b', c', d', e', f'⟩, by rw [e1]; rfl⟩
  · cases h
def fBad : List D → Option Nat
  | [] => none
  | d :: ds => match rf d with
    | some i => some i
    | none => fBad ds
def sp_check_readers (A : Ad) : DSp := fun ds M Q EX => ∃ a xs, ds = [.ref a] ∧ M a = some (.lst xs) ∧ (∀ x ∈ xs, GD M x) ∧ (fBad xs = none → Q .non M) ∧ ∀ i, fBad xs = some i → ∀ dx, M dx = none → EX A.cBR [.ref dx] (mupd M dx (.xd "index" (.int (i : Nat))))
def t_check_readers (A : Ad) : DS := dFor (dIter (dVar 0)) (gN 1) (dExpr (dCall (sp_check_reader A) (dCons (dVar 1) (dNil))))
abbrev n_check_readers : List Str := ["readers", "reader"]
theorem cr_loop {A : Ad} {W : DW} {E : DEnds} {M : DM} {a : Addr} {v : D} {gd : DM → Prop} (hgd : gd M) : ∀ (xs : List D) (x : Option D), (∀ x ∈ xs, GD M x) → (fBad xs = none → ∀ x, E.nx [some v, x] M) → (∀ i, fBad xs = some i → ∀ dx, M dx = none → ∀ x, W A.cBR [.ref dx] [some v, x] (mupd M dx (.xd "index" (.int (i : Nat))))) →
    dLoop (gN 1) (dExpr (dCall (sp_check_reader A) (dCons (dVar 1) dNil)) W) gd xs E [some v, x] M
  | [], x, _, k, _ => ⟨hgd, k rfl x⟩
  | d :: ds, x, hg, k, kx => by
    refine ⟨hgd, d, rfl, hg d (by simp), fun q => ?_, fun i q dx hdx => ?_⟩
    · exact cr_loop (a := a) hgd ds _ (fun x hx => hg x (by simp [hx])) (fun q2 => k (by unfold fBad; rw [q]; exact q2)) fun i q2 => kx i (by unfold fBad; rw [q]; exact q2)
    · exact kx i (by unfold fBad; rw [q]) dx hdx _
theorem pure_check_readers {A : Ad} (ds M R EX) (h : sp_check_readers A ds M R EX) : t_check_readers A (fun C fs _ M' => WkX EX C fs M') (endsOf R) (startD n_check_readers ds) M := by
  obtain ⟨a, xs, rfl, e, hg, k, kx⟩ := h
  refine ⟨xs, e, ?_⟩
  exact cr_loop (a := a) e xs none hg (fun q x => Wk.self (k q)) fun i q dx hdx x => WkX.self (kx i q dx hdx)
def sp_two (A : Ad) (want : Want) : DSp := fun ds M Q EX => ∃ d e, ds = [d, e] ∧ GD M d ∧ GD M e ∧ (fBad [d, e] = none → ∀ r q, d = Rdr.D r → e = Rdr.D q → ∀ res, BRes (gr2 r q want) spot0 res → Q (ftD res) M) ∧
  ∀ i, fBad [d, e] = some i → ∀ dx M', MSub M M' → M' dx = some (.xd "index" (.int (i : Nat))) → EX A.cBR [.ref dx] M'
def t_two (A : Ad) (OkW : Clo → Want → Prop) (mk : Addr → NL) : DS := dSeq (dExpr (dCall (sp_check_readers A) (dCons (dLst (dCons (dVar 0) (dCons (dVar 1) (dNil)))) (dNil)))) (dRet (dCall (sp_text_for A OkW) (dCons (dVar 0) (dCons (dVar 1) (dCons (dLam mk) (dNil))))))
theorem pure_two {A : Ad} {OkW : Clo → Want → Prop} {want : Want} {N : List Str} (mk : Addr → NL) (h1 : ∀ c, (mk c).c = c) (hN : 2 ≤ N.length) (hok : ∀ f c, OkW (cloNL f (mk c)) want) (ds M R EX) (h : sp_two A want ds M R EX) : t_two A OkW mk (fun C fs _ M' => WkX EX C fs M') (endsOf R) (startD N ds) M := by
  obtain ⟨d, e, rfl, gd, ge, k, kx⟩ := h
  have z : 2 ≤ sizeLine := by rw [sizeLine_eq]; decide
  refine ⟨z, fun p hp => ?_⟩
  have sp : MSub M (mupd M p (.lst [d, e])) := msub_new hp
  refine ⟨p, [d, e], rfl, mupd_same, ?_, fun hb => ?_, fun i hb dx hdx => ?_⟩
  · intro x hx
    rcases List.mem_cons.mp hx with rfl | hx
    · exact gd.mono sp
    · rw [List.mem_singleton.mp hx]; exact ge.mono sp
  · have d0 : rf d = none := by
      cases q : rf d with
      | none => rfl
      | some i => unfold fBad at hb; rw [q] at hb; cases hb
    have e0 : rf e = none := by
      cases q : rf e with
      | none => rfl
      | some i => unfold fBad at hb; rw [d0] at hb; unfold fBad at hb; rw [q] at hb; cases hb
    obtain ⟨r, rfl⟩ := rdr_of d0
    obtain ⟨q, rfl⟩ := rdr_of e0
    intro f c mf ms ne
    have s2 := msub_raw (o := .raw (LamO f (mk c))) mf ms ne
    refine ⟨r, q, cloNL f (mk c), want, hok f c, rfl, ⟨mupd_same, ?_⟩, fun res hres => ⟨M, sp.trans s2, k hb r q rfl rfl res hres⟩⟩
    show mupd (mupd _ c _) f _ (mk c).c = _
    rw [h1, mupd_ne ne.symm, mupd_same]
    show some (MO.raw (LamX.CodeO c (mk c).qual)) = some (.raw (LamX.CodeO (mk c).c (mk c).qual))
    rw [h1]
  · exact WkX.self (kx i hb dx _ (sp.trans (msub_new hdx)) mupd_same)
theorem gr2_st {r q : Rdr} {want : Want} {o p : Option RS} {k : KS} {c : Nat} : (gr2 r q want).st (spD o p k) c = if bh r o c = none ∧ bh q p c = none then .non else spD (bh r o c) (bh q p c) (fgB k c) := by
  show (let x := spP (spD o p k); if bh r x.1 c = none ∧ bh q x.2.1 c = none then D.non else spD (bh r x.1 c) (bh q x.2.1 c) (fgB x.2.2 c)) = _
  rw [spP_is]
theorem gr2_gl {r q : Rdr} {want : Want} {o p : Option RS} {k : KS} : (gr2 r q want).gl (spD o p k) = want (whole r o) (whole q p) (unB r q k) := by
  show (let x := spP (spD o p k); want (whole r x.1) (whole q x.2.1) (unB r q x.2.2)) = _
  rw [spP_is]
def w_clash : Want := fun a b c => a && (b && c)
def w_unlike : Want := fun a b c => !decide (a = b) || (a && c)
def w_beyond : Want := fun a b c => a && (!b || c)
def t_l_clash : DE := dAndV (dVar 0) (dAndV (dVar 1) (dVar 2))
abbrev n_l_clash : List Str := ["first", "second", "unlikely"]
theorem pure_l_clash (ds M R EX) (h : spW w_clash ds M R EX) : t_l_clash (fun C fs _ M' => WkX EX C fs M') (startD n_l_clash ds) M (Wk R) := by
  obtain ⟨a, b, c, rfl, h⟩ := h
  replace h := Wk.self h
  unfold w_clash at h
  cases a <;> cases b <;> cases c <;> exact h
def t_l_unlike : DE := dOrV (dOp neD (dVar 0) (dVar 1)) (dAndV (dVar 0) (dVar 2))
abbrev n_l_unlike : List Str := ["first", "second", "unlikely"]
theorem pure_l_unlike (ds M R EX) (h : spW w_unlike ds M R EX) : t_l_unlike (fun C fs _ M' => WkX EX C fs M') (startD n_l_unlike ds) M (Wk R) := by
  obtain ⟨a, b, c, rfl, h⟩ := h
  replace h := Wk.self h
  unfold w_unlike at h
  cases a <;> cases b <;> cases c <;> exact h
def t_l_beyond : DE := dAndV (dVar 0) (dOrV (dNotV (dVar 1)) (dVar 2))
abbrev n_l_beyond : List Str := ["first", "second", "unlikely"]
theorem pure_l_beyond (ds M R EX) (h : spW w_beyond ds M R EX) : t_l_beyond (fun C fs _ M' => WkX EX C fs M') (startD n_l_beyond ds) M (Wk R) := by
  obtain ⟨a, b, c, rfl, h⟩ := h
  replace h := Wk.self h
  unfold w_beyond at h
  cases a <;> cases b <;> cases c <;> exact h
end DL

set_option Elab.async false
set_option linter.all false
set_option maxRecDepth 100000
set_option maxHeartbeats 4000000
namespace DL
open PySem L2
def okX : D → Bool
  | .str s => okT s
  | _ => false
def sp_is_textG (_ : Ad) : DSp := fun ds M Q _ => ∃ d, ds = [d] ∧ GD M d ∧ Q (.bl (okX d)) M
theorem pure_is_textG {A : Ad} (ds M R EX) (h : sp_is_textG A ds M R EX) : t_is_text A (fun C fs _ M' => WkX EX C fs M') (endsOf R) (startD n_is_text ds) M := by
  obtain ⟨d, rfl, g, k⟩ := h
  cases g with
  | str s hs => exact pure_is_text (A := A) [.str s] M R EX ⟨s, rfl, hs, k⟩
  | lst e =>
    unfold t_is_text
    simp only [dVar, dC, dOp, dTest, dChain, dAnd, dOr, dNot, dAndV, dOrV, dNotV, dIfE, dNil, dCons, dTup, dLst, dNext, dSeq, dIfS, dRet, dRetN, dExpr, dBrk, dCnt, dSet, dNever, gN, gTp, gLs, gsNil, gsCons, dAsg, dCall, dRaise, dRaiseF, ixD, dSl, slD, dPart, dNoPart, dCB, lenD, minD, maxD, absD, intD, strD, tupleD, listD, dMt, dMt0, tyD, appendD, popD, splitD, countD, dIsi, gSb, setL, dFld, dFldSet, dMeth, dMake, dFldAug, dAug, dPar, dTru, dNeg, augAdd, dDep, dIsC, intI, cmpI, startD, endsOf, List.map_cons, List.map_nil, List.length_cons, List.length_nil, List.replicate, List.getElem?_cons_zero, List.getElem?_cons_succ, List.cons_append, List.nil_append, List.set_cons_zero, List.set_cons_succ, Nat.reduceAdd, Nat.reduceSub]
    rw [tn_ok (.lst e)]
    exact Wk.self k
  | _ => exact Wk.self k
def sp_check_textG (A : Ad) : DSp := fun ds M Q E => ∃ d, ds = [d] ∧ GD M d ∧ (okX d = true → Q .non M) ∧ (okX d = false → E A.cBT [] M)
def tG_check_text (A : Ad) : DS := dIfS (dNot (dTest (dCall (sp_is_textG A) (dCons (dVar 0) (dNil))))) (dRaise A.cBT) (dNext)
theorem pure_check_textG {A : Ad} (ds M R EX) (h : sp_check_textG A ds M R EX) : tG_check_text A (fun C fs _ M' => WkX EX C fs M') (endsOf R) (startD n_check_text ds) M := by
  obtain ⟨d, rfl, g, k1, k2⟩ := h
  refine ⟨d, rfl, g, ?_⟩
  show (match !okX d with | true => _ | false => _)
  cases q : okX d with
  | true => exact Wk.self (k1 q)
  | false => exact WkX.self (k2 q)
def sp_readG (A : Ad) : DSp := fun ds M Q E => ∃ d e, ds = [d, e] ∧ GD M d ∧ GD M e ∧
  (rf d = none → (okX e = true → ∃ (r : Rdr) (s : List Nat), d = r.D ∧ e = .str s ∧ s.length ≤ 1000 ∧ (rdB r s = true → figs s ≠ []) ∧ Q (resR r s) M) ∧ (okX e = false → E A.cBT [] M)) ∧
  ∀ i, rf d = some i → ∀ dx, M dx = none → E A.cBR [.ref dx] (mupd M dx (.xd "index" (.int (i : Nat))))
def tG_read (A : Ad) : DS := dSeq (dExpr (dCall (sp_check_reader A) (dCons (dVar 0) (dNil)))) (dSeq (dExpr (dCall (sp_check_textG A) (dCons (dVar 1) (dNil)))) (dRet (dIfE (dTest (dCall (sp_is_read A) (dCons (dVar 0) (dCons (dVar 1) (dNil))))) (dCall (sp_number_of A) (dCons (dVar 0) (dCons (dVar 1) (dNil)))) (dC .non))))
theorem pure_readG {A : Ad} (ds M R EX) (h : sp_readG A ds M R EX) : tG_read A (fun C fs _ M' => WkX EX C fs M') (endsOf R) (startD n_read ds) M := by
  obtain ⟨d, e, rfl, gd, ge, k, kx⟩ := h
  refine ⟨d, rfl, gd, fun q => ?_, fun i q dx hdx => WkX.self (kx i q dx hdx)⟩
  obtain ⟨k1, k2⟩ := k q
  refine ⟨e, rfl, ge, fun h1 => ?_, fun h1 => WkX.self (k2 h1)⟩
  obtain ⟨r, s, rfl, rfl, hs, k3, k4⟩ := k1 h1
  refine ⟨r, s, rfl, ?_⟩
  unfold resR at k4
  show (match rdB r s with | true => _ | false => _)
  cases q : rdB r s with
  | true =>
    rw [if_pos q] at k4
    exact ⟨r, s, rfl, hs, k3 q, Wk.self k4⟩
  | false =>
    rw [if_neg (by rw [q]; exact Bool.false_ne_true)] at k4
    exact Wk.self k4
end DL

set_option Elab.async false
set_option linter.all false
set_option maxRecDepth 100000
set_option maxHeartbeats 4000000
namespace DL
open PySem L2
theorem opts_of {r : Rdr} (h : rf r.D = none) : r.a ∈ [o_none, [101, 110, 100, 115]] ∧ r.b ∈ [o_none, [109, 105, 110, 117, 115], [98, 111, 116, 104]] ∧ r.c ∈ [o_none, [102, 114, 101, 101], o_eight] ∧ r.d ∈ [o_none, [115, 105, 110, 103, 108, 101], [102, 114, 101, 101]] ∧
    r.e ∈ [o_none, [112, 97, 114, 116], [108, 111, 111, 115, 101], o_rows] ∧ r.f ∈ [[112, 108, 97, 105, 110], [97, 108, 108]] := by
  have ok : ∀ {i : Nat} {s : List Nat} {o : List (List Nat)} {ds : List D} {os : List (List (List Nat))}, bad1 i (.str s :: ds) (o :: os) = none → s ∈ o ∧ bad1 (i + 1) ds os = none := by
    intro i s o ds os h
    rw [bad1] at h
    by_cases q : s ∈ o
    · rw [if_pos (show okO (.str s) o = true from decide_eq_true q)] at h; exact ⟨q, h⟩
    · rw [if_neg (show ¬ okO (.str s) o = true from fun z => q (of_decide_eq_true z))] at h; cases h
  unfold rf at h
  simp only [Rdr.D] at h
  cases q : bad1 0 [.str r.a, .str r.b, .str r.c, .str r.d, .str r.e, D.str r.f] OPc with
  | some i => rw [q] at h; cases h
  | none =>
    unfold OPc at q
    obtain ⟨h1, q⟩ := ok q
    obtain ⟨h2, q⟩ := ok q
    obtain ⟨h3, q⟩ := ok q
    obtain ⟨h4, q⟩ := ok q
    obtain ⟨h5, q⟩ := ok q
    obtain ⟨h6, q⟩ := ok q
    exact ⟨h1, h2, h3, h4, h5, h6⟩
theorem rdrV_of {r : Rdr} (h : rf r.D = none) : RdrV r := by
  obtain ⟨h1, h2, h3, h4, h5, h6⟩ := opts_of h
  have len : ∀ (l : List (List Nat)), (∀ s ∈ l, s.length ≤ 100) → ∀ s ∈ l, s.length ≤ 100 := fun _ h => h
  exact ⟨h, len _ (by decide) _ h1, len _ (by decide) _ h2, len _ (by decide) _ h3, len _ (by decide) _ h4, len _ (by decide) _ h5, len _ (by decide) _ h6⟩
theorem ordC_rdr {ss : List (List Nat)} (h : ORd ss) : ∃ r : Rdr, D.tup (ss.map D.str) = r.D ∧ RdrV r := by
  obtain ⟨h1, h2, h3⟩ := h
  match ss, h2, h1, h3 with
  | [a, b, c, d, e, f], _, h1, h3 => exact ⟨⟨a, b, c, d, e, f⟩, rfl, rdrV_of h1⟩
theorem kdwC_of {K : PySem.W.Frag} {w : World} {mg : Str → Option Value} {d : Addr} {es : Array DictEntry} {n : Nat} {t0 t1 t8 tt : Tok} (hm : mg "WORTHS" = some (.ref d)) (hl : K.lookup d = some ⟨.type "dict", none, .dict es n, #[]⟩) (hk : PySem.W.KeysLit w.params es.toList)
    (h0 : PySem.W.nsIn K d "0" = some (some (.int 0 t0))) (h1 : PySem.W.nsIn K d "1" = some (some (.int 1 t1))) (h8 : PySem.W.nsIn K d "8" = some (some (.int 8 t8))) (ht : PySem.W.nsIn K d "t" = some (some (.int 3 tt))) : KDW K w mg := by
  refine ⟨d, hm, fun c v h => ?_⟩
  have go : ∀ {x : Str} {i : Int} {t : Tok}, PySem.W.nsIn K d x = some (some (.int i t)) → KDct K w d x (.int i) := fun h => ⟨es, n, _, hl, hk, h, ⟨_, rfl⟩⟩
  unfold wv at h
  by_cases c0 : c = 48
  · rw [if_pos c0] at h; cases h; subst c0
    have := go h0
    rwa [show ("0" : Str) = sV [48] from by first | rfl | decide +kernel] at this
  rw [if_neg c0] at h
  by_cases c1 : c = 49
  · rw [if_pos c1] at h; cases h; subst c1
    have := go h1
    rwa [show ("1" : Str) = sV [49] from by first | rfl | decide +kernel] at this
  rw [if_neg c1] at h
  by_cases c8 : c = 56
  · rw [if_pos c8] at h; cases h; subst c8
    have := go h8
    rwa [show ("8" : Str) = sV [56] from by first | rfl | decide +kernel] at this
  rw [if_neg c8] at h
  by_cases ct : c = 116
  · rw [if_pos ct] at h; cases h; subst ct
    have := go ht
    rwa [show ("t" : Str) = sV [116] from by first | rfl | decide +kernel] at this
  rw [if_neg ct] at h
  cases h
theorem rdrD_inj {r q : Rdr} (h : r.D = q.D) : r = q := by
  obtain ⟨a, b, c, d, e, f⟩ := r
  obtain ⟨a2, b2, c2, d2, e2, f2⟩ := q
  simp only [Rdr.D, D.tup.injEq, List.cons.injEq, D.str.injEq, and_true] at h
  obtain ⟨rfl, rfl, rfl, rfl, rfl, rfl⟩ := h
  rfl
open Classical in
noncomputable def stands (r : Rdr) (qs : List Rdr) : List Rdr := qs.filter fun q => decide (BRes (gr2 r q w_beyond) spot0 none)
theorem res_none {r q : Rdr} {want : Want} {res : Option (List Nat)} (h : BRes (gr2 r q want) spot0 res) : isN (ftD res) = true ↔ BRes (gr2 r q want) spot0 none := by
  cases res with
  | none => exact ⟨fun _ => h, fun _ => rfl⟩
  | some w =>
    refine ⟨fun z => (by cases z), fun z => ?_⟩
    obtain ⟨h1, h2, h3, _⟩ := h
    have := z w h1 h2
    rw [h3] at this
    cases this
def sp_stands_for (A : Ad) : DSp := fun ds M Q EX => ∃ d a xs, ds = [d, .ref a] ∧ GD M d ∧ M a = some (.lst xs) ∧ xs.length ≤ 1000 ∧ (∀ x ∈ xs, GD M x) ∧
  (fBad (d :: xs) = none → ∃ r qs, d = Rdr.D r ∧ xs = qs.map Rdr.D ∧ ∀ p M', MSub M M' → M' p = some (.lst ((stands r qs).map Rdr.D)) → Q (.ref p) M') ∧
  ∀ i, fBad (d :: xs) = some i → ∀ dx M', MSub M M' → M' dx = some (.xd "index" (.int (i : Nat))) → EX A.cBR [.ref dx] M'
def t_stands_for (A : Ad) : DS := dSeq (dExpr (dCall (sp_check_readers A) (dCons (dOp addD (dLst (dCons (dVar 0) (dNil))) (dCB listD (dCons (dVar 1) (dNil)))) (dNil)))) (dRet (dLc (dIter (dVar 1)) (gN 2) (dTest (dOp isD (dCall (sp_two A w_beyond) (dCons (dVar 0) (dCons (dVar 2) (dNil)))) (dC .non))) (dVar 2) [2]))
abbrev n_stands_for : List Str := ["reader", "others", "other"]
theorem fBad_none : ∀ {xs : List D}, fBad xs = none → ∀ x ∈ xs, rf x = none
  | [], _, x, hx => by cases hx
  | d :: ds, h, x, hx => by
    unfold fBad at h
    cases q : rf d with
    | some i => rw [q] at h; cases h
    | none =>
      rw [q] at h
      rcases List.mem_cons.mp hx with rfl | hx
      · exact q
      · exact fBad_none h x hx
theorem fBad_two {d e : D} (h1 : rf d = none) (h2 : rf e = none) : fBad [d, e] = none := by unfold fBad; rw [h1]; unfold fBad; rw [h2]; rfl
open Classical in
theorem sf_loop {A : Ad} {D0 a : Addr} {r : Rdr} {gd K : DM → Prop} (hr : rf r.D = none) (hgd : ∀ M acc, gd M → gd (mupd M D0 (.lst acc))) : ∀ (qs : List Rdr) (acc : List D) (M : DM), M D0 = some (.lst acc) → (∀ q ∈ qs, rf q.D = none) → gd M → acc.length + qs.length < sizeLine → K (mupd M D0 (.lst (acc ++ (stands r qs).map Rdr.D))) →
    lcF (gN 2) (dTest (dOp isD (dCall (sp_two A w_beyond) (dCons (dVar 0) (dCons (dVar 2) dNil))) (dC .non))) (dVar 2) gd D0 [some r.D, some (.ref a), none] K (qs.map Rdr.D) M
  | [], acc, M, e, _, g, _, k => by
    refine ⟨g, ?_⟩
    rw [show stands r [] = [] from rfl, List.map_nil, List.append_nil, mupd_self e] at k
    exact k
  | q :: qs, acc, M, e, hq, g, hl, k => by
    have h0 := hq q (by simp)
    have hq2 : ∀ q ∈ qs, rf q.D = none := fun x hx => hq x (by simp [hx])
    refine ⟨g, r.D, q.D, rfl, (rdrV_of hr).gd, (rdrV_of h0).gd, fun _ r2 q2 er eq res hres => ?_, fun i hi => by rw [fBad_two hr h0] at hi; cases hi⟩
    have e1 : r = r2 := rdrD_inj er
    have e2 : q = q2 := rdrD_inj eq
    subst e1 e2
    show (match isN (ftD res) with | true => _ | false => _)
    have hn := res_none hres
    cases z : isN (ftD res) with
    | true =>
      have hk : stands r (q :: qs) = q :: stands r qs := by unfold stands; rw [List.filter_cons, if_pos (decide_eq_true (hn.mp z))]
      refine ⟨acc, e, by simp at hl; omega, ?_⟩
      refine sf_loop hr hgd qs _ _ mupd_same hq2 (hgd _ _ g) (by simp at hl ⊢; omega) ?_
      rw [mupd_idem, List.append_assoc]
      rw [hk] at k
      exact k
    | false =>
      have hk : stands r (q :: qs) = stands r qs := by
        unfold stands
        rw [List.filter_cons, if_neg]
        intro y
        rw [hn.mpr (of_decide_eq_true y)] at z
        cases z
      rw [hk] at k
      exact sf_loop hr hgd qs acc M e hq2 g (by simp at hl; omega) k
theorem pure_stands_for {A : Ad} (ds M R EX) (h : sp_stands_for A ds M R EX) : t_stands_for A (fun C fs _ M' => WkX EX C fs M') (endsOf R) (startD n_stands_for ds) M := by
  obtain ⟨d, a, xs, rfl, gd, e, hl, hg, k, kx⟩ := h
  have zl : sizeLine = 16777216 := sizeLine_eq
  refine ⟨by show 1 ≤ sizeLine; omega, fun p1 h1 => ?_⟩
  have n1 : ∀ {o}, M a = some o → a ≠ p1 := fun h z => by rw [z, h1] at h; cases h
  refine ⟨xs, by rw [mupd_ne (n1 e)]; exact e, fun p2 h2 => ?_⟩
  have n2 : p1 ≠ p2 := fun z => by rw [← z, mupd_same] at h2; cases h2
  have s1 : MSub M (mupd M p1 (.lst [d])) := msub_new h1
  have s2 : MSub M (mupd (mupd M p1 (.lst [d])) p2 (.lst xs)) := s1.trans (msub_new h2)
  refine ⟨[d], xs, by rw [mupd_ne n2, mupd_same], mupd_same, by simp only [List.length_cons, List.length_nil]; omega, fun p3 h3 => ?_⟩
  have s3 : MSub M (mupd (mupd (mupd M p1 (.lst [d])) p2 (.lst xs)) p3 (.lst ([d] ++ xs))) := s2.trans (msub_new h3)
  refine ⟨p3, [d] ++ xs, rfl, mupd_same, fun x hx => ?_, fun hb => ?_, fun i hb dx hdx => ?_⟩
  · rcases List.mem_cons.mp hx with rfl | hx
    · exact gd.mono s3
    · exact (hg x hx).mono s3
  · obtain ⟨r, qs, rfl, rfl, kq⟩ := k hb
    refine ⟨qs.map Rdr.D, s3 _ _ e, fun D0 hD => ?_⟩
    have hall := fBad_none hb
    have nD : a ≠ D0 := fun z => by rw [← z, s3 _ _ e] at hD; cases hD
    refine sf_loop (a := a) (hall r.D (by simp)) (fun M acc g => by rw [mupd_ne nD]; exact g) qs [] _ mupd_same (fun q hq => hall q.D (by simp; exact .inr ⟨q, hq, rfl⟩)) (by rw [mupd_ne nD]; exact s3 _ _ e) (by simp at hl ⊢; omega) ?_
    refine Wk.self (kq D0 _ ?_ mupd_same)
    rw [mupd_idem]
    exact s3.trans (msub_new hD)
  · exact WkX.self (kx i hb dx _ (s3.trans (msub_new hdx)) mupd_same)
end DL

set_option Elab.async false
set_option linter.all false
set_option maxRecDepth 100000
set_option maxHeartbeats 4000000
namespace DL
open PySem L2
theorem atI_at {α : Type} {xs : List α} {i : Nat} : atI xs (i : Int) = xs[i]? := by
  unfold atI ixN
  by_cases h : i < xs.length
  · rw [if_pos (by omega), if_pos (by omega)]; simp
  · rw [List.getElem?_eq_none (by omega)]
    split
    · split
      · rename_i h1 h2; omega
      · rfl
    · rename_i h1; omega
def OL (M : DM) : List D → List (List (List Nat)) → Prop
  | [], os => os = []
  | d :: ds, os => ∃ a o r, d = .ref a ∧ os = o :: r ∧ M a = some (.lst (o.map D.str)) ∧ OL M ds r
def sp_law_due (_ : Ad) : DSp := fun ds M Q _ => ∃ d, ds = [d] ∧ GD M d ∧ ∀ M', MSub M M' → Q (rfD (rf d)) M'
def t_law_due (A : Ad) : DS := dSeq (dSet 1 (dLst (dCons (dLst (dCons (dC (.str [110, 111, 110, 101])) (dCons (dC (.str [101, 110, 100, 115])) (dNil)))) (dCons (dLst (dCons (dC (.str [110, 111, 110, 101])) (dCons (dC (.str [109, 105, 110, 117, 115])) (dCons (dC (.str [98, 111, 116, 104])) (dNil))))) (dCons (dLst (dCons (dC (.str [110, 111, 110, 101])) (dCons (dC (.str [102, 114, 101, 101])) (dCons (dC (.str [101, 105, 103, 104, 116])) (dNil))))) (dCons (dLst (dCons (dC (.str [110, 111, 110, 101])) (dCons (dC (.str [115, 105, 110, 103, 108, 101])) (dCons (dC (.str [102, 114, 101, 101])) (dNil))))) (dNil))))))) (dSeq (dSet 1 (dOp addD (dVar 1) (dLst (dCons (dLst (dCons (dC (.str [110, 111, 110, 101])) (dCons (dC (.str [112, 97, 114, 116])) (dCons (dC (.str [108, 111, 111, 115, 101])) (dCons (dC (.str [114, 111, 119, 115])) (dNil)))))) (dCons (dLst (dCons (dC (.str [112, 108, 97, 105, 110])) (dCons (dC (.str [97, 108, 108])) (dNil)))) (dNil)))))) (dSeq (dIfS (dOr (dNot (dTest (dIsi Tn.tuple (dVar 0)))) (dTest (dOp neD (dCB lenD (dCons (dVar 0) (dNil))) (dC (.int 6))))) (dRet (dC (.int 6))) (dNext)) (dSeq (dFor (dRng1 (dCons (dC (.int 6)) (dNil))) (gN 2) (dIfS (dOr (dNot (dTest (dIsi Tn.str (dOp ixD (dVar 0) (dVar 2))))) (dTest (dOp notInD (dOp ixD (dVar 0) (dVar 2)) (dOp ixD (dVar 1) (dVar 2))))) (dRet (dVar 2)) (dNext))) (dSeq (dIfS (dAnd (dTest (dOp eqD (dOp ixD (dVar 0) (dC (.int 2))) (dC (.str [101, 105, 103, 104, 116])))) (dTest (dOp neD (dOp ixD (dVar 0) (dC (.int 4))) (dC (.str [110, 111, 110, 101]))))) (dRet (dC (.int 2))) (dNext)) (dSeq (dIfS (dAnd (dTest (dOp eqD (dOp ixD (dVar 0) (dC (.int 4))) (dC (.str [114, 111, 119, 115])))) (dTest (dOp neD (dOp ixD (dVar 0) (dC (.int 3))) (dC (.str [110, 111, 110, 101]))))) (dRet (dC (.int 3))) (dNext)) (dRet (dC .non)))))))
abbrev n_law_due : List Str := ["_law_reader_here", "_law_options", "_law_k"]
abbrev dueBody : DS := dIfS (dOr (dNot (dTest (dIsi Tn.str (dOp ixD (dVar 0) (dVar 2))))) (dTest (dOp notInD (dOp ixD (dVar 0) (dVar 2)) (dOp ixD (dVar 1) (dVar 2))))) (dRet (dVar 2)) (dNext)
theorem notIn_lst {x : List Nat} {a : Addr} {o : List (List Nat)} {M : DM} {R : DQ} (e : M a = some (.lst (o.map D.str))) (h : R (.bl (!decide (x ∈ o))) M) : notInD (.str x) (.ref a) M R := by
  refine ⟨_, e, rfl, flat_strs o, ?_⟩
  rw [inF_strs]
  exact h
theorem due_loop {W : DW} {E : DEnds} {M : DM} {dsA rfA : List D} {o : Addr} (eo : M o = some (.lst rfA)) : ∀ (ds rfs : List D) (os : List (List (List Nat))) (i : Nat) (x : Option D), dsA.drop i = ds → rfA.drop i = rfs → OL M rfs os → ds.length = os.length → (∀ d ∈ ds, GD M d) →
    (match bad1 i ds os with
      | some j => E.rt (.int (j : Nat)) M
      | none => ∀ x, E.nx [some (.tup dsA), some (.ref o), x] M) →
    dLoop (gN 2) (dueBody W) anyM ((List.range' i ds.length).map fun j => D.int (0 + (j : Nat))) E [some (.tup dsA), some (.ref o), x] M
  | [], rfs, os, i, x, _, _, _, hl, _, k => by
    cases os with
    | nil => exact ⟨trivial, k x⟩
    | cons => cases hl
  | d :: ds, rfs, os, i, x, h1, h2, ho, hl, hg, k => by
    cases rfs with
    | nil => rw [show os = [] from ho] at hl; cases hl
    | cons rd rfs =>
      obtain ⟨a, op, r, rfl, rfl, ea, ho⟩ := ho
      have a1 : atI dsA (0 + (i : Nat)) = some d := by
        rw [show (0 : Int) + (i : Nat) = ((i : Nat) : Int) by omega, atI_at]
        have := congrArg (fun l => l[0]?) h1
        simpa using this
      have a2 : atI rfA (0 + (i : Nat)) = some (.ref a) := by
        rw [show (0 : Int) + (i : Nat) = ((i : Nat) : Int) by omega, atI_at]
        have := congrArg (fun l => l[0]?) h2
        simpa using this
      have n1 : dsA.drop (i + 1) = ds := by rw [← List.drop_drop, h1]; rfl
      have n2 : rfA.drop (i + 1) = rfs := by rw [← List.drop_drop, h2]; rfl
      have gd := hg d (by simp)
      have e0 : (0 : Int) + (i : Nat) = ((i : Nat) : Int) := by omega
      refine ⟨trivial, ?_⟩
      simp only [bad1] at k
      simp only [dVar, dC, dOp, dTest, dChain, dAnd, dOr, dNot, dAndV, dOrV, dNotV, dIfE, dNil, dCons, dTup, dLst, dNext, dSeq, dIfS, dRet, dRetN, dExpr, dBrk, dCnt, dSet, dNever, gN, gTp, gLs, gsNil, gsCons, dAsg, dCall, dRaise, dRaiseF, ixD, dSl, slD, dPart, dNoPart, dCB, lenD, minD, maxD, absD, intD, strD, tupleD, listD, dMt, dMt0, tyD, appendD, popD, splitD, countD, dIsi, gSb, setL, dFld, dFldSet, dMeth, dMake, dFldAug, dAug, dPar, dTru, dNeg, augAdd, dDep, dIsC, intI, cmpI, startD, endsOf, List.map_cons, List.map_nil, List.length_cons, List.length_nil, List.replicate, List.getElem?_cons_zero, List.getElem?_cons_succ, List.cons_append, List.nil_append, List.set_cons_zero, List.set_cons_succ, Nat.reduceAdd, Nat.reduceSub, a1]
      rw [tn_ok gd]
      cases d with
      | str s =>
        refine ⟨_, _, eo, a2, notIn_lst ea ?_⟩
        by_cases q : s ∈ op
        · rw [if_pos (show okO (.str s) op = true from decide_eq_true q)] at k
          rw [decide_eq_true q]
          exact due_loop eo ds rfs r (i + 1) _ n1 n2 ho (by simpa using hl) (fun d hd => hg d (by simp [hd])) k
        · rw [if_neg (show ¬ okO (.str s) op = true from fun z => q (of_decide_eq_true z))] at k
          rw [decide_eq_false q]
          show E.rt (.int (0 + (i : Nat))) M
          rw [e0]
          exact k
      | _ =>
        show E.rt (.int (0 + (i : Nat))) M
        rw [e0]
        exact k
theorem pure_law_due {A : Ad} (ds M R EX) (h : sp_law_due A ds M R EX) : t_law_due A (fun C fs _ M' => WkX EX C fs M') (endsOf R) (startD n_law_due ds) M := by
  obtain ⟨d, rfl, g, k⟩ := h
  have zl : sizeLine = 16777216 := sizeLine_eq
  unfold t_law_due
  simp only [dVar, dC, dOp, dTest, dChain, dAnd, dOr, dNot, dAndV, dOrV, dNotV, dIfE, dNil, dCons, dTup, dLst, dNext, dSeq, dIfS, dRet, dRetN, dExpr, dBrk, dCnt, dSet, dNever, gN, gTp, gLs, gsNil, gsCons, dAsg, dCall, dRaise, dRaiseF, ixD, dSl, slD, dPart, dNoPart, dCB, lenD, minD, maxD, absD, intD, strD, tupleD, listD, dMt, dMt0, tyD, appendD, popD, splitD, countD, dIsi, gSb, setL, dFld, dFldSet, dMeth, dMake, dFldAug, dAug, dPar, dTru, dNeg, augAdd, dDep, dIsC, intI, cmpI, startD, endsOf, List.map_cons, List.map_nil, List.length_cons, List.length_nil, List.replicate, List.getElem?_cons_zero, List.getElem?_cons_succ, List.cons_append, List.nil_append, List.set_cons_zero, List.set_cons_succ, Nat.reduceAdd, Nat.reduceSub]
  refine ⟨by omega, fun p1 h1 => ⟨by omega, fun p2 h2 => ⟨by omega, fun p3 h3 => ⟨by omega, fun p4 h4 => ⟨by omega, fun q1 h5 => ⟨by omega, fun p5 h6 => ⟨by omega, fun p6 h7 => ⟨by omega, fun q2 h8 => ?_⟩⟩⟩⟩⟩⟩⟩⟩
  generalize e1 : mupd M p1 _ = M1 at *
  have s1 : MSub M M1 := by rw [← e1]; exact msub_new h1
  have f1 : M1 p1 = some (.lst ([o_none, [101, 110, 100, 115]].map D.str)) := by rw [← e1]; exact mupd_same
  generalize e2 : mupd M1 p2 _ = M2 at *
  have s2 : MSub M1 M2 := by rw [← e2]; exact msub_new h2
  have f2 : M2 p2 = some (.lst ([o_none, [109, 105, 110, 117, 115], [98, 111, 116, 104]].map D.str)) := by rw [← e2]; exact mupd_same
  generalize e3 : mupd M2 p3 _ = M3 at *
  have s3 : MSub M2 M3 := by rw [← e3]; exact msub_new h3
  have f3 : M3 p3 = some (.lst ([o_none, [102, 114, 101, 101], o_eight].map D.str)) := by rw [← e3]; exact mupd_same
  generalize e4 : mupd M3 p4 _ = M4 at *
  have s4 : MSub M3 M4 := by rw [← e4]; exact msub_new h4
  have f4 : M4 p4 = some (.lst ([o_none, [115, 105, 110, 103, 108, 101], [102, 114, 101, 101]].map D.str)) := by rw [← e4]; exact mupd_same
  generalize e5 : mupd M4 q1 _ = M5 at *
  have s5 : MSub M4 M5 := by rw [← e5]; exact msub_new h5
  have f5 : M5 q1 = some (.lst [.ref p1, .ref p2, .ref p3, .ref p4]) := by rw [← e5]; exact mupd_same
  generalize e6 : mupd M5 p5 _ = M6 at *
  have s6 : MSub M5 M6 := by rw [← e6]; exact msub_new h6
  have f6 : M6 p5 = some (.lst ([o_none, [112, 97, 114, 116], [108, 111, 111, 115, 101], o_rows].map D.str)) := by rw [← e6]; exact mupd_same
  generalize e7 : mupd M6 p6 _ = M7 at *
  have s7 : MSub M6 M7 := by rw [← e7]; exact msub_new h7
  have f7 : M7 p6 = some (.lst ([[112, 108, 97, 105, 110], [97, 108, 108]].map D.str)) := by rw [← e7]; exact mupd_same
  generalize e8 : mupd M7 q2 _ = M8 at *
  have s8 : MSub M7 M8 := by rw [← e8]; exact msub_new h8
  have f8 : M8 q2 = some (.lst [.ref p5, .ref p6]) := by rw [← e8]; exact mupd_same
  have t5 : MSub M5 M8 := s6.trans (s7.trans s8)
  refine ⟨_, _, t5 _ _ f5, f8, by simp only [List.length_cons, List.length_nil]; omega, fun o ho => ?_⟩
  generalize e9 : mupd M8 o _ = M9 at *
  have s9 : MSub M8 M9 := by rw [← e9]; exact msub_new ho
  have f9 : M9 o = some (.lst [.ref p1, .ref p2, .ref p3, .ref p4, .ref p5, .ref p6]) := by rw [← e9]; exact mupd_same
  have t9 : MSub M5 M9 := t5.trans s9
  have t4 : MSub M4 M9 := s5.trans t9
  have sA : MSub M M9 := (s1.trans (s2.trans (s3.trans s4))).trans t4
  have hol : OL M9 [.ref p1, .ref p2, .ref p3, .ref p4, .ref p5, .ref p6] OPc :=
    ⟨_, _, _, rfl, rfl, t4 _ _ (s4 _ _ (s3 _ _ (s2 _ _ f1))), _, _, _, rfl, rfl, t4 _ _ (s4 _ _ (s3 _ _ f2)), _, _, _, rfl, rfl, t4 _ _ (s4 _ _ f3), _, _, _, rfl, rfl, t4 _ _ f4, _, _, _, rfl, rfl, s9 _ _ (s8 _ _ (s7 _ _ f6)), _, _, _, rfl, rfl, s9 _ _ (s8 _ _ f7), rfl⟩
  replace k : Wk R (rfD (rf d)) M9 := Wk.self (k M9 sA)
  have g9 := g.mono sA
  rw [tn_ok g9]
  cases g9 with
  | tup gs =>
    rename_i ds
    match ds, gs, k with
    | [a, b, c, d, e, f], gs, k =>
      refine ⟨⟨by decide, by decide⟩, ?_⟩
      refine due_loop f9 [a, b, c, d, e, f] _ OPc 0 none rfl rfl hol rfl gs ?_
      simp only [rf] at k
      cases q : bad1 0 [a, b, c, d, e, f] OPc with
      | some j => rw [q] at k; exact k
      | none =>
        rw [q] at k
        intro x
        obtain ⟨ss, e1, e2⟩ := bad1_none _ _ _ q rfl
        match ss, e1, e2 with
        | [a', b', c', d', e', f'], e1, _ =>
          simp only [List.map_cons, List.map_nil, List.cons.injEq, and_true] at e1
          obtain ⟨rfl, rfl, rfl, rfl, rfl, rfl⟩ := e1
          simp only at k
          show (match decide (c' = o_eight) with | true => _ | false => _)
          by_cases q1 : c' = o_eight
          · rw [decide_eq_true q1]
            show (match !decide (e' = o_none) with | true => _ | false => _)
            by_cases q2 : e' = o_none
            · rw [decide_eq_true q2]
              rw [if_neg (fun z => z.2 q2), if_neg (fun z => by rw [q2] at z; exact absurd z.1 (by decide))] at k
              subst q2
              exact k
            · rw [decide_eq_false q2]
              rw [if_pos ⟨q1, q2⟩] at k
              exact k
          · rw [decide_eq_false q1]
            rw [if_neg (fun z => q1 z.1)] at k
            show (match decide (e' = o_rows) with | true => _ | false => _)
            by_cases q2 : e' = o_rows
            · rw [decide_eq_true q2]
              show (match !decide (d' = o_none) with | true => _ | false => _)
              by_cases q3 : d' = o_none
              · rw [decide_eq_true q3]
                rw [if_neg (fun z => z.2 q3)] at k
                exact k
              · rw [decide_eq_false q3]
                rw [if_pos ⟨q2, q3⟩] at k
                exact k
            · rw [decide_eq_false q2]
              rw [if_neg (fun z => q2 z.1)] at k
              exact k
    | [], gs, k => exact k
    | [_], gs, k => exact k
    | [_, _], gs, k => exact k
    | [_, _, _], gs, k => exact k
    | [_, _, _, _], gs, k => exact k
    | [_, _, _, _, _], gs, k => exact k
    | a :: b :: c :: d :: e :: f :: x :: r, gs, k =>
      have e : decide (((a :: b :: c :: d :: e :: f :: x :: r).length : Int) = 6) = false := decide_eq_false (by simp only [List.length_cons]; omega)
      simp only [tnB, isiT, neD, eqS, e]
      exact k
  | lst e => exact k
  | _ => exact k
end DL

set_option Elab.async false
set_option linter.all false
set_option maxRecDepth 100000
set_option maxHeartbeats 4000000
namespace DL
open PySem L2
def sp_law_told (A : Ad) : DSp := fun ds M Q _ => ∃ (d : D) (o : Rdr) (w : Nat), ds = [d, o.D, .int (w : Nat)] ∧ w < 6 ∧ GD M d ∧ rf o.D = none ∧ ∀ M', MSub M M' → Q (rfD (rf d)) M'
def t_law_told (A : Ad) (K : PySem.W.Frag) : DS := dSeq (dSet 3 (dC .non)) (dSeq (dTryA K (.ref A.cBR) 4 (dSeq (dIfS (dTest (dOp eqD (dVar 2) (dC (.int 0)))) (dExpr (dCall (sp_readG A) (dCons (dVar 0) (dCons (dC (.str [])) (dNil))))) (dNext)) (dSeq (dIfS (dTest (dOp eqD (dVar 2) (dC (.int 1)))) (dExpr (dMake A.cPr (sp_Program_init A) (dCons (dTup (dCons (dC (.str [97, 108, 108])) (dCons (dTup (dNil)) (dNil)))) (dCons (dVar 0) (dNil))))) (dNext)) (dSeq (dIfS (dTest (dOp eqD (dVar 2) (dC (.int 2)))) (dExpr (dCall (sp_two A w_clash) (dCons (dVar 1) (dCons (dVar 0) (dNil))))) (dNext)) (dSeq (dIfS (dTest (dOp eqD (dVar 2) (dC (.int 3)))) (dExpr (dCall (sp_two A w_unlike) (dCons (dVar 0) (dCons (dVar 1) (dNil))))) (dNext)) (dSeq (dIfS (dTest (dOp eqD (dVar 2) (dC (.int 4)))) (dExpr (dCall (sp_two A w_beyond) (dCons (dVar 1) (dCons (dVar 0) (dNil))))) (dNext)) (dIfS (dTest (dOp eqD (dVar 2) (dC (.int 5)))) (dExpr (dCall (sp_stands_for A) (dCons (dVar 1) (dCons (dLst (dCons (dVar 1) (dCons (dVar 0) (dNil)))) (dNil))))) (dNext))))))) (fun C0 fs0 a0 => dSet 3 (dXf 4 a0 C0 A.cBR fs0 "index"))) (dRet (dVar 3)))
abbrev n_law_told : List Str := ["_law_reader_here", "_law_other", "_law_way", "_law_told_here", "e"]
theorem figs_nil {r : Rdr} : rdB r [] = false := by
  unfold rdB run whole fst0
  rfl
theorem fBad_one (d : D) : fBad [d] = rf d := by
  unfold fBad
  cases rf d <;> rfl
theorem fBad_fst {d e : D} (h : rf e = none) : fBad [d, e] = rf d := by
  unfold fBad
  cases q : rf d with
  | some i => rfl
  | none => rw [fBad_one, h]
theorem fBad_snd {d e : D} (h : rf d = none) : fBad [d, e] = rf e := by
  unfold fBad
  rw [h, fBad_one]
abbrev EnTold (R : DQ) (EX : DX) : DEnds := { nx := fun ρ' M' => dRet (dVar 3) (fun C fs _ M' => WkX EX C fs M') (endsOf R) ρ' M', rt := Wk R, bk := fun _ _ => False, ct := fun _ _ => False }
theorem pure_law_told {A : Ad} {K : PySem.W.Frag} (hx : PySem.W.exmOne K (.ref A.cBR) (.ref A.cBR) = some true) (ds M R EX) (h : sp_law_told A ds M R EX) : t_law_told A K (fun C fs _ M' => WkX EX C fs M') (endsOf R) (startD n_law_told ds) M := by
  obtain ⟨d, o, w, rfl, hw, gd, ho, k⟩ := h
  have zl : sizeLine = 16777216 := sizeLine_eq
  have go : ∀ M, GD M o.D := fun M => (rdrV_of ho).gd
  -- the error is told
  have bad : ∀ (i : Nat) (dx : Addr) (M' : DM), rf d = some i → MSub M M' → M' dx = some (.xd "index" (.int (i : Nat))) → dClauseA K (.ref A.cBR) 4 (fun C0 fs0 a0 => dSet 3 (dXf 4 a0 C0 A.cBR fs0 "index")) (fun C fs _ M' => WkX EX C fs M') (EnTold R EX) A.cBR [.ref dx] [some d, some o.D, some (.int (w : Nat)), some .non, none] M' := fun i dx M' hi s e => by
    refine ⟨true, hx, fun _ a ha => ?_, fun z => by cases z⟩
    refine ⟨rfl, rfl, dx, _, rfl, e, ?_⟩
    show Wk R (.int (i : Nat)) M'
    have := k M' s
    rw [hi] at this
    exact Wk.self this
  have good : rf d = none → ∀ M', MSub M M' → Wk R .non M' := fun h M' s => by
    have := k M' s
    rw [h] at this
    exact Wk.self this
  have hal : okC 2 (.tup [.str [97, 108, 108], .tup []]) = true := by decide +kernel
  unfold t_law_told
  match w, hw with
  | 0, _ =>
    refine ⟨d, .str [], rfl, gd, .str _ (by decide), fun h => ⟨fun _ => ?_, fun z => by cases z⟩, fun i hi dx hdx => bad i dx _ hi (msub_new hdx) mupd_same⟩
    obtain ⟨r, rfl⟩ := rdr_of h
    exact ⟨r, [], rfl, rfl, by decide, (fun z => by rw [figs_nil] at z; cases z), good h _ (MSub.refl M)⟩
  | 1, _ =>
    refine ⟨by show 0 ≤ sizeLine; omega, by show 2 ≤ sizeLine; omega, fun a dx ha hdx hne => ?_⟩
    have s1 : MSub M (mupd M a (.ins A.cPr dx [] [])) := msub_new ha
    refine ⟨a, dx, _, d, rfl, mupd_same, .tup fun x hx => ?_, gd.mono s1, fun z => absurd (z.symm.trans hal) Bool.false_ne_true, fun _ => ⟨fun h => ⟨rfl, ?_⟩, fun i hi dx2 hdx2 => bad i dx2 _ hi (s1.trans (msub_new hdx2)) mupd_same⟩⟩
    · rcases List.mem_cons.mp hx with rfl | hx
      · exact .str _ (by decide)
      · rw [List.mem_singleton.mp hx]
        exact .tup fun x hx => by cases hx
    · rw [mupd_idem]
      exact good h _ (msub_new ha)
  | 2, _ => exact ⟨o.D, d, rfl, go M, gd, fun hb r q e1 e2 res hres => good (by rw [fBad_snd ho] at hb; exact hb) _ (MSub.refl M), fun i hb dx M' s e => bad i dx M' (by rw [fBad_snd ho] at hb; exact hb) s e⟩
  | 3, _ => exact ⟨d, o.D, rfl, gd, go M, fun hb r q e1 e2 res hres => good (by rw [fBad_fst ho] at hb; exact hb) _ (MSub.refl M), fun i hb dx M' s e => bad i dx M' (by rw [fBad_fst ho] at hb; exact hb) s e⟩
  | 4, _ => exact ⟨o.D, d, rfl, go M, gd, fun hb r q e1 e2 res hres => good (by rw [fBad_snd ho] at hb; exact hb) _ (MSub.refl M), fun i hb dx M' s e => bad i dx M' (by rw [fBad_snd ho] at hb; exact hb) s e⟩
  | 5, _ =>
    refine ⟨by show 2 ≤ sizeLine; omega, fun p hp => ?_⟩
    have s1 : MSub M (mupd M p (.lst [o.D, d])) := msub_new hp
    have hb0 : fBad (o.D :: [o.D, d]) = rf d := by
      show (match rf o.D with | some i => some i | none => fBad [o.D, d]) = _
      rw [ho]
      exact fBad_snd ho
    refine ⟨o.D, p, [o.D, d], rfl, go _, mupd_same, by show 2 ≤ 1000; decide, fun x hx => ?_, fun hb => ?_, fun i hb dx M' s e => bad i dx M' (by rw [hb0] at hb; exact hb) (s1.trans s) e⟩
    · rcases List.mem_cons.mp hx with rfl | hx
      · exact go _
      · rw [List.mem_singleton.mp hx]; exact gd.mono s1
    · rw [hb0] at hb
      obtain ⟨r, rfl⟩ := rdr_of hb
      exact ⟨o, [o, r], rfl, rfl, fun p M' s e => good hb M' (s1.trans s)⟩
def wd_reader : List Nat := [114, 101, 97, 100, 101, 114]
def wd_text : List Nat := [116, 101, 120, 116]
def sp_law_text_told (A : Ad) : DSp := fun ds M Q _ => ∃ d e, ds = [d, e] ∧ GD M d ∧ GD M e ∧ okX e = false ∧ ∀ M', MSub M M' → Q (.str (if rf d = none then wd_text else wd_reader)) M'
def t_law_text_told (A : Ad) (K : PySem.W.Frag) : DS := dSeq (dSet 2 (dC .non)) (dSeq (dTryM K (dSeq (dExpr (dCall (sp_readG A) (dCons (dVar 0) (dCons (dVar 1) (dNil))))) (dSet 2 (dC (.str [103, 111, 111, 100])))) [(.ref A.cBR, fun _ _ => dSet 2 (dC (.str [114, 101, 97, 100, 101, 114]))), (.ref A.cBT, fun _ _ => dSet 2 (dC (.str [116, 101, 120, 116])))]) (dRet (dVar 2)))
abbrev n_law_text_told : List Str := ["_law_reader_here", "_law_text_here", "_law_told_here"]
theorem pure_law_text_told {A : Ad} {K : PySem.W.Frag} (hx : PySem.W.exmOne K (.ref A.cBR) (.ref A.cBR) = some true) (hy : PySem.W.exmOne K (.ref A.cBT) (.ref A.cBR) = some false) (hz : PySem.W.exmOne K (.ref A.cBT) (.ref A.cBT) = some true) (ds M R EX) (h : sp_law_text_told A ds M R EX) : t_law_text_told A K (fun C fs _ M' => WkX EX C fs M') (endsOf R) (startD n_law_text_told ds) M := by
  obtain ⟨d, e, rfl, gd, ge, he, k⟩ := h
  unfold t_law_text_told
  refine ⟨d, e, rfl, gd, ge, fun h => ⟨fun z => (by rw [he] at z; cases z), fun _ => ?_⟩, fun i hi dx hdx => ?_⟩
  · refine ⟨false, hy, fun z => (by cases z), fun _ => ⟨true, hz, fun _ => ?_, fun z => (by cases z)⟩⟩
    have := k M (MSub.refl M)
    rw [if_pos h] at this
    exact Wk.self this
  · refine ⟨true, hx, fun _ => ?_, fun z => by cases z⟩
    have := k _ (msub_new (o := .xd "index" (.int (i : Nat))) hdx)
    rw [if_neg (by rw [hi]; exact fun z => Option.some_ne_none _ z)] at this
    exact Wk.self this
end DL

set_option Elab.async false
set_option linter.all false
set_option maxRecDepth 100000
set_option maxHeartbeats 4000000
namespace DL
open PySem L2
theorem DrawsAt.sub {M M' : DM} {x : Addr} (h : DrawsAt M x) (s : MSub M M') : DrawsAt M' x := by
  obtain ⟨L, ns, i, c, t, d⟩ := h
  exact ⟨L, ns, i, c, t, s _ _ d.mx, s _ _ d.mL, d.ne, d.c0, d.s0, d.nl⟩
theorem At.sub {M M' : DM} {x : Addr} (h : DrawsAt M x) (s : MSub M M') : At M x M' := ⟨h.sub s, fun b o _ e => s b o e, fun L ⟨a, b, c, e⟩ => ⟨a, b, c, s _ _ e⟩⟩
def Pl (d : D) : Prop := ∀ M, GD M d
theorem pl_str {s : List Nat} (h : s.length ≤ 100000) : Pl (.str s) := fun M => .str s h
def oddR : List D := [.str [110, 111, 110, 101], .str [101, 110, 100, 115], .str [101, 105, 103, 104, 116], .str [114, 111, 119, 115], .str [98, 111, 116, 104], .str [97, 108, 108], .non, .int 5, .str [115, 105, 110, 103, 108, 101], .str [102, 114, 101, 101], .str [112, 97, 114, 116], .tup [.str [110, 111, 110, 101]]]
theorem odd_pl : ∀ d ∈ oddR, Pl d := by
  intro d hd
  simp only [oddR, List.mem_cons, List.not_mem_nil, or_false] at hd
  rcases hd with rfl | rfl | rfl | rfl | rfl | rfl | rfl | rfl | rfl | rfl | rfl | rfl
  all_goals first | exact pl_str (by decide) | exact fun M => .non | exact fun M => .int _ | skip
  exact fun M => .tup fun x hx => by rw [List.mem_singleton.mp hx]; exact .str _ (by decide)
def tR01 (A : Ad) : DS := dSeq (dSet 2 (dCall (sp_law_reader A) (dCons (dVar 1) (dNil)))) (dSeq (dSet 3 (dCB listD (dCons (dCall (sp_law_reader A) (dCons (dVar 1) (dNil))) (dNil)))) (dSeq (dSet 4 (dLst (dCons (dC (.str [110, 111, 110, 101])) (dCons (dC (.str [101, 110, 100, 115])) (dCons (dC (.str [101, 105, 103, 104, 116])) (dCons (dC (.str [114, 111, 119, 115])) (dCons (dC (.str [98, 111, 116, 104])) (dCons (dC (.str [97, 108, 108])) (dCons (dC .non) (dCons (dC (.int 5)) (dCons (dC (.str [115, 105, 110, 103, 108, 101])) (dCons (dC (.str [102, 114, 101, 101])) (dCons (dC (.str [112, 97, 114, 116])) (dCons (dTup (dCons (dC (.str [110, 111, 110, 101])) (dNil))) (dNil))))))))))))))) (dSeq (dFor (dRng1 (dCons (dCall (sp_law_draw A) (dCons (dVar 1) (dCons (dC (.int 3)) (dNil)))) (dNil))) (gN 5) (dAsg (dOp ixD (dVar 4) (dCall (sp_law_draw A) (dCons (dVar 1) (dCons (dCB lenD (dCons (dVar 4) (dNil))) (dNil))))) (gSb (dVar 3) (dCall (sp_law_draw A) (dCons (dVar 1) (dCons (dC (.int 6)) (dNil))))))) (dSeq (dSet 6 (dCB tupleD (dCons (dVar 3) (dNil)))) (dSeq (dIfS (dTest (dOp eqD (dCall (sp_law_draw A) (dCons (dVar 1) (dCons (dC (.int 6)) (dNil)))) (dC (.int 0)))) (dSet 6 (dOp ixD (dLst (dCons (dVar 3) (dCons (dC .non) (dCons (dC (.str [110, 111, 110, 101])) (dCons (dSl (dVar 6) (dNoPart) (dPart (dC (.int 5)))) (dCons (dOp addD (dVar 6) (dTup (dCons (dC (.str [97, 108, 108])) (dNil)))) (dNil))))))) (dCall (sp_law_draw A) (dCons (dVar 1) (dCons (dC (.int 5)) (dNil)))))) (dNext)) (dSeq (dSet 7 (dCall (sp_law_due A) (dCons (dVar 6) (dNil)))) (dSeq (dFor (dRng1 (dCons (dC (.int 6)) (dNil))) (gN 8) (dIfS (dTest (dOp neD (dCall (sp_law_told A) (dCons (dVar 6) (dCons (dVar 2) (dCons (dVar 8) (dNil))))) (dVar 7))) (dRet (dC (.bl false))) (dNext))) (dSeq (dSet 9 (dOp ixD (dLst (dCons (dC .non) (dCons (dC (.int 5)) (dCons (dC (.str [97])) (dCons (dLst (dCons (dC (.str [48])) (dNil))) (dCons (dC (.str [51])) (dNil))))))) (dCall (sp_law_draw A) (dCons (dVar 1) (dCons (dC (.int 5)) (dNil)))))) (dSeq (dSet 10 (dC (.str [116, 101, 120, 116]))) (dSeq (dIfS (dTest (dOp isNotD (dVar 7) (dC .non))) (dSet 10 (dC (.str [114, 101, 97, 100, 101, 114]))) (dNext)) (dRet (dOp eqD (dCall (sp_law_text_told A) (dCons (dVar 6) (dCons (dVar 9) (dNil)))) (dVar 10)))))))))))))
abbrev n01 : List Str := ["_law_script", "_law_draws", "_law_other", "_law_row", "_law_odd", "_law_k", "_law_reader_here", "_law_due_here", "_law_way", "_law_wrong", "_law_expected"]
abbrev o01Body (A : Ad) : DS := dAsg (dOp ixD (dVar 4) (dCall (sp_law_draw A) (dCons (dVar 1) (dCons (dCB lenD (dCons (dVar 4) (dNil))) (dNil))))) (gSb (dVar 3) (dCall (sp_law_draw A) (dCons (dVar 1) (dCons (dC (.int 6)) (dNil)))))
structure RowAt (M : DM) (x p q : Addr) (xs : List D) : Prop where
  eD : DrawsAt M x
  eP : M p = some (.lst xs)
  eQ : M q = some (.lst oddR)
  px : p ≠ x
  qx : q ≠ x
  pq : p ≠ q
  pL : ∀ L, LOf M x L → p ≠ L
  l6 : xs.length = 6
  pl : ∀ d ∈ xs, Pl d
theorem cutT_take {α : Type} (L : List α) (k : Nat) : cutL L none (some (k : Int)) = L.take k := by
  unfold cutL
  rw [HT.sIx_none, HT.sIx_nat]
  simp
theorem ixN_nat {n r : Nat} (h : r < n) : ixN n (r : Int) = some r := by
  unfold ixN
  rw [if_pos (by omega), if_pos (by omega)]
  simp
theorem DrawsAt.put2 {M : DM} {x p : Addr} {o : MO} (h : DrawsAt M x) (px : p ≠ x) (pL : ∀ L, LOf M x L → p ≠ L) : DrawsAt (mupd M p o) x := by
  obtain ⟨L, ns, i, c, s, d⟩ := h
  have nL := pL L ⟨_, _, _, d.mx⟩
  exact ⟨L, ns, i, c, s, by rw [mupd_ne px.symm]; exact d.mx, by rw [mupd_ne nL.symm]; exact d.mL, d.ne, d.c0, d.s0, d.nl⟩
theorem o01_loop {A : Ad} {W : DW} {E : DEnds} {x p q : Addr} {a b : Option D} : ∀ (ks : List D) (xs : List D) (M : DM) (y : Option D), RowAt M x p q xs → (∀ xs M y, RowAt M x p q xs → E.nx [a, some (.ref x), b, some (.ref p), some (.ref q), y, none, none, none, none, none] M) →
    dLoop (gN 5) (o01Body A W) anyM ks E [a, some (.ref x), b, some (.ref p), some (.ref q), y, none, none, none, none, none] M
  | [], xs, M, y, h, k => ⟨trivial, k xs M y h⟩
  | z :: ks, xs, M, y, h, k => by
    refine ⟨trivial, _, h.eQ, ?_⟩
    show sp_law_draw A [.ref x, .int ((12 : Nat) : Int)] M _ (fun _ _ _ => False)
    refine draw_call (n := 12) h.eD (by decide) (by decide) fun r M1 hr a1 => ?_
    obtain ⟨d, hd, e⟩ := atI_nat (xs := oddR) (r := r) (by exact hr)
    refine ⟨_, _, a1.k q _ h.qx h.eQ, e, ?_⟩
    show sp_law_draw A [.ref x, .int ((6 : Nat) : Int)] M1 _ (fun _ _ _ => False)
    refine draw_call (n := 6) a1.d (by decide) (by decide) fun r2 M2 hr2 a2 => ?_
    have aa := a1.tr a2
    have ep := aa.k p _ h.px h.eP
    have pL2 : ∀ L, LOf M2 x L → p ≠ L := fun L hL => by
      obtain ⟨L0, ns, i, c, s, d0⟩ := h.eD
      obtain ⟨_, _, _, e0⟩ := aa.l L0 ⟨_, _, _, d0.mx⟩
      obtain ⟨_, _, _, e1⟩ := hL
      rw [e0] at e1
      cases e1
      exact h.pL _ ⟨_, _, _, d0.mx⟩
    refine ⟨xs, r2, ep, by rw [h.l6]; exact ixN_nat hr2, ?_⟩
    refine o01_loop ks (xs.set r2 d) _ _ ⟨aa.d.put2 h.px pL2, mupd_same, by rw [mupd_ne h.pq.symm]; exact aa.k q _ h.qx h.eQ, h.px, h.qx, h.pq, fun L hL => pL2 L ?_, by rw [List.length_set]; exact h.l6, fun d2 hd2 => ?_⟩ k
    · obtain ⟨u, v, w, e⟩ := hL
      exact ⟨u, v, w, by rw [mupd_ne h.px.symm] at e; exact e⟩
    · rcases List.mem_or_eq_of_mem_set hd2 with z | z
      · exact h.pl d2 z
      · rw [z]; exact odd_pl d hd
abbrev w01Body (A : Ad) : DS := dIfS (dTest (dOp neD (dCall (sp_law_told A) (dCons (dVar 6) (dCons (dVar 2) (dCons (dVar 8) (dNil))))) (dVar 7))) (dRet (dC (.bl false))) (dNext)
theorem eqS_rf (o : Option Nat) : eqS (rfD o) (rfD o) = some true := by
  cases o with
  | none => rfl
  | some i => show some (decide ((i : Int) = (i : Int))) = some true; rw [decide_eq_true rfl]
theorem w01_loop {A : Ad} {W : DW} {E : DEnds} {d : D} {o : Rdr} {a b c e f : Option D} (ho : rf o.D = none) : ∀ (ks : List Nat) (M : DM) (y : Option D), (∀ j ∈ ks, j < 6) → GD M d → (∀ M' y, MSub M M' → E.nx [a, b, some o.D, c, e, f, some d, some (rfD (rf d)), y, none, none] M') →
    dLoop (gN 8) (w01Body A W) anyM (ks.map fun i => .int (0 + (i : Nat))) E [a, b, some o.D, c, e, f, some d, some (rfD (rf d)), y, none, none] M
  | [], M, y, _, _, k => ⟨trivial, k M y (MSub.refl M)⟩
  | j :: ks, M, y, hj, g, k => by
    refine ⟨trivial, d, o, j, by dsimp only; rw [show (0 : Int) + (j : Nat) = ((j : Nat) : Int) by omega], hj j (by simp), g, ho, fun M' s => ?_⟩
    show (match eqS (rfD (rf d)) (rfD (rf d)) with | some b => _ | none => _)
    rw [eqS_rf]
    exact w01_loop ho ks M' _ (fun i hi => hj i (by simp [hi])) (g.mono s) fun M2 y s2 => k M2 y (s.trans s2)
theorem GD.at_ {M M' : DM} {x : Addr} {d : D} (a : At M x M') (h : Pl d ∨ ∃ p xs, d = .ref p ∧ p ≠ x ∧ M p = some (.lst xs)) : GD M' d := by
  rcases h with h | ⟨p, xs, rfl, hp, e⟩
  · exact h M'
  · exact .lst (a.k p _ hp e)
theorem pure_tR01 {A : Ad} {x : Addr} {M : DM} {u : Option D} {W : DW} {E : DEnds} (hd : DrawsAt M x) (k : ∀ M, E.rt (.bl true) M) : tR01 A W E [u, some (.ref x), none, none, none, none, none, none, none, none, none] M := by
  have zl : sizeLine = 16777216 := sizeLine_eq
  refine ⟨x, rfl, hd, fun ss M1 hss a1 => ?_⟩
  obtain ⟨o, eo, ho⟩ := ordC_rdr hss
  rw [eo]
  refine ⟨x, rfl, a1.d, fun ss2 M2 hss2 a2 => ?_⟩
  obtain ⟨r, er, hr⟩ := ordC_rdr hss2
  rw [er]
  intro p hp
  have a3 := (At.self a2.d).new (o := .lst [.str r.a, .str r.b, .str r.c, .str r.d, .str r.e, .str r.f]) hp
  have px : p ≠ x := fun z => by subst z; obtain ⟨o, e⟩ := a2.d.some; rw [hp] at e; cases e
  refine ⟨by show 1 ≤ sizeLine; omega, by show 12 ≤ sizeLine; omega, fun q hq => ?_⟩
  have qx : q ≠ x := fun z => by subst z; obtain ⟨o, e⟩ := a3.d.some; rw [hq] at e; cases e
  have pq : p ≠ q := fun z => by rw [← z, mupd_same] at hq; cases hq
  have a4 := a3.new (o := .lst oddR) hq
  have row : RowAt (mupd (mupd M2 p (.lst [.str r.a, .str r.b, .str r.c, .str r.d, .str r.e, .str r.f])) q (.lst oddR)) x p q [.str r.a, .str r.b, .str r.c, .str r.d, .str r.e, .str r.f] := by
    refine ⟨a4.d, by rw [mupd_ne pq, mupd_same], mupd_same, px, qx, pq, fun L hL z => ?_, rfl, fun d hd => ?_⟩
    · obtain ⟨L0, ns, i, c, s, d0⟩ := a2.d
      obtain ⟨_, _, _, e1⟩ := a4.l L0 ⟨_, _, _, d0.mx⟩
      obtain ⟨_, _, _, e2⟩ := hL
      rw [e1] at e2
      cases e2
      rw [z, d0.mL] at hp
      cases hp
    · obtain ⟨_, h1, h2, h3, h4, h5, h6⟩ := hr
      simp only [List.mem_cons, List.not_mem_nil, or_false] at hd
      rcases hd with rfl | rfl | rfl | rfl | rfl | rfl <;> exact pl_str (by omega)
  show sp_law_draw A [.ref x, .int ((3 : Nat) : Int)] _ _ (fun _ _ _ => False)
  refine draw_call (n := 3) row.eD (by decide) (by decide) fun n M3 hn a5 => ?_
  have row2 : RowAt M3 x p q [.str r.a, .str r.b, .str r.c, .str r.d, .str r.e, .str r.f] := by
    refine ⟨a5.d, a5.k p _ px row.eP, a5.k q _ qx row.eQ, px, qx, pq, fun L hL z => ?_, rfl, row.pl⟩
    obtain ⟨L0, ns, i, c, s, d0⟩ := row.eD
    obtain ⟨_, _, _, e1⟩ := a5.l L0 ⟨_, _, _, d0.mx⟩
    obtain ⟨_, _, _, e2⟩ := hL
    rw [e1] at e2
    cases e2
    exact row.pL _ ⟨_, _, _, d0.mx⟩ z
  refine ⟨⟨by omega, by omega⟩, ?_⟩
  refine o01_loop _ _ M3 _ row2 fun xs M4 y h => ?_
  refine ⟨xs, M4, h.eP, MSub.refl _, ?_⟩
  -- the reader is chosen
  have rest : ∀ (d : D) (M5 : DM), (Pl d ∨ ∃ p xs, d = .ref p ∧ p ≠ x ∧ M5 p = some (.lst xs)) → DrawsAt M5 x →
      (dSeq (dSet 7 (dCall (sp_law_due A) (dCons (dVar 6) (dNil)))) (dSeq (dFor (dRng1 (dCons (dC (.int 6)) (dNil))) (gN 8) (w01Body A)) (dSeq (dSet 9 (dOp ixD (dLst (dCons (dC .non) (dCons (dC (.int 5)) (dCons (dC (.str [97])) (dCons (dLst (dCons (dC (.str [48])) (dNil))) (dCons (dC (.str [51])) (dNil))))))) (dCall (sp_law_draw A) (dCons (dVar 1) (dCons (dC (.int 5)) (dNil)))))) (dSeq (dSet 10 (dC (.str [116, 101, 120, 116]))) (dSeq (dIfS (dTest (dOp isNotD (dVar 7) (dC .non))) (dSet 10 (dC (.str [114, 101, 97, 100, 101, 114]))) (dNext)) (dRet (dOp eqD (dCall (sp_law_text_told A) (dCons (dVar 6) (dCons (dVar 9) (dNil)))) (dVar 10)))))))) W E
      [u, some (.ref x), some o.D, some (.ref p), some (.ref q), y, some d, none, none, none, none] M5 := by
    intro d M5 hdd hd5
    have g5 : GD M5 d := GD.at_ (At.self hd5) hdd
    refine ⟨d, rfl, g5, fun M6 s6 => ⟨⟨by decide, by decide⟩, ?_⟩⟩
    refine w01_loop (a := u) (d := d) (o := o) ho.1 (List.range (6 : Int).toNat) M6 none (fun j hj => by simpa using hj) (g5.mono s6) fun M7 y7 s7 => ?_
    have s57 := s6.trans s7
    have d7 := hd5.sub s57
    refine ⟨by show 1 ≤ sizeLine; omega, fun q2 hq2 => ⟨by show 5 ≤ sizeLine; omega, pick (A := A) (E := fun _ _ _ => False) (n := 5) (d7.new hq2) rfl (by decide) (by decide) fun e M8 he a8 => ?_⟩⟩
    have q2x : q2 ≠ x := fun z => by subst z; obtain ⟨o, e⟩ := d7.some; rw [hq2] at e; cases e
    have hee : okX e = false ∧ (Pl e ∨ ∃ p xs, e = .ref p ∧ p ≠ x ∧ mupd M7 q2 (.lst [.str [48]]) p = some (.lst xs)) := by
      simp only [List.mem_cons, List.not_mem_nil, or_false] at he
      rcases he with rfl | rfl | rfl | rfl | rfl
      · exact ⟨rfl, .inl fun M => .non⟩
      · exact ⟨rfl, .inl fun M => .int _⟩
      · exact ⟨by decide, .inl (pl_str (by decide))⟩
      · exact ⟨rfl, .inr ⟨q2, _, rfl, q2x, mupd_same⟩⟩
      · exact ⟨by decide, .inl (pl_str (by decide))⟩
    have sub2 := s57.trans (msub_new (o := .lst [.str [48]]) hq2)
    have g8 : GD M8 d := by
      refine GD.at_ a8 (hdd.imp id fun ⟨p, xs, e, h1, h2⟩ => ⟨p, xs, e, h1, sub2 _ _ h2⟩)
    have e8 : GD M8 e := GD.at_ a8 hee.2
    -- what is expected
    show (match !isN (rfD (rf d)) with | true => _ | false => _)
    cases z : rf d with
    | none =>
      refine ⟨d, e, rfl, g8, e8, hee.1, fun M9 s9 => ?_⟩
      rw [if_pos z]
      exact k M9
    | some i =>
      refine ⟨d, e, rfl, g8, e8, hee.1, fun M9 s9 => ?_⟩
      rw [if_neg (by rw [z]; exact fun z => Option.some_ne_none _ z)]
      exact k M9
  show sp_law_draw A [.ref x, .int ((6 : Nat) : Int)] M4 _ (fun _ _ _ => False)
  refine draw_call (n := 6) h.eD (by decide) (by decide) fun r6 M5 hr6 a6 => ?_
  have tpl : Pl (.tup xs) := fun M => .tup fun d hd => h.pl d hd M
  show (match decide ((r6 : Int) = 0) with | true => _ | false => _)
  by_cases z : (r6 : Int) = 0
  · rw [decide_eq_true z]
    have e5 : cutL xs none (some (5 : Int)) = xs.take 5 := cutT_take xs 5
    refine ⟨by show 1 ≤ sizeLine; omega, by simp only [h.l6, List.length_cons, List.length_nil]; omega, by show 5 ≤ sizeLine; omega, ?_⟩
    refine pick (A := A) (E := fun _ _ _ => False) (n := 5) a6.d rfl (by decide) (by decide) fun d M6 hd6 a7 => rest d M6 ?_ a7.d
    simp only [List.mem_cons, List.not_mem_nil, or_false] at hd6
    rcases hd6 with rfl | rfl | rfl | rfl | rfl
    · exact .inr ⟨p, xs, rfl, px, (a6.tr a7).k p _ px h.eP⟩
    · exact .inl fun M => .non
    · exact .inl (pl_str (by decide))
    · refine .inl fun M => .tup fun d hd => h.pl d ?_ M
      rw [e5] at hd
      exact List.mem_of_mem_take hd
    · refine .inl fun M => .tup fun d hd => ?_
      rcases List.mem_append.mp hd with hd | hd
      · exact h.pl d hd M
      · rw [List.mem_singleton.mp hd]; exact .str _ (by decide)
  · rw [decide_eq_false z]
    exact rest _ M5 (.inl tpl) a6.d
end DL

set_option Elab.async false
set_option linter.all false
set_option maxRecDepth 100000
set_option maxHeartbeats 4000000
namespace KK
open PySem PySem.Spec PyProof.Rows L2 DL LamX NdefX
def top (i : Nat) : Stmt := PySem.Challenge.pw_figureread_k01_readers_refused.main.body.getD i (.Pass ⟨0, 0, 0, 0⟩)
abbrev s_BadReader_init : Stmt := inClass (top 4) 0
theorem sc_BadReader_init : FnScope ["self", "index"] ["self", "index"] (defScope s_BadReader_init) := ⟨rfl, rfl, rfl, by decide +kernel, rfl, by decide +kernel, by decide +kernel⟩
abbrev s_is_text : Stmt := top 12
theorem sc_is_text : FnScope ["value", "sign"] ["value"] (defScope s_is_text) := ⟨rfl, rfl, rfl, by decide +kernel, rfl, by decide +kernel, by decide +kernel⟩
abbrev s_check_text : Stmt := top 13
theorem sc_check_text : FnScope ["text"] ["text"] (defScope s_check_text) := ⟨rfl, rfl, rfl, by decide +kernel, rfl, by decide +kernel, by decide +kernel⟩
abbrev s_reader_fault : Stmt := top 14
theorem sc_reader_fault : FnScope ["value", "index", "option"] ["value"] (defScope s_reader_fault) := ⟨rfl, rfl, rfl, by decide +kernel, rfl, by decide +kernel, by decide +kernel⟩
abbrev s_check_reader : Stmt := top 15
theorem sc_check_reader : FnScope ["reader", "index"] ["reader"] (defScope s_check_reader) := ⟨rfl, rfl, rfl, by decide +kernel, rfl, by decide +kernel, by decide +kernel⟩
abbrev s_is_whole : Stmt := top 16
theorem sc_is_whole : FnScope ["reader", "state", "phase", "first", "many", "row", "rowed", "last", "pointed"] ["reader", "state"] (defScope s_is_whole) := ⟨rfl, rfl, rfl, by decide +kernel, rfl, by decide +kernel, by decide +kernel⟩
abbrev s_behind_figure : Stmt := top 17
theorem sc_behind_figure : FnScope ["reader", "state", "sign", "phase", "first", "many", "row", "rowed", "last", "pointed"] ["reader", "state", "sign"] (defScope s_behind_figure) := ⟨rfl, rfl, rfl, by decide +kernel, rfl, by decide +kernel, by decide +kernel⟩
abbrev s_behind_point : Stmt := top 18
theorem sc_behind_point : FnScope ["reader", "state", "phase", "first", "many", "row", "rowed", "last", "pointed"] ["reader", "state"] (defScope s_behind_point) := ⟨rfl, rfl, rfl, by decide +kernel, rfl, by decide +kernel, by decide +kernel⟩
abbrev s_behind_under : Stmt := top 19
theorem sc_behind_under : FnScope ["reader", "state", "phase", "first", "many", "row", "rowed", "last", "pointed"] ["reader", "state"] (defScope s_behind_under) := ⟨rfl, rfl, rfl, by decide +kernel, rfl, by decide +kernel, by decide +kernel⟩
abbrev s_behind : Stmt := top 20
theorem sc_behind : FnScope ["reader", "state", "sign", "phase"] ["reader", "state", "sign"] (defScope s_behind) := ⟨rfl, rfl, rfl, by decide +kernel, rfl, by decide +kernel, by decide +kernel⟩
abbrev s_is_read : Stmt := top 21
theorem sc_is_read : FnScope ["reader", "text", "state", "sign"] ["reader", "text"] (defScope s_is_read) := ⟨rfl, rfl, rfl, by decide +kernel, rfl, by decide +kernel, by decide +kernel⟩
abbrev s_lowest : Stmt := top 22
theorem sc_lowest : FnScope ["p", "q", "one", "other"] ["p", "q"] (defScope s_lowest) := ⟨rfl, rfl, rfl, by decide +kernel, rfl, by decide +kernel, by decide +kernel⟩
abbrev s_number_of : Stmt := top 23
theorem sc_number_of : FnScope ["reader", "text", "figures", "base", "number", "sign", "divisor"] ["reader", "text"] (defScope s_number_of) := ⟨rfl, rfl, rfl, by decide +kernel, rfl, by decide +kernel, by decide +kernel⟩
abbrev s_read : Stmt := top 24
theorem sc_read : FnScope ["reader", "text"] ["reader", "text"] (defScope s_read) := ⟨rfl, rfl, rfl, by decide +kernel, rfl, by decide +kernel, by decide +kernel⟩
abbrev s_are_letters : Stmt := top 30
theorem sc_are_letters : FnScope ["value", "sign"] ["value"] (defScope s_are_letters) := ⟨rfl, rfl, rfl, by decide +kernel, rfl, by decide +kernel, by decide +kernel⟩
abbrev s_is_bound : Stmt := top 31
theorem sc_is_bound : FnScope ["value", "least"] ["value", "least"] (defScope s_is_bound) := ⟨rfl, rfl, rfl, by decide +kernel, rfl, by decide +kernel, by decide +kernel⟩
abbrev s_are_bounds : Stmt := top 32
theorem sc_are_bounds : FnScope ["a", "b"] ["a", "b"] (defScope s_are_bounds) := ⟨rfl, rfl, rfl, by decide +kernel, rfl, by decide +kernel, by decide +kernel⟩
abbrev s_is_part : Stmt := top 33
theorem sc_is_part : FnScope ["value"] ["value"] (defScope s_is_part) := ⟨rfl, rfl, rfl, by decide +kernel, rfl, by decide +kernel, by decide +kernel⟩
abbrev s_are_parts : Stmt := top 34
theorem sc_are_parts : FnScope ["value", "part"] ["value"] (defScope s_are_parts) := ⟨rfl, rfl, rfl, by decide +kernel, rfl, by decide +kernel, by decide +kernel⟩
abbrev s_is_check_within : Stmt := top 35
theorem sc_is_check_within : FnScope ["value", "left", "word", "one"] ["value", "left"] (defScope s_is_check_within) := ⟨rfl, rfl, rfl, by decide +kernel, rfl, by decide +kernel, by decide +kernel⟩
abbrev s_is_check : Stmt := top 36
theorem sc_is_check : FnScope ["value"] ["value"] (defScope s_is_check) := ⟨rfl, rfl, rfl, by decide +kernel, rfl, by decide +kernel, by decide +kernel⟩
abbrev s_Program_init : Stmt := inClass (top 38) 0
theorem sc_Program_init : FnScope ["self", "check", "reader"] ["self", "check", "reader"] (defScope s_Program_init) := ⟨rfl, rfl, rfl, by decide +kernel, rfl, by decide +kernel, by decide +kernel⟩
abbrev s_first_text : Stmt := top 40
theorem sc_first_text : FnScope ["begin", "step", "is_goal", "known", "waiting", "at", "spot", "text", "sign", "after"] ["begin", "step", "is_goal"] (defScope s_first_text) := ⟨rfl, rfl, rfl, by decide +kernel, rfl, by decide +kernel, by decide +kernel⟩
abbrev s_figures_behind : Stmt := top 41
theorem sc_figures_behind : FnScope ["known", "sign", "first", "many", "pointed"] ["known", "sign"] (defScope s_figures_behind) := ⟨rfl, rfl, rfl, by decide +kernel, rfl, by decide +kernel, by decide +kernel⟩
abbrev s_are_unlike_numbers : Stmt := top 42
theorem sc_are_unlike_numbers : FnScope ["one", "other", "known", "first", "many", "pointed"] ["one", "other", "known"] (defScope s_are_unlike_numbers) := ⟨rfl, rfl, rfl, by decide +kernel, rfl, by decide +kernel, by decide +kernel⟩
abbrev s_text_for : Stmt := top 43
theorem sc_text_for : FnScope ["one", "other", "is_wanted", "step", "is_goal"] ["one", "other", "is_wanted"] (defScope s_text_for) := ⟨rfl, rfl, rfl, by decide +kernel, rfl, by decide +kernel, by decide +kernel⟩
abbrev s_check_readers : Stmt := top 44
theorem sc_check_readers : FnScope ["readers", "reader"] ["readers"] (defScope s_check_readers) := ⟨rfl, rfl, rfl, by decide +kernel, rfl, by decide +kernel, by decide +kernel⟩
abbrev s_clash : Stmt := top 45
theorem sc_clash : FnScope ["one", "other"] ["one", "other"] (defScope s_clash) := ⟨rfl, rfl, rfl, by decide +kernel, rfl, by decide +kernel, by decide +kernel⟩
abbrev s_unlike : Stmt := top 46
theorem sc_unlike : FnScope ["one", "other"] ["one", "other"] (defScope s_unlike) := ⟨rfl, rfl, rfl, by decide +kernel, rfl, by decide +kernel, by decide +kernel⟩
abbrev s_beyond : Stmt := top 47
theorem sc_beyond : FnScope ["one", "other"] ["one", "other"] (defScope s_beyond) := ⟨rfl, rfl, rfl, by decide +kernel, rfl, by decide +kernel, by decide +kernel⟩
abbrev s_stands_for : Stmt := top 48
theorem sc_stands_for : FnScope ["reader", "others", "other"] ["reader", "others"] (defScope s_stands_for) := ⟨rfl, rfl, rfl, by decide +kernel, rfl, by decide +kernel, by decide +kernel⟩
abbrev s_law_begin : Stmt := top 50
theorem sc_law_begin : FnScope ["_law_script"] ["_law_script"] (defScope s_law_begin) := ⟨rfl, rfl, rfl, by decide +kernel, rfl, by decide +kernel, by decide +kernel⟩
abbrev s_law_draw : Stmt := top 51
theorem sc_law_draw : FnScope ["_law_draws", "_law_many", "_law_found", "_law_cell"] ["_law_draws", "_law_many"] (defScope s_law_draw) := ⟨rfl, rfl, rfl, by decide +kernel, rfl, by decide +kernel, by decide +kernel⟩
abbrev s_law_reader : Stmt := top 52
theorem sc_law_reader : FnScope ["_law_draws", "_law_noughts", "_law_under", "_law_point", "_law_blanks", "_law_sign"] ["_law_draws"] (defScope s_law_reader) := ⟨rfl, rfl, rfl, by decide +kernel, rfl, by decide +kernel, by decide +kernel⟩
abbrev s_law_due : Stmt := top 54
theorem sc_law_due : FnScope ["_law_reader_here", "_law_options", "_law_k"] ["_law_reader_here"] (defScope s_law_due) := ⟨rfl, rfl, rfl, by decide +kernel, rfl, by decide +kernel, by decide +kernel⟩
abbrev s_law_told : Stmt := top 55
theorem sc_law_told : FnScope ["_law_reader_here", "_law_other", "_law_way", "_law_told_here", "e"] ["_law_reader_here", "_law_other", "_law_way"] (defScope s_law_told) := ⟨rfl, rfl, rfl, by decide +kernel, rfl, by decide +kernel, by decide +kernel⟩
abbrev s_law_text_told : Stmt := top 56
theorem sc_law_text_told : FnScope ["_law_reader_here", "_law_text_here", "_law_told_here"] ["_law_reader_here", "_law_text_here"] (defScope s_law_text_told) := ⟨rfl, rfl, rfl, by decide +kernel, rfl, by decide +kernel, by decide +kernel⟩
abbrev s_law : Stmt := top 57
theorem sc_law : FnScope ["_law_script", "_law_draws", "_law_other", "_law_row", "_law_odd", "_law_k", "_law_reader_here", "_law_due_here", "_law_way", "_law_wrong", "_law_expected"] ["_law_script"] (defScope s_law) := ⟨rfl, rfl, rfl, by decide +kernel, rfl, by decide +kernel, by decide +kernel⟩
structure Fd where
  a_BadReader_init : Addr
  d_BadReader_init : FuncData
  a_is_text : Addr
  d_is_text : FuncData
  a_check_text : Addr
  d_check_text : FuncData
  a_reader_fault : Addr
  d_reader_fault : FuncData
  a_check_reader : Addr
  d_check_reader : FuncData
  a_is_whole : Addr
  d_is_whole : FuncData
  a_behind_figure : Addr
  d_behind_figure : FuncData
  a_behind_point : Addr
  d_behind_point : FuncData
  a_behind_under : Addr
  d_behind_under : FuncData
  a_behind : Addr
  d_behind : FuncData
  a_is_read : Addr
  d_is_read : FuncData
  a_lowest : Addr
  d_lowest : FuncData
  a_number_of : Addr
  d_number_of : FuncData
  a_read : Addr
  d_read : FuncData
  a_are_letters : Addr
  d_are_letters : FuncData
  a_is_bound : Addr
  d_is_bound : FuncData
  a_are_bounds : Addr
  d_are_bounds : FuncData
  a_is_part : Addr
  d_is_part : FuncData
  a_are_parts : Addr
  d_are_parts : FuncData
  a_is_check_within : Addr
  d_is_check_within : FuncData
  a_is_check : Addr
  d_is_check : FuncData
  a_Program_init : Addr
  d_Program_init : FuncData
  a_first_text : Addr
  d_first_text : FuncData
  a_figures_behind : Addr
  d_figures_behind : FuncData
  a_are_unlike_numbers : Addr
  d_are_unlike_numbers : FuncData
  a_text_for : Addr
  d_text_for : FuncData
  a_check_readers : Addr
  d_check_readers : FuncData
  a_clash : Addr
  d_clash : FuncData
  a_unlike : Addr
  d_unlike : FuncData
  a_beyond : Addr
  d_beyond : FuncData
  a_stands_for : Addr
  d_stands_for : FuncData
  a_law_begin : Addr
  d_law_begin : FuncData
  a_law_draw : Addr
  d_law_draw : FuncData
  a_law_reader : Addr
  d_law_reader : FuncData
  a_law_due : Addr
  d_law_due : FuncData
  a_law_told : Addr
  d_law_told : FuncData
  a_law_text_told : Addr
  d_law_text_told : FuncData
  a_law : Addr
  d_law : FuncData
structure TX (K : PySem.W.Frag) (w : World) (mg : Str → Option Value) (A : Ad) (B : Fd) : Prop where
  F_BadReader_init : Fun K "__init__" "BadReader.__init__" s_BadReader_init B.a_BadReader_init B.d_BadReader_init
  b_BadReader_init : Binds K B.d_BadReader_init ["self", "index"] []
  F_is_text : Fun K "is_text" "is_text" s_is_text B.a_is_text B.d_is_text
  b_is_text : Binds K B.d_is_text ["value"] []
  m_is_text : mg "is_text" = some (.ref B.a_is_text)
  k_is_text : PySem.W.keepIn K (.ref B.a_is_text) = true
  F_check_text : Fun K "check_text" "check_text" s_check_text B.a_check_text B.d_check_text
  b_check_text : Binds K B.d_check_text ["text"] []
  m_check_text : mg "check_text" = some (.ref B.a_check_text)
  k_check_text : PySem.W.keepIn K (.ref B.a_check_text) = true
  F_reader_fault : Fun K "reader_fault" "reader_fault" s_reader_fault B.a_reader_fault B.d_reader_fault
  b_reader_fault : Binds K B.d_reader_fault ["value"] []
  m_reader_fault : mg "reader_fault" = some (.ref B.a_reader_fault)
  k_reader_fault : PySem.W.keepIn K (.ref B.a_reader_fault) = true
  F_check_reader : Fun K "check_reader" "check_reader" s_check_reader B.a_check_reader B.d_check_reader
  b_check_reader : Binds K B.d_check_reader ["reader"] []
  m_check_reader : mg "check_reader" = some (.ref B.a_check_reader)
  k_check_reader : PySem.W.keepIn K (.ref B.a_check_reader) = true
  F_is_whole : Fun K "is_whole" "is_whole" s_is_whole B.a_is_whole B.d_is_whole
  b_is_whole : Binds K B.d_is_whole ["reader", "state"] []
  m_is_whole : mg "is_whole" = some (.ref B.a_is_whole)
  k_is_whole : PySem.W.keepIn K (.ref B.a_is_whole) = true
  F_behind_figure : Fun K "behind_figure" "behind_figure" s_behind_figure B.a_behind_figure B.d_behind_figure
  b_behind_figure : Binds K B.d_behind_figure ["reader", "state", "sign"] []
  m_behind_figure : mg "behind_figure" = some (.ref B.a_behind_figure)
  k_behind_figure : PySem.W.keepIn K (.ref B.a_behind_figure) = true
  F_behind_point : Fun K "behind_point" "behind_point" s_behind_point B.a_behind_point B.d_behind_point
  b_behind_point : Binds K B.d_behind_point ["reader", "state"] []
  m_behind_point : mg "behind_point" = some (.ref B.a_behind_point)
  k_behind_point : PySem.W.keepIn K (.ref B.a_behind_point) = true
  F_behind_under : Fun K "behind_under" "behind_under" s_behind_under B.a_behind_under B.d_behind_under
  b_behind_under : Binds K B.d_behind_under ["reader", "state"] []
  m_behind_under : mg "behind_under" = some (.ref B.a_behind_under)
  k_behind_under : PySem.W.keepIn K (.ref B.a_behind_under) = true
  F_behind : Fun K "behind" "behind" s_behind B.a_behind B.d_behind
  b_behind : Binds K B.d_behind ["reader", "state", "sign"] []
  m_behind : mg "behind" = some (.ref B.a_behind)
  k_behind : PySem.W.keepIn K (.ref B.a_behind) = true
  F_is_read : Fun K "is_read" "is_read" s_is_read B.a_is_read B.d_is_read
  b_is_read : Binds K B.d_is_read ["reader", "text"] []
  m_is_read : mg "is_read" = some (.ref B.a_is_read)
  k_is_read : PySem.W.keepIn K (.ref B.a_is_read) = true
  F_lowest : Fun K "lowest" "lowest" s_lowest B.a_lowest B.d_lowest
  b_lowest : Binds K B.d_lowest ["p", "q"] []
  m_lowest : mg "lowest" = some (.ref B.a_lowest)
  k_lowest : PySem.W.keepIn K (.ref B.a_lowest) = true
  F_number_of : Fun K "number_of" "number_of" s_number_of B.a_number_of B.d_number_of
  b_number_of : Binds K B.d_number_of ["reader", "text"] []
  m_number_of : mg "number_of" = some (.ref B.a_number_of)
  k_number_of : PySem.W.keepIn K (.ref B.a_number_of) = true
  F_read : Fun K "read" "read" s_read B.a_read B.d_read
  b_read : Binds K B.d_read ["reader", "text"] []
  m_read : mg "read" = some (.ref B.a_read)
  k_read : PySem.W.keepIn K (.ref B.a_read) = true
  F_are_letters : Fun K "are_letters" "are_letters" s_are_letters B.a_are_letters B.d_are_letters
  b_are_letters : Binds K B.d_are_letters ["value"] []
  m_are_letters : mg "are_letters" = some (.ref B.a_are_letters)
  k_are_letters : PySem.W.keepIn K (.ref B.a_are_letters) = true
  F_is_bound : Fun K "is_bound" "is_bound" s_is_bound B.a_is_bound B.d_is_bound
  b_is_bound : Binds K B.d_is_bound ["value", "least"] []
  m_is_bound : mg "is_bound" = some (.ref B.a_is_bound)
  k_is_bound : PySem.W.keepIn K (.ref B.a_is_bound) = true
  F_are_bounds : Fun K "are_bounds" "are_bounds" s_are_bounds B.a_are_bounds B.d_are_bounds
  b_are_bounds : Binds K B.d_are_bounds ["a", "b"] []
  m_are_bounds : mg "are_bounds" = some (.ref B.a_are_bounds)
  k_are_bounds : PySem.W.keepIn K (.ref B.a_are_bounds) = true
  F_is_part : Fun K "is_part" "is_part" s_is_part B.a_is_part B.d_is_part
  b_is_part : Binds K B.d_is_part ["value"] []
  m_is_part : mg "is_part" = some (.ref B.a_is_part)
  k_is_part : PySem.W.keepIn K (.ref B.a_is_part) = true
  F_are_parts : Fun K "are_parts" "are_parts" s_are_parts B.a_are_parts B.d_are_parts
  b_are_parts : Binds K B.d_are_parts ["value"] []
  m_are_parts : mg "are_parts" = some (.ref B.a_are_parts)
  k_are_parts : PySem.W.keepIn K (.ref B.a_are_parts) = true
  F_is_check_within : Fun K "is_check_within" "is_check_within" s_is_check_within B.a_is_check_within B.d_is_check_within
  b_is_check_within : Binds K B.d_is_check_within ["value", "left"] []
  m_is_check_within : mg "is_check_within" = some (.ref B.a_is_check_within)
  k_is_check_within : PySem.W.keepIn K (.ref B.a_is_check_within) = true
  F_is_check : Fun K "is_check" "is_check" s_is_check B.a_is_check B.d_is_check
  b_is_check : Binds K B.d_is_check ["value"] []
  m_is_check : mg "is_check" = some (.ref B.a_is_check)
  k_is_check : PySem.W.keepIn K (.ref B.a_is_check) = true
  F_Program_init : Fun K "__init__" "Program.__init__" s_Program_init B.a_Program_init B.d_Program_init
  b_Program_init : Binds K B.d_Program_init ["self", "check", "reader"] []
  F_first_text : Fun K "first_text" "first_text" s_first_text B.a_first_text B.d_first_text
  b_first_text : Binds K B.d_first_text ["begin", "step", "is_goal"] []
  m_first_text : mg "first_text" = some (.ref B.a_first_text)
  k_first_text : PySem.W.keepIn K (.ref B.a_first_text) = true
  F_figures_behind : Fun K "figures_behind" "figures_behind" s_figures_behind B.a_figures_behind B.d_figures_behind
  b_figures_behind : Binds K B.d_figures_behind ["known", "sign"] []
  m_figures_behind : mg "figures_behind" = some (.ref B.a_figures_behind)
  k_figures_behind : PySem.W.keepIn K (.ref B.a_figures_behind) = true
  F_are_unlike_numbers : Fun K "are_unlike_numbers" "are_unlike_numbers" s_are_unlike_numbers B.a_are_unlike_numbers B.d_are_unlike_numbers
  b_are_unlike_numbers : Binds K B.d_are_unlike_numbers ["one", "other", "known"] []
  m_are_unlike_numbers : mg "are_unlike_numbers" = some (.ref B.a_are_unlike_numbers)
  k_are_unlike_numbers : PySem.W.keepIn K (.ref B.a_are_unlike_numbers) = true
  F_text_for : Fun K "text_for" "text_for" s_text_for B.a_text_for B.d_text_for
  b_text_for : Binds K B.d_text_for ["one", "other", "is_wanted"] []
  m_text_for : mg "text_for" = some (.ref B.a_text_for)
  k_text_for : PySem.W.keepIn K (.ref B.a_text_for) = true
  F_check_readers : Fun K "check_readers" "check_readers" s_check_readers B.a_check_readers B.d_check_readers
  b_check_readers : Binds K B.d_check_readers ["readers"] []
  m_check_readers : mg "check_readers" = some (.ref B.a_check_readers)
  k_check_readers : PySem.W.keepIn K (.ref B.a_check_readers) = true
  F_clash : Fun K "clash" "clash" s_clash B.a_clash B.d_clash
  b_clash : Binds K B.d_clash ["one", "other"] []
  m_clash : mg "clash" = some (.ref B.a_clash)
  k_clash : PySem.W.keepIn K (.ref B.a_clash) = true
  F_unlike : Fun K "unlike" "unlike" s_unlike B.a_unlike B.d_unlike
  b_unlike : Binds K B.d_unlike ["one", "other"] []
  m_unlike : mg "unlike" = some (.ref B.a_unlike)
  k_unlike : PySem.W.keepIn K (.ref B.a_unlike) = true
  F_beyond : Fun K "beyond" "beyond" s_beyond B.a_beyond B.d_beyond
  b_beyond : Binds K B.d_beyond ["one", "other"] []
  m_beyond : mg "beyond" = some (.ref B.a_beyond)
  k_beyond : PySem.W.keepIn K (.ref B.a_beyond) = true
  F_stands_for : Fun K "stands_for" "stands_for" s_stands_for B.a_stands_for B.d_stands_for
  b_stands_for : Binds K B.d_stands_for ["reader", "others"] []
  m_stands_for : mg "stands_for" = some (.ref B.a_stands_for)
  k_stands_for : PySem.W.keepIn K (.ref B.a_stands_for) = true
  F_law_begin : Fun K "_law_begin" "_law_begin" s_law_begin B.a_law_begin B.d_law_begin
  b_law_begin : Binds K B.d_law_begin ["_law_script"] []
  m_law_begin : mg "_law_begin" = some (.ref B.a_law_begin)
  k_law_begin : PySem.W.keepIn K (.ref B.a_law_begin) = true
  F_law_draw : Fun K "_law_draw" "_law_draw" s_law_draw B.a_law_draw B.d_law_draw
  b_law_draw : Binds K B.d_law_draw ["_law_draws", "_law_many"] []
  m_law_draw : mg "_law_draw" = some (.ref B.a_law_draw)
  k_law_draw : PySem.W.keepIn K (.ref B.a_law_draw) = true
  F_law_reader : Fun K "_law_reader" "_law_reader" s_law_reader B.a_law_reader B.d_law_reader
  b_law_reader : Binds K B.d_law_reader ["_law_draws"] []
  m_law_reader : mg "_law_reader" = some (.ref B.a_law_reader)
  k_law_reader : PySem.W.keepIn K (.ref B.a_law_reader) = true
  F_law_due : Fun K "_law_due" "_law_due" s_law_due B.a_law_due B.d_law_due
  b_law_due : Binds K B.d_law_due ["_law_reader_here"] []
  m_law_due : mg "_law_due" = some (.ref B.a_law_due)
  k_law_due : PySem.W.keepIn K (.ref B.a_law_due) = true
  F_law_told : Fun K "_law_told" "_law_told" s_law_told B.a_law_told B.d_law_told
  b_law_told : Binds K B.d_law_told ["_law_reader_here", "_law_other", "_law_way"] []
  m_law_told : mg "_law_told" = some (.ref B.a_law_told)
  k_law_told : PySem.W.keepIn K (.ref B.a_law_told) = true
  F_law_text_told : Fun K "_law_text_told" "_law_text_told" s_law_text_told B.a_law_text_told B.d_law_text_told
  b_law_text_told : Binds K B.d_law_text_told ["_law_reader_here", "_law_text_here"] []
  m_law_text_told : mg "_law_text_told" = some (.ref B.a_law_text_told)
  k_law_text_told : PySem.W.keepIn K (.ref B.a_law_text_told) = true
  F_law : Fun K "law" "law" s_law B.a_law B.d_law
  b_law : Binds K B.d_law ["_law_script"] []
  m_law : mg "law" = some (.ref B.a_law)
  k_law : PySem.W.keepIn K (.ref B.a_law) = true
  m_cPr : mg "Program" = some (.ref A.cPr)
  mk_cPr : Mk K A.cPr B.a_Program_init
  cl_cPr : Cls K A.cPr
  a_cPr_check : NoAttr K A.cPr "check"
  a_cPr_reader : NoAttr K A.cPr "reader"
  e_cBT : DL.ExcC K mg "BadText" A.cBT
  e_cBC : DL.ExcC K mg "BadCheck" A.cBC
  f_cBR : DL.ExcF K mg "BadReader" A.cBR B.a_BadReader_init "index"
  y_cBR : mg "BadReader" = some (.ref A.cBR)
  x_cBR : XfC K A.cBR
  n_cBR : PySem.W.findIn K (.ref A.cBR) "index" = some none
  y_cBT : mg "BadText" = some (.ref A.cBT)
  xm_cBR_cBR : PySem.W.exmOne K (.ref A.cBR) (.ref A.cBR) = some true
  xm_cBT_cBR : PySem.W.exmOne K (.ref A.cBT) (.ref A.cBR) = some false
  xm_cBT_cBT : PySem.W.exmOne K (.ref A.cBT) (.ref A.cBT) = some true
  z_isinstance : mg "isinstance" = none
  z_len : mg "len" = none
  z_enumerate : mg "enumerate" = none
  z_all : mg "all" = none
  z_any : mg "any" = none
  z_str : mg "str" = none
  z_int : mg "int" = none
  z_tuple : mg "tuple" = none
  z_bool : mg "bool" = none
  z_range : mg "range" = none
  z_min : mg "min" = none
  z_abs : mg "abs" = none
  z_list : mg "list" = none
  v_SIGNS : ∃ u, mg "SIGNS" = some u ∧ ItV K c_SIGNS u
  v_FIGURES : ∃ u, mg "FIGURES" = some u ∧ ItV K c_FIGURES u
  v_OPTIONS : ∃ u, mg "OPTIONS" = some u ∧ ItV K c_OPTIONS u
  v_PARTS : ∃ u, mg "PARTS" = some u ∧ ItV K c_PARTS u
  v_FIRST : ∃ u, mg "FIRST" = some u ∧ ItV K c_FIRST u
  v_PLAIN : ∃ u, mg "PLAIN" = some u ∧ ItV K c_PLAIN u
  v_MOST_PARTS : ∃ u, mg "MOST_PARTS" = some u ∧ ItV K c_MOST_PARTS u
  v_MOST_CHECKS : ∃ u, mg "MOST_CHECKS" = some u ∧ ItV K c_MOST_CHECKS u
  v_DEEPEST : ∃ u, mg "DEEPEST" = some u ∧ ItV K c_DEEPEST u
  kdw : KDW K w mg
def nm_text_for : Nat → Nat → Str := fun l _ => if l = 207 then "text_for" ++ ".<locals>." ++ "step" else if l = 213 then "text_for" ++ ".<locals>." ++ "is_goal" else ""
def nm_clash : Nat → Nat → Str := fun l _ => if l = 221 then "clash" ++ ".<locals>." ++ "<lambda>" else ""
def nm_unlike : Nat → Nat → Str := fun l _ => if l = 224 then "unlike" ++ ".<locals>." ++ "<lambda>" else ""
def nm_beyond : Nat → Nat → Str := fun l _ => if l = 227 then "beyond" ++ ".<locals>." ++ "<lambda>" else ""
structure TBX (base : Heap) (mg : Str → Option Value) (T : List NdefX.NTab) (B : Fd) : Prop where
  t_text_for : ∃ c P, TabD base mg T B.d_text_for c P nm_text_for
  t_clash : ∃ c P, TabD base mg T B.d_clash c P nm_clash
  t_unlike : ∃ c P, TabD base mg T B.d_unlike c P nm_unlike
  t_beyond : ∃ c P, TabD base mg T B.d_beyond c P nm_beyond
section
variable {mg : Str → Option Value} {base : Heap} {Z : ZP} {A : Ad} {B : Fd}
theorem ok_BadReader_init (T : TX Z.K Z.w mg A B) : FnOk Z.P Z.w Z.K mg base (L2.CX Z.P Z.w) 1 B.a_BadReader_init B.d_BadReader_init ["self", "index"] (spInitX A.cBR "index") := ok_initX T.F_BadReader_init sc_BadReader_init T.f_cBR rfl rfl rfl (by decide) (by decide) (fun _ _ => rfl)
theorem ok_is_text (T : TX Z.K Z.w mg A B) : FnOk Z.P Z.w Z.K mg base (L2.CX Z.P Z.w) 1 B.a_is_text B.d_is_text ["value"] (lSp Z (sp_is_textG A)) := by
  skip
  exact fn_okD (t := t_is_text A) T.F_is_text sc_is_text (fun ds M R EX h => by obtain ⟨_, rfl, _⟩ := h; rfl) (fun _ _ _ _ _ _ hr => (qss_one (qs_ret (qe_and (qe_isi Tn.str rfl (by decide) (qv 0) T.z_isinstance T.z_str (by decide +kernel)) (qe_one (qe_callB (c_all rfl) T.z_all (by decide +kernel) (qa_cons (qe_lc (own := [("sign", 1)]) (g := gName 1) rfl sc_is_text.nd (qi_any rfl (qv 0)) (blkOk_by rfl) cg_name (fun _ _ _ _ _ => pg_name (i := 1) sc_is_text.nd rfl (.inl rfl)) (fun _ _ _ _ _ => qts_nil) (fun _ _ _ _ _ => (qe_cmp (o := o_in rfl (room65 hr)) (qv 1) (qe_cv T.v_SIGNS) (by rfl)))) qa_nil))))))) (pure_is_textG)
theorem ok_check_text (T : TX Z.K Z.w mg A B) : FnOk Z.P Z.w Z.K mg base (L2.CX Z.P Z.w) 3 B.a_check_text B.d_check_text ["text"] (lSp Z (sp_check_textG A)) := by
  have G_is_text := ok_is_text (base := base) T
  exact fn_okD (t := tG_check_text A) T.F_check_text sc_check_text (fun ds M R EX h => by obtain ⟨_, rfl, _⟩ := h; rfl) (fun _ _ _ _ _ _ hr => (qss_one (qs_if (qt_not (qt_val (qe_call G_is_text (hr.mono (by decide)) T.m_is_text T.k_is_text T.b_is_text (qa_cons (qv 0) qa_nil)))) (qss_one (qs_raise0 rfl T.e_cBT)) qss_nil))) (pure_check_textG)
theorem ok_reader_fault (T : TX Z.K Z.w mg A B) : FnOk Z.P Z.w Z.K mg base (L2.CX Z.P Z.w) 1 B.a_reader_fault B.d_reader_fault ["value"] (lSp Z (sp_reader_fault A)) := by
  skip
  exact fn_okD (t := t_reader_fault A) T.F_reader_fault sc_reader_fault (fun ds M R EX h => by obtain ⟨_, rfl, _⟩ := h; rfl) (fun _ _ _ _ _ _ hr => (qss_cons (qs_if (QW.qt (qw_or (qt_not (qt_val (qe_isi Tn.tuple rfl (by decide) (qv 0) T.z_isinstance T.z_tuple (by decide +kernel)))) (qw_or1 (qt_cmp (o := o_ne rfl (room64 hr)) (qe_callB (c_len rfl) T.z_len (by decide +kernel) (qa_cons (qv 0) qa_nil)) (qe_callB (c_len rfl) T.z_len (by decide +kernel) (qa_cons (qe_cv T.v_OPTIONS) qa_nil)))))) (qss_one (qs_ret (qe_callB (c_len rfl) T.z_len (by decide +kernel) (qa_cons (qe_cv T.v_OPTIONS) qa_nil)))) qss_nil)
  (qss_cons (qs_for (passes_of rfl) rfl (qi_enum rfl T.z_enumerate (qa_cons (qv 0) qa_nil)) (qg_tup rfl rfl (qgs_cons (qg_name sc_reader_fault.nd) (qgs_cons (qg_name sc_reader_fault.nd) qgs_nil))) (qss_one (qs_if (QW.qt (qw_or (qt_not (qt_val (qe_isi Tn.str rfl (by decide) (qv 2) T.z_isinstance T.z_str (by decide +kernel)))) (qw_or1 (qt_cmp (o := o_notIn rfl (room65 hr)) (qv 2) (qe_ix rfl (qe_cv T.v_OPTIONS) (qv 1)) (by rfl))))) (qss_one (qs_ret (qv 1))) qss_nil)))
  (qss_cons (qs_if (QW.qt (qw_and (qt_cmp (o := o_eq rfl (room64 hr)) (qe_ix rfl (qv 0) qe_int) (qe_str [101, 105, 103, 104, 116])) (qw_and1 (qt_cmp (o := o_ne rfl (room64 hr)) (qe_ix rfl (qv 0) qe_int) (qe_str [110, 111, 110, 101]))))) (qss_one (qs_ret qe_int)) qss_nil)
  (qss_cons (qs_if (QW.qt (qw_and (qt_cmp (o := o_eq rfl (room64 hr)) (qe_ix rfl (qv 0) qe_int) (qe_str [114, 111, 119, 115])) (qw_and1 (qt_cmp (o := o_ne rfl (room64 hr)) (qe_ix rfl (qv 0) qe_int) (qe_str [110, 111, 110, 101]))))) (qss_one (qs_ret qe_int)) qss_nil)
  (qss_one (qs_ret qe_non))))))) (pure_reader_fault)
theorem ok_check_reader (T : TX Z.K Z.w mg A B) : FnOk Z.P Z.w Z.K mg base (L2.CX Z.P Z.w) 3 B.a_check_reader B.d_check_reader ["reader"] (lSp Z (sp_check_reader A)) := by
  have G_reader_fault := ok_reader_fault (base := base) T
  have G_BadReader_init := ok_BadReader_init (base := base) T
  exact fn_okD (t := t_check_reader A) T.F_check_reader sc_check_reader (fun ds M R EX h => by obtain ⟨_, rfl, _⟩ := h; rfl) (fun _ _ _ _ _ _ hr => (qss_cons (qs_set (i := 1) sc_check_reader.nd (qe_call G_reader_fault (hr.mono (by decide)) T.m_reader_fault T.k_reader_fault T.b_reader_fault (qa_cons (qv 0) qa_nil)))
  (qss_one (qs_if (qt_cmp (o := o_isNot) (qv 1) qe_non) (qss_one (qs_raiseF rfl T.f_cBR G_BadReader_init (hr.mono (by decide)) T.b_BadReader_init (qv 1))) qss_nil)))) (pure_check_reader)
theorem ok_is_whole (T : TX Z.K Z.w mg A B) : FnOk Z.P Z.w Z.K mg base (L2.CX Z.P Z.w) 1 B.a_is_whole B.d_is_whole ["reader", "state"] (lSp Z (sp_is_whole A)) := by
  skip
  exact fn_okD (t := t_is_whole A) T.F_is_whole sc_is_whole (fun ds M R EX h => by obtain ⟨_, _, rfl, _⟩ := h; rfl) (fun _ _ _ _ _ _ hr => (qss_cons (qs_if (qt_cmp (o := o_is) (qv 1) qe_non) (qss_one (qs_ret qe_bl)) qss_nil)
  (qss_cons (qs_asg (qv 1) (qg_tup rfl rfl (qgs_cons (qg_name sc_is_whole.nd) (qgs_cons (qg_name sc_is_whole.nd) (qgs_cons (qg_name sc_is_whole.nd) (qgs_cons (qg_name sc_is_whole.nd) (qgs_cons (qg_name sc_is_whole.nd) (qgs_cons (qg_name sc_is_whole.nd) (qgs_cons (qg_name sc_is_whole.nd) qgs_nil)))))))))
  (qss_cons (qs_if (qt_cmp (o := o_ne rfl (room64 hr)) (qv 2) (qe_str [110, 117, 109, 98, 101, 114])) (qss_one (qs_ret (qe_cmp (o := o_eq rfl (room64 hr)) (qv 2) (qe_str [116, 97, 105, 108])))) qss_nil)
  (qss_cons (qs_if (qt_cmp (o := o_eq rfl (room64 hr)) (qv 7) (qe_str [102])) (qss_one (qs_ret (qe_or (qe_not (qv 6)) (qe_one (qe_cmp (o := o_eq rfl (room64 hr)) (qv 5) qe_int))))) qss_nil)
  (qss_one (qs_ret (qe_and (qe_cmp (o := o_eq rfl (room64 hr)) (qv 7) (qe_str [112])) (qe_and (qe_cmp (o := o_eq rfl (room64 hr)) (qe_ix rfl (qv 0) qe_int) (qe_str [108, 111, 111, 115, 101])) (qe_one (qe_cmp (o := o_gt) (qv 4) qe_int))))))))))) (pure_is_whole)
theorem ok_behind_figure (T : TX Z.K Z.w mg A B) : FnOk Z.P Z.w Z.K mg base (L2.CX Z.P Z.w) 1 B.a_behind_figure B.d_behind_figure ["reader", "state", "sign"] (lSp Z (sp_behind_figure A)) := by
  skip
  exact fn_okD (t := t_behind_figure A) T.F_behind_figure sc_behind_figure (fun ds M R EX h => by obtain ⟨_, _, _, rfl, _⟩ := h; rfl) (fun _ _ _ _ _ _ hr => (qss_cons (qs_asg (qv 1) (qg_tup rfl rfl (qgs_cons (qg_name sc_behind_figure.nd) (qgs_cons (qg_name sc_behind_figure.nd) (qgs_cons (qg_name sc_behind_figure.nd) (qgs_cons (qg_name sc_behind_figure.nd) (qgs_cons (qg_name sc_behind_figure.nd) (qgs_cons (qg_name sc_behind_figure.nd) (qgs_cons (qg_name sc_behind_figure.nd) qgs_nil)))))))))
  (qss_cons (qs_if (QW.qt (qw_and (qt_cmp (o := o_eq rfl (room64 hr)) (qv 2) (qe_str [116])) (qw_and1 (qt_cmp (o := o_eq rfl (room64 hr)) (qe_ix rfl (qv 0) qe_int) (qe_str [112, 108, 97, 105, 110]))))) (qss_one (qs_ret qe_non)) qss_nil)
  (qss_cons (qs_if (qt_val (qv 9)) (qss_one (qs_ret (qe_tup (qa_cons (qe_str [110, 117, 109, 98, 101, 114]) (qa_cons (qv 4) (qa_cons (qv 5) (qa_cons (qv 6) (qa_cons (qv 7) (qa_cons (qe_str [102]) (qa_cons qe_bl qa_nil)))))))))) qss_nil)
  (qss_cons (qs_if (qt_cmp (o := o_eq rfl (room64 hr)) (qv 4) (qe_str [])) (qss_one (qs_set (i := 4) sc_behind_figure.nd (qe_ifExp (qt_cmp (o := o_eq rfl (room64 hr)) (qv 2) (qe_str [48])) (qe_str [48]) (qe_str [49])))) (qss_one (qs_if (QW.qt (qw_and (qt_cmp (o := o_eq rfl (room64 hr)) (qv 4) (qe_str [48])) (qw_and1 (QW.qt (qw_or (qt_cmp (o := o_eq rfl (room64 hr)) (qe_ix rfl (qv 0) qe_int) (qe_str [110, 111, 110, 101])) (qw_or1 (QW.qt (qw_and (qt_cmp (o := o_eq rfl (room64 hr)) (qe_ix rfl (qv 0) qe_int) (qe_str [101, 105, 103, 104, 116])) (qw_and1 (qt_cmp (o := o_eq rfl (room64 hr)) (qv 2) (qe_str [56]))))))))))) (qss_one (qs_ret qe_non)) qss_nil)))
  (qss_cons (qs_if (QW.qt (qw_and (qt_val (qv 7)) (qw_and1 (qt_cmp (o := o_eq rfl (room64 hr)) (qv 6) qe_int)))) (qss_one (qs_ret qe_non)) qss_nil)
  (qss_one (qs_ret (qe_tup (qa_cons (qe_str [110, 117, 109, 98, 101, 114]) (qa_cons (qv 4) (qa_cons (qe_callB (c_min rfl) T.z_min (by decide +kernel) (qa_cons (qe_op (o_add rfl) (qv 5) qe_int) (qa_cons qe_int qa_nil))) (qa_cons (qe_callB (c_min rfl) T.z_min (by decide +kernel) (qa_cons (qe_op (o_add rfl) (qv 6) qe_int) (qa_cons qe_int qa_nil))) (qa_cons (qv 7) (qa_cons (qe_str [102]) (qa_cons qe_bl qa_nil)))))))))))))))) (pure_behind_figure)
theorem ok_behind_point (T : TX Z.K Z.w mg A B) : FnOk Z.P Z.w Z.K mg base (L2.CX Z.P Z.w) 1 B.a_behind_point B.d_behind_point ["reader", "state"] (lSp Z (sp_behind_point A)) := by
  skip
  exact fn_okD (t := t_behind_point A) T.F_behind_point sc_behind_point (fun ds M R EX h => by obtain ⟨_, _, rfl, _⟩ := h; rfl) (fun _ _ _ _ _ _ hr => (qss_cons (qs_asg (qv 1) (qg_tup rfl rfl (qgs_cons (qg_name sc_behind_point.nd) (qgs_cons (qg_name sc_behind_point.nd) (qgs_cons (qg_name sc_behind_point.nd) (qgs_cons (qg_name sc_behind_point.nd) (qgs_cons (qg_name sc_behind_point.nd) (qgs_cons (qg_name sc_behind_point.nd) (qgs_cons (qg_name sc_behind_point.nd) qgs_nil)))))))))
  (qss_cons (qs_if (qt_cmp (o := o_eq rfl (room64 hr)) (qe_ix rfl (qv 0) qe_int) (qe_str [114, 111, 119, 115])) (qss_cons (qs_if (QW.qt (qw_or (qt_cmp (o := o_ne rfl (room64 hr)) (qv 7) (qe_str [102])) (qw_or (qt_cmp (o := o_gt) (qv 5) qe_int) (qw_or1 (QW.qt (qw_and (qt_val (qv 6)) (qw_and1 (qt_cmp (o := o_ne rfl (room64 hr)) (qv 5) qe_int)))))))) (qss_one (qs_ret qe_non)) qss_nil)
  (qss_one (qs_ret (qe_tup (qa_cons (qe_str [110, 117, 109, 98, 101, 114]) (qa_cons (qv 3) (qa_cons (qv 4) (qa_cons qe_int (qa_cons qe_bl (qa_cons (qe_str [112]) (qa_cons qe_bl qa_nil))))))))))) qss_nil)
  (qss_cons (qs_if (QW.qt (qw_or (qt_cmp (o := o_notIn rfl (room65 hr)) (qe_ix rfl (qv 0) qe_int) (qe_cv T.v_PARTS) (by rfl)) (qw_or1 (qt_val (qv 8))))) (qss_one (qs_ret qe_non)) qss_nil)
  (qss_cons (qs_if (QW.qt (qw_or (qt_cmp (o := o_eq rfl (room64 hr)) (qv 7) (qe_str [102])) (qw_or1 (QW.qt (qw_and (qt_cmp (o := o_eq rfl (room64 hr)) (qv 7) (qe_str [])) (qw_and1 (qt_cmp (o := o_eq rfl (room64 hr)) (qe_ix rfl (qv 0) qe_int) (qe_str [108, 111, 111, 115, 101])))))))) (qss_one (qs_ret (qe_tup (qa_cons (qe_str [110, 117, 109, 98, 101, 114]) (qa_cons (qv 3) (qa_cons (qv 4) (qa_cons (qv 5) (qa_cons (qv 6) (qa_cons (qe_str [112]) (qa_cons qe_bl qa_nil)))))))))) qss_nil)
  (qss_one (qs_ret qe_non))))))) (pure_behind_point)
theorem ok_behind_under (T : TX Z.K Z.w mg A B) : FnOk Z.P Z.w Z.K mg base (L2.CX Z.P Z.w) 1 B.a_behind_under B.d_behind_under ["reader", "state"] (lSp Z (sp_behind_under A)) := by
  skip
  exact fn_okD (t := t_behind_under A) T.F_behind_under sc_behind_under (fun ds M R EX h => by obtain ⟨_, _, rfl, _⟩ := h; rfl) (fun _ _ _ _ _ _ hr => (qss_cons (qs_asg (qv 1) (qg_tup rfl rfl (qgs_cons (qg_name sc_behind_under.nd) (qgs_cons (qg_name sc_behind_under.nd) (qgs_cons (qg_name sc_behind_under.nd) (qgs_cons (qg_name sc_behind_under.nd) (qgs_cons (qg_name sc_behind_under.nd) (qgs_cons (qg_name sc_behind_under.nd) (qgs_cons (qg_name sc_behind_under.nd) qgs_nil)))))))))
  (qss_cons (qs_if (QW.qt (qw_or (qt_cmp (o := o_eq rfl (room64 hr)) (qe_ix rfl (qv 0) qe_int) (qe_str [110, 111, 110, 101])) (qw_or1 (QW.qt (qw_and (qt_cmp (o := o_ne rfl (room64 hr)) (qv 7) (qe_str [102])) (qw_and1 (qt_not (QW.qt (qw_and (qt_cmp (o := o_eq rfl (room64 hr)) (qv 7) (qe_str [117])) (qw_and1 (qt_cmp (o := o_eq rfl (room64 hr)) (qe_ix rfl (qv 0) qe_int) (qe_str [102, 114, 101, 101])))))))))))) (qss_one (qs_ret qe_non)) qss_nil)
  (qss_one (qs_ret (qe_tup (qa_cons (qv 2) (qa_cons (qv 3) (qa_cons (qv 4) (qa_cons (qv 5) (qa_cons (qv 6) (qa_cons (qe_str [117]) (qa_cons (qv 8) qa_nil))))))))))))) (pure_behind_under)
theorem ok_behind (T : TX Z.K Z.w mg A B) : FnOk Z.P Z.w Z.K mg base (L2.CX Z.P Z.w) 3 B.a_behind B.d_behind ["reader", "state", "sign"] (lSp Z (sp_behind A)) := by
  have G_is_whole := ok_is_whole (base := base) T
  have G_behind_figure := ok_behind_figure (base := base) T
  have G_behind_point := ok_behind_point (base := base) T
  have G_behind_under := ok_behind_under (base := base) T
  exact fn_okD (t := t_behind A) T.F_behind sc_behind (fun ds M R EX h => by obtain ⟨_, _, _, rfl, _⟩ := h; rfl) (fun _ _ _ _ _ _ hr => (qss_cons (qs_if (qt_cmp (o := o_is) (qv 1) qe_non) (qss_one (qs_ret qe_non)) qss_nil)
  (qss_cons (qs_set (i := 3) sc_behind.nd (qe_ix rfl (qv 1) qe_int))
  (qss_cons (qs_if (qt_cmp (o := o_eq rfl (room64 hr)) (qv 2) (qe_str [32])) (qss_cons (qs_if (QW.qt (qw_or (qt_cmp (o := o_eq rfl (room64 hr)) (qe_ix rfl (qv 0) qe_int) (qe_str [110, 111, 110, 101])) (qw_or1 (qt_cmp (o := o_eq rfl (room64 hr)) (qv 3) (qe_str [115, 105, 103, 110, 101, 100]))))) (qss_one (qs_ret qe_non)) qss_nil)
  (qss_cons (qs_if (qt_cmp (o := o_eq rfl (room64 hr)) (qv 3) (qe_str [110, 117, 109, 98, 101, 114])) (qss_one (qs_ret (qe_ifExp (qt_val (qe_call G_is_whole (hr.mono (by decide)) T.m_is_whole T.k_is_whole T.b_is_whole (qa_cons (qv 0) (qa_cons (qv 1) qa_nil)))) (qe_op (o_add rfl) (qe_tup (qa_cons (qe_str [116, 97, 105, 108]) qa_nil)) (qe_slice rfl (qv 1) (qo_some qe_int) qo_none)) qe_non))) qss_nil)
  (qss_one (qs_ret (qv 1))))) qss_nil)
  (qss_cons (qs_if (qt_cmp (o := o_eq rfl (room64 hr)) (qv 3) (qe_str [116, 97, 105, 108])) (qss_one (qs_ret qe_non)) qss_nil)
  (qss_cons (qs_if (qt_cmp (o := o_in rfl (room65 hr)) (qv 2) (qe_str [43, 45]) (by rfl)) (qss_cons (qs_if (QW.qt (qw_or (qt_cmp (o := o_ne rfl (room64 hr)) (qv 3) (qe_str [115, 116, 97, 114, 116])) (qw_or (qt_cmp (o := o_eq rfl (room64 hr)) (qe_ix rfl (qv 0) qe_int) (qe_str [110, 111, 110, 101])) (qw_or1 (QW.qt (qw_and (qt_cmp (o := o_eq rfl (room64 hr)) (qv 2) (qe_str [43])) (qw_and1 (qt_cmp (o := o_eq rfl (room64 hr)) (qe_ix rfl (qv 0) qe_int) (qe_str [109, 105, 110, 117, 115]))))))))) (qss_one (qs_ret qe_non)) qss_nil)
  (qss_one (qs_ret (qe_op (o_add rfl) (qe_tup (qa_cons (qe_str [115, 105, 103, 110, 101, 100]) qa_nil)) (qe_slice rfl (qv 1) (qo_some qe_int) qo_none))))) qss_nil)
  (qss_cons (qs_if (qt_cmp (o := o_in rfl (room65 hr)) (qv 2) (qe_cv T.v_FIGURES) (by rfl)) (qss_one (qs_ret (qe_call G_behind_figure (hr.mono (by decide)) T.m_behind_figure T.k_behind_figure T.b_behind_figure (qa_cons (qv 0) (qa_cons (qv 1) (qa_cons (qv 2) qa_nil)))))) qss_nil)
  (qss_cons (qs_if (qt_cmp (o := o_eq rfl (room64 hr)) (qv 2) (qe_str [46])) (qss_one (qs_ret (qe_call G_behind_point (hr.mono (by decide)) T.m_behind_point T.k_behind_point T.b_behind_point (qa_cons (qv 0) (qa_cons (qv 1) qa_nil))))) qss_nil)
  (qss_one (qs_ret (qe_call G_behind_under (hr.mono (by decide)) T.m_behind_under T.k_behind_under T.b_behind_under (qa_cons (qv 0) (qa_cons (qv 1) qa_nil))))))))))))) (pure_behind)
theorem ok_is_read (T : TX Z.K Z.w mg A B) : FnOk Z.P Z.w Z.K mg base (L2.CX Z.P Z.w) 5 B.a_is_read B.d_is_read ["reader", "text"] (lSp Z (sp_is_read A)) := by
  have G_behind := ok_behind (base := base) T
  have G_is_whole := ok_is_whole (base := base) T
  exact fn_okD (t := t_is_read A) T.F_is_read sc_is_read (fun ds M R EX h => by obtain ⟨_, _, rfl, _⟩ := h; rfl) (fun _ _ _ _ _ _ hr => (qss_cons (qs_set (i := 2) sc_is_read.nd (qe_cv T.v_FIRST))
  (qss_cons (qs_for (passes_of rfl) rfl (qi_any rfl (qv 1)) (qg_name sc_is_read.nd) (qss_one (qs_set (i := 2) sc_is_read.nd (qe_call G_behind (hr.mono (by decide)) T.m_behind T.k_behind T.b_behind (qa_cons (qv 0) (qa_cons (qv 2) (qa_cons (qv 3) qa_nil)))))))
  (qss_one (qs_ret (qe_call G_is_whole (hr.mono (by decide)) T.m_is_whole T.k_is_whole T.b_is_whole (qa_cons (qv 0) (qa_cons (qv 2) qa_nil)))))))) (pure_is_read)
theorem ok_lowest (T : TX Z.K Z.w mg A B) : FnOk Z.P Z.w Z.K mg base (L2.CX Z.P Z.w) 1 B.a_lowest B.d_lowest ["p", "q"] (lSp Z (sp_lowest A)) := by
  skip
  exact fn_okD (t := t_lowest A) T.F_lowest sc_lowest (fun ds M R EX h => by obtain ⟨_, _, rfl, _⟩ := h; rfl) (fun _ _ _ _ _ _ hr => (qss_cons (qs_par (i := 2) (j := 3) rfl sc_lowest.nd rfl rfl (by decide) rfl rfl (qa_cons (qe_callB (c_abs) T.z_abs (by decide +kernel) (qa_cons (qv 0) qa_nil)) (qa_cons (qv 1) qa_nil)) (by rfl))
  (qss_cons (qs_while (passes_of rfl) (qt_tru rfl (qv 3)) (qss_one (qs_par (i := 2) (j := 3) rfl sc_lowest.nd rfl rfl (by decide) rfl rfl (qa_cons (qv 3) (qa_cons (qe_op (o_mod) (qv 2) (qv 3)) qa_nil)) (by rfl))))
  (qss_one (qs_ret (qe_tup (qa_cons (qe_op (o_fdivW) (qv 0) (qv 2)) (qa_cons (qe_op (o_fdivW) (qv 1) (qv 2)) qa_nil)))))))) (pure_lowest)
theorem ok_number_of (T : TX Z.K Z.w mg A B) : FnOk Z.P Z.w Z.K mg base (L2.CX Z.P Z.w) 3 B.a_number_of B.d_number_of ["reader", "text"] (lSp Z (sp_number_of A)) := by
  have G_lowest := ok_lowest (base := base) T
  exact fn_okD (t := t_number_of A) T.F_number_of sc_number_of (fun ds M R EX h => by obtain ⟨_, _, rfl, _⟩ := h; rfl) (fun _ _ _ _ _ _ hr => (qss_cons (qs_setLc (i := 2) (own := [("sign", 5)]) (g := gName 5) rfl sc_number_of.nd rfl rfl (sw_true rfl rfl rfl (by decide +kernel)) (qi_any rfl (qv 1)) (blkOk_by rfl) cg_name (fun _ _ _ _ _ => pg_name (i := 5) sc_number_of.nd rfl (.inl rfl)) (fun _ _ _ _ _ => (qts_one (qt_cmp (o := o_in rfl (room65 hr)) (qv 5) (qe_cv T.v_FIGURES) (by rfl)))) (fun _ _ _ _ _ => (qv 5)))
  (qss_cons (qs_set (i := 3) sc_number_of.nd (qe_ifExp (QW.qt (qw_and (qt_cmp (o := o_eq rfl (room64 hr)) (qe_ix rfl (qv 0) qe_int) (qe_str [101, 105, 103, 104, 116])) (qw_and1 (qt_cmp (o := o_eq rfl (room64 hr)) (qe_ix rfl (qv 2) qe_int) (qe_str [48]))))) qe_int qe_int))
  (qss_cons (qs_set (i := 4) sc_number_of.nd qe_int)
  (qss_cons (qs_for (passes_of rfl) rfl (qi_any rfl (qv 2)) (qg_name sc_number_of.nd) (qss_one (qs_set (i := 4) sc_number_of.nd (qe_op (o_add rfl) (qe_op (o_mul) (qv 4) (qv 3)) (qe_worth T.kdw (qv 5))))))
  (qss_cons (qs_set (i := 6) sc_number_of.nd qe_int)
  (qss_cons (qs_if (QW.qt (qw_and (qt_cmp (o := o_in rfl (room65 hr)) (qe_ix rfl (qv 0) qe_int) (qe_cv T.v_PARTS) (by rfl)) (qw_and1 (qt_cmp (o := o_in rfl (room65 hr)) (qe_str [46]) (qv 1) (by rfl))))) (qss_one (qs_for (passes_of rfl) rfl (qi_any rfl (qe_slice rfl (qv 1) (qo_some (qe_bm rfl PySem.F.plainAttrs_str PySem.F.slot_str_index PySem.F.type_str_index m_index (qv 1) (qa_cons (qe_str [46]) qa_nil))) qo_none)) (qg_name sc_number_of.nd) (qss_one (qs_set (i := 6) sc_number_of.nd (qe_ifExp (qt_cmp (o := o_in rfl (room65 hr)) (qv 5) (qe_cv T.v_FIGURES) (by rfl)) (qe_op (o_mul) (qv 6) qe_int) (qv 6)))))) qss_nil)
  (qss_one (qs_ret (qe_call G_lowest (hr.mono (by decide)) T.m_lowest T.k_lowest T.b_lowest (qa_cons (qe_ifExp (qt_cmp (o := o_in rfl (room65 hr)) (qe_str [45]) (qv 1) (by rfl)) (qe_neg (qv 4)) (qv 4)) (qa_cons (qv 6) qa_nil)))))))))))) (pure_number_of)
theorem ok_read (T : TX Z.K Z.w mg A B) : FnOk Z.P Z.w Z.K mg base (L2.CX Z.P Z.w) 7 B.a_read B.d_read ["reader", "text"] (lSp Z (sp_readG A)) := by
  have G_check_reader := ok_check_reader (base := base) T
  have G_check_text := ok_check_text (base := base) T
  have G_is_read := ok_is_read (base := base) T
  have G_number_of := ok_number_of (base := base) T
  exact fn_okD (t := tG_read A) T.F_read sc_read (fun ds M R EX h => by obtain ⟨_, _, rfl, _⟩ := h; rfl) (fun _ _ _ _ _ _ hr => (qss_cons (qs_expr (qe_call G_check_reader (hr.mono (by decide)) T.m_check_reader T.k_check_reader T.b_check_reader (qa_cons (qv 0) qa_nil)))
  (qss_cons (qs_expr (qe_call G_check_text (hr.mono (by decide)) T.m_check_text T.k_check_text T.b_check_text (qa_cons (qv 1) qa_nil)))
  (qss_one (qs_ret (qe_ifExp (qt_val (qe_call G_is_read (hr.mono (by decide)) T.m_is_read T.k_is_read T.b_is_read (qa_cons (qv 0) (qa_cons (qv 1) qa_nil)))) (qe_call G_number_of (hr.mono (by decide)) T.m_number_of T.k_number_of T.b_number_of (qa_cons (qv 0) (qa_cons (qv 1) qa_nil))) qe_non)))))) (pure_readG)
theorem ok_are_letters (T : TX Z.K Z.w mg A B) : FnOk Z.P Z.w Z.K mg base (L2.CX Z.P Z.w) 1 B.a_are_letters B.d_are_letters ["value"] (lSp Z (sp_are_letters A)) := by
  skip
  exact fn_okD (t := t_are_letters A) T.F_are_letters sc_are_letters (fun ds M R EX h => by obtain ⟨_, rfl, _⟩ := h; rfl) (fun _ _ _ _ _ _ hr => (qss_cons (qs_if (QW.qt (qw_or (qt_not (qt_val (qe_isi Tn.str rfl (by decide) (qv 0) T.z_isinstance T.z_str (by decide +kernel)))) (qw_or1 (qt_not (qt_chain (o_le) (o_le) qe_int (qe_callB (c_len rfl) T.z_len (by decide +kernel) (qa_cons (qv 0) qa_nil)) qe_int))))) (qss_one (qs_ret qe_bl)) qss_nil)
  (qss_one (qs_ret (qe_callB (c_all rfl) T.z_all (by decide +kernel) (qa_cons (qe_lc (own := [("sign", 1)]) (g := gName 1) rfl sc_are_letters.nd (qi_any rfl (qv 0)) (blkOk_by rfl) cg_name (fun _ _ _ _ _ => pg_name (i := 1) sc_are_letters.nd rfl (.inl rfl)) (fun _ _ _ _ _ => qts_nil) (fun _ _ _ _ _ => (qe_and (qe_cmp (o := o_in rfl (room65 hr)) (qv 1) (qe_cv T.v_SIGNS) (by rfl)) (qe_one (qe_cmp (o := o_eq rfl (room64 hr)) (qe_bm rfl PySem.F.plainAttrs_str PySem.F.slot_str_count PySem.F.type_str_count (m_count) (qv 0) (qa_cons (qv 1) qa_nil)) qe_int))))) qa_nil)))))) (pure_are_letters)
theorem ok_is_bound (T : TX Z.K Z.w mg A B) : FnOk Z.P Z.w Z.K mg base (L2.CX Z.P Z.w) 1 B.a_is_bound B.d_is_bound ["value", "least"] (lSp Z (sp_is_bound A)) := by
  skip
  exact fn_okD (t := t_is_bound A) T.F_is_bound sc_is_bound (fun ds M R EX h => by obtain ⟨_, _, rfl, _⟩ := h; rfl) (fun _ _ _ _ _ _ hr => (qss_one (qs_ret (qe_and (qe_isi Tn.int rfl (by decide) (qv 0) T.z_isinstance T.z_int (by decide +kernel)) (qe_and (qe_not (qe_isi Tn.bool rfl (by decide) (qv 0) T.z_isinstance T.z_bool (by decide +kernel))) (qe_one (qe_chain (o_le) (o_le) (qv 1) (qv 0) qe_int))))))) (pure_is_bound)
theorem ok_are_bounds (T : TX Z.K Z.w mg A B) : FnOk Z.P Z.w Z.K mg base (L2.CX Z.P Z.w) 3 B.a_are_bounds B.d_are_bounds ["a", "b"] (lSp Z (sp_are_bounds A)) := by
  have G_is_bound := ok_is_bound (base := base) T
  exact fn_okD (t := t_are_bounds A) T.F_are_bounds sc_are_bounds (fun ds M R EX h => by obtain ⟨_, _, rfl, _⟩ := h; rfl) (fun _ _ _ _ _ _ hr => (qss_one (qs_ret (qe_and (qe_call G_is_bound (hr.mono (by decide)) T.m_is_bound T.k_is_bound T.b_is_bound (qa_cons (qv 0) (qa_cons qe_int qa_nil))) (qe_one (qe_or (qe_cmp (o := o_is) (qv 1) qe_non) (qe_one (qe_call G_is_bound (hr.mono (by decide)) T.m_is_bound T.k_is_bound T.b_is_bound (qa_cons (qv 1) (qa_cons (qv 0) qa_nil)))))))))) (pure_are_bounds)
theorem ok_is_part (T : TX Z.K Z.w mg A B) : FnOk Z.P Z.w Z.K mg base (L2.CX Z.P Z.w) 5 B.a_is_part B.d_is_part ["value"] (lSp Z (sp_is_part A)) := by
  have G_are_letters := ok_are_letters (base := base) T
  have G_are_bounds := ok_are_bounds (base := base) T
  exact fn_okD (t := t_is_part A) T.F_is_part sc_is_part (fun ds M R EX h => by obtain ⟨_, rfl, _⟩ := h; rfl) (fun _ _ _ _ _ _ hr => (qss_one (qs_ret (qe_and (qe_isi Tn.tuple rfl (by decide) (qv 0) T.z_isinstance T.z_tuple (by decide +kernel)) (qe_and (qe_cmp (o := o_eq rfl (room64 hr)) (qe_callB (c_len rfl) T.z_len (by decide +kernel) (qa_cons (qv 0) qa_nil)) qe_int) (qe_and (qe_call G_are_letters (hr.mono (by decide)) T.m_are_letters T.k_are_letters T.b_are_letters (qa_cons (qe_ix rfl (qv 0) qe_int) qa_nil)) (qe_one (qe_call G_are_bounds (hr.mono (by decide)) T.m_are_bounds T.k_are_bounds T.b_are_bounds (qa_cons (qe_ix rfl (qv 0) qe_int) (qa_cons (qe_ix rfl (qv 0) qe_int) qa_nil)))))))))) (pure_is_part)
theorem ok_are_parts (T : TX Z.K Z.w mg A B) : FnOk Z.P Z.w Z.K mg base (L2.CX Z.P Z.w) 7 B.a_are_parts B.d_are_parts ["value"] (lSp Z (sp_are_parts A)) := by
  have G_is_part := ok_is_part (base := base) T
  exact fn_okD (t := t_are_parts A) T.F_are_parts sc_are_parts (fun ds M R EX h => by obtain ⟨_, rfl, _⟩ := h; rfl) (fun _ _ _ _ _ _ hr => (qss_one (qs_ret (qe_and (qe_isi Tn.tuple rfl (by decide) (qv 0) T.z_isinstance T.z_tuple (by decide +kernel)) (qe_and (qe_chain (o_le) (o_le) qe_int (qe_callB (c_len rfl) T.z_len (by decide +kernel) (qa_cons (qv 0) qa_nil)) (qe_cv T.v_MOST_PARTS)) (qe_one (qe_callB (c_all rfl) T.z_all (by decide +kernel) (qa_cons (qe_lc (own := [("part", 1)]) (g := gName 1) rfl sc_are_parts.nd (qi_any rfl (qv 0)) (blkOk_by rfl) cg_name (fun _ _ _ _ _ => pg_name (i := 1) sc_are_parts.nd rfl (.inl rfl)) (fun _ _ _ _ _ => qts_nil) (fun _ _ _ _ _ => (qe_call G_is_part (hr.mono (by decide)) T.m_is_part T.k_is_part T.b_is_part (qa_cons (qv 1) qa_nil)))) qa_nil)))))))) (pure_are_parts)
theorem ok_cw0 (T : TX Z.K Z.w mg A B) : FnOk Z.P Z.w Z.K mg base (L2.CX Z.P Z.w) 9 B.a_is_check_within B.d_is_check_within ["value", "left"] (lSp Z (sp_cw 0)) := by
  have G_are_bounds := ok_are_bounds (base := base) T
  have G_are_letters := ok_are_letters (base := base) T
  have G_are_parts := ok_are_parts (base := base) T
  have G_reader_fault := ok_reader_fault (base := base) T
  have G_is_check_within : FnOk Z.P Z.w Z.K mg base (L2.CX Z.P Z.w) 0 B.a_is_check_within B.d_is_check_within ["value", "left"] (lSp Z (spF)) := fn_never (fun _ _ _ _ h => h)
  exact fn_okD (t := t_is_check_within A spF) T.F_is_check_within sc_is_check_within (fun ds M R EX h => by obtain ⟨_, rfl, _⟩ := h; rfl) (fun _ _ _ _ _ _ hr => (qss_cons (qs_if (QW.qt (qw_or (qt_not (qt_val (qe_isi Tn.tuple rfl (by decide) (qv 0) T.z_isinstance T.z_tuple (by decide +kernel)))) (qw_or (qt_cmp (o := o_lt) (qe_callB (c_len rfl) T.z_len (by decide +kernel) (qa_cons (qv 0) qa_nil)) qe_int) (qw_or1 (qt_not (qt_val (qe_isi Tn.str rfl (by decide) (qe_ix rfl (qv 0) qe_int) T.z_isinstance T.z_str (by decide +kernel)))))))) (qss_one (qs_ret qe_bl)) qss_nil)
  (qss_cons (qs_set (i := 2) sc_is_check_within.nd (qe_ix rfl (qv 0) qe_int))
  (qss_cons (qs_if (qt_cmp (o := o_eq rfl (room64 hr)) (qv 2) (qe_str [108, 111, 110, 103])) (qss_one (qs_ret (qe_and (qe_cmp (o := o_eq rfl (room64 hr)) (qe_callB (c_len rfl) T.z_len (by decide +kernel) (qa_cons (qv 0) qa_nil)) qe_int) (qe_one (qe_call G_are_bounds (hr.mono (by decide)) T.m_are_bounds T.k_are_bounds T.b_are_bounds (qa_cons (qe_ix rfl (qv 0) qe_int) (qa_cons (qe_ix rfl (qv 0) qe_int) qa_nil))))))) qss_nil)
  (qss_cons (qs_if (qt_cmp (o := o_ne rfl (room64 hr)) (qe_callB (c_len rfl) T.z_len (by decide +kernel) (qa_cons (qv 0) qa_nil)) qe_int) (qss_one (qs_ret qe_bl)) qss_nil)
  (qss_cons (qs_if (qt_cmp (o := o_in rfl (room65 hr)) (qv 2) (qe_cv T.v_PLAIN) (by rfl)) (qss_one (qs_ret (qe_call G_are_letters (hr.mono (by decide)) T.m_are_letters T.k_are_letters T.b_are_letters (qa_cons (qe_ix rfl (qv 0) qe_int) qa_nil)))) qss_nil)
  (qss_cons (qs_if (qt_cmp (o := o_eq rfl (room64 hr)) (qv 2) (qe_str [115, 104, 97, 112, 101])) (qss_one (qs_ret (qe_call G_are_parts (hr.mono (by decide)) T.m_are_parts T.k_are_parts T.b_are_parts (qa_cons (qe_ix rfl (qv 0) qe_int) qa_nil)))) qss_nil)
  (qss_cons (qs_if (qt_cmp (o := o_eq rfl (room64 hr)) (qv 2) (qe_str [116, 114, 105, 101, 115])) (qss_one (qs_ret (qe_cmp (o := o_is) (qe_call G_reader_fault (hr.mono (by decide)) T.m_reader_fault T.k_reader_fault T.b_reader_fault (qa_cons (qe_ix rfl (qv 0) qe_int) qa_nil)) qe_non))) qss_nil)
  (qss_cons (qs_if (qt_cmp (o := o_eq rfl (room64 hr)) (qv 1) qe_int) (qss_one (qs_ret qe_bl)) qss_nil)
  (qss_cons (qs_if (qt_cmp (o := o_eq rfl (room64 hr)) (qv 2) (qe_str [110, 111])) (qss_one (qs_ret (qe_call G_is_check_within (hr.mono (by decide)) T.m_is_check_within T.k_is_check_within T.b_is_check_within (qa_cons (qe_ix rfl (qv 0) qe_int) (qa_cons (qe_op (o_sub) (qv 1) qe_int) qa_nil))))) qss_nil)
  (qss_cons (qs_if (QW.qt (qw_or (qt_cmp (o := o_notIn rfl (room65 hr)) (qv 2) (qe_tup (qa_cons (qe_str [97, 108, 108]) (qa_cons (qe_str [115, 111, 109, 101]) qa_nil))) (by rfl)) (qw_or (qt_not (qt_val (qe_isi Tn.tuple rfl (by decide) (qe_ix rfl (qv 0) qe_int) T.z_isinstance T.z_tuple (by decide +kernel)))) (qw_or1 (qt_cmp (o := o_gt) (qe_callB (c_len rfl) T.z_len (by decide +kernel) (qa_cons (qe_ix rfl (qv 0) qe_int) qa_nil)) (qe_cv T.v_MOST_CHECKS)))))) (qss_one (qs_ret qe_bl)) qss_nil)
  (qss_one (qs_ret (qe_callB (c_all rfl) T.z_all (by decide +kernel) (qa_cons (qe_lc (own := [("one", 3)]) (g := gName 3) rfl sc_is_check_within.nd (qi_any rfl (qe_ix rfl (qv 0) qe_int)) (blkOk_by rfl) cg_name (fun _ _ _ _ _ => pg_name (i := 3) sc_is_check_within.nd rfl (.inl rfl)) (fun _ _ _ _ _ => qts_nil) (fun _ _ _ _ _ => (qe_call G_is_check_within (hr.mono (by decide)) T.m_is_check_within T.k_is_check_within T.b_is_check_within (qa_cons (qv 3) (qa_cons (qe_op (o_sub) (qv 1) qe_int) qa_nil))))) qa_nil))))))))))))))) (pure_cw (fun m h => by cases h))
theorem ok_cw1 (T : TX Z.K Z.w mg A B) : FnOk Z.P Z.w Z.K mg base (L2.CX Z.P Z.w) 11 B.a_is_check_within B.d_is_check_within ["value", "left"] (lSp Z (sp_cw 1)) := by
  have G_are_bounds := ok_are_bounds (base := base) T
  have G_are_letters := ok_are_letters (base := base) T
  have G_are_parts := ok_are_parts (base := base) T
  have G_reader_fault := ok_reader_fault (base := base) T
  have G_is_check_within := ok_cw0 (base := base) T
  exact fn_okD (t := t_is_check_within A (sp_cw 0)) T.F_is_check_within sc_is_check_within (fun ds M R EX h => by obtain ⟨_, rfl, _⟩ := h; rfl) (fun _ _ _ _ _ _ hr => (qss_cons (qs_if (QW.qt (qw_or (qt_not (qt_val (qe_isi Tn.tuple rfl (by decide) (qv 0) T.z_isinstance T.z_tuple (by decide +kernel)))) (qw_or (qt_cmp (o := o_lt) (qe_callB (c_len rfl) T.z_len (by decide +kernel) (qa_cons (qv 0) qa_nil)) qe_int) (qw_or1 (qt_not (qt_val (qe_isi Tn.str rfl (by decide) (qe_ix rfl (qv 0) qe_int) T.z_isinstance T.z_str (by decide +kernel)))))))) (qss_one (qs_ret qe_bl)) qss_nil)
  (qss_cons (qs_set (i := 2) sc_is_check_within.nd (qe_ix rfl (qv 0) qe_int))
  (qss_cons (qs_if (qt_cmp (o := o_eq rfl (room64 hr)) (qv 2) (qe_str [108, 111, 110, 103])) (qss_one (qs_ret (qe_and (qe_cmp (o := o_eq rfl (room64 hr)) (qe_callB (c_len rfl) T.z_len (by decide +kernel) (qa_cons (qv 0) qa_nil)) qe_int) (qe_one (qe_call G_are_bounds (hr.mono (by decide)) T.m_are_bounds T.k_are_bounds T.b_are_bounds (qa_cons (qe_ix rfl (qv 0) qe_int) (qa_cons (qe_ix rfl (qv 0) qe_int) qa_nil))))))) qss_nil)
  (qss_cons (qs_if (qt_cmp (o := o_ne rfl (room64 hr)) (qe_callB (c_len rfl) T.z_len (by decide +kernel) (qa_cons (qv 0) qa_nil)) qe_int) (qss_one (qs_ret qe_bl)) qss_nil)
  (qss_cons (qs_if (qt_cmp (o := o_in rfl (room65 hr)) (qv 2) (qe_cv T.v_PLAIN) (by rfl)) (qss_one (qs_ret (qe_call G_are_letters (hr.mono (by decide)) T.m_are_letters T.k_are_letters T.b_are_letters (qa_cons (qe_ix rfl (qv 0) qe_int) qa_nil)))) qss_nil)
  (qss_cons (qs_if (qt_cmp (o := o_eq rfl (room64 hr)) (qv 2) (qe_str [115, 104, 97, 112, 101])) (qss_one (qs_ret (qe_call G_are_parts (hr.mono (by decide)) T.m_are_parts T.k_are_parts T.b_are_parts (qa_cons (qe_ix rfl (qv 0) qe_int) qa_nil)))) qss_nil)
  (qss_cons (qs_if (qt_cmp (o := o_eq rfl (room64 hr)) (qv 2) (qe_str [116, 114, 105, 101, 115])) (qss_one (qs_ret (qe_cmp (o := o_is) (qe_call G_reader_fault (hr.mono (by decide)) T.m_reader_fault T.k_reader_fault T.b_reader_fault (qa_cons (qe_ix rfl (qv 0) qe_int) qa_nil)) qe_non))) qss_nil)
  (qss_cons (qs_if (qt_cmp (o := o_eq rfl (room64 hr)) (qv 1) qe_int) (qss_one (qs_ret qe_bl)) qss_nil)
  (qss_cons (qs_if (qt_cmp (o := o_eq rfl (room64 hr)) (qv 2) (qe_str [110, 111])) (qss_one (qs_ret (qe_call G_is_check_within (hr.mono (by decide)) T.m_is_check_within T.k_is_check_within T.b_is_check_within (qa_cons (qe_ix rfl (qv 0) qe_int) (qa_cons (qe_op (o_sub) (qv 1) qe_int) qa_nil))))) qss_nil)
  (qss_cons (qs_if (QW.qt (qw_or (qt_cmp (o := o_notIn rfl (room65 hr)) (qv 2) (qe_tup (qa_cons (qe_str [97, 108, 108]) (qa_cons (qe_str [115, 111, 109, 101]) qa_nil))) (by rfl)) (qw_or (qt_not (qt_val (qe_isi Tn.tuple rfl (by decide) (qe_ix rfl (qv 0) qe_int) T.z_isinstance T.z_tuple (by decide +kernel)))) (qw_or1 (qt_cmp (o := o_gt) (qe_callB (c_len rfl) T.z_len (by decide +kernel) (qa_cons (qe_ix rfl (qv 0) qe_int) qa_nil)) (qe_cv T.v_MOST_CHECKS)))))) (qss_one (qs_ret qe_bl)) qss_nil)
  (qss_one (qs_ret (qe_callB (c_all rfl) T.z_all (by decide +kernel) (qa_cons (qe_lc (own := [("one", 3)]) (g := gName 3) rfl sc_is_check_within.nd (qi_any rfl (qe_ix rfl (qv 0) qe_int)) (blkOk_by rfl) cg_name (fun _ _ _ _ _ => pg_name (i := 3) sc_is_check_within.nd rfl (.inl rfl)) (fun _ _ _ _ _ => qts_nil) (fun _ _ _ _ _ => (qe_call G_is_check_within (hr.mono (by decide)) T.m_is_check_within T.k_is_check_within T.b_is_check_within (qa_cons (qv 3) (qa_cons (qe_op (o_sub) (qv 1) qe_int) qa_nil))))) qa_nil))))))))))))))) (pure_cw (fun m h => by cases h; rfl))
theorem ok_cw2 (T : TX Z.K Z.w mg A B) : FnOk Z.P Z.w Z.K mg base (L2.CX Z.P Z.w) 13 B.a_is_check_within B.d_is_check_within ["value", "left"] (lSp Z (sp_cw 2)) := by
  have G_are_bounds := ok_are_bounds (base := base) T
  have G_are_letters := ok_are_letters (base := base) T
  have G_are_parts := ok_are_parts (base := base) T
  have G_reader_fault := ok_reader_fault (base := base) T
  have G_is_check_within := ok_cw1 (base := base) T
  exact fn_okD (t := t_is_check_within A (sp_cw 1)) T.F_is_check_within sc_is_check_within (fun ds M R EX h => by obtain ⟨_, rfl, _⟩ := h; rfl) (fun _ _ _ _ _ _ hr => (qss_cons (qs_if (QW.qt (qw_or (qt_not (qt_val (qe_isi Tn.tuple rfl (by decide) (qv 0) T.z_isinstance T.z_tuple (by decide +kernel)))) (qw_or (qt_cmp (o := o_lt) (qe_callB (c_len rfl) T.z_len (by decide +kernel) (qa_cons (qv 0) qa_nil)) qe_int) (qw_or1 (qt_not (qt_val (qe_isi Tn.str rfl (by decide) (qe_ix rfl (qv 0) qe_int) T.z_isinstance T.z_str (by decide +kernel)))))))) (qss_one (qs_ret qe_bl)) qss_nil)
  (qss_cons (qs_set (i := 2) sc_is_check_within.nd (qe_ix rfl (qv 0) qe_int))
  (qss_cons (qs_if (qt_cmp (o := o_eq rfl (room64 hr)) (qv 2) (qe_str [108, 111, 110, 103])) (qss_one (qs_ret (qe_and (qe_cmp (o := o_eq rfl (room64 hr)) (qe_callB (c_len rfl) T.z_len (by decide +kernel) (qa_cons (qv 0) qa_nil)) qe_int) (qe_one (qe_call G_are_bounds (hr.mono (by decide)) T.m_are_bounds T.k_are_bounds T.b_are_bounds (qa_cons (qe_ix rfl (qv 0) qe_int) (qa_cons (qe_ix rfl (qv 0) qe_int) qa_nil))))))) qss_nil)
  (qss_cons (qs_if (qt_cmp (o := o_ne rfl (room64 hr)) (qe_callB (c_len rfl) T.z_len (by decide +kernel) (qa_cons (qv 0) qa_nil)) qe_int) (qss_one (qs_ret qe_bl)) qss_nil)
  (qss_cons (qs_if (qt_cmp (o := o_in rfl (room65 hr)) (qv 2) (qe_cv T.v_PLAIN) (by rfl)) (qss_one (qs_ret (qe_call G_are_letters (hr.mono (by decide)) T.m_are_letters T.k_are_letters T.b_are_letters (qa_cons (qe_ix rfl (qv 0) qe_int) qa_nil)))) qss_nil)
  (qss_cons (qs_if (qt_cmp (o := o_eq rfl (room64 hr)) (qv 2) (qe_str [115, 104, 97, 112, 101])) (qss_one (qs_ret (qe_call G_are_parts (hr.mono (by decide)) T.m_are_parts T.k_are_parts T.b_are_parts (qa_cons (qe_ix rfl (qv 0) qe_int) qa_nil)))) qss_nil)
  (qss_cons (qs_if (qt_cmp (o := o_eq rfl (room64 hr)) (qv 2) (qe_str [116, 114, 105, 101, 115])) (qss_one (qs_ret (qe_cmp (o := o_is) (qe_call G_reader_fault (hr.mono (by decide)) T.m_reader_fault T.k_reader_fault T.b_reader_fault (qa_cons (qe_ix rfl (qv 0) qe_int) qa_nil)) qe_non))) qss_nil)
  (qss_cons (qs_if (qt_cmp (o := o_eq rfl (room64 hr)) (qv 1) qe_int) (qss_one (qs_ret qe_bl)) qss_nil)
  (qss_cons (qs_if (qt_cmp (o := o_eq rfl (room64 hr)) (qv 2) (qe_str [110, 111])) (qss_one (qs_ret (qe_call G_is_check_within (hr.mono (by decide)) T.m_is_check_within T.k_is_check_within T.b_is_check_within (qa_cons (qe_ix rfl (qv 0) qe_int) (qa_cons (qe_op (o_sub) (qv 1) qe_int) qa_nil))))) qss_nil)
  (qss_cons (qs_if (QW.qt (qw_or (qt_cmp (o := o_notIn rfl (room65 hr)) (qv 2) (qe_tup (qa_cons (qe_str [97, 108, 108]) (qa_cons (qe_str [115, 111, 109, 101]) qa_nil))) (by rfl)) (qw_or (qt_not (qt_val (qe_isi Tn.tuple rfl (by decide) (qe_ix rfl (qv 0) qe_int) T.z_isinstance T.z_tuple (by decide +kernel)))) (qw_or1 (qt_cmp (o := o_gt) (qe_callB (c_len rfl) T.z_len (by decide +kernel) (qa_cons (qe_ix rfl (qv 0) qe_int) qa_nil)) (qe_cv T.v_MOST_CHECKS)))))) (qss_one (qs_ret qe_bl)) qss_nil)
  (qss_one (qs_ret (qe_callB (c_all rfl) T.z_all (by decide +kernel) (qa_cons (qe_lc (own := [("one", 3)]) (g := gName 3) rfl sc_is_check_within.nd (qi_any rfl (qe_ix rfl (qv 0) qe_int)) (blkOk_by rfl) cg_name (fun _ _ _ _ _ => pg_name (i := 3) sc_is_check_within.nd rfl (.inl rfl)) (fun _ _ _ _ _ => qts_nil) (fun _ _ _ _ _ => (qe_call G_is_check_within (hr.mono (by decide)) T.m_is_check_within T.k_is_check_within T.b_is_check_within (qa_cons (qv 3) (qa_cons (qe_op (o_sub) (qv 1) qe_int) qa_nil))))) qa_nil))))))))))))))) (pure_cw (fun m h => by cases h; rfl))
theorem ok_is_check (T : TX Z.K Z.w mg A B) : FnOk Z.P Z.w Z.K mg base (L2.CX Z.P Z.w) 15 B.a_is_check B.d_is_check ["value"] (lSp Z (sp_is_check A)) := by
  have G_is_check_within := ok_cw2 (base := base) T
  exact fn_okD (t := t_is_check A) T.F_is_check sc_is_check (fun ds M R EX h => by obtain ⟨_, rfl, _⟩ := h; rfl) (fun _ _ _ _ _ _ hr => (qss_one (qs_ret (qe_call G_is_check_within (hr.mono (by decide)) T.m_is_check_within T.k_is_check_within T.b_is_check_within (qa_cons (qv 0) (qa_cons (qe_cv T.v_DEEPEST) qa_nil)))))) (pure_is_check)
theorem ok_Program_init (T : TX Z.K Z.w mg A B) : FnOk Z.P Z.w Z.K mg base (L2.CX Z.P Z.w) 17 B.a_Program_init B.d_Program_init ["self", "check", "reader"] (lSp Z (sp_Program_init A)) := by
  have G_is_check := ok_is_check (base := base) T
  have G_check_reader := ok_check_reader (base := base) T
  exact fn_okD (t := t_Program_init A) T.F_Program_init sc_Program_init (fun ds M R EX h => by obtain ⟨_, _, _, _, rfl, _⟩ := h; rfl) (fun _ _ _ _ _ _ hr => (qss_cons (qs_if (qt_not (qt_val (qe_call G_is_check (hr.mono (by decide)) T.m_is_check T.k_is_check T.b_is_check (qa_cons (qv 1) qa_nil)))) (qss_one (qs_raise0 rfl T.e_cBC)) qss_nil)
  (qss_cons (qs_expr (qe_call G_check_reader (hr.mono (by decide)) T.m_check_reader T.k_check_reader T.b_check_reader (qa_cons (qv 2) qa_nil)))
  (qss_cons (qs_fld T.cl_cPr T.a_cPr_check (qv 0) (qv 1))
  (qss_one (qs_fld T.cl_cPr T.a_cPr_reader (qv 0) (qv 2))))))) (pure_Program_init)
theorem ok_first_text (T : TX Z.K Z.w mg A B) {ks kg : Clo} {Cs Cg : Heap → Hp → Prop} {gr : Gr} {Pm : DM → Prop} (Oks : CloOk Z.P Z.w Z.K mg base (L2.CX Z.P Z.w) 8 ks Cs (lSp Z (sps gr Pm))) (Okg : CloOk Z.P Z.w Z.K mg base (L2.CX Z.P Z.w) 8 kg Cg (lSp Z (spg gr Pm))) (Sts : Stays Cs) (Stg : Stays Cg) : FnOkC Z.P Z.w Z.K mg base (L2.CX Z.P Z.w) 9 B.a_first_text B.d_first_text ["begin", "step", "is_goal"] (fun h H => Cs h H ∧ Cg h H) (lSp Z (sp_first_text ks kg gr Pm)) := by
  exact fn_okC (t := fun _ => t_first_text A ks kg gr Pm) T.F_first_text rfl sc_first_text (fun ds M R EX h => by obtain ⟨_, rfl, _⟩ := h; rfl) (fun _ _ _ _ _ hr hC => (qss_cons (qs_set (i := 3) sc_first_text.nd (qe_disp rfl rfl rfl (room65 hr) (qv 0) qe_bl))
  (qss_cons (qs_set (i := 4) sc_first_text.nd (qe_lst (qa_cons (qe_tup (qa_cons (qv 0) (qa_cons (qe_str []) qa_nil))) qa_nil)))
  (qss_cons (qs_set (i := 5) sc_first_text.nd qe_int)
  (qss_cons (qs_while (passes_of rfl) (qt_cmp (o := o_lt) (qv 5) (qe_callB (c_len rfl) T.z_len (by decide +kernel) (qa_cons (qv 4) qa_nil))) (qss_cons (qs_asg (qe_ix rfl (qv 4) (qv 5)) (qg_tup rfl rfl (qgs_cons (qg_name sc_first_text.nd) (qgs_cons (qg_name sc_first_text.nd) qgs_nil))))
  (qss_cons (qs_aug (i := 5) sc_first_text.nd a_add qe_int)
  (qss_cons (qs_if (qt_val (qe_clo (i := 2) (Cf := fun _ => Cg) (fun _ => Okg) (fun _ => Stg) (fun _ => hC.2) hr (by decide) (qa_cons (qv 6) qa_nil))) (qss_one (qs_ret (qv 7))) qss_nil)
  (qss_one (qs_for (passes_of rfl) rfl (qi_any rfl (qe_cv T.v_SIGNS)) (qg_name sc_first_text.nd) (qss_cons (qs_set (i := 9) sc_first_text.nd (qe_clo (i := 1) (Cf := fun _ => Cs) (fun _ => Oks) (fun _ => Sts) (fun _ => hC.1) hr (by decide) (qa_cons (qv 6) (qa_cons (qv 8) qa_nil))))
  (qss_one (qs_if (QW.qt (qw_and (qt_cmp (o := o_isNot) (qv 9) qe_non) (qw_and1 (qt_cmp (o := o_notInN rfl rfl rfl (room65 hr)) (qv 9) (qv 3) (by rfl))))) (qss_cons (qs_asg qe_bl (qg_subN rfl rfl rfl (room65 hr) (qv 3) (qv 9)))
  (qss_one (qs_expr (qe_bm rfl PySem.F.plainAttrs_list PySem.F.slot_list_append PySem.F.type_list_append (m_append) (qv 4) (qa_cons (qe_tup (qa_cons (qv 9) (qa_cons (qe_op (o_add rfl) (qv 7) (qv 8)) qa_nil))) qa_nil))))) qss_nil)))))))))
  (qss_one (qs_ret qe_non))))))) (fun _ => pure_first_text)
theorem ok_figures_behind (T : TX Z.K Z.w mg A B) : FnOk Z.P Z.w Z.K mg base (L2.CX Z.P Z.w) 1 B.a_figures_behind B.d_figures_behind ["known", "sign"] (lSp Z (sp_figures_behind A)) := by
  skip
  exact fn_okD (t := t_figures_behind A) T.F_figures_behind sc_figures_behind (fun ds M R EX h => by obtain ⟨_, _, rfl, _⟩ := h; rfl) (fun _ _ _ _ _ _ hr => (qss_cons (qs_asg (qv 0) (qg_tup rfl rfl (qgs_cons (qg_name sc_figures_behind.nd) (qgs_cons (qg_name sc_figures_behind.nd) (qgs_cons (qg_name sc_figures_behind.nd) qgs_nil)))))
  (qss_cons (qs_if (qt_cmp (o := o_eq rfl (room64 hr)) (qv 1) (qe_str [46])) (qss_one (qs_ret (qe_tup (qa_cons (qv 2) (qa_cons (qv 3) (qa_cons qe_bl qa_nil)))))) qss_nil)
  (qss_cons (qs_if (qt_cmp (o := o_notIn rfl (room65 hr)) (qv 1) (qe_cv T.v_FIGURES) (by rfl)) (qss_one (qs_ret (qv 0))) qss_nil)
  (qss_cons (qs_if (QW.qt (qw_or (qt_cmp (o := o_gt) (qv 3) qe_int) (qw_or1 (qt_cmp (o := o_ne rfl (room64 hr)) (qv 1) (qe_str [48]))))) (qss_one (qs_set (i := 3) sc_figures_behind.nd (qe_callB (c_min rfl) T.z_min (by decide +kernel) (qa_cons (qe_op (o_add rfl) (qv 3) qe_int) (qa_cons qe_int qa_nil))))) qss_nil)
  (qss_one (qs_ret (qe_tup (qa_cons (qe_ifExp (qt_cmp (o := o_ne rfl (room64 hr)) (qv 2) (qe_str [])) (qv 2) (qv 1)) (qa_cons (qv 3) (qa_cons (qv 4) qa_nil))))))))))) (pure_figures_behind)
theorem ok_are_unlike_numbers (T : TX Z.K Z.w mg A B) : FnOk Z.P Z.w Z.K mg base (L2.CX Z.P Z.w) 1 B.a_are_unlike_numbers B.d_are_unlike_numbers ["one", "other", "known"] (lSp Z (sp_are_unlike_numbers A)) := by
  skip
  exact fn_okD (t := t_are_unlike_numbers A) T.F_are_unlike_numbers sc_are_unlike_numbers (fun ds M R EX h => by obtain ⟨_, _, _, rfl, _⟩ := h; rfl) (fun _ _ _ _ _ _ hr => (qss_cons (qs_asg (qv 2) (qg_tup rfl rfl (qgs_cons (qg_name sc_are_unlike_numbers.nd) (qgs_cons (qg_name sc_are_unlike_numbers.nd) (qgs_cons (qg_name sc_are_unlike_numbers.nd) qgs_nil)))))
  (qss_cons (qs_if (QW.qt (qw_and (qt_cmp (o := o_gt) (qv 4) qe_int) (qw_and (qt_val (qv 5)) (qw_and1 (qt_cmp (o := o_ne rfl (room64 hr)) (qe_cmp (o := o_in rfl (room65 hr)) (qe_ix rfl (qv 0) qe_int) (qe_cv T.v_PARTS) (by rfl)) (qe_cmp (o := o_in rfl (room65 hr)) (qe_ix rfl (qv 1) qe_int) (qe_cv T.v_PARTS) (by rfl))))))) (qss_one (qs_ret qe_bl)) qss_nil)
  (qss_one (qs_ret (qe_and (qe_cmp (o := o_gt) (qv 4) qe_int) (qe_and (qe_cmp (o := o_eq rfl (room64 hr)) (qv 3) (qe_str [48])) (qe_one (qe_cmp (o := o_ne rfl (room64 hr)) (qe_cmp (o := o_eq rfl (room64 hr)) (qe_ix rfl (qv 0) qe_int) (qe_str [101, 105, 103, 104, 116])) (qe_cmp (o := o_eq rfl (room64 hr)) (qe_ix rfl (qv 1) qe_int) (qe_str [101, 105, 103, 104, 116]))))))))))) (pure_are_unlike_numbers)
def st_text_for_step : Stmt := (defBody s_text_for).getD 0 (.Pass ⟨0, 0, 0, 0⟩)
theorem nsc_text_for_step : NScope ["spot", "sign", "one", "other", "here", "there"] ["spot", "sign"] ["one", "other"] (C8.fnScope st_text_for_step) := nscope_by (by decide +kernel)
theorem hfr_text_for_step : ∀ y ∈ (C8.fnScope st_text_for_step).names, y.2 = .free → (defScope s_text_for).names.lookup y.1 = some .cell ∨ (defScope s_text_for).names.lookup y.1 = some .free := by decide +kernel
theorem hin_text_for_step : ∀ y ∈ (["one", "other"] : List Str), (y, NameKind.free) ∈ (C8.fnScope st_text_for_step).names := by decide +kernel
abbrev mk_text_for_step (cs : List (Str × Addr)) : Addr → NdefX.NF := NdefX.NF.of st_text_for_step "step" ("text_for" ++ ".<locals>." ++ "step") (cloFrom cs (C8.fnScope st_text_for_step).names [])
theorem nok_text_for_step (T : TX Z.K Z.w mg A B)  {f c : Addr} {cs : List (Str × Addr)} : NdefX.NOk Z.P Z.w Z.K mg base (L2.CX Z.P Z.w) 8 f (mk_text_for_step cs c) ["spot", "sign"] ["one", "other"] (lSpN Z (sp_text_for_step A)) := by
  have G_behind := ok_behind (base := base) T
  have G_figures_behind := ok_figures_behind (base := base) T
  exact nok_D (t := t_text_for_step A) nsc_text_for_step (fun _ _ _ us hl => match us, hl with | [_, _], _ => rfl) (fun wd ds M R EX h => by obtain ⟨_, _, _, _, _, _, _, rfl, _⟩ := h; rfl) (fun _ _ _ _ _ hr => (qss_cons (qs_par (i := 4) (j := 5) rfl nsc_text_for_step.nd rfl rfl (by decide) rfl rfl (qa_cons (qe_call G_behind (hr.mono (by decide)) T.m_behind T.k_behind T.b_behind (qa_cons (qv 2) (qa_cons (qe_ix rfl (qv 0) qe_int) (qa_cons (qv 1) qa_nil)))) (qa_cons (qe_call G_behind (hr.mono (by decide)) T.m_behind T.k_behind T.b_behind (qa_cons (qv 3) (qa_cons (qe_ix rfl (qv 0) qe_int) (qa_cons (qv 1) qa_nil)))) qa_nil)) (by rfl))
  (qss_cons (qs_if (QW.qt (qw_and (qt_cmp (o := o_is) (qv 4) qe_non) (qw_and1 (qt_cmp (o := o_is) (qv 5) qe_non)))) (qss_one (qs_ret qe_non)) qss_nil)
  (qss_one (qs_ret (qe_tup (qa_cons (qv 4) (qa_cons (qv 5) (qa_cons (qe_call G_figures_behind (hr.mono (by decide)) T.m_figures_behind T.k_figures_behind T.b_figures_behind (qa_cons (qe_ix rfl (qv 0) qe_int) (qa_cons (qv 1) qa_nil))) qa_nil))))))))) (pure_text_for_step)
abbrev OkW0 (Z : ZP) (mg : Str → Option Value) (base : Heap) : Clo → Want → Prop := fun k w => CloOk Z.P Z.w Z.K mg base (L2.CX Z.P Z.w) 3 k (fun _ _ => True) (lSp Z (spW w))
def st_text_for_is_goal : Stmt := (defBody s_text_for).getD 1 (.Pass ⟨0, 0, 0, 0⟩)
theorem nsc_text_for_is_goal : NScope ["spot", "is_wanted", "one", "other"] ["spot"] ["is_wanted", "one", "other"] (C8.fnScope st_text_for_is_goal) := nscope_by (by decide +kernel)
theorem hfr_text_for_is_goal : ∀ y ∈ (C8.fnScope st_text_for_is_goal).names, y.2 = .free → (defScope s_text_for).names.lookup y.1 = some .cell ∨ (defScope s_text_for).names.lookup y.1 = some .free := by decide +kernel
theorem hin_text_for_is_goal : ∀ y ∈ (["is_wanted", "one", "other"] : List Str), (y, NameKind.free) ∈ (C8.fnScope st_text_for_is_goal).names := by decide +kernel
abbrev mk_text_for_is_goal (cs : List (Str × Addr)) : Addr → NdefX.NF := NdefX.NF.of st_text_for_is_goal "is_goal" ("text_for" ++ ".<locals>." ++ "is_goal") (cloFrom cs (C8.fnScope st_text_for_is_goal).names [])
theorem nok_text_for_is_goal (T : TX Z.K Z.w mg A B) {OkW : Clo → Want → Prop} (hW : ∀ k w, OkW k w → CloOk Z.P Z.w Z.K mg base (L2.CX Z.P Z.w) 3 k (fun _ _ => True) (lSp Z (spW w))) {f c : Addr} {cs : List (Str × Addr)} : NdefX.NOk Z.P Z.w Z.K mg base (L2.CX Z.P Z.w) 8 f (mk_text_for_is_goal cs c) ["spot"] ["is_wanted", "one", "other"] (lSpN Z (sp_text_for_is_goal A OkW)) := by
  have G_is_whole := ok_is_whole (base := base) T
  have G_are_unlike_numbers := ok_are_unlike_numbers (base := base) T
  exact nok_D (t := t_text_for_is_goal A OkW) nsc_text_for_is_goal (fun _ _ _ us hl => match us, hl with | [_], _ => rfl) (fun wd ds M R EX h => by obtain ⟨_, _, _, _, _, _, _, _, _, rfl, _⟩ := h; rfl) (fun _ _ _ _ _ hr => (qss_one (qs_ret (qe_clo (i := 1) (Cf := fun _ _ _ => True) (fun z => hW z.1.1 z.1.2 z.2) (fun _ => stays_true) (fun _ => trivial) hr (by decide) (qa_cons (qe_call G_is_whole (hr.mono (by decide)) T.m_is_whole T.k_is_whole T.b_is_whole (qa_cons (qv 2) (qa_cons (qe_ix rfl (qv 0) qe_int) qa_nil))) (qa_cons (qe_call G_is_whole (hr.mono (by decide)) T.m_is_whole T.k_is_whole T.b_is_whole (qa_cons (qv 3) (qa_cons (qe_ix rfl (qv 0) qe_int) qa_nil))) (qa_cons (qe_call G_are_unlike_numbers (hr.mono (by decide)) T.m_are_unlike_numbers T.k_are_unlike_numbers T.b_are_unlike_numbers (qa_cons (qv 2) (qa_cons (qv 3) (qa_cons (qe_ix rfl (qv 0) qe_int) qa_nil)))) qa_nil))))))) (pure_text_for_is_goal)
theorem ok_text_for (T : TX Z.K Z.w mg A B) (TB : TBX base mg Z.T B) : FnOk Z.P Z.w Z.K mg base (L2.CX Z.P Z.w) 11 B.a_text_for B.d_text_for ["one", "other", "is_wanted"] (lSp Z (sp_text_for A (OkW0 Z mg base))) := by
  obtain ⟨c, P, TB⟩ := TB.t_text_for
  refine FnOkC.ok (fn_okC (cv := .ref c) (t := fun cs => t_text_for A (OkW0 Z mg base) (mk_text_for_step cs) (mk_text_for_is_goal cs)) T.F_text_for TB.code sc_text_for (fun ds M R EX h => by obtain ⟨_, _, _, _, _, rfl, _⟩ := h; rfl) (fun Ar outer s H E hr _ => ?_) (fun cs => pure_text_for _ _ (fun _ => rfl) (fun _ => rfl)))
  refine qss_cons (qs_ndef (st := st_text_for_step) (i := 3) rfl TB.tb rfl TB.mem rfl TB.un hfr_text_for_step sc_text_for.nd) (qss_cons (qs_ndef (st := st_text_for_is_goal) (i := 4) rfl TB.tb rfl TB.mem rfl TB.un hfr_text_for_is_goal sc_text_for.nd) (qss_one (qs_ret (qe_callC (k := 9) (j := 10) (ι := TfZ (OkW0 Z mg base)) (C := fun z h H => CellsD Z (cloFrom (cellsFrom (s.heap.objs.size + 1) (defScope s_text_for).names []) (C8.fnScope st_text_for_step).names []) ["one", "other"] [z.r.D, z.q.D] h H ∧ CellsD Z (cloFrom (cellsFrom (s.heap.objs.size + 1) (defScope s_text_for).names []) (C8.fnScope st_text_for_is_goal).names []) ["is_wanted", "one", "other"] [.ref z.kw.f, z.r.D, z.q.D] h H)
    (fun z => ?_) hr (by decide) T.m_first_text T.k_first_text T.b_first_text (qa_cons (qe_tup (qa_cons (qe_cv T.v_FIRST) (qa_cons (qe_cv T.v_FIRST) (qa_cons (qe_tup (qa_cons (qe_str []) (qa_cons qe_int (qa_cons qe_bl qa_nil)))) qa_nil)))) (qa_cons (qv 3) (qa_cons (qv 4) qa_nil))) fun z pz σ ρ M H' s' I rl sd => ?_))))
  · have Oks := (CloOk.nokD (nok_text_for_step (base := base) T (f := z.fs) (c := z.cs) (cs := cellsFrom (s.heap.objs.size + 1) (defScope s_text_for).names [])) [z.r.D, z.q.D]).imp (lSp_imp (sp' := sps z.g (CloM z.kw)) fun ds M R EX ⟨d, c, e, ⟨o, p, k, e2, _⟩, _, _, h⟩ => ⟨z.r, z.q, o, p, k, c, rfl, by rw [e, e2], by subst e2; unfold TfZ.g at h; rw [gr2_st] at h; exact h⟩)
    have Okg := (CloOk.nokD (nok_text_for_is_goal (base := base) T (OkW := OkW0 Z mg base) (fun _ _ h => h) (f := z.fg) (c := z.cg) (cs := cellsFrom (s.heap.objs.size + 1) (defScope s_text_for).names [])) [.ref z.kw.f, z.r.D, z.q.D]).imp (lSp_imp (sp' := spg z.g (CloM z.kw)) fun ds M R EX ⟨d, e, ⟨o, p, k, e2, _⟩, cm, h⟩ => ⟨z.r, z.q, o, p, k, z.kw, z.want, z.ok, rfl, by rw [e, e2], cm, by subst e2; unfold TfZ.g at h; rw [gr2_gl] at h; exact h⟩)
    exact ok_first_text T Oks Okg stays_cellsD stays_cellsD
  · obtain ⟨e0, e1, e2⟩ := sd
    exact ⟨cellsD_made (js := [0, 1]) I rl hfr_text_for_step hin_text_for_step rfl (by rw [List.map_cons, List.map_cons, e0, e1]; rfl), cellsD_made (js := [2, 0, 1]) I rl hfr_text_for_is_goal hin_text_for_is_goal rfl (by rw [List.map_cons, List.map_cons, List.map_cons, e0, e1, e2]; rfl)⟩
theorem ok_check_readers (T : TX Z.K Z.w mg A B) : FnOk Z.P Z.w Z.K mg base (L2.CX Z.P Z.w) 5 B.a_check_readers B.d_check_readers ["readers"] (lSp Z (sp_check_readers A)) := by
  have G_check_reader := ok_check_reader (base := base) T
  exact fn_okD (t := t_check_readers A) T.F_check_readers sc_check_readers (fun ds M R EX h => by obtain ⟨_, _, rfl, _⟩ := h; rfl) (fun _ _ _ _ _ _ hr => (qss_one (qs_for (passes_of rfl) rfl (qi_any rfl (qv 0)) (qg_name sc_check_readers.nd) (qss_one (qs_expr (qe_call G_check_reader (hr.mono (by decide)) T.m_check_reader T.k_check_reader T.b_check_reader (qa_cons (qv 1) qa_nil))))))) (pure_check_readers)
def ex_clash_l0 : Expr := retArg 2 ((defBody s_clash).getD 1 (.Pass ⟨0, 0, 0, 0⟩))
theorem nsc_clash_l0 : NdefX.NScope ["first", "second", "unlikely"] ["first", "second", "unlikely"] [] (laScope ex_clash_l0) := NdefX.nscope_by (by decide +kernel)
theorem hfr_clash_l0 : ∀ y ∈ (laScope ex_clash_l0).names, y.2 = .free → (defScope s_clash).names.lookup y.1 = some .cell ∨ (defScope s_clash).names.lookup y.1 = some .free := by decide +kernel
abbrev mk_clash_l0 : Addr → NL := laNL ex_clash_l0 ("clash" ++ ".<locals>." ++ "<lambda>") []
theorem clo_clash_l0 (T : TX Z.K Z.w mg A B) {f c : Addr} : CloOk Z.P Z.w Z.K mg base (L2.CX Z.P Z.w) 3 (cloNL f (mk_clash_l0 c)) (fun _ _ => True) (lSp Z (spW w_clash)) := by
  skip
  exact clo_lam0 (t := t_l_clash) rfl nsc_clash_l0 (fun _ _ us hl => match us, hl with | [_, _, _], _ => rfl) (fun ds M R EX h => by obtain ⟨_, _, _, rfl, _⟩ := h; rfl) (fun _ _ _ _ _ hr => (qe_and (qv 0) (qe_and (qv 1) (qe_one (qv 2))))) (pure_l_clash)
theorem ok_clash (T : TX Z.K Z.w mg A B) (TB : TBX base mg Z.T B) : FnOk Z.P Z.w Z.K mg base (L2.CX Z.P Z.w) 13 B.a_clash B.d_clash ["one", "other"] (lSp Z (sp_two A w_clash)) := by
  have G_text_for := ok_text_for (base := base) T TB
  obtain ⟨c, P, TB⟩ := TB.t_clash
  have G_check_readers := ok_check_readers (base := base) T
  refine FnOkC.ok (fn_okC (k := 12) (cv := .ref c) (t := fun cs => t_two A (OkW0 Z mg base) mk_clash_l0) T.F_clash TB.code sc_clash (fun ds M R EX h => by obtain ⟨_, _, rfl, _⟩ := h; rfl) (fun Ar outer s H E hr _ => ?_) (fun cs => pure_two mk_clash_l0 (fun _ => rfl) (by decide) fun f c => clo_clash_l0 T))
  exact qss_cons (qs_expr (qe_call G_check_readers (hr.mono (by decide)) T.m_check_readers T.k_check_readers T.b_check_readers (qa_cons (qe_lst (qa_cons (qv 0) (qa_cons (qv 1) qa_nil))) qa_nil))) (qss_one (qs_ret (qe_call G_text_for (hr.mono (by decide)) T.m_text_for T.k_text_for T.b_text_for (qa_cons (qv 0) (qa_cons (qv 1) (qa_cons (qe_lam TB.tb rfl TB.mem rfl TB.un hfr_clash_l0) qa_nil))))))
def ex_unlike_l0 : Expr := retArg 2 ((defBody s_unlike).getD 1 (.Pass ⟨0, 0, 0, 0⟩))
theorem nsc_unlike_l0 : NdefX.NScope ["first", "second", "unlikely"] ["first", "second", "unlikely"] [] (laScope ex_unlike_l0) := NdefX.nscope_by (by decide +kernel)
theorem hfr_unlike_l0 : ∀ y ∈ (laScope ex_unlike_l0).names, y.2 = .free → (defScope s_unlike).names.lookup y.1 = some .cell ∨ (defScope s_unlike).names.lookup y.1 = some .free := by decide +kernel
abbrev mk_unlike_l0 : Addr → NL := laNL ex_unlike_l0 ("unlike" ++ ".<locals>." ++ "<lambda>") []
theorem clo_unlike_l0 (T : TX Z.K Z.w mg A B) {f c : Addr} : CloOk Z.P Z.w Z.K mg base (L2.CX Z.P Z.w) 3 (cloNL f (mk_unlike_l0 c)) (fun _ _ => True) (lSp Z (spW w_unlike)) := by
  skip
  exact clo_lam0 (t := t_l_unlike) rfl nsc_unlike_l0 (fun _ _ us hl => match us, hl with | [_, _, _], _ => rfl) (fun ds M R EX h => by obtain ⟨_, _, _, rfl, _⟩ := h; rfl) (fun _ _ _ _ _ hr => (qe_or (qe_cmp (o := o_ne rfl (room64 hr)) (qv 0) (qv 1)) (qe_one (qe_and (qv 0) (qe_one (qv 2)))))) (pure_l_unlike)
theorem ok_unlike (T : TX Z.K Z.w mg A B) (TB : TBX base mg Z.T B) : FnOk Z.P Z.w Z.K mg base (L2.CX Z.P Z.w) 13 B.a_unlike B.d_unlike ["one", "other"] (lSp Z (sp_two A w_unlike)) := by
  have G_text_for := ok_text_for (base := base) T TB
  obtain ⟨c, P, TB⟩ := TB.t_unlike
  have G_check_readers := ok_check_readers (base := base) T
  refine FnOkC.ok (fn_okC (k := 12) (cv := .ref c) (t := fun cs => t_two A (OkW0 Z mg base) mk_unlike_l0) T.F_unlike TB.code sc_unlike (fun ds M R EX h => by obtain ⟨_, _, rfl, _⟩ := h; rfl) (fun Ar outer s H E hr _ => ?_) (fun cs => pure_two mk_unlike_l0 (fun _ => rfl) (by decide) fun f c => clo_unlike_l0 T))
  exact qss_cons (qs_expr (qe_call G_check_readers (hr.mono (by decide)) T.m_check_readers T.k_check_readers T.b_check_readers (qa_cons (qe_lst (qa_cons (qv 0) (qa_cons (qv 1) qa_nil))) qa_nil))) (qss_one (qs_ret (qe_call G_text_for (hr.mono (by decide)) T.m_text_for T.k_text_for T.b_text_for (qa_cons (qv 0) (qa_cons (qv 1) (qa_cons (qe_lam TB.tb rfl TB.mem rfl TB.un hfr_unlike_l0) qa_nil))))))
def ex_beyond_l0 : Expr := retArg 2 ((defBody s_beyond).getD 1 (.Pass ⟨0, 0, 0, 0⟩))
theorem nsc_beyond_l0 : NdefX.NScope ["first", "second", "unlikely"] ["first", "second", "unlikely"] [] (laScope ex_beyond_l0) := NdefX.nscope_by (by decide +kernel)
theorem hfr_beyond_l0 : ∀ y ∈ (laScope ex_beyond_l0).names, y.2 = .free → (defScope s_beyond).names.lookup y.1 = some .cell ∨ (defScope s_beyond).names.lookup y.1 = some .free := by decide +kernel
abbrev mk_beyond_l0 : Addr → NL := laNL ex_beyond_l0 ("beyond" ++ ".<locals>." ++ "<lambda>") []
theorem clo_beyond_l0 (T : TX Z.K Z.w mg A B) {f c : Addr} : CloOk Z.P Z.w Z.K mg base (L2.CX Z.P Z.w) 3 (cloNL f (mk_beyond_l0 c)) (fun _ _ => True) (lSp Z (spW w_beyond)) := by
  skip
  exact clo_lam0 (t := t_l_beyond) rfl nsc_beyond_l0 (fun _ _ us hl => match us, hl with | [_, _, _], _ => rfl) (fun ds M R EX h => by obtain ⟨_, _, _, rfl, _⟩ := h; rfl) (fun _ _ _ _ _ hr => (qe_and (qv 0) (qe_one (qe_or (qe_not (qv 1)) (qe_one (qv 2)))))) (pure_l_beyond)
theorem ok_beyond (T : TX Z.K Z.w mg A B) (TB : TBX base mg Z.T B) : FnOk Z.P Z.w Z.K mg base (L2.CX Z.P Z.w) 13 B.a_beyond B.d_beyond ["one", "other"] (lSp Z (sp_two A w_beyond)) := by
  have G_text_for := ok_text_for (base := base) T TB
  obtain ⟨c, P, TB⟩ := TB.t_beyond
  have G_check_readers := ok_check_readers (base := base) T
  refine FnOkC.ok (fn_okC (k := 12) (cv := .ref c) (t := fun cs => t_two A (OkW0 Z mg base) mk_beyond_l0) T.F_beyond TB.code sc_beyond (fun ds M R EX h => by obtain ⟨_, _, rfl, _⟩ := h; rfl) (fun Ar outer s H E hr _ => ?_) (fun cs => pure_two mk_beyond_l0 (fun _ => rfl) (by decide) fun f c => clo_beyond_l0 T))
  exact qss_cons (qs_expr (qe_call G_check_readers (hr.mono (by decide)) T.m_check_readers T.k_check_readers T.b_check_readers (qa_cons (qe_lst (qa_cons (qv 0) (qa_cons (qv 1) qa_nil))) qa_nil))) (qss_one (qs_ret (qe_call G_text_for (hr.mono (by decide)) T.m_text_for T.k_text_for T.b_text_for (qa_cons (qv 0) (qa_cons (qv 1) (qa_cons (qe_lam TB.tb rfl TB.mem rfl TB.un hfr_beyond_l0) qa_nil))))))
theorem ok_stands_for (T : TX Z.K Z.w mg A B) (TB : TBX base mg Z.T B) : FnOk Z.P Z.w Z.K mg base (L2.CX Z.P Z.w) 15 B.a_stands_for B.d_stands_for ["reader", "others"] (lSp Z (sp_stands_for A)) := by
  have G_check_readers := ok_check_readers (base := base) T
  have G_beyond := ok_beyond (base := base) T TB
  exact fn_okD (t := t_stands_for A) T.F_stands_for sc_stands_for (fun ds M R EX h => by obtain ⟨_, _, _, rfl, _⟩ := h; rfl) (fun _ _ _ _ _ _ hr => (qss_cons (qs_expr (qe_call G_check_readers (hr.mono (by decide)) T.m_check_readers T.k_check_readers T.b_check_readers (qa_cons (qe_op (o_add rfl) (qe_lst (qa_cons (qv 0) qa_nil)) (qe_callTy (c_list rfl) T.z_list (by decide +kernel) (qa_cons (qv 1) qa_nil))) qa_nil)))
  (qss_one (qs_ret (qe_lc (own := [("other", 2)]) (g := gName 2) rfl sc_stands_for.nd (qi_any rfl (qv 1)) (blkOk_by rfl) cg_name (fun _ _ _ _ _ => pg_name (i := 2) sc_stands_for.nd rfl (.inl rfl)) (fun _ _ _ _ _ => (qts_one (qt_cmp (o := o_is) (qe_call G_beyond (hr.mono (by decide)) T.m_beyond T.k_beyond T.b_beyond (qa_cons (qv 0) (qa_cons (qv 2) qa_nil))) qe_non))) (fun _ _ _ _ _ => (qv 2))))))) (pure_stands_for)

theorem ok_law_draw (T : TX Z.K Z.w mg A B) : FnOk Z.P Z.w Z.K mg base (L2.CX Z.P Z.w) 1 B.a_law_draw B.d_law_draw ["_law_draws", "_law_many"] (lSp Z (sp_law_draw A)) := by
  skip
  exact fn_okD (t := t_law_draw A) T.F_law_draw sc_law_draw (fun ds M R EX h => by obtain ⟨_, _, rfl, _⟩ := h; rfl) (fun _ _ _ _ _ _ hr => (qss_cons (qs_if (qt_cmp (o := o_eq rfl (room64 hr)) (qe_ix rfl (qv 0) qe_int) qe_int) (qss_one (qs_if (qt_cmp (o := o_lt) (qe_ix rfl (qv 0) qe_int) (qe_callB (c_len rfl) T.z_len (by decide +kernel) (qa_cons (qe_ix rfl (qv 0) qe_int) qa_nil))) (qss_cons (qs_set (i := 3) sc_law_draw.nd (qe_ix rfl (qe_ix rfl (qv 0) qe_int) (qe_ix rfl (qv 0) qe_int)))
  (qss_cons (qs_asg (qe_op (o_add rfl) (qe_ix rfl (qv 0) qe_int) qe_int) (qg_sub (qv 0) qe_int))
  (qss_one (qs_if (qt_cmp (o := o_ge) (qv 3) (qe_op (o_pow) qe_int qe_int)) (qss_one (qs_asg (qv 3) (qg_sub (qv 0) qe_int))) (qss_one (qs_asg (qe_op (o_mod) (qe_callTy (c_int) T.z_int (by decide +kernel) (qa_cons (qe_op (o_add rfl) (qe_op (o_add rfl) (qe_op (o_mul) (qe_ix rfl (qv 0) qe_int) qe_int) (qe_op (o_mul) (qv 3) qe_int)) qe_int) qa_nil)) qe_int) (qg_sub (qv 0) qe_int))))))) (qss_one (qs_asg (qe_op (o_mod) (qe_callTy (c_int) T.z_int (by decide +kernel) (qa_cons (qe_op (o_add rfl) (qe_op (o_mul) (qe_ix rfl (qv 0) qe_int) qe_int) qe_int) qa_nil)) qe_int) (qg_sub (qv 0) qe_int))))) qss_nil)
  (qss_cons (qs_if (qt_cmp (o := o_gt) (qe_ix rfl (qv 0) qe_int) qe_int) (qss_cons (qs_set (i := 2) sc_law_draw.nd (qe_op (o_mod) (qe_callTy (c_int) T.z_int (by decide +kernel) (qa_cons (qe_ix rfl (qv 0) qe_int) qa_nil)) (qv 1)))
  (qss_cons (qs_asg (qe_op (o_fdiv) (qe_ix rfl (qv 0) qe_int) (qv 1)) (qg_sub (qv 0) qe_int))
  (qss_one (qs_ret (qv 2))))) qss_nil)
  (qss_one (qs_ret (qe_op (o_mod) (qe_op (o_mod) (qe_callTy (c_int) T.z_int (by decide +kernel) (qa_cons (qe_op (o_mul) (qe_ix rfl (qv 0) qe_int) qe_int) qa_nil)) qe_int) (qv 1))))))) (pure_law_draw)
theorem ok_law_reader (T : TX Z.K Z.w mg A B) : FnOk Z.P Z.w Z.K mg base (L2.CX Z.P Z.w) 3 B.a_law_reader B.d_law_reader ["_law_draws"] (lSp Z (sp_law_reader A)) := by
  have G_law_draw := ok_law_draw (base := base) T
  exact fn_okD (t := t_law_reader A) T.F_law_reader sc_law_reader (fun ds M R EX h => by obtain ⟨_, rfl, _⟩ := h; rfl) (fun _ _ _ _ _ _ hr => (qss_cons (qs_set (i := 1) sc_law_reader.nd (qe_ix rfl (qe_lst (qa_cons (qe_str [110, 111, 110, 101]) (qa_cons (qe_str [102, 114, 101, 101]) (qa_cons (qe_str [101, 105, 103, 104, 116]) qa_nil)))) (qe_call G_law_draw (hr.mono (by decide)) T.m_law_draw T.k_law_draw T.b_law_draw (qa_cons (qv 0) (qa_cons qe_int qa_nil)))))
  (qss_cons (qs_set (i := 2) sc_law_reader.nd (qe_ix rfl (qe_lst (qa_cons (qe_str [110, 111, 110, 101]) (qa_cons (qe_str [110, 111, 110, 101]) (qa_cons (qe_str [115, 105, 110, 103, 108, 101]) (qa_cons (qe_str [102, 114, 101, 101]) qa_nil))))) (qe_call G_law_draw (hr.mono (by decide)) T.m_law_draw T.k_law_draw T.b_law_draw (qa_cons (qv 0) (qa_cons qe_int qa_nil)))))
  (qss_cons (qs_set (i := 3) sc_law_reader.nd (qe_ix rfl (qe_lst (qa_cons (qe_str [110, 111, 110, 101]) (qa_cons (qe_str [112, 97, 114, 116]) (qa_cons (qe_str [108, 111, 111, 115, 101]) (qa_cons (qe_str [114, 111, 119, 115]) qa_nil))))) (qe_call G_law_draw (hr.mono (by decide)) T.m_law_draw T.k_law_draw T.b_law_draw (qa_cons (qv 0) (qa_cons qe_int qa_nil)))))
  (qss_cons (qs_if (qt_cmp (o := o_eq rfl (room64 hr)) (qv 1) (qe_str [101, 105, 103, 104, 116])) (qss_one (qs_set (i := 3) sc_law_reader.nd (qe_str [110, 111, 110, 101]))) qss_nil)
  (qss_cons (qs_if (qt_cmp (o := o_eq rfl (room64 hr)) (qv 3) (qe_str [114, 111, 119, 115])) (qss_one (qs_set (i := 2) sc_law_reader.nd (qe_str [110, 111, 110, 101]))) qss_nil)
  (qss_cons (qs_set (i := 4) sc_law_reader.nd (qe_ix rfl (qe_lst (qa_cons (qe_str [110, 111, 110, 101]) (qa_cons (qe_str [101, 110, 100, 115]) qa_nil))) (qe_call G_law_draw (hr.mono (by decide)) T.m_law_draw T.k_law_draw T.b_law_draw (qa_cons (qv 0) (qa_cons qe_int qa_nil)))))
  (qss_cons (qs_set (i := 5) sc_law_reader.nd (qe_ix rfl (qe_lst (qa_cons (qe_str [110, 111, 110, 101]) (qa_cons (qe_str [109, 105, 110, 117, 115]) (qa_cons (qe_str [98, 111, 116, 104]) qa_nil)))) (qe_call G_law_draw (hr.mono (by decide)) T.m_law_draw T.k_law_draw T.b_law_draw (qa_cons (qv 0) (qa_cons qe_int qa_nil)))))
  (qss_one (qs_ret (qe_tup (qa_cons (qv 4) (qa_cons (qv 5) (qa_cons (qv 1) (qa_cons (qv 2) (qa_cons (qv 3) (qa_cons (qe_ix rfl (qe_lst (qa_cons (qe_str [112, 108, 97, 105, 110]) (qa_cons (qe_str [97, 108, 108]) qa_nil))) (qe_call G_law_draw (hr.mono (by decide)) T.m_law_draw T.k_law_draw T.b_law_draw (qa_cons (qv 0) (qa_cons qe_int qa_nil)))) qa_nil))))))))))))))))) (pure_law_reader)
theorem ok_law_due (T : TX Z.K Z.w mg A B) : FnOk Z.P Z.w Z.K mg base (L2.CX Z.P Z.w) 1 B.a_law_due B.d_law_due ["_law_reader_here"] (lSp Z (sp_law_due A)) := by
  skip
  exact fn_okD (t := t_law_due A) T.F_law_due sc_law_due (fun ds M R EX h => by obtain ⟨_, rfl, _⟩ := h; rfl) (fun _ _ _ _ _ _ hr => (qss_cons (qs_set (i := 1) sc_law_due.nd (qe_lst (qa_cons (qe_lst (qa_cons (qe_str [110, 111, 110, 101]) (qa_cons (qe_str [101, 110, 100, 115]) qa_nil))) (qa_cons (qe_lst (qa_cons (qe_str [110, 111, 110, 101]) (qa_cons (qe_str [109, 105, 110, 117, 115]) (qa_cons (qe_str [98, 111, 116, 104]) qa_nil)))) (qa_cons (qe_lst (qa_cons (qe_str [110, 111, 110, 101]) (qa_cons (qe_str [102, 114, 101, 101]) (qa_cons (qe_str [101, 105, 103, 104, 116]) qa_nil)))) (qa_cons (qe_lst (qa_cons (qe_str [110, 111, 110, 101]) (qa_cons (qe_str [115, 105, 110, 103, 108, 101]) (qa_cons (qe_str [102, 114, 101, 101]) qa_nil)))) qa_nil))))))
  (qss_cons (qs_set (i := 1) sc_law_due.nd (qe_op (o_add rfl) (qv 1) (qe_lst (qa_cons (qe_lst (qa_cons (qe_str [110, 111, 110, 101]) (qa_cons (qe_str [112, 97, 114, 116]) (qa_cons (qe_str [108, 111, 111, 115, 101]) (qa_cons (qe_str [114, 111, 119, 115]) qa_nil))))) (qa_cons (qe_lst (qa_cons (qe_str [112, 108, 97, 105, 110]) (qa_cons (qe_str [97, 108, 108]) qa_nil))) qa_nil)))))
  (qss_cons (qs_if (QW.qt (qw_or (qt_not (qt_val (qe_isi Tn.tuple rfl (by decide) (qv 0) T.z_isinstance T.z_tuple (by decide +kernel)))) (qw_or1 (qt_cmp (o := o_ne rfl (room64 hr)) (qe_callB (c_len rfl) T.z_len (by decide +kernel) (qa_cons (qv 0) qa_nil)) qe_int)))) (qss_one (qs_ret qe_int)) qss_nil)
  (qss_cons (qs_for (passes_of rfl) rfl (qi_range1 T.z_range (qa_cons qe_int qa_nil)) (qg_name sc_law_due.nd) (qss_one (qs_if (QW.qt (qw_or (qt_not (qt_val (qe_isi Tn.str rfl (by decide) (qe_ix rfl (qv 0) (qv 2)) T.z_isinstance T.z_str (by decide +kernel)))) (qw_or1 (qt_cmp (o := o_notIn rfl (room65 hr)) (qe_ix rfl (qv 0) (qv 2)) (qe_ix rfl (qv 1) (qv 2)) (by rfl))))) (qss_one (qs_ret (qv 2))) qss_nil)))
  (qss_cons (qs_if (QW.qt (qw_and (qt_cmp (o := o_eq rfl (room64 hr)) (qe_ix rfl (qv 0) qe_int) (qe_str [101, 105, 103, 104, 116])) (qw_and1 (qt_cmp (o := o_ne rfl (room64 hr)) (qe_ix rfl (qv 0) qe_int) (qe_str [110, 111, 110, 101]))))) (qss_one (qs_ret qe_int)) qss_nil)
  (qss_cons (qs_if (QW.qt (qw_and (qt_cmp (o := o_eq rfl (room64 hr)) (qe_ix rfl (qv 0) qe_int) (qe_str [114, 111, 119, 115])) (qw_and1 (qt_cmp (o := o_ne rfl (room64 hr)) (qe_ix rfl (qv 0) qe_int) (qe_str [110, 111, 110, 101]))))) (qss_one (qs_ret qe_int)) qss_nil)
  (qss_one (qs_ret qe_non))))))))) (pure_law_due)
theorem ok_law_told (T : TX Z.K Z.w mg A B) (TB : TBX base mg Z.T B) : FnOk Z.P Z.w Z.K mg base (L2.CX Z.P Z.w) 19 B.a_law_told B.d_law_told ["_law_reader_here", "_law_other", "_law_way"] (lSp Z (sp_law_told A)) := by
  have G_read := ok_read (base := base) T
  have G_Program_init := ok_Program_init (base := base) T
  have G_clash := ok_clash (base := base) T TB
  have G_unlike := ok_unlike (base := base) T TB
  have G_beyond := ok_beyond (base := base) T TB
  have G_stands_for := ok_stands_for (base := base) T TB
  exact fn_okD (t := t_law_told A Z.K) T.F_law_told sc_law_told (fun ds M R EX h => by obtain ⟨_, _, _, rfl, _⟩ := h; rfl) (fun _ _ _ _ _ _ hr => (qss_cons (qs_set (i := 3) sc_law_told.nd qe_non)
  (qss_cons (qs_try_as (i := 4) rfl rfl rfl sc_law_told.nd rfl rfl ⟨rfl, by decide, .inl T.y_cBR⟩ (fun _ _ _ hpt => (qss_cons (qs_if (qt_cmp (o := o_eq rfl (room64 hr)) (qv 2) qe_int) (qss_one (qs_expr (qe_call G_read (hr.mono (by decide)) T.m_read T.k_read T.b_read (qa_cons (qv 0) (qa_cons (qe_str []) qa_nil))))) qss_nil)
  (qss_cons (qs_if (qt_cmp (o := o_eq rfl (room64 hr)) (qv 2) qe_int) (qss_one (qs_expr (qe_make T.mk_cPr G_Program_init (hr.mono (by decide)) T.m_cPr T.b_Program_init (qa_cons (qe_tup (qa_cons (qe_str [97, 108, 108]) (qa_cons (qe_tup qa_nil) qa_nil))) (qa_cons (qv 0) qa_nil))))) qss_nil)
  (qss_cons (qs_if (qt_cmp (o := o_eq rfl (room64 hr)) (qv 2) qe_int) (qss_one (qs_expr (qe_call G_clash (hr.mono (by decide)) T.m_clash T.k_clash T.b_clash (qa_cons (qv 1) (qa_cons (qv 0) qa_nil))))) qss_nil)
  (qss_cons (qs_if (qt_cmp (o := o_eq rfl (room64 hr)) (qv 2) qe_int) (qss_one (qs_expr (qe_call G_unlike (hr.mono (by decide)) T.m_unlike T.k_unlike T.b_unlike (qa_cons (qv 0) (qa_cons (qv 1) qa_nil))))) qss_nil)
  (qss_cons (qs_if (qt_cmp (o := o_eq rfl (room64 hr)) (qv 2) qe_int) (qss_one (qs_expr (qe_call G_beyond (hr.mono (by decide)) T.m_beyond T.k_beyond T.b_beyond (qa_cons (qv 1) (qa_cons (qv 0) qa_nil))))) qss_nil)
  (qss_one (qs_if (qt_cmp (o := o_eq rfl (room64 hr)) (qv 2) qe_int) (qss_one (qs_expr (qe_call G_stands_for (hr.mono (by decide)) T.m_stands_for T.k_stands_for T.b_stands_for (qa_cons (qv 1) (qa_cons (qe_lst (qa_cons (qv 1) (qa_cons (qv 0) qa_nil))) qa_nil))))) qss_nil)))))))) (fun _ _ _ _ _ _ hz0 hv0 rx0 => (qss_one (qs_set (i := 3) sc_law_told.nd (qe_xf (i := 4) T.x_cBR T.n_cBR hz0 hv0 rx0)))))
  (qss_one (qs_ret (qv 3)))))) (pure_law_told T.xm_cBR_cBR)
theorem ok_law_text_told (T : TX Z.K Z.w mg A B) : FnOk Z.P Z.w Z.K mg base (L2.CX Z.P Z.w) 9 B.a_law_text_told B.d_law_text_told ["_law_reader_here", "_law_text_here"] (lSp Z (sp_law_text_told A)) := by
  have G_read := ok_read (base := base) T
  exact fn_okD (t := t_law_text_told A Z.K) T.F_law_text_told sc_law_text_told (fun ds M R EX h => by obtain ⟨_, _, rfl, _⟩ := h; rfl) (fun _ _ _ _ _ _ hr => (qss_cons (qs_set (i := 2) sc_law_text_told.nd qe_non)
  (qss_cons (qs_try_many rfl rfl rfl (fun _ _ _ hpt => (qss_cons (qs_expr (qe_call G_read (hr.mono (by decide)) T.m_read T.k_read T.b_read (qa_cons (qv 0) (qa_cons (qv 1) qa_nil))))
  (qss_one (qs_set (i := 2) sc_law_text_told.nd (qe_str [103, 111, 111, 100]))))) (qcl_cons ⟨rfl, by decide, .inl T.y_cBR⟩ (fun _ _ _ _ _ => (qss_one (qs_set (i := 2) sc_law_text_told.nd (qe_str [114, 101, 97, 100, 101, 114])))) (qcl_cons ⟨rfl, by decide, .inl T.y_cBT⟩ (fun _ _ _ _ _ => (qss_one (qs_set (i := 2) sc_law_text_told.nd (qe_str [116, 101, 120, 116])))) qcl_nil)))
  (qss_one (qs_ret (qv 2)))))) (pure_law_text_told T.xm_cBR_cBR T.xm_cBT_cBR T.xm_cBT_cBT)

theorem law_rest (T : TX Z.K Z.w mg A B) (TB : TBX base mg Z.T B) (cdv : Value) (Ar : Around) (outer : List PySem.Env) (s : Shared) (H : Hp) (E : XK) (hr : Room 20 (Ar.deeper (envOfC "law" (defScope s_law) s.heap.objs.size B.a_law cdv))) : QSs Z H (cxOf (L2.CX Z.P Z.w) Z.P Z.w Z.K mg base ["_law_script", "_law_draws", "_law_other", "_law_row", "_law_odd", "_law_k", "_law_reader_here", "_law_due_here", "_law_way", "_law_wrong", "_law_expected"] "law" (defScope s_law) B.a_law cdv Ar outer s H E) ((defBody s_law).drop 1) (tR01 A) := by
  have G_law_reader := ok_law_reader (base := base) T
  have G_law_draw := ok_law_draw (base := base) T
  have G_law_due := ok_law_due (base := base) T
  have G_law_told := ok_law_told (base := base) T TB
  have G_law_text_told := ok_law_text_told (base := base) T
  exact (qss_cons (qs_set (i := 2) sc_law.nd (qe_call G_law_reader (hr.mono (by decide)) T.m_law_reader T.k_law_reader T.b_law_reader (qa_cons (qv 1) qa_nil)))
  (qss_cons (qs_set (i := 3) sc_law.nd (qe_callTy (c_list rfl) T.z_list (by decide +kernel) (qa_cons (qe_call G_law_reader (hr.mono (by decide)) T.m_law_reader T.k_law_reader T.b_law_reader (qa_cons (qv 1) qa_nil)) qa_nil)))
  (qss_cons (qs_set (i := 4) sc_law.nd (qe_lst (qa_cons (qe_str [110, 111, 110, 101]) (qa_cons (qe_str [101, 110, 100, 115]) (qa_cons (qe_str [101, 105, 103, 104, 116]) (qa_cons (qe_str [114, 111, 119, 115]) (qa_cons (qe_str [98, 111, 116, 104]) (qa_cons (qe_str [97, 108, 108]) (qa_cons qe_non (qa_cons qe_int (qa_cons (qe_str [115, 105, 110, 103, 108, 101]) (qa_cons (qe_str [102, 114, 101, 101]) (qa_cons (qe_str [112, 97, 114, 116]) (qa_cons (qe_tup (qa_cons (qe_str [110, 111, 110, 101]) qa_nil)) qa_nil))))))))))))))
  (qss_cons (qs_for (passes_of rfl) rfl (qi_range1 T.z_range (qa_cons (qe_call G_law_draw (hr.mono (by decide)) T.m_law_draw T.k_law_draw T.b_law_draw (qa_cons (qv 1) (qa_cons qe_int qa_nil))) qa_nil)) (qg_name sc_law.nd) (qss_one (qs_asg (qe_ix rfl (qv 4) (qe_call G_law_draw (hr.mono (by decide)) T.m_law_draw T.k_law_draw T.b_law_draw (qa_cons (qv 1) (qa_cons (qe_callB (c_len rfl) T.z_len (by decide +kernel) (qa_cons (qv 4) qa_nil)) qa_nil)))) (qg_sub (qv 3) (qe_call G_law_draw (hr.mono (by decide)) T.m_law_draw T.k_law_draw T.b_law_draw (qa_cons (qv 1) (qa_cons qe_int qa_nil)))))))
  (qss_cons (qs_set (i := 6) sc_law.nd (qe_callTy (c_tuple rfl) T.z_tuple (by decide +kernel) (qa_cons (qv 3) qa_nil)))
  (qss_cons (qs_if (qt_cmp (o := o_eq rfl (room64 hr)) (qe_call G_law_draw (hr.mono (by decide)) T.m_law_draw T.k_law_draw T.b_law_draw (qa_cons (qv 1) (qa_cons qe_int qa_nil))) qe_int) (qss_one (qs_set (i := 6) sc_law.nd (qe_ix rfl (qe_lst (qa_cons (qv 3) (qa_cons qe_non (qa_cons (qe_str [110, 111, 110, 101]) (qa_cons (qe_slice rfl (qv 6) qo_none (qo_some qe_int)) (qa_cons (qe_op (o_add rfl) (qv 6) (qe_tup (qa_cons (qe_str [97, 108, 108]) qa_nil))) qa_nil)))))) (qe_call G_law_draw (hr.mono (by decide)) T.m_law_draw T.k_law_draw T.b_law_draw (qa_cons (qv 1) (qa_cons qe_int qa_nil)))))) qss_nil)
  (qss_cons (qs_set (i := 7) sc_law.nd (qe_call G_law_due (hr.mono (by decide)) T.m_law_due T.k_law_due T.b_law_due (qa_cons (qv 6) qa_nil)))
  (qss_cons (qs_for (passes_of rfl) rfl (qi_range1 T.z_range (qa_cons qe_int qa_nil)) (qg_name sc_law.nd) (qss_one (qs_if (qt_cmp (o := o_ne rfl (room64 hr)) (qe_call G_law_told (hr.mono (by decide)) T.m_law_told T.k_law_told T.b_law_told (qa_cons (qv 6) (qa_cons (qv 2) (qa_cons (qv 8) qa_nil)))) (qv 7)) (qss_one (qs_ret qe_bl)) qss_nil)))
  (qss_cons (qs_set (i := 9) sc_law.nd (qe_ix rfl (qe_lst (qa_cons qe_non (qa_cons qe_int (qa_cons (qe_str [97]) (qa_cons (qe_lst (qa_cons (qe_str [48]) qa_nil)) (qa_cons (qe_str [51]) qa_nil)))))) (qe_call G_law_draw (hr.mono (by decide)) T.m_law_draw T.k_law_draw T.b_law_draw (qa_cons (qv 1) (qa_cons qe_int qa_nil)))))
  (qss_cons (qs_set (i := 10) sc_law.nd (qe_str [116, 101, 120, 116]))
  (qss_cons (qs_if (qt_cmp (o := o_isNot) (qv 7) qe_non) (qss_one (qs_set (i := 10) sc_law.nd (qe_str [114, 101, 97, 100, 101, 114]))) qss_nil)
  (qss_one (qs_ret (qe_cmp (o := o_eq rfl (room64 hr)) (qe_call G_law_text_told (hr.mono (by decide)) T.m_law_text_told T.k_law_text_told T.b_law_text_told (qa_cons (qv 6) (qa_cons (qv 9) qa_nil))) (qv 10)))))))))))))))
end
end KK

set_option Elab.async false
set_option linter.all false
set_option maxRecDepth 100000
set_option maxHeartbeats 4000000
namespace KK
open PySem PySem.Spec PyProof.Rows L2 DL
abbrev nms : List (Nat → Nat → Str) := [nm_text_for, nm_clash, nm_unlike, nm_beyond]
def spB (K : PySem.W.Frag) : Sp := fun vs H Q _ => ∃ (a : Addr) (ns : List Int), vs = [.ref a] ∧ SqL K H a (ns.map V.int) ∧ ns.length ≤ 100 ∧ ∀ L x : Addr, H L = none → x ≠ L → H x = none → Q (.ref x) (upd (upd H L (.lst (ns.map V.int))) x (.lst [.ref L, .int 0, .int 0, .int 7]))
def spLawL (K : PySem.W.Frag) (ts : List Addr) : Sp := fun vs H Q _ => ∃ (a : Addr) (ns : List Int), vs = [.ref a] ∧ SqL K H a (ns.map V.int) ∧ ns.length ≤ 100 ∧ (∀ p ∈ ts, H p = some (.tbl #[])) ∧ ∀ H', Q (.bl true) H'
section
variable {P : Program} {w : World} {mg : Str → Option Value} {base : Heap} {K : PySem.W.Frag} {A : Ad} {B : Fd}
theorem ok_begin (T : TX K w mg A B) : FnOk P w K mg base (L2.CX P w) 1 B.a_law_begin B.d_law_begin ["_law_script"] (spB K) := by
  refine T.F_law_begin.okX sc_law_begin (fun vs H Q E ⟨a, ns, e, _⟩ => by rw [e]; rfl) fun cdv Ar outer s H vs Q E hr ⟨a, ns, e, hs, hn, k⟩ => ?_
  subst e
  refine ⟨_, pss_one (ps_ret (pe_lst (pa_cons (pe_callTy call_list_of (by rfl) T.z_list (by decide +kernel) (pa_cons (pe_var (i := 0) rfl (.inl rfl)) pa_nil)) (pa_cons pe_int (pa_cons pe_int (pa_cons pe_int pa_nil)))))), ?_⟩
  refine ⟨_, rfl, a, ns.map V.int, rfl, .inl hs, fun L hL => ⟨by show 4 ≤ sizeLine; decide, fun x hx => ?_⟩⟩
  have ne : x ≠ L := fun z => by subst z; rw [upd_same] at hx; cases hx
  rw [upd_ne ne] at hx
  exact k L x hL ne hx
theorem ok_law (T : TX K w mg A B) {ts : List Addr} (TB : TBX base mg (ts.zip nms) B) : FnOk P w K mg base (L2.CX P w) 24 B.a_law B.d_law ["_law_script"] (spLawL K ts) := by
  refine T.F_law.okX sc_law (fun vs H Q E ⟨a, ns, e, _⟩ => by rw [e]; rfl) fun cdv Ar outer s H vs Q E hr ⟨a, ns, e, hs, hn, ht, k⟩ => ?_
  subst e
  let Z : ZP := ⟨K, ts.zip nms, P, w⟩
  have hrest := law_rest (Z := Z) (base := base) T TB cdv Ar outer s H E (hr.mono (by decide))
  refine ⟨_, pss_cons (ps_set (i := 1) sc_law.nd rfl (.inl rfl) (pe_callS (E := fun _ _ _ _ => False) (ok_begin T) (hr.mono (by decide)) (by rfl) T.m_law_begin T.k_law_begin T.b_law_begin (fun σ _ _ _ _ _ _ h => by obtain ⟨_, _, _, _, _, _, _, _, _, _, _, _, z⟩ := h; exact z.elim) (pa_cons (pe_var (i := 0) rfl (.inl rfl)) pa_nil)) (by rfl) (.inr rfl)) (hrest.pss noW takes_no), ?_⟩
  refine ⟨_, rfl, a, ns, rfl, hs, hn, fun L x hL ne hx => ?_⟩
  let M : DM := fun b => if b = x then some (.lst [.ref L, .int 0, .int 0, .int 7]) else if b = L then some (.lst (ns.map D.int)) else none
  have mx : M x = some (.lst [.ref L, .int ((0 : Nat) : Int), .int 0, .int 7]) := if_pos rfl
  have mL : M L = some (.lst (ns.map D.int)) := by show (if L = x then _ else if L = L then _ else _) = _; rw [if_neg ne.symm, if_pos rfl]
  have kp : KeepT K H (upd (upd H L (.lst (ns.map V.int))) x (.lst [.ref L, .int 0, .int 0, .int 7])) := (keepT_new hL).trans (keepT_new (by rw [upd_ne ne]; exact hx))
  have ri : ∀ (H : Hp) (l : List Int), RDs K H (l.map D.int) (l.map V.int) := fun H l => by
    induction l with
    | nil => exact .nil
    | cons z r ih => exact .cons mk_int ih
  have rm : RM Z (upd (upd H L (.lst (ns.map V.int))) x (.lst [.ref L, .int 0, .int 0, .int 7])) M := fun b o eo => by
    by_cases q : b = x
    · subst q
      rw [mx] at eo
      cases eo
      exact ⟨_, upd_same, .cons mk_ref (.cons mk_int (.cons mk_int (.cons mk_int .nil)))⟩
    · by_cases q2 : b = L
      · subst q2
        rw [mL] at eo
        cases eo
        exact ⟨_, by rw [upd_ne q, upd_same], ri _ ns⟩
      · rw [show M b = none from by show (if b = x then _ else if b = L then _ else _) = _; rw [if_neg q, if_neg q2]] at eo
        cases eo
  have d1 : DrawsAt M x := ⟨L, ns, 0, 0, 7, mx, mL, ne.symm, by decide, by decide, hn⟩
  refine ⟨[none, some (.ref x), none, none, none, none, none, none, none, none, none], M, endsOf fun v _ => v = .bl true, ⟨kp, ?_, rm, tabs_start fun p hp => by
    have e := ht p hp
    rw [upd_ne (ne_of_none e hx), upd_ne (ne_of_none e hL)]
    exact e⟩, pure_tR01 d1 (fun M => Wk.self (R := fun v _ => v = D.bl true) (d := .bl true) (M := M) rfl), ?_, ?_, ?_, ?_⟩
  · refine ⟨rfl, fun i d e => ?_⟩
    match i, e with
    | 0, e => cases e
    | 1, e => cases e; exact ⟨_, rfl, mk_ref⟩
    | i + 2, e =>
      have := List.mem_of_getElem? (show ([none, none, none, none, none, none, none, none, none] : List (Option D))[i]? = some (some d) from e)
      simp at this
  · exact fun ρ' M' σ' H' ⟨_, _, h⟩ _ _ => by cases h
  · intro d M' v H' ⟨_, _, h⟩ _ r
    subst h
    rw [rd_bl r]
    exact k H'
  · exact fun _ _ _ _ h => h.elim
  · exact fun _ _ _ _ h => h.elim
end
end KK

set_option Elab.async false
set_option linter.all false
set_option maxRecDepth 100000
set_option maxHeartbeats 4000000
namespace KK
open PySem PySem.Spec PyProof.Rows L2 DL LamX NdefX
theorem exm_of {K : PySem.W.Frag} {C S : Addr} {v : Bool} (sup : PySem.W.subIn K (.ref S) (.type "BaseException") = some true) (cls : PySem.W.isClsIn K S = true) (ty : PySem.W.typeIn K (.ref S) = some (.type "type")) (sub : PySem.W.subIn K (.ref C) (.ref S) = some v) : PySem.W.exmOne K (.ref C) (.ref S) = some v := by
  have a : (PySem.W.subIn K (.ref S) (.type "BaseException") == some true) = true := by rw [sup]; decide
  have b : ((PySem.W.clsIn K S).isSome && PySem.W.typeIn K (.ref S) == some (.type "type")) = true := by
    rw [show (PySem.W.clsIn K S).isSome = true from cls, ty]; rfl
  unfold PySem.W.exmOne
  rw [if_pos a]
  exact (if_pos b).trans sub
theorem all_mk {l : PySem.W.OpenLaw} {w : World} {K : PySem.W.Frag} {h : Heap} {mg : Str → Option Value} {fa : Addr}
  {cPr : Addr}
  {cBR : Addr}
  {cBT : Addr}
  {cBC : Addr}
  {f_BadReader_init : Addr} {od_BadReader_init an_BadReader_init : Option Addr} {sl_BadReader_init : Array (Option Value)} {oc_BadReader_init kV_BadReader_init dc_BadReader_init pm_BadReader_init cd_BadReader_init ct_BadReader_init : Value}
  {f_is_text : Addr} {od_is_text an_is_text : Option Addr} {sl_is_text : Array (Option Value)} {oc_is_text kV_is_text dc_is_text pm_is_text cd_is_text ct_is_text : Value}
  {f_check_text : Addr} {od_check_text an_check_text : Option Addr} {sl_check_text : Array (Option Value)} {oc_check_text kV_check_text dc_check_text pm_check_text cd_check_text ct_check_text : Value}
  {f_reader_fault : Addr} {od_reader_fault an_reader_fault : Option Addr} {sl_reader_fault : Array (Option Value)} {oc_reader_fault kV_reader_fault dc_reader_fault pm_reader_fault cd_reader_fault ct_reader_fault : Value}
  {f_check_reader : Addr} {od_check_reader an_check_reader : Option Addr} {sl_check_reader : Array (Option Value)} {oc_check_reader kV_check_reader dc_check_reader pm_check_reader cd_check_reader ct_check_reader : Value}
  {f_is_whole : Addr} {od_is_whole an_is_whole : Option Addr} {sl_is_whole : Array (Option Value)} {oc_is_whole kV_is_whole dc_is_whole pm_is_whole cd_is_whole ct_is_whole : Value}
  {f_behind_figure : Addr} {od_behind_figure an_behind_figure : Option Addr} {sl_behind_figure : Array (Option Value)} {oc_behind_figure kV_behind_figure dc_behind_figure pm_behind_figure cd_behind_figure ct_behind_figure : Value}
  {f_behind_point : Addr} {od_behind_point an_behind_point : Option Addr} {sl_behind_point : Array (Option Value)} {oc_behind_point kV_behind_point dc_behind_point pm_behind_point cd_behind_point ct_behind_point : Value}
  {f_behind_under : Addr} {od_behind_under an_behind_under : Option Addr} {sl_behind_under : Array (Option Value)} {oc_behind_under kV_behind_under dc_behind_under pm_behind_under cd_behind_under ct_behind_under : Value}
  {f_behind : Addr} {od_behind an_behind : Option Addr} {sl_behind : Array (Option Value)} {oc_behind kV_behind dc_behind pm_behind cd_behind ct_behind : Value}
  {f_is_read : Addr} {od_is_read an_is_read : Option Addr} {sl_is_read : Array (Option Value)} {oc_is_read kV_is_read dc_is_read pm_is_read cd_is_read ct_is_read : Value}
  {f_lowest : Addr} {od_lowest an_lowest : Option Addr} {sl_lowest : Array (Option Value)} {oc_lowest kV_lowest dc_lowest pm_lowest cd_lowest ct_lowest : Value}
  {f_number_of : Addr} {od_number_of an_number_of : Option Addr} {sl_number_of : Array (Option Value)} {oc_number_of kV_number_of dc_number_of pm_number_of cd_number_of ct_number_of : Value}
  {f_read : Addr} {od_read an_read : Option Addr} {sl_read : Array (Option Value)} {oc_read kV_read dc_read pm_read cd_read ct_read : Value}
  {f_are_letters : Addr} {od_are_letters an_are_letters : Option Addr} {sl_are_letters : Array (Option Value)} {oc_are_letters kV_are_letters dc_are_letters pm_are_letters cd_are_letters ct_are_letters : Value}
  {f_is_bound : Addr} {od_is_bound an_is_bound : Option Addr} {sl_is_bound : Array (Option Value)} {oc_is_bound kV_is_bound dc_is_bound pm_is_bound cd_is_bound ct_is_bound : Value}
  {f_are_bounds : Addr} {od_are_bounds an_are_bounds : Option Addr} {sl_are_bounds : Array (Option Value)} {oc_are_bounds kV_are_bounds dc_are_bounds pm_are_bounds cd_are_bounds ct_are_bounds : Value}
  {f_is_part : Addr} {od_is_part an_is_part : Option Addr} {sl_is_part : Array (Option Value)} {oc_is_part kV_is_part dc_is_part pm_is_part cd_is_part ct_is_part : Value}
  {f_are_parts : Addr} {od_are_parts an_are_parts : Option Addr} {sl_are_parts : Array (Option Value)} {oc_are_parts kV_are_parts dc_are_parts pm_are_parts cd_are_parts ct_are_parts : Value}
  {f_is_check_within : Addr} {od_is_check_within an_is_check_within : Option Addr} {sl_is_check_within : Array (Option Value)} {oc_is_check_within kV_is_check_within dc_is_check_within pm_is_check_within cd_is_check_within ct_is_check_within : Value}
  {f_is_check : Addr} {od_is_check an_is_check : Option Addr} {sl_is_check : Array (Option Value)} {oc_is_check kV_is_check dc_is_check pm_is_check cd_is_check ct_is_check : Value}
  {f_Program_init : Addr} {od_Program_init an_Program_init : Option Addr} {sl_Program_init : Array (Option Value)} {oc_Program_init kV_Program_init dc_Program_init pm_Program_init cd_Program_init ct_Program_init : Value}
  {f_first_text : Addr} {od_first_text an_first_text : Option Addr} {sl_first_text : Array (Option Value)} {oc_first_text kV_first_text dc_first_text pm_first_text cd_first_text ct_first_text : Value}
  {f_figures_behind : Addr} {od_figures_behind an_figures_behind : Option Addr} {sl_figures_behind : Array (Option Value)} {oc_figures_behind kV_figures_behind dc_figures_behind pm_figures_behind cd_figures_behind ct_figures_behind : Value}
  {f_are_unlike_numbers : Addr} {od_are_unlike_numbers an_are_unlike_numbers : Option Addr} {sl_are_unlike_numbers : Array (Option Value)} {oc_are_unlike_numbers kV_are_unlike_numbers dc_are_unlike_numbers pm_are_unlike_numbers cd_are_unlike_numbers ct_are_unlike_numbers : Value}
  {f_text_for : Addr} {od_text_for an_text_for : Option Addr} {sl_text_for : Array (Option Value)} {oc_text_for kV_text_for dc_text_for pm_text_for ct_text_for : Value}
  {cc_text_for P_text_for : Addr} {co_text_for : Value} {cp_text_for : Option Addr} {cs_text_for : Array (Option Value)} {cv_text_for : Array Value} {dr_text_for : DefRec}
  {f_check_readers : Addr} {od_check_readers an_check_readers : Option Addr} {sl_check_readers : Array (Option Value)} {oc_check_readers kV_check_readers dc_check_readers pm_check_readers cd_check_readers ct_check_readers : Value}
  {f_clash : Addr} {od_clash an_clash : Option Addr} {sl_clash : Array (Option Value)} {oc_clash kV_clash dc_clash pm_clash ct_clash : Value}
  {cc_clash P_clash : Addr} {co_clash : Value} {cp_clash : Option Addr} {cs_clash : Array (Option Value)} {cv_clash : Array Value} {dr_clash : DefRec}
  {f_unlike : Addr} {od_unlike an_unlike : Option Addr} {sl_unlike : Array (Option Value)} {oc_unlike kV_unlike dc_unlike pm_unlike ct_unlike : Value}
  {cc_unlike P_unlike : Addr} {co_unlike : Value} {cp_unlike : Option Addr} {cs_unlike : Array (Option Value)} {cv_unlike : Array Value} {dr_unlike : DefRec}
  {f_beyond : Addr} {od_beyond an_beyond : Option Addr} {sl_beyond : Array (Option Value)} {oc_beyond kV_beyond dc_beyond pm_beyond ct_beyond : Value}
  {cc_beyond P_beyond : Addr} {co_beyond : Value} {cp_beyond : Option Addr} {cs_beyond : Array (Option Value)} {cv_beyond : Array Value} {dr_beyond : DefRec}
  {f_stands_for : Addr} {od_stands_for an_stands_for : Option Addr} {sl_stands_for : Array (Option Value)} {oc_stands_for kV_stands_for dc_stands_for pm_stands_for cd_stands_for ct_stands_for : Value}
  {f_law_begin : Addr} {od_law_begin an_law_begin : Option Addr} {sl_law_begin : Array (Option Value)} {oc_law_begin kV_law_begin dc_law_begin pm_law_begin cd_law_begin ct_law_begin : Value}
  {f_law_draw : Addr} {od_law_draw an_law_draw : Option Addr} {sl_law_draw : Array (Option Value)} {oc_law_draw kV_law_draw dc_law_draw pm_law_draw cd_law_draw ct_law_draw : Value}
  {f_law_reader : Addr} {od_law_reader an_law_reader : Option Addr} {sl_law_reader : Array (Option Value)} {oc_law_reader kV_law_reader dc_law_reader pm_law_reader cd_law_reader ct_law_reader : Value}
  {f_law_due : Addr} {od_law_due an_law_due : Option Addr} {sl_law_due : Array (Option Value)} {oc_law_due kV_law_due dc_law_due pm_law_due cd_law_due ct_law_due : Value}
  {f_law_told : Addr} {od_law_told an_law_told : Option Addr} {sl_law_told : Array (Option Value)} {oc_law_told kV_law_told dc_law_told pm_law_told cd_law_told ct_law_told : Value}
  {f_law_text_told : Addr} {od_law_text_told an_law_text_told : Option Addr} {sl_law_text_told : Array (Option Value)} {oc_law_text_told kV_law_text_told dc_law_text_told pm_law_text_told cd_law_text_told ct_law_text_told : Value}
  {f_law : Addr} {od_law an_law : Option Addr} {sl_law : Array (Option Value)} {oc_law kV_law dc_law pm_law cd_law ct_law : Value}
  {FE : Addr}
  {nm_cBR q_cBR : Str} {N_cBR : Addr} {bs_cBR : List Value} {sn_cBR : List Str} {sub_cBR : List Value} {ab_cBR : Bool} {col_cBR : Option Bool} {dd_cBR : Option Addr} {m0_cBR m1_cBR m2_cBR m3_cBR m5_cBR : Option Value}
  {tk1 : Tok}
  {tk2 : Tok}
  {a_OPTIONS : Addr} {oda_OPTIONS : Option Addr} {na_OPTIONS : Nat} {sla_OPTIONS : Array (Option Value)}
  {a_OPTIONS0 : Addr} {oda_OPTIONS0 : Option Addr} {na_OPTIONS0 : Nat} {sla_OPTIONS0 : Array (Option Value)}
  {tk3 : Tok}
  {tk4 : Tok}
  {a_OPTIONS1 : Addr} {oda_OPTIONS1 : Option Addr} {na_OPTIONS1 : Nat} {sla_OPTIONS1 : Array (Option Value)}
  {tk5 : Tok}
  {tk6 : Tok}
  {tk7 : Tok}
  {a_OPTIONS2 : Addr} {oda_OPTIONS2 : Option Addr} {na_OPTIONS2 : Nat} {sla_OPTIONS2 : Array (Option Value)}
  {tk8 : Tok}
  {tk9 : Tok}
  {tk10 : Tok}
  {a_OPTIONS3 : Addr} {oda_OPTIONS3 : Option Addr} {na_OPTIONS3 : Nat} {sla_OPTIONS3 : Array (Option Value)}
  {tk11 : Tok}
  {tk12 : Tok}
  {tk13 : Tok}
  {a_OPTIONS4 : Addr} {oda_OPTIONS4 : Option Addr} {na_OPTIONS4 : Nat} {sla_OPTIONS4 : Array (Option Value)}
  {tk14 : Tok}
  {tk15 : Tok}
  {tk16 : Tok}
  {tk17 : Tok}
  {a_OPTIONS5 : Addr} {oda_OPTIONS5 : Option Addr} {na_OPTIONS5 : Nat} {sla_OPTIONS5 : Array (Option Value)}
  {tk18 : Tok}
  {tk19 : Tok}
  {a_PARTS : Addr} {oda_PARTS : Option Addr} {na_PARTS : Nat} {sla_PARTS : Array (Option Value)}
  {tk20 : Tok}
  {tk21 : Tok}
  {a_FIRST : Addr} {oda_FIRST : Option Addr} {na_FIRST : Nat} {sla_FIRST : Array (Option Value)}
  {tk22 : Tok}
  {tk23 : Tok}
  {tk24 : Tok}
  {tk25 : Tok}
  {tk26 : Tok}
  {a_PLAIN : Addr} {oda_PLAIN : Option Addr} {na_PLAIN : Nat} {sla_PLAIN : Array (Option Value)}
  {tk27 : Tok}
  {tk28 : Tok}
  {tk29 : Tok}
  {tk30 : Tok}
  {tk31 : Tok}
  {tk32 : Tok}
  {wd : Addr} {wes : Array DictEntry} {wn : Nat} {tw0 tw1 tw8 twt : Tok}
  {q : Program} {lo : List Str} {mean : ExcName → Option Value} {mb : Str → Option Value} (TT : PyProof.Rows.Top q lo mean mg mb h) (X : K.In h) (hfa : mg "law" = some (.ref fa))
  (n_cPr : PySem.W.nsIn K mainGlobals "Program" = some (some (.ref cPr)))
  (n_cBR : PySem.W.nsIn K mainGlobals "BadReader" = some (some (.ref cBR)))
  (n_cBT : PySem.W.nsIn K mainGlobals "BadText" = some (some (.ref cBT)))
  (n_cBC : PySem.W.nsIn K mainGlobals "BadCheck" = some (some (.ref cBC)))
  (n_BadReader_init : PySem.W.findIn K (.ref cBR) "__init__" = some (some (.ref f_BadReader_init)))
  (i_BadReader_init : PySem.W.typeIn K (.ref f_BadReader_init) = some (.type "function"))
  (l_BadReader_init : K.lookup f_BadReader_init = some ⟨oc_BadReader_init, od_BadReader_init, .func (PySem.W.fnOf "__init__" "BadReader.__init__" (defArgs s_BadReader_init) (defBody s_BadReader_init) (defScope s_BadReader_init) .none kV_BadReader_init dc_BadReader_init pm_BadReader_init an_BadReader_init (cd_BadReader_init) ct_BadReader_init), sl_BadReader_init⟩)
  (c_BadReader_init : PySem.W.codeIn K (cd_BadReader_init) "BadReader.__init__" = true)
  (k_BadReader_init : PySem.W.keepIn K (.ref f_BadReader_init) = true)
  (n_is_text : PySem.W.nsIn K mainGlobals "is_text" = some (some (.ref f_is_text)))
  (l_is_text : K.lookup f_is_text = some ⟨oc_is_text, od_is_text, .func (PySem.W.fnOf "is_text" "is_text" (defArgs s_is_text) (defBody s_is_text) (defScope s_is_text) .none kV_is_text dc_is_text pm_is_text an_is_text (cd_is_text) ct_is_text), sl_is_text⟩)
  (c_is_text : PySem.W.codeIn K (cd_is_text) "is_text" = true)
  (k_is_text : PySem.W.keepIn K (.ref f_is_text) = true)
  (n_check_text : PySem.W.nsIn K mainGlobals "check_text" = some (some (.ref f_check_text)))
  (l_check_text : K.lookup f_check_text = some ⟨oc_check_text, od_check_text, .func (PySem.W.fnOf "check_text" "check_text" (defArgs s_check_text) (defBody s_check_text) (defScope s_check_text) .none kV_check_text dc_check_text pm_check_text an_check_text (cd_check_text) ct_check_text), sl_check_text⟩)
  (c_check_text : PySem.W.codeIn K (cd_check_text) "check_text" = true)
  (k_check_text : PySem.W.keepIn K (.ref f_check_text) = true)
  (n_reader_fault : PySem.W.nsIn K mainGlobals "reader_fault" = some (some (.ref f_reader_fault)))
  (l_reader_fault : K.lookup f_reader_fault = some ⟨oc_reader_fault, od_reader_fault, .func (PySem.W.fnOf "reader_fault" "reader_fault" (defArgs s_reader_fault) (defBody s_reader_fault) (defScope s_reader_fault) .none kV_reader_fault dc_reader_fault pm_reader_fault an_reader_fault (cd_reader_fault) ct_reader_fault), sl_reader_fault⟩)
  (c_reader_fault : PySem.W.codeIn K (cd_reader_fault) "reader_fault" = true)
  (k_reader_fault : PySem.W.keepIn K (.ref f_reader_fault) = true)
  (n_check_reader : PySem.W.nsIn K mainGlobals "check_reader" = some (some (.ref f_check_reader)))
  (l_check_reader : K.lookup f_check_reader = some ⟨oc_check_reader, od_check_reader, .func (PySem.W.fnOf "check_reader" "check_reader" (defArgs s_check_reader) (defBody s_check_reader) (defScope s_check_reader) .none kV_check_reader dc_check_reader pm_check_reader an_check_reader (cd_check_reader) ct_check_reader), sl_check_reader⟩)
  (c_check_reader : PySem.W.codeIn K (cd_check_reader) "check_reader" = true)
  (k_check_reader : PySem.W.keepIn K (.ref f_check_reader) = true)
  (n_is_whole : PySem.W.nsIn K mainGlobals "is_whole" = some (some (.ref f_is_whole)))
  (l_is_whole : K.lookup f_is_whole = some ⟨oc_is_whole, od_is_whole, .func (PySem.W.fnOf "is_whole" "is_whole" (defArgs s_is_whole) (defBody s_is_whole) (defScope s_is_whole) .none kV_is_whole dc_is_whole pm_is_whole an_is_whole (cd_is_whole) ct_is_whole), sl_is_whole⟩)
  (c_is_whole : PySem.W.codeIn K (cd_is_whole) "is_whole" = true)
  (k_is_whole : PySem.W.keepIn K (.ref f_is_whole) = true)
  (n_behind_figure : PySem.W.nsIn K mainGlobals "behind_figure" = some (some (.ref f_behind_figure)))
  (l_behind_figure : K.lookup f_behind_figure = some ⟨oc_behind_figure, od_behind_figure, .func (PySem.W.fnOf "behind_figure" "behind_figure" (defArgs s_behind_figure) (defBody s_behind_figure) (defScope s_behind_figure) .none kV_behind_figure dc_behind_figure pm_behind_figure an_behind_figure (cd_behind_figure) ct_behind_figure), sl_behind_figure⟩)
  (c_behind_figure : PySem.W.codeIn K (cd_behind_figure) "behind_figure" = true)
  (k_behind_figure : PySem.W.keepIn K (.ref f_behind_figure) = true)
  (n_behind_point : PySem.W.nsIn K mainGlobals "behind_point" = some (some (.ref f_behind_point)))
  (l_behind_point : K.lookup f_behind_point = some ⟨oc_behind_point, od_behind_point, .func (PySem.W.fnOf "behind_point" "behind_point" (defArgs s_behind_point) (defBody s_behind_point) (defScope s_behind_point) .none kV_behind_point dc_behind_point pm_behind_point an_behind_point (cd_behind_point) ct_behind_point), sl_behind_point⟩)
  (c_behind_point : PySem.W.codeIn K (cd_behind_point) "behind_point" = true)
  (k_behind_point : PySem.W.keepIn K (.ref f_behind_point) = true)
  (n_behind_under : PySem.W.nsIn K mainGlobals "behind_under" = some (some (.ref f_behind_under)))
  (l_behind_under : K.lookup f_behind_under = some ⟨oc_behind_under, od_behind_under, .func (PySem.W.fnOf "behind_under" "behind_under" (defArgs s_behind_under) (defBody s_behind_under) (defScope s_behind_under) .none kV_behind_under dc_behind_under pm_behind_under an_behind_under (cd_behind_under) ct_behind_under), sl_behind_under⟩)
  (c_behind_under : PySem.W.codeIn K (cd_behind_under) "behind_under" = true)
  (k_behind_under : PySem.W.keepIn K (.ref f_behind_under) = true)
  (n_behind : PySem.W.nsIn K mainGlobals "behind" = some (some (.ref f_behind)))
  (l_behind : K.lookup f_behind = some ⟨oc_behind, od_behind, .func (PySem.W.fnOf "behind" "behind" (defArgs s_behind) (defBody s_behind) (defScope s_behind) .none kV_behind dc_behind pm_behind an_behind (cd_behind) ct_behind), sl_behind⟩)
  (c_behind : PySem.W.codeIn K (cd_behind) "behind" = true)
  (k_behind : PySem.W.keepIn K (.ref f_behind) = true)
  (n_is_read : PySem.W.nsIn K mainGlobals "is_read" = some (some (.ref f_is_read)))
  (l_is_read : K.lookup f_is_read = some ⟨oc_is_read, od_is_read, .func (PySem.W.fnOf "is_read" "is_read" (defArgs s_is_read) (defBody s_is_read) (defScope s_is_read) .none kV_is_read dc_is_read pm_is_read an_is_read (cd_is_read) ct_is_read), sl_is_read⟩)
  (c_is_read : PySem.W.codeIn K (cd_is_read) "is_read" = true)
  (k_is_read : PySem.W.keepIn K (.ref f_is_read) = true)
  (n_lowest : PySem.W.nsIn K mainGlobals "lowest" = some (some (.ref f_lowest)))
  (l_lowest : K.lookup f_lowest = some ⟨oc_lowest, od_lowest, .func (PySem.W.fnOf "lowest" "lowest" (defArgs s_lowest) (defBody s_lowest) (defScope s_lowest) .none kV_lowest dc_lowest pm_lowest an_lowest (cd_lowest) ct_lowest), sl_lowest⟩)
  (c_lowest : PySem.W.codeIn K (cd_lowest) "lowest" = true)
  (k_lowest : PySem.W.keepIn K (.ref f_lowest) = true)
  (n_number_of : PySem.W.nsIn K mainGlobals "number_of" = some (some (.ref f_number_of)))
  (l_number_of : K.lookup f_number_of = some ⟨oc_number_of, od_number_of, .func (PySem.W.fnOf "number_of" "number_of" (defArgs s_number_of) (defBody s_number_of) (defScope s_number_of) .none kV_number_of dc_number_of pm_number_of an_number_of (cd_number_of) ct_number_of), sl_number_of⟩)
  (c_number_of : PySem.W.codeIn K (cd_number_of) "number_of" = true)
  (k_number_of : PySem.W.keepIn K (.ref f_number_of) = true)
  (n_read : PySem.W.nsIn K mainGlobals "read" = some (some (.ref f_read)))
  (l_read : K.lookup f_read = some ⟨oc_read, od_read, .func (PySem.W.fnOf "read" "read" (defArgs s_read) (defBody s_read) (defScope s_read) .none kV_read dc_read pm_read an_read (cd_read) ct_read), sl_read⟩)
  (c_read : PySem.W.codeIn K (cd_read) "read" = true)
  (k_read : PySem.W.keepIn K (.ref f_read) = true)
  (n_are_letters : PySem.W.nsIn K mainGlobals "are_letters" = some (some (.ref f_are_letters)))
  (l_are_letters : K.lookup f_are_letters = some ⟨oc_are_letters, od_are_letters, .func (PySem.W.fnOf "are_letters" "are_letters" (defArgs s_are_letters) (defBody s_are_letters) (defScope s_are_letters) .none kV_are_letters dc_are_letters pm_are_letters an_are_letters (cd_are_letters) ct_are_letters), sl_are_letters⟩)
  (c_are_letters : PySem.W.codeIn K (cd_are_letters) "are_letters" = true)
  (k_are_letters : PySem.W.keepIn K (.ref f_are_letters) = true)
  (n_is_bound : PySem.W.nsIn K mainGlobals "is_bound" = some (some (.ref f_is_bound)))
  (l_is_bound : K.lookup f_is_bound = some ⟨oc_is_bound, od_is_bound, .func (PySem.W.fnOf "is_bound" "is_bound" (defArgs s_is_bound) (defBody s_is_bound) (defScope s_is_bound) .none kV_is_bound dc_is_bound pm_is_bound an_is_bound (cd_is_bound) ct_is_bound), sl_is_bound⟩)
  (c_is_bound : PySem.W.codeIn K (cd_is_bound) "is_bound" = true)
  (k_is_bound : PySem.W.keepIn K (.ref f_is_bound) = true)
  (n_are_bounds : PySem.W.nsIn K mainGlobals "are_bounds" = some (some (.ref f_are_bounds)))
  (l_are_bounds : K.lookup f_are_bounds = some ⟨oc_are_bounds, od_are_bounds, .func (PySem.W.fnOf "are_bounds" "are_bounds" (defArgs s_are_bounds) (defBody s_are_bounds) (defScope s_are_bounds) .none kV_are_bounds dc_are_bounds pm_are_bounds an_are_bounds (cd_are_bounds) ct_are_bounds), sl_are_bounds⟩)
  (c_are_bounds : PySem.W.codeIn K (cd_are_bounds) "are_bounds" = true)
  (k_are_bounds : PySem.W.keepIn K (.ref f_are_bounds) = true)
  (n_is_part : PySem.W.nsIn K mainGlobals "is_part" = some (some (.ref f_is_part)))
  (l_is_part : K.lookup f_is_part = some ⟨oc_is_part, od_is_part, .func (PySem.W.fnOf "is_part" "is_part" (defArgs s_is_part) (defBody s_is_part) (defScope s_is_part) .none kV_is_part dc_is_part pm_is_part an_is_part (cd_is_part) ct_is_part), sl_is_part⟩)
  (c_is_part : PySem.W.codeIn K (cd_is_part) "is_part" = true)
  (k_is_part : PySem.W.keepIn K (.ref f_is_part) = true)
  (n_are_parts : PySem.W.nsIn K mainGlobals "are_parts" = some (some (.ref f_are_parts)))
  (l_are_parts : K.lookup f_are_parts = some ⟨oc_are_parts, od_are_parts, .func (PySem.W.fnOf "are_parts" "are_parts" (defArgs s_are_parts) (defBody s_are_parts) (defScope s_are_parts) .none kV_are_parts dc_are_parts pm_are_parts an_are_parts (cd_are_parts) ct_are_parts), sl_are_parts⟩)
  (c_are_parts : PySem.W.codeIn K (cd_are_parts) "are_parts" = true)
  (k_are_parts : PySem.W.keepIn K (.ref f_are_parts) = true)
  (n_is_check_within : PySem.W.nsIn K mainGlobals "is_check_within" = some (some (.ref f_is_check_within)))
  (l_is_check_within : K.lookup f_is_check_within = some ⟨oc_is_check_within, od_is_check_within, .func (PySem.W.fnOf "is_check_within" "is_check_within" (defArgs s_is_check_within) (defBody s_is_check_within) (defScope s_is_check_within) .none kV_is_check_within dc_is_check_within pm_is_check_within an_is_check_within (cd_is_check_within) ct_is_check_within), sl_is_check_within⟩)
  (c_is_check_within : PySem.W.codeIn K (cd_is_check_within) "is_check_within" = true)
  (k_is_check_within : PySem.W.keepIn K (.ref f_is_check_within) = true)
  (n_is_check : PySem.W.nsIn K mainGlobals "is_check" = some (some (.ref f_is_check)))
  (l_is_check : K.lookup f_is_check = some ⟨oc_is_check, od_is_check, .func (PySem.W.fnOf "is_check" "is_check" (defArgs s_is_check) (defBody s_is_check) (defScope s_is_check) .none kV_is_check dc_is_check pm_is_check an_is_check (cd_is_check) ct_is_check), sl_is_check⟩)
  (c_is_check : PySem.W.codeIn K (cd_is_check) "is_check" = true)
  (k_is_check : PySem.W.keepIn K (.ref f_is_check) = true)
  (n_Program_init : PySem.W.findIn K (.ref cPr) "__init__" = some (some (.ref f_Program_init)))
  (i_Program_init : PySem.W.isFn K (.ref f_Program_init) = true)
  (l_Program_init : K.lookup f_Program_init = some ⟨oc_Program_init, od_Program_init, .func (PySem.W.fnOf "__init__" "Program.__init__" (defArgs s_Program_init) (defBody s_Program_init) (defScope s_Program_init) .none kV_Program_init dc_Program_init pm_Program_init an_Program_init (cd_Program_init) ct_Program_init), sl_Program_init⟩)
  (c_Program_init : PySem.W.codeIn K (cd_Program_init) "Program.__init__" = true)
  (k_Program_init : PySem.W.keepIn K (.ref f_Program_init) = true)
  (n_first_text : PySem.W.nsIn K mainGlobals "first_text" = some (some (.ref f_first_text)))
  (l_first_text : K.lookup f_first_text = some ⟨oc_first_text, od_first_text, .func (PySem.W.fnOf "first_text" "first_text" (defArgs s_first_text) (defBody s_first_text) (defScope s_first_text) .none kV_first_text dc_first_text pm_first_text an_first_text (cd_first_text) ct_first_text), sl_first_text⟩)
  (c_first_text : PySem.W.codeIn K (cd_first_text) "first_text" = true)
  (k_first_text : PySem.W.keepIn K (.ref f_first_text) = true)
  (n_figures_behind : PySem.W.nsIn K mainGlobals "figures_behind" = some (some (.ref f_figures_behind)))
  (l_figures_behind : K.lookup f_figures_behind = some ⟨oc_figures_behind, od_figures_behind, .func (PySem.W.fnOf "figures_behind" "figures_behind" (defArgs s_figures_behind) (defBody s_figures_behind) (defScope s_figures_behind) .none kV_figures_behind dc_figures_behind pm_figures_behind an_figures_behind (cd_figures_behind) ct_figures_behind), sl_figures_behind⟩)
  (c_figures_behind : PySem.W.codeIn K (cd_figures_behind) "figures_behind" = true)
  (k_figures_behind : PySem.W.keepIn K (.ref f_figures_behind) = true)
  (n_are_unlike_numbers : PySem.W.nsIn K mainGlobals "are_unlike_numbers" = some (some (.ref f_are_unlike_numbers)))
  (l_are_unlike_numbers : K.lookup f_are_unlike_numbers = some ⟨oc_are_unlike_numbers, od_are_unlike_numbers, .func (PySem.W.fnOf "are_unlike_numbers" "are_unlike_numbers" (defArgs s_are_unlike_numbers) (defBody s_are_unlike_numbers) (defScope s_are_unlike_numbers) .none kV_are_unlike_numbers dc_are_unlike_numbers pm_are_unlike_numbers an_are_unlike_numbers (cd_are_unlike_numbers) ct_are_unlike_numbers), sl_are_unlike_numbers⟩)
  (c_are_unlike_numbers : PySem.W.codeIn K (cd_are_unlike_numbers) "are_unlike_numbers" = true)
  (k_are_unlike_numbers : PySem.W.keepIn K (.ref f_are_unlike_numbers) = true)
  (n_text_for : PySem.W.nsIn K mainGlobals "text_for" = some (some (.ref f_text_for)))
  (l_text_for : K.lookup f_text_for = some ⟨oc_text_for, od_text_for, .func (PySem.W.fnOf "text_for" "text_for" (defArgs s_text_for) (defBody s_text_for) (defScope s_text_for) .none kV_text_for dc_text_for pm_text_for an_text_for (.ref cc_text_for) ct_text_for), sl_text_for⟩)
  (c_text_for : PySem.W.codeIn K (.ref cc_text_for) "text_for" = true)
  (cl_text_for : K.lookup cc_text_for = some ⟨co_text_for, cp_text_for, .fields cv_text_for, cs_text_for⟩)
  (vp_text_for : (cv_text_for[11]? : Option Value) = some (.ref P_text_for))
  (rc_text_for : (recsOf q).find? (fun e => e.name == ("text_for" : Str)) = some dr_text_for)
  (k_text_for : PySem.W.keepIn K (.ref f_text_for) = true)
  (n_check_readers : PySem.W.nsIn K mainGlobals "check_readers" = some (some (.ref f_check_readers)))
  (l_check_readers : K.lookup f_check_readers = some ⟨oc_check_readers, od_check_readers, .func (PySem.W.fnOf "check_readers" "check_readers" (defArgs s_check_readers) (defBody s_check_readers) (defScope s_check_readers) .none kV_check_readers dc_check_readers pm_check_readers an_check_readers (cd_check_readers) ct_check_readers), sl_check_readers⟩)
  (c_check_readers : PySem.W.codeIn K (cd_check_readers) "check_readers" = true)
  (k_check_readers : PySem.W.keepIn K (.ref f_check_readers) = true)
  (n_clash : PySem.W.nsIn K mainGlobals "clash" = some (some (.ref f_clash)))
  (l_clash : K.lookup f_clash = some ⟨oc_clash, od_clash, .func (PySem.W.fnOf "clash" "clash" (defArgs s_clash) (defBody s_clash) (defScope s_clash) .none kV_clash dc_clash pm_clash an_clash (.ref cc_clash) ct_clash), sl_clash⟩)
  (c_clash : PySem.W.codeIn K (.ref cc_clash) "clash" = true)
  (cl_clash : K.lookup cc_clash = some ⟨co_clash, cp_clash, .fields cv_clash, cs_clash⟩)
  (vp_clash : (cv_clash[11]? : Option Value) = some (.ref P_clash))
  (rc_clash : (recsOf q).find? (fun e => e.name == ("clash" : Str)) = some dr_clash)
  (k_clash : PySem.W.keepIn K (.ref f_clash) = true)
  (n_unlike : PySem.W.nsIn K mainGlobals "unlike" = some (some (.ref f_unlike)))
  (l_unlike : K.lookup f_unlike = some ⟨oc_unlike, od_unlike, .func (PySem.W.fnOf "unlike" "unlike" (defArgs s_unlike) (defBody s_unlike) (defScope s_unlike) .none kV_unlike dc_unlike pm_unlike an_unlike (.ref cc_unlike) ct_unlike), sl_unlike⟩)
  (c_unlike : PySem.W.codeIn K (.ref cc_unlike) "unlike" = true)
  (cl_unlike : K.lookup cc_unlike = some ⟨co_unlike, cp_unlike, .fields cv_unlike, cs_unlike⟩)
  (vp_unlike : (cv_unlike[11]? : Option Value) = some (.ref P_unlike))
  (rc_unlike : (recsOf q).find? (fun e => e.name == ("unlike" : Str)) = some dr_unlike)
  (k_unlike : PySem.W.keepIn K (.ref f_unlike) = true)
  (n_beyond : PySem.W.nsIn K mainGlobals "beyond" = some (some (.ref f_beyond)))
  (l_beyond : K.lookup f_beyond = some ⟨oc_beyond, od_beyond, .func (PySem.W.fnOf "beyond" "beyond" (defArgs s_beyond) (defBody s_beyond) (defScope s_beyond) .none kV_beyond dc_beyond pm_beyond an_beyond (.ref cc_beyond) ct_beyond), sl_beyond⟩)
  (c_beyond : PySem.W.codeIn K (.ref cc_beyond) "beyond" = true)
  (cl_beyond : K.lookup cc_beyond = some ⟨co_beyond, cp_beyond, .fields cv_beyond, cs_beyond⟩)
  (vp_beyond : (cv_beyond[11]? : Option Value) = some (.ref P_beyond))
  (rc_beyond : (recsOf q).find? (fun e => e.name == ("beyond" : Str)) = some dr_beyond)
  (k_beyond : PySem.W.keepIn K (.ref f_beyond) = true)
  (n_stands_for : PySem.W.nsIn K mainGlobals "stands_for" = some (some (.ref f_stands_for)))
  (l_stands_for : K.lookup f_stands_for = some ⟨oc_stands_for, od_stands_for, .func (PySem.W.fnOf "stands_for" "stands_for" (defArgs s_stands_for) (defBody s_stands_for) (defScope s_stands_for) .none kV_stands_for dc_stands_for pm_stands_for an_stands_for (cd_stands_for) ct_stands_for), sl_stands_for⟩)
  (c_stands_for : PySem.W.codeIn K (cd_stands_for) "stands_for" = true)
  (k_stands_for : PySem.W.keepIn K (.ref f_stands_for) = true)
  (n_law_begin : PySem.W.nsIn K mainGlobals "_law_begin" = some (some (.ref f_law_begin)))
  (l_law_begin : K.lookup f_law_begin = some ⟨oc_law_begin, od_law_begin, .func (PySem.W.fnOf "_law_begin" "_law_begin" (defArgs s_law_begin) (defBody s_law_begin) (defScope s_law_begin) .none kV_law_begin dc_law_begin pm_law_begin an_law_begin (cd_law_begin) ct_law_begin), sl_law_begin⟩)
  (c_law_begin : PySem.W.codeIn K (cd_law_begin) "_law_begin" = true)
  (k_law_begin : PySem.W.keepIn K (.ref f_law_begin) = true)
  (n_law_draw : PySem.W.nsIn K mainGlobals "_law_draw" = some (some (.ref f_law_draw)))
  (l_law_draw : K.lookup f_law_draw = some ⟨oc_law_draw, od_law_draw, .func (PySem.W.fnOf "_law_draw" "_law_draw" (defArgs s_law_draw) (defBody s_law_draw) (defScope s_law_draw) .none kV_law_draw dc_law_draw pm_law_draw an_law_draw (cd_law_draw) ct_law_draw), sl_law_draw⟩)
  (c_law_draw : PySem.W.codeIn K (cd_law_draw) "_law_draw" = true)
  (k_law_draw : PySem.W.keepIn K (.ref f_law_draw) = true)
  (n_law_reader : PySem.W.nsIn K mainGlobals "_law_reader" = some (some (.ref f_law_reader)))
  (l_law_reader : K.lookup f_law_reader = some ⟨oc_law_reader, od_law_reader, .func (PySem.W.fnOf "_law_reader" "_law_reader" (defArgs s_law_reader) (defBody s_law_reader) (defScope s_law_reader) .none kV_law_reader dc_law_reader pm_law_reader an_law_reader (cd_law_reader) ct_law_reader), sl_law_reader⟩)
  (c_law_reader : PySem.W.codeIn K (cd_law_reader) "_law_reader" = true)
  (k_law_reader : PySem.W.keepIn K (.ref f_law_reader) = true)
  (n_law_due : PySem.W.nsIn K mainGlobals "_law_due" = some (some (.ref f_law_due)))
  (l_law_due : K.lookup f_law_due = some ⟨oc_law_due, od_law_due, .func (PySem.W.fnOf "_law_due" "_law_due" (defArgs s_law_due) (defBody s_law_due) (defScope s_law_due) .none kV_law_due dc_law_due pm_law_due an_law_due (cd_law_due) ct_law_due), sl_law_due⟩)
  (c_law_due : PySem.W.codeIn K (cd_law_due) "_law_due" = true)
  (k_law_due : PySem.W.keepIn K (.ref f_law_due) = true)
  (n_law_told : PySem.W.nsIn K mainGlobals "_law_told" = some (some (.ref f_law_told)))
  (l_law_told : K.lookup f_law_told = some ⟨oc_law_told, od_law_told, .func (PySem.W.fnOf "_law_told" "_law_told" (defArgs s_law_told) (defBody s_law_told) (defScope s_law_told) .none kV_law_told dc_law_told pm_law_told an_law_told (cd_law_told) ct_law_told), sl_law_told⟩)
  (c_law_told : PySem.W.codeIn K (cd_law_told) "_law_told" = true)
  (k_law_told : PySem.W.keepIn K (.ref f_law_told) = true)
  (n_law_text_told : PySem.W.nsIn K mainGlobals "_law_text_told" = some (some (.ref f_law_text_told)))
  (l_law_text_told : K.lookup f_law_text_told = some ⟨oc_law_text_told, od_law_text_told, .func (PySem.W.fnOf "_law_text_told" "_law_text_told" (defArgs s_law_text_told) (defBody s_law_text_told) (defScope s_law_text_told) .none kV_law_text_told dc_law_text_told pm_law_text_told an_law_text_told (cd_law_text_told) ct_law_text_told), sl_law_text_told⟩)
  (c_law_text_told : PySem.W.codeIn K (cd_law_text_told) "_law_text_told" = true)
  (k_law_text_told : PySem.W.keepIn K (.ref f_law_text_told) = true)
  (n_law : PySem.W.nsIn K mainGlobals "law" = some (some (.ref f_law)))
  (l_law : K.lookup f_law = some ⟨oc_law, od_law, .func (PySem.W.fnOf "law" "law" (defArgs s_law) (defBody s_law) (defScope s_law) .none kV_law dc_law pm_law an_law (cd_law) ct_law), sl_law⟩)
  (c_law : PySem.W.codeIn K (cd_law) "law" = true)
  (k_law : PySem.W.keepIn K (.ref f_law) = true)
  (pg_cPr : PySem.W.plainGet K cPr Str.empty = true)
  (hd_cPr : PySem.W.hasDictIn K cPr = true)
  (po_cPr : PySem.W.plainOver K cPr = true)
  (sa_cPr : PySem.W.findIn K (.ref cPr) "__setattr__" = some (some (.builtin "object.__setattr__")))
  (mk_cPr : PySem.W.makesIn K cPr = true)
  (kc_cPr : PySem.W.keepIn K (.ref cPr) = true)
  (na_cPr_check : PySem.W.findIn K (.ref cPr) "check" = some none)
  (na_cPr_reader : PySem.W.findIn K (.ref cPr) "reader" = some none)
  (ke_cBT : PySem.W.keepIn K (.ref cBT) = true)
  (be_cBT : PySem.W.subIn K (.ref cBT) (.type "BaseException") = some true)
  (te_cBT : PySem.W.typeIn K (.ref cBT) = some (.type "type"))
  (ke_cBC : PySem.W.keepIn K (.ref cBC) = true)
  (be_cBC : PySem.W.subIn K (.ref cBC) (.type "BaseException") = some true)
  (te_cBC : PySem.W.typeIn K (.ref cBC) = some (.type "type"))
  (ke_cBR : PySem.W.keepIn K (.ref cBR) = true)
  (be_cBR : PySem.W.subIn K (.ref cBR) (.type "BaseException") = some true)
  (te_cBR : PySem.W.typeIn K (.ref cBR) = some (.type "type"))
  (qe_cBT : PySem.W.excIn K cBT [.type "ValueError", .type "Exception", .type "BaseException", .type "object"] "ValueError.__new__" = true)
  (qe_cBC : PySem.W.excIn K cBC [.type "ValueError", .type "Exception", .type "BaseException", .type "object"] "ValueError.__new__" = true)
  (xl_cBR : K.lookup cBR = some (excClassObj nm_cBR q_cBR cBR N_cBR bs_cBR [.ref FE, .type "ValueError", .type "Exception", .type "BaseException", .type "object"] true sn_cBR sub_cBR ab_cBR col_cBR dd_cBR m0_cBR m1_cBR m2_cBR m3_cBR m5_cBR "ValueError.__new__"))
  (se_cBR : PySem.W.findIn K (.ref cBR) "__setattr__" = some (some (.builtin "object.__setattr__")))
  (ne_cBR : PySem.W.findIn K (.ref cBR) "index" = some none)
  (ga_cBR : PySem.W.findIn K (.ref cBR) "__getattribute__" = some (some (.builtin "BaseException.__getattribute__")))
  (gg_cBR : PySem.W.findIn K (.ref cBR) "__getattr__" = some none)
  (hx_cBR : PySem.W.hasDictIn K cBR = true)
  (ic_cBR : PySem.W.isClsIn K cBR = true)
  (sb_cBR_cBR : PySem.W.subIn K (.ref cBR) (.ref cBR) = some true)
  (sb_cBT_cBR : PySem.W.subIn K (.ref cBT) (.ref cBR) = some false)
  (ic_cBT : PySem.W.isClsIn K cBT = true)
  (sb_cBT_cBT : PySem.W.subIn K (.ref cBT) (.ref cBT) = some true)
  (z_isinstance : PySem.W.nsIn K mainGlobals "isinstance" = some none)
  (z_len : PySem.W.nsIn K mainGlobals "len" = some none)
  (z_enumerate : PySem.W.nsIn K mainGlobals "enumerate" = some none)
  (z_all : PySem.W.nsIn K mainGlobals "all" = some none)
  (z_any : PySem.W.nsIn K mainGlobals "any" = some none)
  (z_str : PySem.W.nsIn K mainGlobals "str" = some none)
  (z_int : PySem.W.nsIn K mainGlobals "int" = some none)
  (z_tuple : PySem.W.nsIn K mainGlobals "tuple" = some none)
  (z_bool : PySem.W.nsIn K mainGlobals "bool" = some none)
  (z_range : PySem.W.nsIn K mainGlobals "range" = some none)
  (z_min : PySem.W.nsIn K mainGlobals "min" = some none)
  (z_abs : PySem.W.nsIn K mainGlobals "abs" = some none)
  (z_list : PySem.W.nsIn K mainGlobals "list" = some none)
  (v_SIGNS : PySem.W.nsIn K mainGlobals "SIGNS" = some (some (.str " +-.018_t" tk1)))
  (v_FIGURES : PySem.W.nsIn K mainGlobals "FIGURES" = some (some (.str "018t" tk2)))
  (v_OPTIONS : PySem.W.nsIn K mainGlobals "OPTIONS" = some (some (.ref a_OPTIONS)))
  (w_OPTIONS : K.lookup a_OPTIONS = some ⟨.type "tuple", oda_OPTIONS, .seq #[.ref a_OPTIONS0, .ref a_OPTIONS1, .ref a_OPTIONS2, .ref a_OPTIONS3, .ref a_OPTIONS4, .ref a_OPTIONS5] na_OPTIONS, sla_OPTIONS⟩)
  (w_OPTIONS0 : K.lookup a_OPTIONS0 = some ⟨.type "tuple", oda_OPTIONS0, .seq #[.str "none" tk3, .str "ends" tk4] na_OPTIONS0, sla_OPTIONS0⟩)
  (w_OPTIONS1 : K.lookup a_OPTIONS1 = some ⟨.type "tuple", oda_OPTIONS1, .seq #[.str "none" tk5, .str "minus" tk6, .str "both" tk7] na_OPTIONS1, sla_OPTIONS1⟩)
  (w_OPTIONS2 : K.lookup a_OPTIONS2 = some ⟨.type "tuple", oda_OPTIONS2, .seq #[.str "none" tk8, .str "free" tk9, .str "eight" tk10] na_OPTIONS2, sla_OPTIONS2⟩)
  (w_OPTIONS3 : K.lookup a_OPTIONS3 = some ⟨.type "tuple", oda_OPTIONS3, .seq #[.str "none" tk11, .str "single" tk12, .str "free" tk13] na_OPTIONS3, sla_OPTIONS3⟩)
  (w_OPTIONS4 : K.lookup a_OPTIONS4 = some ⟨.type "tuple", oda_OPTIONS4, .seq #[.str "none" tk14, .str "part" tk15, .str "loose" tk16, .str "rows" tk17] na_OPTIONS4, sla_OPTIONS4⟩)
  (w_OPTIONS5 : K.lookup a_OPTIONS5 = some ⟨.type "tuple", oda_OPTIONS5, .seq #[.str "plain" tk18, .str "all" tk19] na_OPTIONS5, sla_OPTIONS5⟩)
  (v_PARTS : PySem.W.nsIn K mainGlobals "PARTS" = some (some (.ref a_PARTS)))
  (w_PARTS : K.lookup a_PARTS = some ⟨.type "tuple", oda_PARTS, .seq #[.str "part" tk20, .str "loose" tk21] na_PARTS, sla_PARTS⟩)
  (v_FIRST : PySem.W.nsIn K mainGlobals "FIRST" = some (some (.ref a_FIRST)))
  (w_FIRST : K.lookup a_FIRST = some ⟨.type "tuple", oda_FIRST, .seq #[.str "start" tk22, .str "" tk23, .int 0 tk24, .int 0 tk25, .bool false, .str "" tk26, .bool false] na_FIRST, sla_FIRST⟩)
  (v_PLAIN : PySem.W.nsIn K mainGlobals "PLAIN" = some (some (.ref a_PLAIN)))
  (w_PLAIN : K.lookup a_PLAIN = some ⟨.type "tuple", oda_PLAIN, .seq #[.str "signs" tk27, .str "begins" tk28, .str "ends" tk29] na_PLAIN, sla_PLAIN⟩)
  (v_MOST_PARTS : PySem.W.nsIn K mainGlobals "MOST_PARTS" = some (some (.int 5 tk30)))
  (v_MOST_CHECKS : PySem.W.nsIn K mainGlobals "MOST_CHECKS" = some (some (.int 4 tk31)))
  (v_DEEPEST : PySem.W.nsIn K mainGlobals "DEEPEST" = some (some (.int 2 tk32)))
  (n_WORTHS : PySem.W.nsIn K mainGlobals "WORTHS" = some (some (.ref wd)))
  (wl_WORTHS : K.lookup wd = some ⟨.type "dict", none, .dict wes wn, #[]⟩)
  (kl_WORTHS : PySem.W.KeysLit w.params wes.toList)
  (wv_0 : PySem.W.nsIn K wd "0" = some (some (.int 0 tw0)))
  (wv_1 : PySem.W.nsIn K wd "1" = some (some (.int 1 tw1)))
  (wv_8 : PySem.W.nsIn K wd "8" = some (some (.int 8 tw8)))
  (wv_t : PySem.W.nsIn K wd "t" = some (some (.int 3 twt)))
  (notab : PySem.W.noTabs K = true)
  (ndP : [P_text_for, P_clash, P_unlike, P_beyond].Nodup)
  : LawAtS l w K (L2.CX l.prog w) 24 63 "_law_script" mg fa h := by
  have G := TT.g
  have e := hfa.symm.trans (PySem.W.mg_of X G n_law)
  cases e
  have KT_OPTIONS0 := kt_mk (ds := [.str [110, 111, 110, 101], .str [101, 110, 100, 115]]) w_OPTIONS0 (by show 2 ≤ sizeLine; decide) (ivs_all ⟨_, _, rfl, iv_str (s := [110, 111, 110, 101]) (by first | rfl | decide +kernel), ⟨_, _, rfl, iv_str (s := [101, 110, 100, 115]) (by first | rfl | decide +kernel), rfl⟩⟩)
  have KT_OPTIONS1 := kt_mk (ds := [.str [110, 111, 110, 101], .str [109, 105, 110, 117, 115], .str [98, 111, 116, 104]]) w_OPTIONS1 (by show 3 ≤ sizeLine; decide) (ivs_all ⟨_, _, rfl, iv_str (s := [110, 111, 110, 101]) (by first | rfl | decide +kernel), ⟨_, _, rfl, iv_str (s := [109, 105, 110, 117, 115]) (by first | rfl | decide +kernel), ⟨_, _, rfl, iv_str (s := [98, 111, 116, 104]) (by first | rfl | decide +kernel), rfl⟩⟩⟩)
  have KT_OPTIONS2 := kt_mk (ds := [.str [110, 111, 110, 101], .str [102, 114, 101, 101], .str [101, 105, 103, 104, 116]]) w_OPTIONS2 (by show 3 ≤ sizeLine; decide) (ivs_all ⟨_, _, rfl, iv_str (s := [110, 111, 110, 101]) (by first | rfl | decide +kernel), ⟨_, _, rfl, iv_str (s := [102, 114, 101, 101]) (by first | rfl | decide +kernel), ⟨_, _, rfl, iv_str (s := [101, 105, 103, 104, 116]) (by first | rfl | decide +kernel), rfl⟩⟩⟩)
  have KT_OPTIONS3 := kt_mk (ds := [.str [110, 111, 110, 101], .str [115, 105, 110, 103, 108, 101], .str [102, 114, 101, 101]]) w_OPTIONS3 (by show 3 ≤ sizeLine; decide) (ivs_all ⟨_, _, rfl, iv_str (s := [110, 111, 110, 101]) (by first | rfl | decide +kernel), ⟨_, _, rfl, iv_str (s := [115, 105, 110, 103, 108, 101]) (by first | rfl | decide +kernel), ⟨_, _, rfl, iv_str (s := [102, 114, 101, 101]) (by first | rfl | decide +kernel), rfl⟩⟩⟩)
  have KT_OPTIONS4 := kt_mk (ds := [.str [110, 111, 110, 101], .str [112, 97, 114, 116], .str [108, 111, 111, 115, 101], .str [114, 111, 119, 115]]) w_OPTIONS4 (by show 4 ≤ sizeLine; decide) (ivs_all ⟨_, _, rfl, iv_str (s := [110, 111, 110, 101]) (by first | rfl | decide +kernel), ⟨_, _, rfl, iv_str (s := [112, 97, 114, 116]) (by first | rfl | decide +kernel), ⟨_, _, rfl, iv_str (s := [108, 111, 111, 115, 101]) (by first | rfl | decide +kernel), ⟨_, _, rfl, iv_str (s := [114, 111, 119, 115]) (by first | rfl | decide +kernel), rfl⟩⟩⟩⟩)
  have KT_OPTIONS5 := kt_mk (ds := [.str [112, 108, 97, 105, 110], .str [97, 108, 108]]) w_OPTIONS5 (by show 2 ≤ sizeLine; decide) (ivs_all ⟨_, _, rfl, iv_str (s := [112, 108, 97, 105, 110]) (by first | rfl | decide +kernel), ⟨_, _, rfl, iv_str (s := [97, 108, 108]) (by first | rfl | decide +kernel), rfl⟩⟩)
  have KT_OPTIONS := kt_mk (ds := [.tup [.str [110, 111, 110, 101], .str [101, 110, 100, 115]], .tup [.str [110, 111, 110, 101], .str [109, 105, 110, 117, 115], .str [98, 111, 116, 104]], .tup [.str [110, 111, 110, 101], .str [102, 114, 101, 101], .str [101, 105, 103, 104, 116]], .tup [.str [110, 111, 110, 101], .str [115, 105, 110, 103, 108, 101], .str [102, 114, 101, 101]], .tup [.str [110, 111, 110, 101], .str [112, 97, 114, 116], .str [108, 111, 111, 115, 101], .str [114, 111, 119, 115]], .tup [.str [112, 108, 97, 105, 110], .str [97, 108, 108]]]) w_OPTIONS (by show 6 ≤ sizeLine; decide) (ivs_all ⟨_, _, rfl, iv_kt KT_OPTIONS0, ⟨_, _, rfl, iv_kt KT_OPTIONS1, ⟨_, _, rfl, iv_kt KT_OPTIONS2, ⟨_, _, rfl, iv_kt KT_OPTIONS3, ⟨_, _, rfl, iv_kt KT_OPTIONS4, ⟨_, _, rfl, iv_kt KT_OPTIONS5, rfl⟩⟩⟩⟩⟩⟩)
  have KT_PARTS := kt_mk (ds := [.str [112, 97, 114, 116], .str [108, 111, 111, 115, 101]]) w_PARTS (by show 2 ≤ sizeLine; decide) (ivs_all ⟨_, _, rfl, iv_str (s := [112, 97, 114, 116]) (by first | rfl | decide +kernel), ⟨_, _, rfl, iv_str (s := [108, 111, 111, 115, 101]) (by first | rfl | decide +kernel), rfl⟩⟩)
  have KT_FIRST := kt_mk (ds := [.str [115, 116, 97, 114, 116], .str [], .int 0, .int 0, .bl false, .str [], .bl false]) w_FIRST (by show 7 ≤ sizeLine; decide) (ivs_all ⟨_, _, rfl, iv_str (s := [115, 116, 97, 114, 116]) (by first | rfl | decide +kernel), ⟨_, _, rfl, iv_str (s := []) (by first | rfl | decide +kernel), ⟨_, _, rfl, ⟨.int 0, ⟨_, rfl⟩, fun H => by rw [RD]⟩, ⟨_, _, rfl, ⟨.int 0, ⟨_, rfl⟩, fun H => by rw [RD]⟩, ⟨_, _, rfl, ⟨.bl false, rfl, fun H => by rw [RD]⟩, ⟨_, _, rfl, iv_str (s := []) (by first | rfl | decide +kernel), ⟨_, _, rfl, ⟨.bl false, rfl, fun H => by rw [RD]⟩, rfl⟩⟩⟩⟩⟩⟩⟩)
  have KT_PLAIN := kt_mk (ds := [.str [115, 105, 103, 110, 115], .str [98, 101, 103, 105, 110, 115], .str [101, 110, 100, 115]]) w_PLAIN (by show 3 ≤ sizeLine; decide) (ivs_all ⟨_, _, rfl, iv_str (s := [115, 105, 103, 110, 115]) (by first | rfl | decide +kernel), ⟨_, _, rfl, iv_str (s := [98, 101, 103, 105, 110, 115]) (by first | rfl | decide +kernel), ⟨_, _, rfl, iv_str (s := [101, 110, 100, 115]) (by first | rfl | decide +kernel), rfl⟩⟩⟩)
  let A : Ad := { cPr := cPr, cRd := cPr, cSc := cPr, cFE := cPr, cBT := cBT, cBC := cBC, cNU := cPr, cBR := cBR, cBL := cPr }
  let B : Fd := { a_BadReader_init := f_BadReader_init, d_BadReader_init := PySem.W.fnOf "__init__" "BadReader.__init__" (defArgs s_BadReader_init) (defBody s_BadReader_init) (defScope s_BadReader_init) .none kV_BadReader_init dc_BadReader_init pm_BadReader_init an_BadReader_init (cd_BadReader_init) ct_BadReader_init, a_is_text := f_is_text, d_is_text := PySem.W.fnOf "is_text" "is_text" (defArgs s_is_text) (defBody s_is_text) (defScope s_is_text) .none kV_is_text dc_is_text pm_is_text an_is_text (cd_is_text) ct_is_text, a_check_text := f_check_text, d_check_text := PySem.W.fnOf "check_text" "check_text" (defArgs s_check_text) (defBody s_check_text) (defScope s_check_text) .none kV_check_text dc_check_text pm_check_text an_check_text (cd_check_text) ct_check_text, a_reader_fault := f_reader_fault, d_reader_fault := PySem.W.fnOf "reader_fault" "reader_fault" (defArgs s_reader_fault) (defBody s_reader_fault) (defScope s_reader_fault) .none kV_reader_fault dc_reader_fault pm_reader_fault an_reader_fault (cd_reader_fault) ct_reader_fault, a_check_reader := f_check_reader, d_check_reader := PySem.W.fnOf "check_reader" "check_reader" (defArgs s_check_reader) (defBody s_check_reader) (defScope s_check_reader) .none kV_check_reader dc_check_reader pm_check_reader an_check_reader (cd_check_reader) ct_check_reader, a_is_whole := f_is_whole, d_is_whole := PySem.W.fnOf "is_whole" "is_whole" (defArgs s_is_whole) (defBody s_is_whole) (defScope s_is_whole) .none kV_is_whole dc_is_whole pm_is_whole an_is_whole (cd_is_whole) ct_is_whole, a_behind_figure := f_behind_figure, d_behind_figure := PySem.W.fnOf "behind_figure" "behind_figure" (defArgs s_behind_figure) (defBody s_behind_figure) (defScope s_behind_figure) .none kV_behind_figure dc_behind_figure pm_behind_figure an_behind_figure (cd_behind_figure) ct_behind_figure, a_behind_point := f_behind_point, d_behind_point := PySem.W.fnOf "behind_point" "behind_point" (defArgs s_behind_point) (defBody s_behind_point) (defScope s_behind_point) .none kV_behind_point dc_behind_point pm_behind_point an_behind_point (cd_behind_point) ct_behind_point, a_behind_under := f_behind_under, d_behind_under := PySem.W.fnOf "behind_under" "behind_under" (defArgs s_behind_under) (defBody s_behind_under) (defScope s_behind_under) .none kV_behind_under dc_behind_under pm_behind_under an_behind_under (cd_behind_under) ct_behind_under, a_behind := f_behind, d_behind := PySem.W.fnOf "behind" "behind" (defArgs s_behind) (defBody s_behind) (defScope s_behind) .none kV_behind dc_behind pm_behind an_behind (cd_behind) ct_behind, a_is_read := f_is_read, d_is_read := PySem.W.fnOf "is_read" "is_read" (defArgs s_is_read) (defBody s_is_read) (defScope s_is_read) .none kV_is_read dc_is_read pm_is_read an_is_read (cd_is_read) ct_is_read, a_lowest := f_lowest, d_lowest := PySem.W.fnOf "lowest" "lowest" (defArgs s_lowest) (defBody s_lowest) (defScope s_lowest) .none kV_lowest dc_lowest pm_lowest an_lowest (cd_lowest) ct_lowest, a_number_of := f_number_of, d_number_of := PySem.W.fnOf "number_of" "number_of" (defArgs s_number_of) (defBody s_number_of) (defScope s_number_of) .none kV_number_of dc_number_of pm_number_of an_number_of (cd_number_of) ct_number_of, a_read := f_read, d_read := PySem.W.fnOf "read" "read" (defArgs s_read) (defBody s_read) (defScope s_read) .none kV_read dc_read pm_read an_read (cd_read) ct_read, a_are_letters := f_are_letters, d_are_letters := PySem.W.fnOf "are_letters" "are_letters" (defArgs s_are_letters) (defBody s_are_letters) (defScope s_are_letters) .none kV_are_letters dc_are_letters pm_are_letters an_are_letters (cd_are_letters) ct_are_letters, a_is_bound := f_is_bound, d_is_bound := PySem.W.fnOf "is_bound" "is_bound" (defArgs s_is_bound) (defBody s_is_bound) (defScope s_is_bound) .none kV_is_bound dc_is_bound pm_is_bound an_is_bound (cd_is_bound) ct_is_bound, a_are_bounds := f_are_bounds, d_are_bounds := PySem.W.fnOf "are_bounds" "are_bounds" (defArgs s_are_bounds) (defBody s_are_bounds) (defScope s_are_bounds) .none kV_are_bounds dc_are_bounds pm_are_bounds an_are_bounds (cd_are_bounds) ct_are_bounds, a_is_part := f_is_part, d_is_part := PySem.W.fnOf "is_part" "is_part" (defArgs s_is_part) (defBody s_is_part) (defScope s_is_part) .none kV_is_part dc_is_part pm_is_part an_is_part (cd_is_part) ct_is_part, a_are_parts := f_are_parts, d_are_parts := PySem.W.fnOf "are_parts" "are_parts" (defArgs s_are_parts) (defBody s_are_parts) (defScope s_are_parts) .none kV_are_parts dc_are_parts pm_are_parts an_are_parts (cd_are_parts) ct_are_parts, a_is_check_within := f_is_check_within, d_is_check_within := PySem.W.fnOf "is_check_within" "is_check_within" (defArgs s_is_check_within) (defBody s_is_check_within) (defScope s_is_check_within) .none kV_is_check_within dc_is_check_within pm_is_check_within an_is_check_within (cd_is_check_within) ct_is_check_within, a_is_check := f_is_check, d_is_check := PySem.W.fnOf "is_check" "is_check" (defArgs s_is_check) (defBody s_is_check) (defScope s_is_check) .none kV_is_check dc_is_check pm_is_check an_is_check (cd_is_check) ct_is_check, a_Program_init := f_Program_init, d_Program_init := PySem.W.fnOf "__init__" "Program.__init__" (defArgs s_Program_init) (defBody s_Program_init) (defScope s_Program_init) .none kV_Program_init dc_Program_init pm_Program_init an_Program_init (cd_Program_init) ct_Program_init, a_first_text := f_first_text, d_first_text := PySem.W.fnOf "first_text" "first_text" (defArgs s_first_text) (defBody s_first_text) (defScope s_first_text) .none kV_first_text dc_first_text pm_first_text an_first_text (cd_first_text) ct_first_text, a_figures_behind := f_figures_behind, d_figures_behind := PySem.W.fnOf "figures_behind" "figures_behind" (defArgs s_figures_behind) (defBody s_figures_behind) (defScope s_figures_behind) .none kV_figures_behind dc_figures_behind pm_figures_behind an_figures_behind (cd_figures_behind) ct_figures_behind, a_are_unlike_numbers := f_are_unlike_numbers, d_are_unlike_numbers := PySem.W.fnOf "are_unlike_numbers" "are_unlike_numbers" (defArgs s_are_unlike_numbers) (defBody s_are_unlike_numbers) (defScope s_are_unlike_numbers) .none kV_are_unlike_numbers dc_are_unlike_numbers pm_are_unlike_numbers an_are_unlike_numbers (cd_are_unlike_numbers) ct_are_unlike_numbers, a_text_for := f_text_for, d_text_for := PySem.W.fnOf "text_for" "text_for" (defArgs s_text_for) (defBody s_text_for) (defScope s_text_for) .none kV_text_for dc_text_for pm_text_for an_text_for (.ref cc_text_for) ct_text_for, a_check_readers := f_check_readers, d_check_readers := PySem.W.fnOf "check_readers" "check_readers" (defArgs s_check_readers) (defBody s_check_readers) (defScope s_check_readers) .none kV_check_readers dc_check_readers pm_check_readers an_check_readers (cd_check_readers) ct_check_readers, a_clash := f_clash, d_clash := PySem.W.fnOf "clash" "clash" (defArgs s_clash) (defBody s_clash) (defScope s_clash) .none kV_clash dc_clash pm_clash an_clash (.ref cc_clash) ct_clash, a_unlike := f_unlike, d_unlike := PySem.W.fnOf "unlike" "unlike" (defArgs s_unlike) (defBody s_unlike) (defScope s_unlike) .none kV_unlike dc_unlike pm_unlike an_unlike (.ref cc_unlike) ct_unlike, a_beyond := f_beyond, d_beyond := PySem.W.fnOf "beyond" "beyond" (defArgs s_beyond) (defBody s_beyond) (defScope s_beyond) .none kV_beyond dc_beyond pm_beyond an_beyond (.ref cc_beyond) ct_beyond, a_stands_for := f_stands_for, d_stands_for := PySem.W.fnOf "stands_for" "stands_for" (defArgs s_stands_for) (defBody s_stands_for) (defScope s_stands_for) .none kV_stands_for dc_stands_for pm_stands_for an_stands_for (cd_stands_for) ct_stands_for, a_law_begin := f_law_begin, d_law_begin := PySem.W.fnOf "_law_begin" "_law_begin" (defArgs s_law_begin) (defBody s_law_begin) (defScope s_law_begin) .none kV_law_begin dc_law_begin pm_law_begin an_law_begin (cd_law_begin) ct_law_begin, a_law_draw := f_law_draw, d_law_draw := PySem.W.fnOf "_law_draw" "_law_draw" (defArgs s_law_draw) (defBody s_law_draw) (defScope s_law_draw) .none kV_law_draw dc_law_draw pm_law_draw an_law_draw (cd_law_draw) ct_law_draw, a_law_reader := f_law_reader, d_law_reader := PySem.W.fnOf "_law_reader" "_law_reader" (defArgs s_law_reader) (defBody s_law_reader) (defScope s_law_reader) .none kV_law_reader dc_law_reader pm_law_reader an_law_reader (cd_law_reader) ct_law_reader, a_law_due := f_law_due, d_law_due := PySem.W.fnOf "_law_due" "_law_due" (defArgs s_law_due) (defBody s_law_due) (defScope s_law_due) .none kV_law_due dc_law_due pm_law_due an_law_due (cd_law_due) ct_law_due, a_law_told := f_law_told, d_law_told := PySem.W.fnOf "_law_told" "_law_told" (defArgs s_law_told) (defBody s_law_told) (defScope s_law_told) .none kV_law_told dc_law_told pm_law_told an_law_told (cd_law_told) ct_law_told, a_law_text_told := f_law_text_told, d_law_text_told := PySem.W.fnOf "_law_text_told" "_law_text_told" (defArgs s_law_text_told) (defBody s_law_text_told) (defScope s_law_text_told) .none kV_law_text_told dc_law_text_told pm_law_text_told an_law_text_told (cd_law_text_told) ct_law_text_told, a_law := fa, d_law := PySem.W.fnOf "law" "law" (defArgs s_law) (defBody s_law) (defScope s_law) .none kV_law dc_law pm_law an_law (cd_law) ct_law }
  have T : TX K w mg A B := {
    F_BadReader_init := fun_mk (st := s_BadReader_init) l_BadReader_init c_BadReader_init k_BadReader_init,
    b_BadReader_init := (fun_mk (st := s_BadReader_init) l_BadReader_init c_BadReader_init k_BadReader_init).binds (ps := ["self", "index"]) fun _ _ _ _ _ _ us hl => match us, hl with | [_, _], _ => rfl,
    F_is_text := fun_mk (st := s_is_text) l_is_text c_is_text k_is_text,
    b_is_text := (fun_mk (st := s_is_text) l_is_text c_is_text k_is_text).binds (ps := ["value"]) fun _ _ _ _ _ _ us hl => match us, hl with | [_], _ => rfl,
    m_is_text := PySem.W.mg_of X G n_is_text,
    k_is_text := k_is_text,
    F_check_text := fun_mk (st := s_check_text) l_check_text c_check_text k_check_text,
    b_check_text := (fun_mk (st := s_check_text) l_check_text c_check_text k_check_text).binds (ps := ["text"]) fun _ _ _ _ _ _ us hl => match us, hl with | [_], _ => rfl,
    m_check_text := PySem.W.mg_of X G n_check_text,
    k_check_text := k_check_text,
    F_reader_fault := fun_mk (st := s_reader_fault) l_reader_fault c_reader_fault k_reader_fault,
    b_reader_fault := (fun_mk (st := s_reader_fault) l_reader_fault c_reader_fault k_reader_fault).binds (ps := ["value"]) fun _ _ _ _ _ _ us hl => match us, hl with | [_], _ => rfl,
    m_reader_fault := PySem.W.mg_of X G n_reader_fault,
    k_reader_fault := k_reader_fault,
    F_check_reader := fun_mk (st := s_check_reader) l_check_reader c_check_reader k_check_reader,
    b_check_reader := (fun_mk (st := s_check_reader) l_check_reader c_check_reader k_check_reader).binds (ps := ["reader"]) fun _ _ _ _ _ _ us hl => match us, hl with | [_], _ => rfl,
    m_check_reader := PySem.W.mg_of X G n_check_reader,
    k_check_reader := k_check_reader,
    F_is_whole := fun_mk (st := s_is_whole) l_is_whole c_is_whole k_is_whole,
    b_is_whole := (fun_mk (st := s_is_whole) l_is_whole c_is_whole k_is_whole).binds (ps := ["reader", "state"]) fun _ _ _ _ _ _ us hl => match us, hl with | [_, _], _ => rfl,
    m_is_whole := PySem.W.mg_of X G n_is_whole,
    k_is_whole := k_is_whole,
    F_behind_figure := fun_mk (st := s_behind_figure) l_behind_figure c_behind_figure k_behind_figure,
    b_behind_figure := (fun_mk (st := s_behind_figure) l_behind_figure c_behind_figure k_behind_figure).binds (ps := ["reader", "state", "sign"]) fun _ _ _ _ _ _ us hl => match us, hl with | [_, _, _], _ => rfl,
    m_behind_figure := PySem.W.mg_of X G n_behind_figure,
    k_behind_figure := k_behind_figure,
    F_behind_point := fun_mk (st := s_behind_point) l_behind_point c_behind_point k_behind_point,
    b_behind_point := (fun_mk (st := s_behind_point) l_behind_point c_behind_point k_behind_point).binds (ps := ["reader", "state"]) fun _ _ _ _ _ _ us hl => match us, hl with | [_, _], _ => rfl,
    m_behind_point := PySem.W.mg_of X G n_behind_point,
    k_behind_point := k_behind_point,
    F_behind_under := fun_mk (st := s_behind_under) l_behind_under c_behind_under k_behind_under,
    b_behind_under := (fun_mk (st := s_behind_under) l_behind_under c_behind_under k_behind_under).binds (ps := ["reader", "state"]) fun _ _ _ _ _ _ us hl => match us, hl with | [_, _], _ => rfl,
    m_behind_under := PySem.W.mg_of X G n_behind_under,
    k_behind_under := k_behind_under,
    F_behind := fun_mk (st := s_behind) l_behind c_behind k_behind,
    b_behind := (fun_mk (st := s_behind) l_behind c_behind k_behind).binds (ps := ["reader", "state", "sign"]) fun _ _ _ _ _ _ us hl => match us, hl with | [_, _, _], _ => rfl,
    m_behind := PySem.W.mg_of X G n_behind,
    k_behind := k_behind,
    F_is_read := fun_mk (st := s_is_read) l_is_read c_is_read k_is_read,
    b_is_read := (fun_mk (st := s_is_read) l_is_read c_is_read k_is_read).binds (ps := ["reader", "text"]) fun _ _ _ _ _ _ us hl => match us, hl with | [_, _], _ => rfl,
    m_is_read := PySem.W.mg_of X G n_is_read,
    k_is_read := k_is_read,
    F_lowest := fun_mk (st := s_lowest) l_lowest c_lowest k_lowest,
    b_lowest := (fun_mk (st := s_lowest) l_lowest c_lowest k_lowest).binds (ps := ["p", "q"]) fun _ _ _ _ _ _ us hl => match us, hl with | [_, _], _ => rfl,
    m_lowest := PySem.W.mg_of X G n_lowest,
    k_lowest := k_lowest,
    F_number_of := fun_mk (st := s_number_of) l_number_of c_number_of k_number_of,
    b_number_of := (fun_mk (st := s_number_of) l_number_of c_number_of k_number_of).binds (ps := ["reader", "text"]) fun _ _ _ _ _ _ us hl => match us, hl with | [_, _], _ => rfl,
    m_number_of := PySem.W.mg_of X G n_number_of,
    k_number_of := k_number_of,
    F_read := fun_mk (st := s_read) l_read c_read k_read,
    b_read := (fun_mk (st := s_read) l_read c_read k_read).binds (ps := ["reader", "text"]) fun _ _ _ _ _ _ us hl => match us, hl with | [_, _], _ => rfl,
    m_read := PySem.W.mg_of X G n_read,
    k_read := k_read,
    F_are_letters := fun_mk (st := s_are_letters) l_are_letters c_are_letters k_are_letters,
    b_are_letters := (fun_mk (st := s_are_letters) l_are_letters c_are_letters k_are_letters).binds (ps := ["value"]) fun _ _ _ _ _ _ us hl => match us, hl with | [_], _ => rfl,
    m_are_letters := PySem.W.mg_of X G n_are_letters,
    k_are_letters := k_are_letters,
    F_is_bound := fun_mk (st := s_is_bound) l_is_bound c_is_bound k_is_bound,
    b_is_bound := (fun_mk (st := s_is_bound) l_is_bound c_is_bound k_is_bound).binds (ps := ["value", "least"]) fun _ _ _ _ _ _ us hl => match us, hl with | [_, _], _ => rfl,
    m_is_bound := PySem.W.mg_of X G n_is_bound,
    k_is_bound := k_is_bound,
    F_are_bounds := fun_mk (st := s_are_bounds) l_are_bounds c_are_bounds k_are_bounds,
    b_are_bounds := (fun_mk (st := s_are_bounds) l_are_bounds c_are_bounds k_are_bounds).binds (ps := ["a", "b"]) fun _ _ _ _ _ _ us hl => match us, hl with | [_, _], _ => rfl,
    m_are_bounds := PySem.W.mg_of X G n_are_bounds,
    k_are_bounds := k_are_bounds,
    F_is_part := fun_mk (st := s_is_part) l_is_part c_is_part k_is_part,
    b_is_part := (fun_mk (st := s_is_part) l_is_part c_is_part k_is_part).binds (ps := ["value"]) fun _ _ _ _ _ _ us hl => match us, hl with | [_], _ => rfl,
    m_is_part := PySem.W.mg_of X G n_is_part,
    k_is_part := k_is_part,
    F_are_parts := fun_mk (st := s_are_parts) l_are_parts c_are_parts k_are_parts,
    b_are_parts := (fun_mk (st := s_are_parts) l_are_parts c_are_parts k_are_parts).binds (ps := ["value"]) fun _ _ _ _ _ _ us hl => match us, hl with | [_], _ => rfl,
    m_are_parts := PySem.W.mg_of X G n_are_parts,
    k_are_parts := k_are_parts,
    F_is_check_within := fun_mk (st := s_is_check_within) l_is_check_within c_is_check_within k_is_check_within,
    b_is_check_within := (fun_mk (st := s_is_check_within) l_is_check_within c_is_check_within k_is_check_within).binds (ps := ["value", "left"]) fun _ _ _ _ _ _ us hl => match us, hl with | [_, _], _ => rfl,
    m_is_check_within := PySem.W.mg_of X G n_is_check_within,
    k_is_check_within := k_is_check_within,
    F_is_check := fun_mk (st := s_is_check) l_is_check c_is_check k_is_check,
    b_is_check := (fun_mk (st := s_is_check) l_is_check c_is_check k_is_check).binds (ps := ["value"]) fun _ _ _ _ _ _ us hl => match us, hl with | [_], _ => rfl,
    m_is_check := PySem.W.mg_of X G n_is_check,
    k_is_check := k_is_check,
    F_Program_init := fun_mk (st := s_Program_init) l_Program_init c_Program_init k_Program_init,
    b_Program_init := (fun_mk (st := s_Program_init) l_Program_init c_Program_init k_Program_init).binds (ps := ["self", "check", "reader"]) fun _ _ _ _ _ _ us hl => match us, hl with | [_, _, _], _ => rfl,
    F_first_text := fun_mk (st := s_first_text) l_first_text c_first_text k_first_text,
    b_first_text := (fun_mk (st := s_first_text) l_first_text c_first_text k_first_text).binds (ps := ["begin", "step", "is_goal"]) fun _ _ _ _ _ _ us hl => match us, hl with | [_, _, _], _ => rfl,
    m_first_text := PySem.W.mg_of X G n_first_text,
    k_first_text := k_first_text,
    F_figures_behind := fun_mk (st := s_figures_behind) l_figures_behind c_figures_behind k_figures_behind,
    b_figures_behind := (fun_mk (st := s_figures_behind) l_figures_behind c_figures_behind k_figures_behind).binds (ps := ["known", "sign"]) fun _ _ _ _ _ _ us hl => match us, hl with | [_, _], _ => rfl,
    m_figures_behind := PySem.W.mg_of X G n_figures_behind,
    k_figures_behind := k_figures_behind,
    F_are_unlike_numbers := fun_mk (st := s_are_unlike_numbers) l_are_unlike_numbers c_are_unlike_numbers k_are_unlike_numbers,
    b_are_unlike_numbers := (fun_mk (st := s_are_unlike_numbers) l_are_unlike_numbers c_are_unlike_numbers k_are_unlike_numbers).binds (ps := ["one", "other", "known"]) fun _ _ _ _ _ _ us hl => match us, hl with | [_, _, _], _ => rfl,
    m_are_unlike_numbers := PySem.W.mg_of X G n_are_unlike_numbers,
    k_are_unlike_numbers := k_are_unlike_numbers,
    F_text_for := fun_mk (st := s_text_for) l_text_for c_text_for k_text_for,
    b_text_for := (fun_mk (st := s_text_for) l_text_for c_text_for k_text_for).binds (ps := ["one", "other", "is_wanted"]) fun _ _ _ _ _ _ us hl => match us, hl with | [_, _, _], _ => rfl,
    m_text_for := PySem.W.mg_of X G n_text_for,
    k_text_for := k_text_for,
    F_check_readers := fun_mk (st := s_check_readers) l_check_readers c_check_readers k_check_readers,
    b_check_readers := (fun_mk (st := s_check_readers) l_check_readers c_check_readers k_check_readers).binds (ps := ["readers"]) fun _ _ _ _ _ _ us hl => match us, hl with | [_], _ => rfl,
    m_check_readers := PySem.W.mg_of X G n_check_readers,
    k_check_readers := k_check_readers,
    F_clash := fun_mk (st := s_clash) l_clash c_clash k_clash,
    b_clash := (fun_mk (st := s_clash) l_clash c_clash k_clash).binds (ps := ["one", "other"]) fun _ _ _ _ _ _ us hl => match us, hl with | [_, _], _ => rfl,
    m_clash := PySem.W.mg_of X G n_clash,
    k_clash := k_clash,
    F_unlike := fun_mk (st := s_unlike) l_unlike c_unlike k_unlike,
    b_unlike := (fun_mk (st := s_unlike) l_unlike c_unlike k_unlike).binds (ps := ["one", "other"]) fun _ _ _ _ _ _ us hl => match us, hl with | [_, _], _ => rfl,
    m_unlike := PySem.W.mg_of X G n_unlike,
    k_unlike := k_unlike,
    F_beyond := fun_mk (st := s_beyond) l_beyond c_beyond k_beyond,
    b_beyond := (fun_mk (st := s_beyond) l_beyond c_beyond k_beyond).binds (ps := ["one", "other"]) fun _ _ _ _ _ _ us hl => match us, hl with | [_, _], _ => rfl,
    m_beyond := PySem.W.mg_of X G n_beyond,
    k_beyond := k_beyond,
    F_stands_for := fun_mk (st := s_stands_for) l_stands_for c_stands_for k_stands_for,
    b_stands_for := (fun_mk (st := s_stands_for) l_stands_for c_stands_for k_stands_for).binds (ps := ["reader", "others"]) fun _ _ _ _ _ _ us hl => match us, hl with | [_, _], _ => rfl,
    m_stands_for := PySem.W.mg_of X G n_stands_for,
    k_stands_for := k_stands_for,
    F_law_begin := fun_mk (st := s_law_begin) l_law_begin c_law_begin k_law_begin,
    b_law_begin := (fun_mk (st := s_law_begin) l_law_begin c_law_begin k_law_begin).binds (ps := ["_law_script"]) fun _ _ _ _ _ _ us hl => match us, hl with | [_], _ => rfl,
    m_law_begin := PySem.W.mg_of X G n_law_begin,
    k_law_begin := k_law_begin,
    F_law_draw := fun_mk (st := s_law_draw) l_law_draw c_law_draw k_law_draw,
    b_law_draw := (fun_mk (st := s_law_draw) l_law_draw c_law_draw k_law_draw).binds (ps := ["_law_draws", "_law_many"]) fun _ _ _ _ _ _ us hl => match us, hl with | [_, _], _ => rfl,
    m_law_draw := PySem.W.mg_of X G n_law_draw,
    k_law_draw := k_law_draw,
    F_law_reader := fun_mk (st := s_law_reader) l_law_reader c_law_reader k_law_reader,
    b_law_reader := (fun_mk (st := s_law_reader) l_law_reader c_law_reader k_law_reader).binds (ps := ["_law_draws"]) fun _ _ _ _ _ _ us hl => match us, hl with | [_], _ => rfl,
    m_law_reader := PySem.W.mg_of X G n_law_reader,
    k_law_reader := k_law_reader,
    F_law_due := fun_mk (st := s_law_due) l_law_due c_law_due k_law_due,
    b_law_due := (fun_mk (st := s_law_due) l_law_due c_law_due k_law_due).binds (ps := ["_law_reader_here"]) fun _ _ _ _ _ _ us hl => match us, hl with | [_], _ => rfl,
    m_law_due := PySem.W.mg_of X G n_law_due,
    k_law_due := k_law_due,
    F_law_told := fun_mk (st := s_law_told) l_law_told c_law_told k_law_told,
    b_law_told := (fun_mk (st := s_law_told) l_law_told c_law_told k_law_told).binds (ps := ["_law_reader_here", "_law_other", "_law_way"]) fun _ _ _ _ _ _ us hl => match us, hl with | [_, _, _], _ => rfl,
    m_law_told := PySem.W.mg_of X G n_law_told,
    k_law_told := k_law_told,
    F_law_text_told := fun_mk (st := s_law_text_told) l_law_text_told c_law_text_told k_law_text_told,
    b_law_text_told := (fun_mk (st := s_law_text_told) l_law_text_told c_law_text_told k_law_text_told).binds (ps := ["_law_reader_here", "_law_text_here"]) fun _ _ _ _ _ _ us hl => match us, hl with | [_, _], _ => rfl,
    m_law_text_told := PySem.W.mg_of X G n_law_text_told,
    k_law_text_told := k_law_text_told,
    F_law := fun_mk (st := s_law) l_law c_law k_law,
    b_law := (fun_mk (st := s_law) l_law c_law k_law).binds (ps := ["_law_script"]) fun _ _ _ _ _ _ us hl => match us, hl with | [_], _ => rfl,
    m_law := PySem.W.mg_of X G n_law,
    k_law := k_law,
    cl_cPr := ⟨pg_cPr, hd_cPr, po_cPr, sa_cPr⟩,
    m_cPr := PySem.W.mg_of X G n_cPr,
    mk_cPr := ⟨mk_cPr, n_Program_init, i_Program_init, kc_cPr⟩,
    a_cPr_check := na_cPr_check,
    a_cPr_reader := na_cPr_reader,
    e_cBT := ⟨PySem.W.mg_of X G n_cBT, qe_cBT, ke_cBT, be_cBT, te_cBT⟩,
    e_cBC := ⟨PySem.W.mg_of X G n_cBC, qe_cBC, ke_cBC, be_cBC, te_cBC⟩,
    f_cBR := ⟨PySem.W.mg_of X G n_cBR, ⟨⟨nm_cBR, q_cBR, N_cBR, bs_cBR, _, sn_cBR, sub_cBR, ab_cBR, col_cBR, dd_cBR, m0_cBR, m1_cBR, m2_cBR, m3_cBR, m5_cBR, xl_cBR, by rfl⟩, se_cBR, be_cBR, te_cBR, ke_cBR⟩, n_BadReader_init, i_BadReader_init, ne_cBR⟩,
    y_cBR := PySem.W.mg_of X G n_cBR,
    x_cBR := ⟨ga_cBR, gg_cBR, be_cBR, hx_cBR⟩,
    n_cBR := ne_cBR,
    y_cBT := PySem.W.mg_of X G n_cBT,
    xm_cBR_cBR := exm_of be_cBR ic_cBR te_cBR sb_cBR_cBR,
    xm_cBT_cBR := exm_of be_cBR ic_cBR te_cBR sb_cBT_cBR,
    xm_cBT_cBT := exm_of be_cBT ic_cBT te_cBT sb_cBT_cBT,
    z_isinstance := PySem.W.mg_none_of X G z_isinstance,
    z_len := PySem.W.mg_none_of X G z_len,
    z_enumerate := PySem.W.mg_none_of X G z_enumerate,
    z_all := PySem.W.mg_none_of X G z_all,
    z_any := PySem.W.mg_none_of X G z_any,
    z_str := PySem.W.mg_none_of X G z_str,
    z_int := PySem.W.mg_none_of X G z_int,
    z_tuple := PySem.W.mg_none_of X G z_tuple,
    z_bool := PySem.W.mg_none_of X G z_bool,
    z_range := PySem.W.mg_none_of X G z_range,
    z_min := PySem.W.mg_none_of X G z_min,
    z_abs := PySem.W.mg_none_of X G z_abs,
    z_list := PySem.W.mg_none_of X G z_list,
    v_SIGNS := ⟨_, PySem.W.mg_of X G v_SIGNS, iv_str (s := [32, 43, 45, 46, 48, 49, 56, 95, 116]) (by first | rfl | decide +kernel)⟩,
    v_FIGURES := ⟨_, PySem.W.mg_of X G v_FIGURES, iv_str (s := [48, 49, 56, 116]) (by first | rfl | decide +kernel)⟩,
    v_OPTIONS := ⟨_, PySem.W.mg_of X G v_OPTIONS, iv_kt KT_OPTIONS⟩,
    v_PARTS := ⟨_, PySem.W.mg_of X G v_PARTS, iv_kt KT_PARTS⟩,
    v_FIRST := ⟨_, PySem.W.mg_of X G v_FIRST, iv_kt KT_FIRST⟩,
    v_PLAIN := ⟨_, PySem.W.mg_of X G v_PLAIN, iv_kt KT_PLAIN⟩,
    v_MOST_PARTS := ⟨_, PySem.W.mg_of X G v_MOST_PARTS, ⟨.int 5, ⟨_, rfl⟩, fun H => by rw [c_MOST_PARTS, RD]⟩⟩,
    v_MOST_CHECKS := ⟨_, PySem.W.mg_of X G v_MOST_CHECKS, ⟨.int 4, ⟨_, rfl⟩, fun H => by rw [c_MOST_CHECKS, RD]⟩⟩,
    v_DEEPEST := ⟨_, PySem.W.mg_of X G v_DEEPEST, ⟨.int 2, ⟨_, rfl⟩, fun H => by rw [c_DEEPEST, RD]⟩⟩,
    kdw := kdwC_of (PySem.W.mg_of X G n_WORTHS) wl_WORTHS kl_WORTHS wv_0 wv_1 wv_8 wv_t }
  have ht : ∀ p ∈ [(cc_text_for, P_text_for), (cc_clash, P_clash), (cc_unlike, P_unlike), (cc_beyond, P_beyond)], PySem.W.CodeHd h p.1 p.2 ∧ h.get? p.2 = some (PySem.W.tabObj #[]) := by
    intro p hp
    simp only [List.mem_cons, List.not_mem_nil, or_false] at hp
    rcases hp with rfl | rfl | rfl | rfl
    · exact PySem.W.tab_of TT X rc_text_for (tabIn_of n_text_for l_text_for rfl cl_text_for vp_text_for)
    · exact PySem.W.tab_of TT X rc_clash (tabIn_of n_clash l_clash rfl cl_clash vp_clash)
    · exact PySem.W.tab_of TT X rc_unlike (tabIn_of n_unlike l_unlike rfl cl_unlike vp_unlike)
    · exact PySem.W.tab_of TT X rc_beyond (tabIn_of n_beyond l_beyond rfl cl_beyond vp_beyond)
  refine ⟨B.d_law, [(cc_text_for, P_text_for), (cc_clash, P_clash), (cc_unlike, P_unlike), (cc_beyond, P_beyond)], spLawL K [P_text_for, P_clash, P_unlike, P_beyond], fun p hp => (ht p hp).2, fun p hp => noTab X notab (ht p hp).2, fun p hp => (ht p hp).1, fun s v => .of_eq rfl, fun H a ns hl _ hT hS => ⟨a, ns, rfl, hS, by omega, fun p hp => ?_, fun _ => rfl⟩, fun base _ _ hB => ok_law T ⟨⟨_, _, tabD_of (hB (cc_text_for, P_text_for) (by simp)) rfl ndP (by simp)⟩, ⟨_, _, tabD_of (hB (cc_clash, P_clash) (by simp)) rfl ndP (by simp)⟩, ⟨_, _, tabD_of (hB (cc_unlike, P_unlike) (by simp)) rfl ndP (by simp)⟩, ⟨_, _, tabD_of (hB (cc_beyond, P_beyond) (by simp)) rfl ndP (by simp)⟩⟩⟩
  simp only [List.mem_cons, List.not_mem_nil, or_false] at hp
  rcases hp with hp | hp | hp | hp
  · rw [hp]; exact hT (cc_text_for, P_text_for) (by simp)
  · rw [hp]; exact hT (cc_clash, P_clash) (by simp)
  · rw [hp]; exact hT (cc_unlike, P_unlike) (by simp)
  · rw [hp]; exact hT (cc_beyond, P_beyond) (by simp)
theorem walk {l : PySem.W.OpenLaw} {q : Program} {loose : List Str} {XP : (Str → Option Value) → Heap → Prop} {YP : World → Heap → Prop} {d : DefRec} {K : Params → PySem.W.Frag} (hn : l.most = some 63) (hdf : d.params.defaults = [])
    (hY : ∀ (w : World) (h : Heap), YP w h → (K w.params).In h)
    (F : ∀ (w : World) (mg mb : Str → Option Value) (lo : List Str) (mean : ExcName → Option Value) (fa : Addr) (h : Heap), PyProof.Rows.Top q lo mean mg mb h → (K w.params).In h → mg d.name = some (.ref fa) → LawAtS l w (K w.params) (L2.CX l.prog w) 24 63 "_law_script" mg fa h) :
    PySem.W.WalkO q loose XP YP l.row.toRowW d [] (fun f vs => PySem.call f vs) :=
  walk_T (n := 63) (k := 24) (x := "_law_script") (CX := fun w => L2.CX l.prog w) hn (by decide) hdf ⟨rfl, by decide, by decide⟩ hY F fun _ _ _ _ _ h => by
    obtain ⟨_, _, _, _, _, _, _, _, _, _, _, _, z⟩ := h
    exact z.elim
end KK

set_option Elab.async false
open PySem PySem.W PyProof.Rows
set_option maxRecDepth 100000 in
set_option maxHeartbeats 0 in
theorem PySem.Challenge.cw_figureread_k01_readers_refused_holds : PySem.Challenge.rw_figureread_k01_readers_refused.Holds := by
  w_on; o_law; k_head; (case hw => w_witness2)
  k_fill
  refine KK.walk (l := PySem.Challenge.rw_figureread_k01_readers_refused) rfl rfl (fun w h Y => PySem.W.km_in_of Y) ?F
  case F =>
    intro w mg mb lo mean fa h TT KX hmg
    refine' KK.all_mk TT KX hmg ?n_cPr ?n_cBR ?n_cBT ?n_cBC ?n_BadReader_init ?i_BadReader_init ?l_BadReader_init ?c_BadReader_init ?k_BadReader_init ?n_is_text ?l_is_text ?c_is_text ?k_is_text ?n_check_text ?l_check_text ?c_check_text ?k_check_text ?n_reader_fault ?l_reader_fault ?c_reader_fault ?k_reader_fault ?n_check_reader ?l_check_reader ?c_check_reader ?k_check_reader ?n_is_whole ?l_is_whole ?c_is_whole ?k_is_whole ?n_behind_figure ?l_behind_figure ?c_behind_figure ?k_behind_figure ?n_behind_point ?l_behind_point ?c_behind_point ?k_behind_point ?n_behind_under ?l_behind_under ?c_behind_under ?k_behind_under ?n_behind ?l_behind ?c_behind ?k_behind ?n_is_read ?l_is_read ?c_is_read ?k_is_read ?n_lowest ?l_lowest ?c_lowest ?k_lowest ?n_number_of ?l_number_of ?c_number_of ?k_number_of ?n_read ?l_read ?c_read ?k_read ?n_are_letters ?l_are_letters ?c_are_letters ?k_are_letters ?n_is_bound ?l_is_bound ?c_is_bound ?k_is_bound ?n_are_bounds ?l_are_bounds ?c_are_bounds ?k_are_bounds ?n_is_part ?l_is_part ?c_is_part ?k_is_part ?n_are_parts ?l_are_parts ?c_are_parts ?k_are_parts ?n_is_check_within ?l_is_check_within ?c_is_check_within ?k_is_check_within ?n_is_check ?l_is_check ?c_is_check ?k_is_check ?n_Program_init ?i_Program_init ?l_Program_init ?c_Program_init ?k_Program_init ?n_first_text ?l_first_text ?c_first_text ?k_first_text ?n_figures_behind ?l_figures_behind ?c_figures_behind ?k_figures_behind ?n_are_unlike_numbers ?l_are_unlike_numbers ?c_are_unlike_numbers ?k_are_unlike_numbers ?n_text_for ?l_text_for ?c_text_for ?cl_text_for ?vp_text_for ?rc_text_for ?k_text_for ?n_check_readers ?l_check_readers ?c_check_readers ?k_check_readers ?n_clash ?l_clash ?c_clash ?cl_clash ?vp_clash ?rc_clash ?k_clash ?n_unlike ?l_unlike ?c_unlike ?cl_unlike ?vp_unlike ?rc_unlike ?k_unlike ?n_beyond ?l_beyond ?c_beyond ?cl_beyond ?vp_beyond ?rc_beyond ?k_beyond ?n_stands_for ?l_stands_for ?c_stands_for ?k_stands_for ?n_law_begin ?l_law_begin ?c_law_begin ?k_law_begin ?n_law_draw ?l_law_draw ?c_law_draw ?k_law_draw ?n_law_reader ?l_law_reader ?c_law_reader ?k_law_reader ?n_law_due ?l_law_due ?c_law_due ?k_law_due ?n_law_told ?l_law_told ?c_law_told ?k_law_told ?n_law_text_told ?l_law_text_told ?c_law_text_told ?k_law_text_told ?n_law ?l_law ?c_law ?k_law ?pg_cPr ?hd_cPr ?po_cPr ?sa_cPr ?mk_cPr ?kc_cPr ?na_cPr_check ?na_cPr_reader ?ke_cBT ?be_cBT ?te_cBT ?ke_cBC ?be_cBC ?te_cBC ?ke_cBR ?be_cBR ?te_cBR ?qe_cBT ?qe_cBC ?xl_cBR ?se_cBR ?ne_cBR ?ga_cBR ?gg_cBR ?hx_cBR ?ic_cBR ?sb_cBR_cBR ?sb_cBT_cBR ?ic_cBT ?sb_cBT_cBT ?z_isinstance ?z_len ?z_enumerate ?z_all ?z_any ?z_str ?z_int ?z_tuple ?z_bool ?z_range ?z_min ?z_abs ?z_list ?v_SIGNS ?v_FIGURES ?v_OPTIONS ?w_OPTIONS ?w_OPTIONS0 ?w_OPTIONS1 ?w_OPTIONS2 ?w_OPTIONS3 ?w_OPTIONS4 ?w_OPTIONS5 ?v_PARTS ?w_PARTS ?v_FIRST ?w_FIRST ?v_PLAIN ?w_PLAIN ?v_MOST_PARTS ?v_MOST_CHECKS ?v_DEEPEST ?n_WORTHS ?wl_WORTHS ?kl_WORTHS ?wv_0 ?wv_1 ?wv_8 ?wv_t ?notab ?ndP
    (case n_cPr => k_is)
    (case n_cBR => k_is)
    (case n_cBT => k_is)
    (case n_cBC => k_is)
    (case n_BadReader_init => k_is)
    (case i_BadReader_init => k_is)
    (case l_BadReader_init => k_is)
    (case c_BadReader_init => k_is)
    (case k_BadReader_init => k_is)
    (case n_is_text => k_is)
    (case l_is_text => k_is)
    (case c_is_text => k_is)
    (case k_is_text => k_is)
    (case n_check_text => k_is)
    (case l_check_text => k_is)
    (case c_check_text => k_is)
    (case k_check_text => k_is)
    (case n_reader_fault => k_is)
    (case l_reader_fault => k_is)
    (case c_reader_fault => k_is)
    (case k_reader_fault => k_is)
    (case n_check_reader => k_is)
    (case l_check_reader => k_is)
    (case c_check_reader => k_is)
    (case k_check_reader => k_is)
    (case n_is_whole => k_is)
    (case l_is_whole => k_is)
    (case c_is_whole => k_is)
    (case k_is_whole => k_is)
    (case n_behind_figure => k_is)
    (case l_behind_figure => k_is)
    (case c_behind_figure => k_is)
    (case k_behind_figure => k_is)
    (case n_behind_point => k_is)
    (case l_behind_point => k_is)
    (case c_behind_point => k_is)
    (case k_behind_point => k_is)
    (case n_behind_under => k_is)
    (case l_behind_under => k_is)
    (case c_behind_under => k_is)
    (case k_behind_under => k_is)
    (case n_behind => k_is)
    (case l_behind => k_is)
    (case c_behind => k_is)
    (case k_behind => k_is)
    (case n_is_read => k_is)
    (case l_is_read => k_is)
    (case c_is_read => k_is)
    (case k_is_read => k_is)
    (case n_lowest => k_is)
    (case l_lowest => k_is)
    (case c_lowest => k_is)
    (case k_lowest => k_is)
    (case n_number_of => k_is)
    (case l_number_of => k_is)
    (case c_number_of => k_is)
    (case k_number_of => k_is)
    (case n_read => k_is)
    (case l_read => k_is)
    (case c_read => k_is)
    (case k_read => k_is)
    (case n_are_letters => k_is)
    (case l_are_letters => k_is)
    (case c_are_letters => k_is)
    (case k_are_letters => k_is)
    (case n_is_bound => k_is)
    (case l_is_bound => k_is)
    (case c_is_bound => k_is)
    (case k_is_bound => k_is)
    (case n_are_bounds => k_is)
    (case l_are_bounds => k_is)
    (case c_are_bounds => k_is)
    (case k_are_bounds => k_is)
    (case n_is_part => k_is)
    (case l_is_part => k_is)
    (case c_is_part => k_is)
    (case k_is_part => k_is)
    (case n_are_parts => k_is)
    (case l_are_parts => k_is)
    (case c_are_parts => k_is)
    (case k_are_parts => k_is)
    (case n_is_check_within => k_is)
    (case l_is_check_within => k_is)
    (case c_is_check_within => k_is)
    (case k_is_check_within => k_is)
    (case n_is_check => k_is)
    (case l_is_check => k_is)
    (case c_is_check => k_is)
    (case k_is_check => k_is)
    (case n_Program_init => k_is)
    (case i_Program_init => k_is)
    (case l_Program_init => k_is)
    (case c_Program_init => k_is)
    (case k_Program_init => k_is)
    (case n_first_text => k_is)
    (case l_first_text => k_is)
    (case c_first_text => k_is)
    (case k_first_text => k_is)
    (case n_figures_behind => k_is)
    (case l_figures_behind => k_is)
    (case c_figures_behind => k_is)
    (case k_figures_behind => k_is)
    (case n_are_unlike_numbers => k_is)
    (case l_are_unlike_numbers => k_is)
    (case c_are_unlike_numbers => k_is)
    (case k_are_unlike_numbers => k_is)
    (case n_text_for => k_is)
    (case l_text_for => k_is)
    (case c_text_for => k_is)
    (case cl_text_for => k_is)
    (case vp_text_for => rfl)
    (case rc_text_for => rfl)
    (case k_text_for => k_is)
    (case n_check_readers => k_is)
    (case l_check_readers => k_is)
    (case c_check_readers => k_is)
    (case k_check_readers => k_is)
    (case n_clash => k_is)
    (case l_clash => k_is)
    (case c_clash => k_is)
    (case cl_clash => k_is)
    (case vp_clash => rfl)
    (case rc_clash => rfl)
    (case k_clash => k_is)
    (case n_unlike => k_is)
    (case l_unlike => k_is)
    (case c_unlike => k_is)
    (case cl_unlike => k_is)
    (case vp_unlike => rfl)
    (case rc_unlike => rfl)
    (case k_unlike => k_is)
    (case n_beyond => k_is)
    (case l_beyond => k_is)
    (case c_beyond => k_is)
    (case cl_beyond => k_is)
    (case vp_beyond => rfl)
    (case rc_beyond => rfl)
    (case k_beyond => k_is)
    (case n_stands_for => k_is)
    (case l_stands_for => k_is)
    (case c_stands_for => k_is)
    (case k_stands_for => k_is)
    (case n_law_begin => k_is)
    (case l_law_begin => k_is)
    (case c_law_begin => k_is)
    (case k_law_begin => k_is)
    (case n_law_draw => k_is)
    (case l_law_draw => k_is)
    (case c_law_draw => k_is)
    (case k_law_draw => k_is)
    (case n_law_reader => k_is)
    (case l_law_reader => k_is)
    (case c_law_reader => k_is)
    (case k_law_reader => k_is)
    (case n_law_due => k_is)
    (case l_law_due => k_is)
    (case c_law_due => k_is)
    (case k_law_due => k_is)
    (case n_law_told => k_is)
    (case l_law_told => k_is)
    (case c_law_told => k_is)
    (case k_law_told => k_is)
    (case n_law_text_told => k_is)
    (case l_law_text_told => k_is)
    (case c_law_text_told => k_is)
    (case k_law_text_told => k_is)
    (case n_law => k_is)
    (case l_law => k_is)
    (case c_law => k_is)
    (case k_law => k_is)
    (case pg_cPr => k_is)
    (case hd_cPr => k_is)
    (case po_cPr => k_is)
    (case sa_cPr => k_is)
    (case mk_cPr => k_is)
    (case kc_cPr => k_is)
    (case na_cPr_check => k_is)
    (case na_cPr_reader => k_is)
    (case ke_cBT => k_is)
    (case be_cBT => k_is)
    (case te_cBT => k_is)
    (case ke_cBC => k_is)
    (case be_cBC => k_is)
    (case te_cBC => k_is)
    (case ke_cBR => k_is)
    (case be_cBR => k_is)
    (case te_cBR => k_is)
    (case qe_cBT => k_exc)
    (case qe_cBC => k_exc)
    (case xl_cBR => k_is)
    (case se_cBR => k_is)
    (case ne_cBR => k_is)
    (case ga_cBR => k_is)
    (case gg_cBR => k_is)
    (case hx_cBR => k_is)
    (case ic_cBR => k_is)
    (case sb_cBR_cBR => k_is)
    (case sb_cBT_cBR => k_is)
    (case ic_cBT => k_is)
    (case sb_cBT_cBT => k_is)
    (case z_isinstance => k_is)
    (case z_len => k_is)
    (case z_enumerate => k_is)
    (case z_all => k_is)
    (case z_any => k_is)
    (case z_str => k_is)
    (case z_int => k_is)
    (case z_tuple => k_is)
    (case z_bool => k_is)
    (case z_range => k_is)
    (case z_min => k_is)
    (case z_abs => k_is)
    (case z_list => k_is)
    (case v_SIGNS => k_is)
    (case v_FIGURES => k_is)
    (case v_OPTIONS => k_is)
    (case w_OPTIONS => k_is)
    (case w_OPTIONS0 => k_is)
    (case w_OPTIONS1 => k_is)
    (case w_OPTIONS2 => k_is)
    (case w_OPTIONS3 => k_is)
    (case w_OPTIONS4 => k_is)
    (case w_OPTIONS5 => k_is)
    (case v_PARTS => k_is)
    (case w_PARTS => k_is)
    (case v_FIRST => k_is)
    (case w_FIRST => k_is)
    (case v_PLAIN => k_is)
    (case w_PLAIN => k_is)
    (case v_MOST_PARTS => k_is)
    (case v_MOST_CHECKS => k_is)
    (case v_DEEPEST => k_is)
    (case n_WORTHS => k_is)
    (case wl_WORTHS => k_is)
    (case kl_WORTHS => k_keys)
    (case wv_0 => k_is)
    (case wv_1 => k_is)
    (case wv_8 => k_is)
    (case wv_t => k_is)
    (case notab => kernel_rfl)
    (case ndP => decide)
#print axioms PySem.Challenge.cw_figureread_k01_readers_refused_holds

