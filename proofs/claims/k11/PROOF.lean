import PyProof.Rows.All
import PySem.Challenge.RW_auctionstack_k11_fees_on_prices
import Wide.All
import OpenK.AllK
import Wide.FinOn
import HandS.ForMost
import HandS.ForExc
import HandS.CallSlots
import HandS.Lambda
import HandS.TupAny
import HandS.Flow
import HandS.Style
import HandS.FStr
import HandS.SortInts
import HandS.Defaults
import HandS.AnyAll
import HandS.GenList
import PyProof.SumAny
import PyProof.TupleOfGen
import HandS.Codes
import HandS.EndTab
import HandS.HeadHook4
import HandS.Deep
import HandS.SortRule
import KE.GoesEnum
import HandS.Iter
import HandS.Zip
import HandS.Head2
import KE.KDictZip
import KE.KTurns
import HandS.HeadEnd
section
set_option Elab.async false
set_option linter.all false
set_option maxRecDepth 100000
set_option maxHeartbeats 2000000
namespace DV
open PySem L2

/-- a value as plain data; ref: a thing of the plain heap -/
inductive D where
  | non | bl (b : Bool) | int (i : Int) | str (x : Str)
  | tup (ds : List D) | lst (ds : List D) | dct (kvs : List (Key × D)) | obj (c : Nat) (fs : List (Str × D))
  | ref (n : Nat) | clo (k : Nat) | scr (ns : List Int)
  deriving Inhabited

/-- a thing of the plain heap -/
inductive O where
  | lst (ds : List D) | dct (kvs : List (Key × D)) | lkd (kvs : List (Key × D)) | ins (c : Nat) (fs : List (Str × D))
  deriving Inhabited
abbrev AH := List (Option O)
abbrev AS := List (Option D)

/-- what is known for good, and what is held apart -/
structure Kn where
  f : Addr → Option HO
  pr : List (Addr × HO)
instance : CoeFun Kn (fun _ => Addr → Option HO) := ⟨Kn.f⟩
def Kn.add (F : Kn) (p : Addr) (o : HO) : Kn := ⟨upd F.f p o, F.pr⟩
structure G where
  K : PySem.W.Frag
  cls : Nat → Addr
  exc : Nat → Addr
  Cl : Nat → Addr → HO → Addr → HO → Prop
  Ti : Hp → Prop

def TupAt (K : PySem.W.Frag) (F : Kn) (a : Addr) (vs : List V) : Prop := F a = some (.tup vs) ∨ (∀ H : Hp, SqT K H a vs)

/-- the law's own list: held for good, or as the module has it -/
def ScrAt (K : PySem.W.Frag) (F : Kn) (a : Addr) (ns : List Int) : Prop := (∃ o, F a = some o ∧ (o = .lst (ns.map V.int) ∨ ∃ ob, o = .frz ob (.lst (ns.map V.int)))) ∨ ∀ H : Hp, SqL K H a (ns.map V.int)
mutual
def VR (g : G) (F : Kn) (ι : List Addr) : D → V → Prop
  | .non, v => v = .non
  | .bl b, v => v = .bl b
  | .int i, v => v = .int i
  | .str x, v => v = .str x
  | .tup ds, v => ∃ a vs, v = .ref a ∧ TupAt g.K F a vs ∧ VRs g F ι ds vs
  | .lst ds, v => ∃ a vs, v = .ref a ∧ F a = some (.lst vs) ∧ VRs g F ι ds vs
  | .dct kvs, v => ∃ a ws, v = .ref a ∧ F a = some (.dK ws) ∧ VRk g F ι kvs ws
  | .obj c fs, v => ∃ a dx ws, v = .ref a ∧ F a = some (.ins (g.cls c) dx ws) ∧ VRf g F ι fs ws
  | .ref n, v => ∃ a, v = .ref a ∧ ι[n]? = some a
  | .clo k, v => ∃ a o c u, v = .ref a ∧ F a = some o ∧ F c = some u ∧ g.Cl k a o c u
  | .scr ns, v => ∃ a, v = .ref a ∧ ScrAt g.K F a ns
def VRs (g : G) (F : Kn) (ι : List Addr) : List D → List V → Prop
  | [], vs => vs = []
  | d :: ds, vs => ∃ v ws, vs = v :: ws ∧ VR g F ι d v ∧ VRs g F ι ds ws
def VRk (g : G) (F : Kn) (ι : List Addr) : List (Key × D) → List (Key × V) → Prop
  | [], vs => vs = []
  | (k, d) :: ds, vs => ∃ v ws, vs = (k, v) :: ws ∧ VR g F ι d v ∧ VRk g F ι ds ws
def VRf (g : G) (F : Kn) (ι : List Addr) : List (Str × D) → List (Str × V) → Prop
  | [], vs => vs = []
  | (k, d) :: ds, vs => ∃ v ws, vs = (k, v) :: ws ∧ VR g F ι d v ∧ VRf g F ι ds ws
end

/-- the known part grows -/
structure Lf (F : Kn) (ι : List Addr) (F' : Kn) (ι' : List Addr) : Prop where
  fr : ∀ a o, F a = some o → F' a = some o
  io : ∃ more, ι' = ι ++ more
theorem Lf.refl {F : Kn} {ι : List Addr} : Lf F ι F ι := ⟨fun _ _ h => h, [], by simp⟩
theorem Lf.trans {F F1 F2 : Kn} {ι ι1 ι2 : List Addr} (a : Lf F ι F1 ι1) (b : Lf F1 ι1 F2 ι2) : Lf F ι F2 ι2 :=
  ⟨fun x o h => b.fr x o (a.fr x o h), by obtain ⟨m, rfl⟩ := a.io; obtain ⟨m', rfl⟩ := b.io; exact ⟨m ++ m', by simp⟩⟩
theorem Lf.at {F F1 : Kn} {ι ι1 : List Addr} (a : Lf F ι F1 ι1) {n : Nat} {x : Addr} (h : ι[n]? = some x) : ι1[n]? = some x := by
  obtain ⟨m, rfl⟩ := a.io
  rw [List.getElem?_append_left (List.getElem?_eq_some_iff.mp h).1]; exact h
/-- .. what is held apart stays -/
structure Le (F : Kn) (ι : List Addr) (F' : Kn) (ι' : List Addr) : Prop extends Lf F ι F' ι' where
  pr : F'.pr = F.pr
theorem Le.refl {F : Kn} {ι : List Addr} : Le F ι F ι := ⟨.refl, rfl⟩
theorem Le.trans {F F1 F2 : Kn} {ι ι1 ι2 : List Addr} (a : Le F ι F1 ι1) (b : Le F1 ι1 F2 ι2) : Le F ι F2 ι2 := ⟨a.toLf.trans b.toLf, b.pr.trans a.pr⟩
theorem Le.at {F F1 : Kn} {ι ι1 : List Addr} (a : Le F ι F1 ι1) {n : Nat} {x : Addr} (h : ι[n]? = some x) : ι1[n]? = some x := a.toLf.at h

mutual
theorem VR.monoF {g : G} {F F' : Kn} {ι ι' : List Addr} (l : Lf F ι F' ι') : ∀ (d : D) (v : V), VR g F ι d v → VR g F' ι' d v
  | .non, v, h => by simpa only [VR] using h
  | .bl b, v, h => by simpa only [VR] using h
  | .int i, v, h => by simpa only [VR] using h
  | .str x, v, h => by simpa only [VR] using h
  | .tup ds, v, h => by
    simp only [VR] at h ⊢
    obtain ⟨a, vs, e, t, r⟩ := h
    exact ⟨a, vs, e, t.imp (l.fr _ _) id, VRs.monoF l ds vs r⟩
  | .lst ds, v, h => by
    simp only [VR] at h ⊢
    obtain ⟨a, vs, e, t, r⟩ := h
    exact ⟨a, vs, e, l.fr _ _ t, VRs.monoF l ds vs r⟩
  | .dct kvs, v, h => by
    simp only [VR] at h ⊢
    obtain ⟨a, vs, e, t, r⟩ := h
    exact ⟨a, vs, e, l.fr _ _ t, VRk.monoF l kvs vs r⟩
  | .obj c fs, v, h => by
    simp only [VR] at h ⊢
    obtain ⟨a, dx, vs, e, t, r⟩ := h
    exact ⟨a, dx, vs, e, l.fr _ _ t, VRf.monoF l fs vs r⟩
  | .ref n, v, h => by
    simp only [VR] at h ⊢
    obtain ⟨a, e, t⟩ := h
    exact ⟨a, e, l.at t⟩
  | .clo k, v, h => by
    simp only [VR] at h ⊢
    obtain ⟨a, o, c, u, e, t, t2, q⟩ := h
    exact ⟨a, o, c, u, e, l.fr _ _ t, l.fr _ _ t2, q⟩
  | .scr ns, v, h => by
    simp only [VR] at h ⊢
    obtain ⟨a, e, t⟩ := h
    exact ⟨a, e, t.imp (fun ⟨o, z, q⟩ => ⟨o, l.fr _ _ z, q⟩) id⟩
theorem VRs.monoF {g : G} {F F' : Kn} {ι ι' : List Addr} (l : Lf F ι F' ι') : ∀ (d : List D) (v : List V), VRs g F ι d v → VRs g F' ι' d v
  | [], v, h => by simpa only [VRs] using h
  | d :: ds, v, h => by
    simp only [VRs] at h ⊢
    obtain ⟨x, ws, e, r, rs⟩ := h
    exact ⟨x, ws, e, VR.monoF l d x r, VRs.monoF l ds ws rs⟩
theorem VRk.monoF {g : G} {F F' : Kn} {ι ι' : List Addr} (l : Lf F ι F' ι') : ∀ (d : List (Key × D)) (v : List (Key × V)), VRk g F ι d v → VRk g F' ι' d v
  | [], v, h => by simpa only [VRk] using h
  | (k, d) :: ds, v, h => by
    simp only [VRk] at h ⊢
    obtain ⟨x, ws, e, r, rs⟩ := h
    exact ⟨x, ws, e, VR.monoF l d x r, VRk.monoF l ds ws rs⟩
theorem VRf.monoF {g : G} {F F' : Kn} {ι ι' : List Addr} (l : Lf F ι F' ι') : ∀ (d : List (Str × D)) (v : List (Str × V)), VRf g F ι d v → VRf g F' ι' d v
  | [], v, h => by simpa only [VRf] using h
  | (k, d) :: ds, v, h => by
    simp only [VRf] at h ⊢
    obtain ⟨x, ws, e, r, rs⟩ := h
    exact ⟨x, ws, e, VR.monoF l d x r, VRf.monoF l ds ws rs⟩
end

theorem VR.mono {g : G} {F F' : Kn} {ι ι' : List Addr} (l : Le F ι F' ι') (d : D) (v : V) (h : VR g F ι d v) : VR g F' ι' d v := VR.monoF l.toLf d v h
theorem VRs.mono {g : G} {F F' : Kn} {ι ι' : List Addr} (l : Le F ι F' ι') (d : List D) (v : List V) (h : VRs g F ι d v) : VRs g F' ι' d v := VRs.monoF l.toLf d v h
theorem VRk.mono {g : G} {F F' : Kn} {ι ι' : List Addr} (l : Le F ι F' ι') (d : List (Key × D)) (v : List (Key × V)) (h : VRk g F ι d v) : VRk g F' ι' d v := VRk.monoF l.toLf d v h
theorem VRf.mono {g : G} {F F' : Kn} {ι ι' : List Addr} (l : Le F ι F' ι') (d : List (Str × D)) (v : List (Str × V)) (h : VRf g F ι d v) : VRf g F' ι' d v := VRf.monoF l.toLf d v h

def OR (g : G) (F : Kn) (ι : List Addr) : O → HO → Prop
  | .lst ds, x => ∃ vs, x = .lst vs ∧ VRs g F ι ds vs
  | .dct kvs, x => ∃ ws, x = .dK ws ∧ VRk g F ι kvs ws
  | .lkd kvs, x => ∃ ob ws, x = .frz ob (.dK ws) ∧ VRk g F ι kvs ws
  | .ins c fs, x => ∃ dx ws, x = .ins (g.cls c) dx ws ∧ VRf g F ι fs ws
theorem OR.monoF {g : G} {F F' : Kn} {ι ι' : List Addr} (l : Lf F ι F' ι') : ∀ {o : O} {x : HO}, OR g F ι o x → OR g F' ι' o x
  | .lst ds, x, ⟨vs, e, r⟩ => ⟨vs, e, VRs.monoF l _ _ r⟩
  | .dct ds, x, ⟨vs, e, r⟩ => ⟨vs, e, VRk.monoF l _ _ r⟩
  | .lkd ds, x, ⟨ob, vs, e, r⟩ => ⟨ob, vs, e, VRk.monoF l _ _ r⟩
  | .ins c ds, x, ⟨dx, vs, e, r⟩ => ⟨dx, vs, e, VRf.monoF l _ _ r⟩
theorem OR.mono {g : G} {F F' : Kn} {ι ι' : List Addr} (l : Le F ι F' ι') {o : O} {x : HO} (h : OR g F ι o x) : OR g F' ι' o x := h.monoF l.toLf

theorem OR.nt {g : G} {F : Kn} {ι : List Addr} : ∀ {o : O} {x : HO}, OR g F ι o x → ∀ ps, x ≠ .tbl ps
  | .lst ds, x, ⟨vs, e, r⟩, ps, z => by rw [e] at z; cases z
  | .dct ds, x, ⟨vs, e, r⟩, ps, z => by rw [e] at z; cases z
  | .lkd ds, x, ⟨ob, vs, e, r⟩, ps, z => by rw [e] at z; cases z
  | .ins c ds, x, ⟨dx, vs, e, r⟩, ps, z => by rw [e] at z; cases z
/-- what is known stands (a dict maybe locked) -/
def Std (H : Hp) (a : Addr) (o : HO) : Prop := (H a = some o ∧ ∀ ps, o ≠ .tbl ps) ∨ ∃ ws ob, o = .dK ws ∧ H a = some (.frz ob o)

/-- the plain heap, held -/
structure HR (g : G) (F : Kn) (ι : List Addr) (h : AH) (H : Hp) : Prop where
  fr : ∀ a o, F a = some o → Std H a o
  hp : ∀ (n : Nat) (o : O), h[n]? = some (some o) → ∃ a x, ι[n]? = some a ∧ H a = some x ∧ OR g F ι o x ∧ F a = none
  inj : ∀ (n m : Nat) (a : Addr), (∃ o, h[n]? = some (some o)) → (∃ o, h[m]? = some (some o)) → ι[n]? = some a → ι[m]? = some a → n = m
  len : ι.length = h.length
  ti : g.Ti H
  pv : ∀ q ∈ F.pr, H q.1 = some q.2 ∧ F q.1 = none ∧ ∀ (n : Nat) (o : O), h[n]? = some (some o) → ι[n]? ≠ some q.1
  pt : ∀ q ∈ F.pr, ∃ xs, q.2 = .lst xs
/-- the slots -/
def LR (g : G) (F : Kn) (ι : List Addr) (σ : AS) (σv : L2.St) : Prop :=
  σ.length = σv.length ∧ ∀ (i : Nat) (d : D), σ[i]? = some (some d) → ∃ v, σv[i]? = some (some v) ∧ VR g F ι d v
structure SR (g : G) (F : Kn) (ι : List Addr) (σ : AS) (h : AH) (σv : L2.St) (H : Hp) : Prop where
  hr : HR g F ι h H
  lr : LR g F ι σ σv
theorem LR.monoF {g : G} {F F' : Kn} {ι ι' : List Addr} (l : Lf F ι F' ι') {σ : AS} {σv : L2.St} (r : LR g F ι σ σv) : LR g F' ι' σ σv :=
  ⟨r.1, fun i d e => let ⟨v, e', q⟩ := r.2 i d e; ⟨v, e', VR.monoF l _ _ q⟩⟩
theorem LR.mono {g : G} {F F' : Kn} {ι ι' : List Addr} (l : Le F ι F' ι') {σ : AS} {σv : L2.St} (r : LR g F ι σ σv) : LR g F' ι' σ σv := r.monoF l.toLf

/-! ### results -/
inductive Rv (α : Type) where
  | ok (a : α) (h : AH) | exc (c : Nat) (h : AH) | stuck
inductive Fl where
  | nx (σ : AS) | rt (d : D) | bk (σ : AS) | ct (σ : AS)
inductive Rs where
  | ok (f : Fl) (h : AH) | exc (c : Nat) (σ : AS) (h : AH) | stuck
abbrev ME := AS → AH → Rv D
abbrev MA := AS → AH → Rv (List D)
abbrev MT := AS → AH → Rv Bool
abbrev MS := AS → AH → Rs

def bindR {α β : Type} (r : Rv α) (f : α → AH → Rv β) : Rv β :=
  match r with
  | .ok a h => f a h
  | .exc c h => .exc c h
  | .stuck => .stuck

/-- what is wanted of a result -/
def Post {α β : Type} (g : G) (W : WX) (F : Kn) (ι : List Addr) (σv : L2.St) (rel : Kn → List Addr → α → β → Prop) (r : Rv α) (Q : β → Hp → Prop) : Prop :=
  match r with
  | .ok d h => ∀ F' ι' H' v, Le F ι F' ι' → HR g F' ι' h H' → rel F' ι' d v → Q v H'
  | .exc c h => ∀ F' ι' H', Le F ι F' ι' → HR g F' ι' h H' → W (.ref (g.exc c)) none σv H'
  | .stuck => False
theorem Post.le {α β : Type} {g : G} {W : WX} {F F1 : Kn} {ι ι1 : List Addr} {σv : L2.St} {rel : Kn → List Addr → α → β → Prop} {r : Rv α} {Q : β → Hp → Prop} (l : Le F ι F1 ι1)
    (p : Post g W F ι σv rel r Q) : Post g W F1 ι1 σv rel r Q := by
  cases r with
  | ok d h => exact fun F' ι' H' v l' hr rv => p F' ι' H' v (l.trans l') hr rv
  | exc c h => exact fun F' ι' H' l' hr => p F' ι' H' (l.trans l') hr
  | stuck => exact p

def tM {α β : Type} (g : G) (W : WX) (rel : Kn → List Addr → α → β → Prop) (m : AS → AH → Rv α) : L2.St → Hp → (β → Hp → Prop) → Prop := fun σv H Q =>
  ∃ F ι σ h, HR g F ι h H ∧ LR g F ι σ σv ∧ Post g W F ι σv rel (m σ h) Q
abbrev tE (g : G) (W : WX) (m : ME) : TE := tM g W (VR g) m
abbrev tA (g : G) (W : WX) (m : MA) : TA := tM g W (VRs g) m
abbrev tT (g : G) (W : WX) (m : MT) : TT := tM g W (fun _ _ b c => c = b) m

/-- a step, then what follows -/
theorem tM_bind {α β α' β' : Type} {g : G} {W : WX} {rel : Kn → List Addr → α → β → Prop} {rel' : Kn → List Addr → α' → β' → Prop} {m : AS → AH → Rv α} {f : AS → α → AH → Rv α'} {F : Kn} {ι : List Addr} {σ : AS} {h : AH} {σv : L2.St} {H : Hp}
    {Q : β → Hp → Prop} {Q' : β' → Hp → Prop} (hr : HR g F ι h H) (lr : LR g F ι σ σv) (p : Post g W F ι σv rel' (bindR (m σ h) (f σ)) Q')
    (k : ∀ F1 ι1 H1 a h1 v, Le F ι F1 ι1 → HR g F1 ι1 h1 H1 → LR g F1 ι1 σ σv → rel F1 ι1 a v → Post g W F1 ι1 σv rel' (f σ a h1) Q' → Q v H1) : tM g W rel m σv H Q := by
  refine ⟨F, ι, σ, h, hr, lr, ?_⟩
  revert p
  cases m σ h with
  | ok a h1 => exact fun p F1 ι1 H1 v l hr1 r1 => k F1 ι1 H1 a h1 v l hr1 (lr.mono l) r1 (p.le l)
  | exc c h1 => exact fun p => p
  | stuck => exact fun p => p
end DV
end
section
set_option Elab.async false
set_option linter.all false
set_option maxRecDepth 100000
set_option maxHeartbeats 2000000
namespace DV
open PySem L2

/-! ### weakening -/
section
variable {X : Cx} {e : Expr} {es : List Expr}
theorem PE_weak {t t' : TE} (h : PE X e t) (k : ∀ σ H Q, t' σ H Q → t σ H Q) : PE X e t' := ⟨fun pins s σ H Q I q => h.run pins s σ H Q I (k σ H Q q)⟩
theorem PT_weak {t t' : TT} (h : PT X e t) (k : ∀ σ H Q, t' σ H Q → t σ H Q) : PT X e t' := ⟨fun pins s σ H Q I q => h.run pins s σ H Q I (k σ H Q q)⟩
theorem PW_weak {t t' : TT} (h : PW X e t) (k : ∀ σ H Q, t' σ H Q → t σ H Q) : PW X e t' := ⟨fun wh pins s σ H Q I q => h.run wh pins s σ H Q I (k σ H Q q)⟩
theorem PA_weak {t t' : TA} (h : PA X es t) (k : ∀ σ H Q, t' σ H Q → t σ H Q) : PA X es t' := ⟨fun pos pins s σ H Q I q => h.run pos pins s σ H Q I (k σ H Q q)⟩
theorem PO_weak {e : Option Expr} {t t' : TO} (h : PO X e t) (k : ∀ σ H Q, t' σ H Q → t σ H Q) : PO X e t' := ⟨fun pins s σ H Q I q => h.run pins s σ H Q I (k σ H Q q)⟩
end

/-! ### the heap relation: steps -/
section
variable {g : G} {F : Kn} {ι : List Addr} {h : AH} {H : Hp}
theorem add_same {F : Kn} {a : Addr} {o : HO} : (F.add a o) a = some o := upd_same
theorem add_ne {F : Kn} {a b : Addr} {o : HO} (h : b ≠ a) : (F.add a o) b = F b := upd_ne h
theorem Le.add {F : Kn} {ι : List Addr} {p : Addr} {o : HO} (h : F p = none) : Le F ι (F.add p o) ι := ⟨⟨fun a u e => by rw [add_ne (ne_of_none (H := F.f) e h)]; exact e, [], by simp⟩, rfl⟩
theorem HR.free (r : HR g F ι h H) {p : Addr} (hp : H p = none) : F p = none := by
  cases e : F p with
  | none => rfl
  | some o =>
    rcases r.fr p o e with ⟨z, _⟩ | ⟨_, _, _, z⟩ <;> rw [hp] at z <;> cases z
def Wr : Option HO → Prop
  | some (.lst _) => True
  | some (.dK _) => True
  | some (.ins _ _ _) => True
  | some (.frz _ _) => True
  | _ => False
/-- what Ti bears -/
structure TiOk (g : G) : Prop where
  upd : ∀ (H : Hp) (a : Addr) (o : HO), g.Ti H → (H a = none ∨ Wr (H a)) → g.Ti (upd H a o)
/-- a new known thing -/
theorem HR.newF (t : TiOk g) (r : HR g F ι h H) {p : Addr} (hp : H p = none) (o : HO) (hnt : ∀ ps, o ≠ HO.tbl ps := by intro _ z; cases z) : HR g (F.add p o) ι h (upd H p o) ∧ Le F ι (F.add p o) ι := by
  have hF := r.free hp
  have l : Le F ι (F.add p o) ι := Le.add hF
  refine ⟨⟨fun a u e => ?_, fun n u e => ?_, r.inj, r.len, t.upd _ _ _ r.ti (.inl hp), fun q hq => ?_, r.pt⟩, l⟩
  · by_cases ha : a = p
    · rw [ha, add_same] at e
      rw [ha]
      cases e
      exact .inl ⟨upd_same, hnt⟩
    · rw [add_ne ha] at e
      unfold Std
      rw [upd_ne ha]
      exact r.fr a u e
  · obtain ⟨a, x, e1, e2, e3, e4⟩ := r.hp n u e
    have ha : a ≠ p := ne_of_none e2 hp
    exact ⟨a, x, e1, by rw [upd_ne ha]; exact e2, e3.mono l, by rw [add_ne ha]; exact e4⟩
  · obtain ⟨q1, q2, q3⟩ := r.pv q hq
    have ha : q.1 ≠ p := ne_of_none q1 hp
    exact ⟨by rw [upd_ne ha]; exact q1, by rw [add_ne ha]; exact q2, q3⟩
/-- a new thing of the plain heap -/
theorem HR.newO (t : TiOk g) (r : HR g F ι h H) {p : Addr} (hp : H p = none) {o : O} {x : HO} (ho : OR g F ι o x) : HR g F (ι ++ [p]) (h ++ [some o]) (upd H p x) ∧ Le F ι F (ι ++ [p]) := by
  have l : Le F ι F (ι ++ [p]) := ⟨⟨fun _ _ e => e, [p], rfl⟩, rfl⟩
  have hl := r.len
  have old : ∀ {n : Nat} {u : O}, (h ++ [some o])[n]? = some (some u) → (n < h.length ∧ h[n]? = some (some u)) ∨ (n = h.length ∧ u = o) := by
    intro n u e
    by_cases hn : n < h.length
    · rw [List.getElem?_append_left hn] at e
      exact .inl ⟨hn, e⟩
    · rw [List.getElem?_append_right (by omega)] at e
      by_cases hz : n - h.length = 0
      · rw [hz] at e
        simp at e
        exact .inr ⟨by omega, e.symm⟩
      · rw [List.getElem?_eq_none (by simp; omega)] at e
        cases e
  have iold : ∀ {n : Nat} {a : Addr}, n < h.length → (ι ++ [p])[n]? = some a → ι[n]? = some a := by
    intro n a hn e
    rwa [List.getElem?_append_left (by omega)] at e
  have inew : ∀ {a : Addr}, (ι ++ [p])[h.length]? = some a → a = p := by
    intro a e
    rw [← hl] at e
    simp at e
    exact e.symm
  refine ⟨⟨fun a u e => ?_, fun n u e => ?_, fun n m a hn hm en em => ?_, by simp [hl], t.upd _ _ _ r.ti (.inl hp), fun q hq => ?_, r.pt⟩, l⟩
  · have ha : a ≠ p := by
      rintro rfl
      rw [r.free hp] at e
      cases e
    unfold Std
    rw [upd_ne ha]
    exact r.fr a u e
  · rcases old e with ⟨hn, e⟩ | ⟨hn, rfl⟩
    · obtain ⟨a, y, e1, e2, e3, e4⟩ := r.hp n u e
      exact ⟨a, y, l.at e1, by rw [upd_ne (ne_of_none e2 hp)]; exact e2, e3.mono l, e4⟩
    · rw [hn, ← hl]
      exact ⟨p, x, by simp, upd_same, ho.mono l, r.free hp⟩
  · obtain ⟨u, hn⟩ := hn
    obtain ⟨u', hm⟩ := hm
    rcases old hn with ⟨n1, e1⟩ | ⟨n1, rfl⟩ <;> rcases old hm with ⟨m1, e2⟩ | ⟨m1, rfl⟩
    · exact r.inj n m a ⟨_, e1⟩ ⟨_, e2⟩ (iold n1 en) (iold m1 em)
    · rw [m1] at em
      have z := inew em
      obtain ⟨b, y, q1, q2, _⟩ := r.hp n _ e1
      rw [iold n1 en] at q1
      cases q1
      rw [z, hp] at q2
      cases q2
    · rw [n1] at en
      have z := inew en
      obtain ⟨b, y, q1, q2, _⟩ := r.hp m _ e2
      rw [iold m1 em] at q1
      cases q1
      rw [z, hp] at q2
      cases q2
    · omega
  · obtain ⟨q1, q2, q3⟩ := r.pv q hq
    have ha : q.1 ≠ p := ne_of_none q1 hp
    refine ⟨by rw [upd_ne ha]; exact q1, q2, fun n u e => ?_⟩
    rcases old e with ⟨hn, e⟩ | ⟨hn, rfl⟩
    · intro z
      exact q3 n u e (iold hn z)
    · rw [hn]
      intro z
      exact ha (inew z)
/-- a thing of the plain heap is written -/
theorem HR.write (t : TiOk g) (r : HR g F ι h H) {n : Nat} {o o' : O} {a : Addr} {x' : HO} (hn : h[n]? = some (some o)) (ha : ι[n]? = some a) (hm : Wr (H a)) (ho : OR g F ι o' x') :
    HR g F ι (h.set n (some o')) (upd H a x') := by
  have hlt : n < h.length := (List.getElem?_eq_some_iff.mp hn).1
  obtain ⟨a', x, q1, q2, q3, q4⟩ := r.hp n o hn
  rw [ha] at q1
  cases q1
  refine ⟨fun b u e => ?_, fun m u e => ?_, fun m k b hm' hk e1 e2 => ?_, by simp [r.len], t.upd _ _ _ r.ti (.inr hm), fun q hq => ?_, r.pt⟩
  · have hb : b ≠ a := by
      rintro rfl
      rw [q4] at e
      cases e
    unfold Std
    rw [upd_ne hb]
    exact r.fr b u e
  · by_cases hmn : m = n
    · subst hmn
      rw [List.getElem?_set_self hlt] at e
      cases e
      exact ⟨a, x', ha, upd_same, ho, q4⟩
    · rw [List.getElem?_set_ne (Ne.symm hmn)] at e
      obtain ⟨b, y, p1, p2, p3, p4⟩ := r.hp m u e
      have hb : b ≠ a := by
        rintro rfl
        exact hmn (r.inj m n _ ⟨u, e⟩ ⟨o, hn⟩ p1 ha)
      exact ⟨b, y, p1, by rw [upd_ne hb]; exact p2, p3, p4⟩
  · have live : ∀ {m : Nat}, (∃ o, (h.set n (some o'))[m]? = some (some o)) → ∃ o, h[m]? = some (some o) := by
      rintro m ⟨u, e⟩
      by_cases hmn : m = n
      · subst hmn
        exact ⟨o, hn⟩
      · rw [List.getElem?_set_ne (Ne.symm hmn)] at e
        exact ⟨u, e⟩
    exact r.inj m k b (live hm') (live hk) e1 e2
  · obtain ⟨p1, p2, p3⟩ := r.pv q hq
    have hb : q.1 ≠ a := fun z => p3 n o hn (by rw [ha, z])
    refine ⟨by rw [upd_ne hb]; exact p1, p2, fun m u e => ?_⟩
    by_cases hmn : m = n
    · subst hmn
      exact p3 m o hn
    · rw [List.getElem?_set_ne (Ne.symm hmn)] at e
      exact p3 m u e
/-- a thing of the plain heap is forgotten -/
theorem HR.drop (r : HR g F ι h H) (n : Nat) : HR g F ι (h.set n none) H := by
  have old : ∀ {m : Nat} {u : O}, (h.set n none)[m]? = some (some u) → m ≠ n ∧ h[m]? = some (some u) := by
    intro m u e
    by_cases hmn : m = n
    · subst hmn
      by_cases hl : m < h.length
      · rw [List.getElem?_set_self hl] at e
        cases e
      · rw [List.getElem?_eq_none (by simpa using hl)] at e
        cases e
    · rw [List.getElem?_set_ne (Ne.symm hmn)] at e
      exact ⟨hmn, e⟩
  exact ⟨r.fr, fun m u e => r.hp m u (old e).2, fun m k b ⟨u, hm⟩ ⟨u', hk⟩ e1 e2 => r.inj m k b ⟨u, (old hm).2⟩ ⟨u', (old hk).2⟩ e1 e2, by simp [r.len], r.ti, fun q hq => ⟨(r.pv q hq).1, (r.pv q hq).2.1, fun m u e => (r.pv q hq).2.2 m u (old e).2⟩, r.pt⟩
/-- a thing of the plain heap becomes known for good -/
theorem HR.freeze (r : HR g F ι h H) {n : Nat} {o : O} {a : Addr} {x : HO} (hn : h[n]? = some (some o)) (ha : ι[n]? = some a) (hx : H a = some x) :
    HR g (Kn.add F a x) ι (h.set n none) H ∧ Le F ι (Kn.add F a x) ι := by
  obtain ⟨a', x0, q1, q2, q3, q4⟩ := r.hp n o hn
  rw [ha] at q1
  cases q1
  have l : Le F ι (F.add a x) ι := Le.add q4
  have old : ∀ {m : Nat} {u : O}, (h.set n none)[m]? = some (some u) → m ≠ n ∧ h[m]? = some (some u) := by
    intro m u e
    by_cases hmn : m = n
    · subst hmn
      rw [List.getElem?_set_self (List.getElem?_eq_some_iff.mp hn).1] at e
      cases e
    · rw [List.getElem?_set_ne (Ne.symm hmn)] at e
      exact ⟨hmn, e⟩
  refine ⟨⟨fun b u e => ?_, fun m u e => ?_, fun m k b ⟨u, hm⟩ ⟨u', hk⟩ e1 e2 => r.inj m k b ⟨u, (old hm).2⟩ ⟨u', (old hk).2⟩ e1 e2, by simp [r.len], r.ti, fun q hq => ?_, r.pt⟩, l⟩
  · by_cases hb : b = a
    · subst hb
      rw [add_same] at e
      cases e
      exact .inl ⟨hx, by rw [hx] at q2; cases q2; exact q3.nt⟩
    · rw [add_ne hb] at e
      exact r.fr b u e
  · obtain ⟨hmn, e⟩ := old e
    obtain ⟨b, y, p1, p2, p3, p4⟩ := r.hp m u e
    have hb : b ≠ a := by
      rintro rfl
      exact hmn (r.inj m n _ ⟨u, e⟩ ⟨o, hn⟩ p1 ha)
    exact ⟨b, y, p1, p2, p3.mono l, by rw [add_ne hb]; exact p4⟩
  · obtain ⟨p1, p2, p3⟩ := r.pv q hq
    have hb : q.1 ≠ a := fun z => p3 n o hn (by rw [ha, z])
    exact ⟨p1, by rw [add_ne hb]; exact p2, fun m u e => p3 m u (old e).2⟩
end

/-! ### what a value is -/
def getLs (h : AH) : D → Option (List D)
  | .lst ds => some ds
  | .ref n => match h[n]? with | some (some (.lst ds)) => some ds | _ => none
  | _ => none
def getL (h : AH) : D → Option (List D)
  | .lst ds => some ds
  | .scr ns => some (ns.map D.int)
  | .ref n => match h[n]? with | some (some (.lst ds)) => some ds | _ => none
  | _ => none
def getS (h : AH) : D → Option (List D)
  | .tup ds => some ds
  | d => getL h d
def getK (h : AH) : D → Option (List (Key × D))
  | .dct ds => some ds
  | .ref n => match h[n]? with | some (some (.dct ds)) => some ds | some (some (.lkd ds)) => some ds | _ => none
  | _ => none
def getI (h : AH) : D → Option (Nat × List (Str × D))
  | .obj c fs => some (c, fs)
  | .ref n => match h[n]? with | some (some (.ins c fs)) => some (c, fs) | _ => none
  | _ => none
section
variable {g : G} {F : Kn} {ι : List Addr} {h : AH} {H : Hp}
theorem std_lst {a : Addr} {vs : List V} (s : Std H a (.lst vs)) : H a = some (.lst vs) := by
  rcases s with ⟨s, _⟩ | ⟨_, _, e, _⟩
  · exact s
  · cases e
theorem std_tup {a : Addr} {vs : List V} (s : Std H a (.tup vs)) : H a = some (.tup vs) := by
  rcases s with ⟨s, _⟩ | ⟨_, _, e, _⟩
  · exact s
  · cases e
theorem std_ins {a C dx : Addr} {fs : List (Str × V)} (s : Std H a (.ins C dx fs)) : H a = some (.ins C dx fs) := by
  rcases s with ⟨s, _⟩ | ⟨_, _, e, _⟩
  · exact s
  · cases e
theorem VRs.ints : ∀ (ns : List Int), VRs g F ι (ns.map D.int) (ns.map V.int)
  | [] => by simp [VRs]
  | n :: ns => by
    simp only [List.map_cons, VRs]
    exact ⟨_, _, rfl, by simp [VR], VRs.ints ns⟩
theorem getL_ok (r : HR g F ι h H) {d : D} {v : V} {ds : List D} (e : getL h d = some ds) (rv : VR g F ι d v) : ∃ a vs, v = .ref a ∧ SqL g.K H a vs ∧ VRs g F ι ds vs := by
  cases d with
  | lst es =>
    cases e
    simp only [VR] at rv
    obtain ⟨a, vs, rfl, t, q⟩ := rv
    exact ⟨a, vs, rfl, SqL.of (std_lst (r.fr _ _ t)), q⟩
  | ref n =>
    simp only [VR] at rv
    obtain ⟨a, rfl, t⟩ := rv
    simp only [getL] at e
    split at e
    · rename_i es q
      cases e
      obtain ⟨b, x, q1, q2, ⟨vs, rfl, q3⟩, _⟩ := r.hp n _ q
      rw [t] at q1
      cases q1
      exact ⟨a, vs, rfl, SqL.of q2, q3⟩
    · cases e
  | scr ns =>
    cases e
    simp only [VR] at rv
    obtain ⟨a, rfl, t⟩ := rv
    rcases t with ⟨o, t, q⟩ | t
    · rcases r.fr _ _ t with ⟨z, _⟩ | ⟨_, _, z, _⟩
      · rcases q with rfl | ⟨ob, rfl⟩
        · exact ⟨a, _, rfl, .inl (.inl z), VRs.ints ns⟩
        · exact ⟨a, _, rfl, .inl (.inr ⟨ob, z⟩), VRs.ints ns⟩
      · rcases q with rfl | ⟨ob, rfl⟩ <;> cases z
    · exact ⟨a, _, rfl, t H, VRs.ints ns⟩
  | _ => cases e
theorem getS_ok (r : HR g F ι h H) {d : D} {v : V} {ds : List D} (e : getS h d = some ds) (rv : VR g F ι d v) : ∃ a vs, v = .ref a ∧ (SqL g.K H a vs ∨ SqT g.K H a vs) ∧ VRs g F ι ds vs := by
  have lst : getL h d = some ds → ∃ a vs, v = .ref a ∧ (SqL g.K H a vs ∨ SqT g.K H a vs) ∧ VRs g F ι ds vs := fun e => by
    obtain ⟨a, vs, q1, q2, q3⟩ := getL_ok r e rv
    exact ⟨a, vs, q1, .inl q2, q3⟩
  cases d with
  | tup es =>
    cases e
    simp only [VR] at rv
    obtain ⟨a, vs, rfl, t, q⟩ := rv
    rcases t with t | t
    · exact ⟨a, vs, rfl, .inr (SqT.of (std_tup (r.fr _ _ t))), q⟩
    · exact ⟨a, vs, rfl, .inr (t H), q⟩
  | _ => exact lst e
theorem tup_ok (r : HR g F ι h H) {v : V} {ds : List D} (rv : VR g F ι (.tup ds) v) : ∃ a vs, v = .ref a ∧ SqT g.K H a vs ∧ VRs g F ι ds vs := by
  simp only [VR] at rv
  obtain ⟨a, vs, rfl, t, q⟩ := rv
  rcases t with t | t
  · exact ⟨a, vs, rfl, (SqT.of (std_tup (r.fr _ _ t))), q⟩
  · exact ⟨a, vs, rfl, (t H), q⟩
theorem getI_ok (r : HR g F ι h H) {d : D} {v : V} {c : Nat} {fs : List (Str × D)} (e : getI h d = some (c, fs)) (rv : VR g F ι d v) : ∃ a dx ws, v = .ref a ∧ H a = some (.ins (g.cls c) dx ws) ∧ VRf g F ι fs ws := by
  cases d with
  | obj c fs =>
    cases e
    simp only [VR] at rv
    obtain ⟨a, dx, vs, rfl, t, q⟩ := rv
    exact ⟨a, dx, vs, rfl, std_ins (r.fr _ _ t), q⟩
  | ref n =>
    simp only [VR] at rv
    obtain ⟨a, rfl, t⟩ := rv
    simp only [getI] at e
    split at e
    · rename_i es q
      cases e
      obtain ⟨b, x, q1, q2, ⟨dx, vs, rfl, q3⟩, _⟩ := r.hp n _ q
      rw [t] at q1
      cases q1
      exact ⟨a, dx, vs, rfl, q2, q3⟩
    · cases e
  | _ => cases e
theorem VRs.length : ∀ {ds : List D} {vs : List V}, VRs g F ι ds vs → vs.length = ds.length
  | [], vs, r => by simp only [VRs] at r; subst r; rfl
  | d :: ds, vs, r => by
    simp only [VRs] at r
    obtain ⟨v, ws, rfl, _, q⟩ := r
    simp [VRs.length q]
theorem VRs.get : ∀ {ds : List D} {vs : List V} {i : Nat} {d : D}, VRs g F ι ds vs → ds[i]? = some d → ∃ v, vs[i]? = some v ∧ VR g F ι d v
  | [], _, _, _, _, e => by simp at e
  | d :: ds, vs, i, x, r, e => by
    simp only [VRs] at r
    obtain ⟨v, ws, rfl, q, r⟩ := r
    cases i with
    | zero => simp at e; subst e; exact ⟨v, rfl, q⟩
    | succ i => simpa using VRs.get (i := i) r (by simpa using e)
theorem VRs.append : ∀ {ds es : List D} {vs ws : List V}, VRs g F ι ds vs → VRs g F ι es ws → VRs g F ι (ds ++ es) (vs ++ ws)
  | [], _, _, _, r, q => by simp only [VRs] at r; subst r; exact q
  | d :: ds, es, vs, ws, r, q => by
    simp only [VRs] at r
    obtain ⟨v, us, rfl, r1, r2⟩ := r
    simp only [List.cons_append, VRs]
    exact ⟨v, us ++ ws, rfl, r1, VRs.append r2 q⟩
theorem VRs.one {d : D} {v : V} (r : VR g F ι d v) : VRs g F ι [d] [v] := by simp only [VRs]; exact ⟨v, [], rfl, r, rfl⟩
theorem VRs.set : ∀ {ds : List D} {vs : List V} {i : Nat} {d : D} {v : V}, VRs g F ι ds vs → VR g F ι d v → VRs g F ι (ds.set i d) (vs.set i v)
  | [], vs, _, _, _, r, _ => by simp only [VRs] at r; subst r; simp [VRs]
  | d :: ds, vs, i, x, y, r, q => by
    simp only [VRs] at r
    obtain ⟨v, ws, rfl, q', r⟩ := r
    cases i with
    | zero => simp only [List.set_cons_zero, VRs]; exact ⟨y, ws, rfl, q, r⟩
    | succ i => simp only [List.set_cons_succ, VRs]; exact ⟨v, _, rfl, q', VRs.set r q⟩
theorem VRs.take : ∀ {ds : List D} {vs : List V} (n : Nat), VRs g F ι ds vs → VRs g F ι (ds.take n) (vs.take n)
  | [], vs, n, r => by simp only [VRs] at r; subst r; simp [VRs]
  | d :: ds, vs, 0, r => by simp [VRs]
  | d :: ds, vs, n + 1, r => by
    simp only [VRs] at r
    obtain ⟨v, ws, rfl, q', r⟩ := r
    simp only [List.take_succ_cons, VRs]
    exact ⟨v, _, rfl, q', VRs.take n r⟩
theorem VRs.drop : ∀ {ds : List D} {vs : List V} (n : Nat), VRs g F ι ds vs → VRs g F ι (ds.drop n) (vs.drop n)
  | [], vs, n, r => by simp only [VRs] at r; subst r; simp [VRs]
  | d :: ds, vs, 0, r => by simpa using r
  | d :: ds, vs, n + 1, r => by
    simp only [VRs] at r
    obtain ⟨v, ws, rfl, q', r⟩ := r
    simpa using VRs.drop n r
theorem VRs.rev : ∀ {ds : List D} {vs : List V}, VRs g F ι ds vs → VRs g F ι ds.reverse vs.reverse
  | [], vs, r => by simp only [VRs] at r; subst r; simp [VRs]
  | d :: ds, vs, r => by
    simp only [VRs] at r
    obtain ⟨v, ws, rfl, q', r⟩ := r
    simp only [List.reverse_cons]
    exact VRs.append (VRs.rev r) (VRs.one q')
theorem VRf.look : ∀ {fs : List (Str × D)} {ws : List (Str × V)} {f : Str}, VRf g F ι fs ws → (∀ d, fs.lookup f = some d → ∃ v, ws.lookup f = some v ∧ VR g F ι d v) ∧ (fs.lookup f = none → ws.lookup f = none)
  | [], ws, f, r => by simp only [VRf] at r; subst r; simp
  | (k, d) :: fs, ws, f, r => by
    simp only [VRf] at r
    obtain ⟨v, us, rfl, q, r⟩ := r
    by_cases e : (f == k) = true
    · simp only [List.lookup_cons, e, if_true, reduceCtorEq, false_implies, and_true]
      rintro _ ⟨⟩
      exact ⟨v, rfl, q⟩
    · have e' : (f == k) = false := by simpa using e
      simp only [List.lookup_cons, e']
      exact VRf.look r
theorem VRf.length : ∀ {ds : List (Str × D)} {vs : List (Str × V)}, VRf g F ι ds vs → vs.length = ds.length
  | [], vs, r => by simp only [VRf] at r; subst r; rfl
  | (_, d) :: ds, vs, r => by
    simp only [VRf] at r
    obtain ⟨v, ws, rfl, _, q⟩ := r
    simp [VRf.length q]
end

/-! ### simple expressions -/
section
variable {X : Cx} {g : G} {W : WX} {e a b : Expr} {es : List Expr} {pos : Pos} {m ma mb : ME}
def mVar (i : Nat) : ME := fun σ h => match σ[i]? with | some (some d) => .ok d h | _ => .stuck
def mC (d : D) : ME := fun _ h => .ok d h
theorem em_var {i : Nat} {x : Str} (hN : X.N[i]? = some x) (hv : Vis X.env.scope x) (hd : (x == ("__debug__" : Str)) = false := by decide) (hcd : (x == ("__classdict__" : Str)) = false := by decide) :
    PE X (.Name x pos) (tE g W (mVar i)) := by
  refine PE_weak (pe_var hN hv hd hcd) ?_
  rintro σv H Q ⟨F, ι, σ, h, hr, lr, p⟩
  unfold mVar at p
  split at p
  · rename_i d e
    obtain ⟨v, ev, rv⟩ := lr.2 i d e
    exact ⟨v, ev, p F ι H v .refl hr rv⟩
  · exact p.elim
theorem em_c {v : V} {d : D} (h : PE X e (tC v)) (hv : ∀ F ι, VR g F ι d v) : PE X e (tE g W (mC d)) := by
  refine PE_weak h ?_
  rintro σv H Q ⟨F, ι, σ, h, hr, lr, p⟩
  exact p F ι H v .refl hr (hv F ι)
theorem em_int {i : Int} {j} : PE X (.Constant (.int i) j pos) (tE g W (mC (.int i))) := em_c pe_int fun _ _ => by simp [VR]
theorem em_bl {i : Bool} {j} : PE X (.Constant (.bool i) j pos) (tE g W (mC (.bl i))) := em_c pe_bl fun _ _ => by simp [VR]
theorem em_non {j} : PE X (.Constant .none j pos) (tE g W (mC .non)) := em_c pe_non fun _ _ => by simp [VR]
theorem em_str {x : Str} {j} : PE X (.Constant (.str x) j pos) (tE g W (mC (.str x))) := em_c pe_str fun _ _ => by simp [VR]

/-- an operation by values -/
def OpOk (g : G) (r : R2) (f : D → D → AH → Rv D) : Prop :=
  ∀ (W : WX) (F : Kn) (ι : List Addr) (h : AH) (H : Hp) (σv : L2.St) (d1 d2 : D) (v1 v2 : V) (Q : VK), HR g F ι h H → VR g F ι d1 v1 → VR g F ι d2 v2 → Post g W F ι σv (VR g) (f d1 d2 h) Q → r v1 v2 H Q
end
end DV
end
section
set_option Elab.async false
set_option linter.all false
set_option maxRecDepth 100000
set_option maxHeartbeats 2000000
namespace DV
open PySem L2

section
variable {X : Cx} {g : G} {W : WX} {e a b c : Expr} {es : List Expr} {pos : Pos} {m ma mb mc : ME}
def mOp (f : D → D → AH → Rv D) (ma mb : ME) : ME := fun σ h => bindR (ma σ h) fun x h1 => bindR (mb σ h1) fun y h2 => f x y h2
theorem tOp_weak {r : R2} {f : D → D → AH → Rv D} (hk : OpOk g r f) : ∀ σv H Q, tE g W (mOp f ma mb) σv H Q → tOp r (tE g W ma) (tE g W mb) σv H Q := by
  rintro σv H Q ⟨F, ι, σ, h, hr, lr, p⟩
  refine tM_bind (f := fun σ x h1 => bindR (mb σ h1) fun y h2 => f x y h2) hr lr p fun F1 ι1 H1 x h1 v l hr1 lr1 r1 p1 => ?_
  refine tM_bind (f := fun σ y h2 => f x y h2) hr1 lr1 p1 fun F2 ι2 H2 y h2 u l2 hr2 lr2 r2 p2 => ?_
  exact hk W F2 ι2 h2 H2 σv x y v u Q hr2 (VR.mono l2 _ _ r1) r2 p2
theorem em_op {op : Operator} {r : R2} {f : D → D → AH → Rv D} (ho : OpR X (binaryOp op) r) (hk : OpOk g r f) (ha : PE X a (tE g W ma)) (hb : PE X b (tE g W mb)) : PE X (.BinOp a op b pos) (tE g W (mOp f ma mb)) :=
  PE_weak (pe_op ho ha hb) (tOp_weak hk)
theorem em_cmp {op : CmpOp} {r : R2} {f : D → D → AH → Rv D} (ho : OpR X (compareOp op) r) (hk : OpOk g r f) (ha : PE X a (tE g W ma)) (hb : PE X b (tE g W mb)) (hm : behindInMarks op b = false) : PE X (.Compare a [op] [b] pos) (tE g W (mOp f ma mb)) :=
  PE_weak (pe_cmpR ho ha hb hm) (tOp_weak hk)
theorem em_ix {r : R2} {f : D → D → AH → Rv D} (ho : IxR X r) (hk : OpOk g r f) (ha : PE X a (tE g W ma)) (hb : PE X b (tE g W mb)) (hs : PlainIx b) : PE X (.Subscript a b pos) (tE g W (mOp f ma mb)) :=
  PE_weak (pe_ix ho ha hb hs) (tOp_weak hk)

/-- a value as a truth -/
def asB (d : D) (h : AH) : Rv Bool := match d with | .bl b => .ok b h | _ => .stuck
def mTB (m : ME) : MT := fun σ h => bindR (m σ h) asB
theorem tTest_weak : ∀ σv H Q, tT g W (mTB m) σv H Q → tTest (tE g W m) σv H Q := by
  rintro σv H Q ⟨F, ι, σ, h, hr, lr, p⟩
  refine tM_bind (f := fun _ => asB) hr lr p fun F1 ι1 H1 x h1 v l hr1 lr1 r1 p1 => ?_
  cases x with
  | bl k =>
    simp only [VR] at r1
    exact ⟨k, r1, p1 F1 ι1 H1 k .refl hr1 rfl⟩
  | _ => exact p1.elim
/-- an expression's reading as a test's -/
theorem test_weak {t : TE} (k : ∀ σ H Q, tE g W m σ H Q → t σ H Q) : ∀ σv H Q, tT g W (mTB m) σv H Q → tTest t σv H Q := by
  rintro σv H Q ⟨F, ι, σ, h, hr, lr, p⟩
  refine k _ _ _ (tM_bind (f := fun _ => asB) (m := m) hr lr p fun F1 ι1 H1 x h1 v l hr1 lr1 r1 p1 => ?_)
  cases x with
  | bl k =>
    simp only [VR] at r1
    exact ⟨k, r1, p1 F1 ι1 H1 k .refl hr1 rfl⟩
  | _ => exact p1.elim
theorem em_tcmp {op : CmpOp} {r : R2} {f : D → D → AH → Rv D} (ho : OpR X (compareOp op) r) (hk : OpOk g r f) (ha : PE X a (tE g W ma)) (hb : PE X b (tE g W mb)) (hm : behindInMarks op b = false) : PT X (.Compare a [op] [b] pos) (tT g W (mTB (mOp f ma mb))) := by
  exact PT_weak (pt_cmpR ho ha hb hm) (test_weak (tOp_weak hk))
/-- a < b < c -/
def mChain (f f' : D → D → AH → Rv D) (ma mb mc : ME) : ME := fun σ h => bindR (ma σ h) fun x h1 => bindR (mb σ h1) fun y h2 => bindR (f x y h2) fun z h3 => bindR (asB z h3) fun k h4 => if k = true then bindR (mc σ h4) fun w h5 => f' y w h5 else .ok (.bl false) h4
theorem Post_bind {α β α' β' : Type} {F : Kn} {ι : List Addr} {σ : AS} {σv : L2.St} {rel : Kn → List Addr → α → β → Prop} {rel' : Kn → List Addr → α' → β' → Prop} {r : Rv α} {f : α → AH → Rv α'}
    {Q : β → Hp → Prop} {Q' : β' → Hp → Prop} (lr : LR g F ι σ σv) (p : Post g W F ι σv rel' (bindR r f) Q')
    (k : ∀ F1 ι1 H1 a h1 v, Le F ι F1 ι1 → HR g F1 ι1 h1 H1 → LR g F1 ι1 σ σv → rel F1 ι1 a v → Post g W F1 ι1 σv rel' (f a h1) Q' → Q v H1) : Post g W F ι σv rel r Q := by
  cases r with
  | ok a h1 => exact fun F1 ι1 H1 v l hr1 r1 => k F1 ι1 H1 a h1 v l hr1 (lr.mono l) r1 (p.le l)
  | exc c h1 => exact p
  | stuck => exact p
theorem asB_ok {F : Kn} {ι : List Addr} {h : AH} {σv : L2.St} {β : Type} {rel : Kn → List Addr → D → β → Prop} {x : D} {v : V} {f : Bool → AH → Rv D} {Q : β → Hp → Prop} (r : VR g F ι x v) (p : Post g W F ι σv rel (bindR (asB x h) f) Q) : ∃ k, v = .bl k ∧ x = .bl k ∧ Post g W F ι σv rel (f k h) Q := by
  cases x with
  | bl k =>
    simp only [VR] at r
    exact ⟨k, r, rfl, p⟩
  | _ => exact p.elim
theorem tChain_weak {r r' : R2} {f f' : D → D → AH → Rv D} (hk : OpOk g r f) (hk' : OpOk g r' f') : ∀ σv H Q, tE g W (mChain f f' ma mb mc) σv H Q → tChain r r' (tE g W ma) (tE g W mb) (tE g W mc) σv H Q := by
  rintro σv H Q ⟨F, ι, σ, h, hr, lr, p⟩
  refine tM_bind (f := fun σ x h1 => bindR (mb σ h1) fun y h2 => bindR (f x y h2) fun z h3 => bindR (asB z h3) fun k h4 => if k = true then bindR (mc σ h4) fun w h5 => f' y w h5 else .ok (.bl false) h4) hr lr p fun F1 ι1 H1 x h1 v l hr1 lr1 r1 p1 => ?_
  refine tM_bind (f := fun σ y h2 => bindR (f x y h2) fun z h3 => bindR (asB z h3) fun k h4 => if k = true then bindR (mc σ h4) fun w h5 => f' y w h5 else .ok (.bl false) h4) hr1 lr1 p1 fun F2 ι2 H2 y h2 u l2 hr2 lr2 r2 p2 => ?_
  refine hk W F2 ι2 h2 H2 σv x y v u _ hr2 (VR.mono l2 _ _ r1) r2 (Post_bind lr2 p2 fun F3 ι3 H3 z h3 w l3 hr3 lr3 r3 p3 => ?_)
  obtain ⟨k, e1, e2, p4⟩ := asB_ok r3 p3
  refine ⟨k, e1, ?_⟩
  by_cases hb : k = true
  · rw [if_pos hb] at p4 ⊢
    refine tM_bind (f := fun σ w h5 => f' y w h5) hr3 lr3 p4 fun F5 ι5 H5 w' h5 u' l5 hr5 lr5 r5 p5 => ?_
    exact hk' W F5 ι5 h5 H5 σv y w' u u' Q hr5 (VR.mono (l3.trans l5) _ _ r2) r5 p5
  · rw [if_neg hb] at p4 ⊢
    exact p4 F3 ι3 H3 (.bl false) .refl hr3 (by simp [VR])
theorem em_chain {op op' : CmpOp} {r r' : R2} {f f' : D → D → AH → Rv D} (ho : OpR X (compareOp op) r) (ho' : OpR X (compareOp op') r') (hk : OpOk g r f) (hk' : OpOk g r' f') (ha : PE X a (tE g W ma)) (hb : PE X b (tE g W mb)) (hc : PE X c (tE g W mc))
    (hm : lastMarks [op, op'] [b, c] = false) : PE X (.Compare a [op, op'] [b, c] pos) (tE g W (mChain f f' ma mb mc)) := PE_weak (pe_chain ho ho' ha hb hc hm) (tChain_weak hk hk')
theorem em_tchain {op op' : CmpOp} {r r' : R2} {f f' : D → D → AH → Rv D} (ho : OpR X (compareOp op) r) (ho' : OpR X (compareOp op') r') (hk : OpOk g r f) (hk' : OpOk g r' f') (ha : PE X a (tE g W ma)) (hb : PE X b (tE g W mb)) (hc : PE X c (tE g W mc))
    (hm : lastMarks [op, op'] [b, c] = false) : PT X (.Compare a [op, op'] [b, c] pos) (tT g W (mTB (mChain f f' ma mb mc))) := PT_weak (pt_chain ho ho' ha hb hc hm) (test_weak (tChain_weak hk hk'))
end
end DV
end
section
set_option Elab.async false
set_option linter.all false
set_option maxRecDepth 100000
set_option maxHeartbeats 2000000
namespace DV
open PySem L2 PyProof.Rows

/-! ### new things -/
def mkL (mu : Bool) (ds : List D) (h : AH) : Rv D := if mu then .ok (.ref h.length) (h ++ [some (.lst ds)]) else .ok (.lst ds) h
section
variable {g : G} {W : WX} {F : Kn} {ι : List Addr} {h : AH} {H : Hp} {σv : L2.St} {Q : VK}
theorem mkL_ok (t : TiOk g) {mu : Bool} {ds : List D} {vs : List V} (hr : HR g F ι h H) (rv : VRs g F ι ds vs) (p : Post g W F ι σv (VR g) (mkL mu ds h) Q) : ∀ l, H l = none → Q (.ref l) (upd H l (.lst vs)) := by
  intro l hl
  unfold mkL at p
  cases mu with
  | true =>
    obtain ⟨hr', l'⟩ := hr.newO t hl (o := .lst ds) (x := .lst vs) ⟨vs, rfl, rv⟩
    exact p F _ _ (.ref l) l' hr' (by simp only [VR]; exact ⟨l, rfl, by rw [← hr.len]; simp⟩)
  | false =>
    obtain ⟨hr', l'⟩ := hr.newF t hl (.lst vs)
    exact p _ _ _ (.ref l) l' hr' (by simp only [VR]; exact ⟨l, vs, rfl, add_same, VRs.mono l' _ _ rv⟩)
theorem mkT_ok (t : TiOk g) {ds : List D} {vs : List V} (hr : HR g F ι h H) (rv : VRs g F ι ds vs) (p : Post g W F ι σv (VR g) (.ok (.tup ds) h) Q) : ∀ l, H l = none → Q (.ref l) (upd H l (.tup vs)) := by
  intro l hl
  obtain ⟨hr', l'⟩ := hr.newF t hl (.tup vs)
  exact p _ _ _ (.ref l) l' hr' (by simp only [VR]; exact ⟨l, vs, rfl, .inl add_same, VRs.mono l' _ _ rv⟩)
/-- a plain answer -/
theorem fin {d : D} {v : V} (p : Post g W F ι σv (VR g) (.ok d h) Q) (hr : HR g F ι h H) (rv : VR g F ι d v) : Q v H := p F ι H v .refl hr rv
theorem fini {i : Int} (p : Post g W F ι σv (VR g) (.ok (.int i) h) Q) (hr : HR g F ι h H) : Q (.int i) H := fin p hr (by simp [VR])
theorem finb {b : Bool} (p : Post g W F ι σv (VR g) (.ok (.bl b) h) Q) (hr : HR g F ι h H) : Q (.bl b) H := fin p hr (by simp [VR])
theorem fins {b : Str} (p : Post g W F ι σv (VR g) (.ok (.str b) h) Q) (hr : HR g F ι h H) : Q (.str b) H := fin p hr (by simp [VR])
theorem VR.int' {i : Int} {v : V} (r : VR g F ι (.int i) v) : v = .int i := by simpa only [VR] using r
theorem VR.bl' {i : Bool} {v : V} (r : VR g F ι (.bl i) v) : v = .bl i := by simpa only [VR] using r
theorem VR.str' {i : Str} {v : V} (r : VR g F ι (.str i) v) : v = .str i := by simpa only [VR] using r
theorem VR.non' {v : V} (r : VR g F ι .non v) : v = .non := by simpa only [VR] using r
end

/-! ### operators -/
def okIf (c : Prop) [Decidable c] (r : Rv D) : Rv D := if c then r else .stuck
theorem okIf_post {g : G} {W : WX} {F : Kn} {ι : List Addr} {σv : L2.St} {Q : VK} {c : Prop} [Decidable c] {r : Rv D} (p : Post g W F ι σv (VR g) (okIf c r) Q) : c ∧ Post g W F ι σv (VR g) r Q := by
  unfold okIf at p
  by_cases hc : c
  · rw [if_pos hc] at p; exact ⟨hc, p⟩
  · rw [if_neg hc] at p; exact p.elim
def dCat (mu : Bool) (a b : D) (h : AH) : Rv D :=
  match getLs h a, getLs h b with
  | some xs, some ys => okIf (xs.length + ys.length ≤ sizeLine) (mkL mu (xs ++ ys) h)
  | _, _ => .stuck
def dPlus (mu : Bool) (a b : D) (h : AH) : Rv D :=
  match a, b with
  | .int i, .int j => .ok (.int (i + j)) h
  | .int i, .bl k => .ok (.int (i + b2i k)) h
  | .str x, .str y => okIf (x.length + y.length ≤ sizeLine) (.ok (.str (x ++ y)) h)
  | .tup xs, .tup ys => okIf (xs.length + ys.length ≤ sizeLine) (.ok (.tup (xs ++ ys)) h)
  | a, b => dCat mu a b h
def rCatL (K : PySem.W.Frag) : R2 := fun x y H Q => ∃ l b xs zs, x = .ref l ∧ y = .ref b ∧ SqL K H l xs ∧ SqL K H b zs ∧ xs.length + zs.length ≤ sizeLine ∧ ∀ p, H p = none → Q (.ref p) (upd H p (.lst (xs ++ zs)))
section
variable {X : Cx} {g : G}
def rPlus (K : PySem.W.Frag) : R2 := fun x y H Q => rI0 (fun i j => .int (i + j)) x y H Q ∨ (∃ i k, x = .int i ∧ y = .bl k ∧ Q (.int (i + b2i k)) H) ∨
  (∃ i j, x = .str i ∧ y = .str j ∧ i.length + j.length ≤ sizeLine ∧ Q (.str (i ++ j)) H) ∨ rCatA K x y H Q ∨ rCat x y H Q
theorem op_plus : OpR X (binaryOp .Add) (rPlus X.K) := op_add.or (op_add_ib.or (op_add_str.or (op_catA.or op_cat)))
theorem getL_lst {F : Kn} {ι : List Addr} {h : AH} {H : Hp} (r : HR g F ι h H) {d : D} {v : V} {ds : List D} (e : getLs h d = some ds) (rv : VR g F ι d v) : ∃ a vs, v = .ref a ∧ (H a = some (.lst vs)) ∧ VRs g F ι ds vs := by
  cases d with
  | lst es =>
    cases e
    simp only [VR] at rv
    obtain ⟨a, vs, rfl, t, q⟩ := rv
    exact ⟨a, vs, rfl, std_lst (r.fr _ _ t), q⟩
  | ref n =>
    simp only [VR] at rv
    obtain ⟨a, rfl, t⟩ := rv
    simp only [getLs] at e
    split at e
    · rename_i es q
      cases e
      obtain ⟨b, x, q1, q2, ⟨vs, rfl, q3⟩, _⟩ := r.hp n _ q
      rw [t] at q1
      cases q1
      exact ⟨a, vs, rfl, q2, q3⟩
    · cases e
  | _ => cases e
theorem ok_plus (t : TiOk g) (mu : Bool) : OpOk g (rPlus g.K) (dPlus mu) := by
  intro W F ι h H σv a b v u Q hr ra rb p
  have cat : dPlus mu a b h = dCat mu a b h → rPlus g.K v u H Q := fun e => by
    rw [e] at p
    unfold dCat at p
    split at p
    · rename_i xs ys e1 e2
      obtain ⟨l, vs, rfl, q1, q2⟩ := getL_lst hr e1 ra
      obtain ⟨m, ws, rfl, q3, q4⟩ := getL_lst hr e2 rb
      obtain ⟨hz, p⟩ := okIf_post p
      have z := mkL_ok t hr (q2.append q4) p
      exact .inr (.inr (.inr (.inr ⟨l, m, vs, ws, rfl, rfl, q1, q3, by rw [q2.length, q4.length]; exact hz, z⟩)))
    · exact p.elim
  unfold dPlus at p cat
  split at p
  · cases ra.int'; cases rb.int'
    exact .inl ⟨_, _, rfl, rfl, fini p hr⟩
  · cases ra.int'; cases rb.bl'
    exact .inr (.inl ⟨_, _, rfl, rfl, fini p hr⟩)
  · cases ra.str'; cases rb.str'
    obtain ⟨hz, p⟩ := okIf_post p
    exact .inr (.inr (.inl ⟨_, _, rfl, rfl, hz, fins p hr⟩))
  · rename_i xs ys
    obtain ⟨hz, p⟩ := okIf_post p
    obtain ⟨a1, vs, rfl, q1, q2⟩ := tup_ok hr ra
    obtain ⟨a2, ws, rfl, q3, q4⟩ := tup_ok hr rb
    refine .inr (.inr (.inr (.inl ⟨a1, a2, vs, ws, rfl, rfl, q1, q3, by rw [q2.length, q4.length]; exact hz, ?_, ?_, ?_⟩)))
    · intro en
      have e0 : xs = [] := List.eq_nil_of_length_eq_zero (by rw [← q2.length, en]; rfl)
      subst e0
      exact fin p hr rb
    · intro _ en
      have e0 : ys = [] := List.eq_nil_of_length_eq_zero (by rw [← q4.length, en]; rfl)
      subst e0
      rw [List.append_nil] at p
      exact fin p hr ra
    · intro _ _
      exact mkT_ok t hr (q2.append q4) p
  · exact cat (by split <;> first | rfl | (rename_i h1 h2 h3 h4; simp_all))

/-- a op b of two ints -/
def dInt (C : Int → Int → Prop) [∀ i j, Decidable (C i j)] (f : Int → Int → D) (a b : D) (h : AH) : Rv D :=
  match a, b with
  | .int i, .int j => okIf (C i j) (.ok (f i j) h)
  | _, _ => .stuck
theorem ok_int {C : Int → Int → Prop} [∀ i j, Decidable (C i j)] {C' : Int → Int → Prop} {f : Int → Int → D} {f' : Int → Int → V} (hC : ∀ i j, C i j → C' i j) (hf : ∀ g F ι i j, C i j → VR g F ι (f i j) (f' i j)) : OpOk g (rI C' f') (dInt C f) := by
  intro W F ι h H σv a b v u Q hr ra rb p
  unfold dInt at p
  split at p
  · cases ra.int'; cases rb.int'
    obtain ⟨hz, p⟩ := okIf_post p
    exact ⟨_, _, rfl, rfl, hC _ _ hz, fin p hr (hf _ _ _ _ _ hz)⟩
  · exact p.elim
theorem ok_int0 {f : Int → Int → D} {f' : Int → Int → V} (hf : ∀ g F ι i j, VR g F ι (f i j) (f' i j)) : OpOk g (rI0 f') (dInt (fun _ _ => True) f) := by
  intro W F ι h H σv a b v u Q hr ra rb p
  unfold dInt at p
  split at p
  · cases ra.int'; cases rb.int'
    obtain ⟨hz, p⟩ := okIf_post p
    exact ⟨_, _, rfl, rfl, fin p hr (hf _ _ _ _ _)⟩
  · exact p.elim
def dMinus : D → D → AH → Rv D := dInt (fun _ _ => True) fun i j => .int (i - j)
theorem ok_minus : OpOk g (rI0 fun i j => .int (i - j)) dMinus := ok_int0 fun _ _ _ _ _ => by simp [VR]
instance (i j : Int) : Decidable (CMul i j) := by unfold CMul; exact inferInstance
instance (i j : Int) : Decidable (CDiv i j) := by unfold CDiv; exact inferInstance
instance (i j : Int) : Decidable (CPow i j) := by unfold CPow; exact inferInstance
def dDiv : D → D → AH → Rv D := dInt CDiv fun i j => .int (i / j)
theorem ok_div : OpOk g (rI CDiv fun i j => .int (i / j)) dDiv := ok_int (fun _ _ h => h) fun _ _ _ _ _ _ => by simp [VR]
def dMod : D → D → AH → Rv D := dInt (fun _ j => 0 < j) fun i j => .int (i % j)
theorem ok_mod : OpOk g (rI (fun _ j => 0 < j) fun i j => .int (i % j)) dMod := ok_int (fun _ _ h => h) fun _ _ _ _ _ _ => by simp [VR]
def dPow : D → D → AH → Rv D := dInt CPow fun i j => .int (i ^ j.toNat)
theorem ok_pow : OpOk g (rI CPow fun i j => .int (i ^ j.toNat)) dPow := ok_int (fun _ _ h => h) fun _ _ _ _ _ _ => by simp [VR]
def dMul (mu : Bool) (a b : D) (h : AH) : Rv D :=
  match a, b with
  | .int i, .int j => okIf (CMul i j) (.ok (.int (i * j)) h)
  | a, .int k => match getLs h a with
    | some xs => okIf (-(2 ^ 63) ≤ k ∧ k < 2 ^ 63 ∧ xs.length * k.toNat ≤ sizeLine) (mkL mu (List.replicate k.toNat xs).flatten h)
    | none => .stuck
  | _, _ => .stuck
theorem VRs.reps {F : Kn} {ι : List Addr} {ds : List D} {vs : List V} (r : VRs g F ι ds vs) : ∀ n : Nat, VRs g F ι (List.replicate n ds).flatten (List.replicate n vs).flatten
  | 0 => by simp [VRs]
  | n + 1 => by
    simp only [List.replicate_succ, List.flatten_cons]
    exact r.append (VRs.reps r n)
theorem op_times : OpR X (binaryOp .Mult) (fun x y H Q => rI CMul (fun i j => .int (i * j)) x y H Q ∨ rRep x y H Q) := op_mul.or op_rep
theorem ok_mul (t : TiOk g) (mu : Bool) : OpOk g (fun x y H Q => rI CMul (fun i j => .int (i * j)) x y H Q ∨ rRep x y H Q) (dMul mu) := by
  intro W F ι h H σv a b v u Q hr ra rb p
  unfold dMul at p
  split at p
  · cases ra.int'; cases rb.int'
    obtain ⟨hz, p⟩ := okIf_post p
    exact .inl ⟨_, _, rfl, rfl, hz, fini p hr⟩
  · split at p
    · rename_i xs e
      obtain ⟨⟨z1, z2, z3⟩, p⟩ := okIf_post p
      obtain ⟨l, vs, rfl, q1, q2⟩ := getL_lst hr e ra
      cases rb.int'
      exact .inr ⟨l, _, vs, rfl, rfl, q1, z1, z2, by rw [q2.length]; exact z3, mkL_ok t hr (q2.reps _) p⟩
    · exact p.elim
  · exact p.elim
/-! comparisons -/
def dLt : D → D → AH → Rv D := dInt (fun _ _ => True) fun i j => .bl (decide (i < j))
def dLe : D → D → AH → Rv D := dInt (fun _ _ => True) fun i j => .bl (decide (i ≤ j))
def dGt : D → D → AH → Rv D := dInt (fun _ _ => True) fun i j => .bl (decide (j < i))
def dGe : D → D → AH → Rv D := dInt (fun _ _ => True) fun i j => .bl (decide (j ≤ i))
theorem ok_lt : OpOk g (rI0 fun i j => .bl (decide (i < j))) dLt := ok_int0 fun _ _ _ _ _ => by simp [VR]
theorem ok_le : OpOk g (rI0 fun i j => .bl (decide (i ≤ j))) dLe := ok_int0 fun _ _ _ _ _ => by simp [VR]
theorem ok_gt : OpOk g (rI0 fun i j => .bl (decide (j < i))) dGt := ok_int0 fun _ _ _ _ _ => by simp [VR]
theorem ok_ge : OpOk g (rI0 fun i j => .bl (decide (j ≤ i))) dGe := ok_int0 fun _ _ _ _ _ => by simp [VR]
def isN : D → Bool | .non => true | _ => false
theorem isN_ok {F : Kn} {ι : List Addr} {d : D} {v : V} (r : VR g F ι d v) : decide (v = .non) = isN d := by
  cases d with
  | non => cases r.non'; rfl
  | bl b => cases r.bl'; rfl
  | int b => cases r.int'; rfl
  | str b => cases r.str'; rfl
  | tup ds => simp only [VR] at r; obtain ⟨a, vs, rfl, _⟩ := r; rfl
  | lst ds => simp only [VR] at r; obtain ⟨a, vs, rfl, _⟩ := r; rfl
  | dct ds => simp only [VR] at r; obtain ⟨a, vs, rfl, _⟩ := r; rfl
  | obj c ds => simp only [VR] at r; obtain ⟨a, dx, vs, rfl, _⟩ := r; rfl
  | ref n => simp only [VR] at r; obtain ⟨a, rfl, _⟩ := r; rfl
  | clo n => simp only [VR] at r; obtain ⟨a, o, c, u, rfl, _⟩ := r; rfl
  | scr n => simp only [VR] at r; obtain ⟨a, rfl, _⟩ := r; rfl
def dIsN (a b : D) (h : AH) : Rv D := match b with | .non => .ok (.bl (isN a)) h | _ => .stuck
def dNotN (a b : D) (h : AH) : Rv D := match b with | .non => .ok (.bl (!isN a)) h | _ => .stuck
theorem ok_isN : OpOk g (fun x y H Q => y = .non ∧ Q (.bl (decide (x = .non))) H) dIsN := by
  intro W F ι h H σv a b v u Q hr ra rb p
  unfold dIsN at p
  split at p
  · exact ⟨rb.non', by rw [isN_ok ra]; exact finb p hr⟩
  · exact p.elim
theorem ok_notN : OpOk g (fun x y H Q => y = .non ∧ Q (.bl (!decide (x = .non))) H) dNotN := by
  intro W F ι h H σv a b v u Q hr ra rb p
  unfold dNotN at p
  split at p
  · exact ⟨rb.non', by rw [isN_ok ra]; exact finb p hr⟩
  · exact p.elim
/-! truth -/
def getKm (h : AH) : D → Option (List (Key × D))
  | .ref n => match h[n]? with | some (some (.dct ds)) => some ds | _ => none
  | _ => none
def truD (d : D) (h : AH) : Rv Bool :=
  match d with
  | .non => .ok false h
  | .bl b => .ok b h
  | .int i => .ok (i != 0) h
  | .str y => if y.length ≤ sizeLine then .ok ((y.length : Int) != 0) h else .stuck
  | d => match getS h d with
    | some xs => .ok (!xs.isEmpty) h
    | none => match getKm h d with
      | some ks => .ok (!ks.isEmpty) h
      | none => .stuck
theorem VRk.length {F : Kn} {ι : List Addr} : ∀ {ds : List (Key × D)} {vs : List (Key × V)}, VRk g F ι ds vs → vs.length = ds.length
  | [], vs, r => by simp only [VRk] at r; subst r; rfl
  | (_, d) :: ds, vs, r => by
    simp only [VRk] at r
    obtain ⟨v, ws, rfl, _, q⟩ := r
    simp [VRk.length q]
theorem empty_of {α β : Type} {xs : List α} {ys : List β} (e : xs.length = ys.length) : xs.isEmpty = ys.isEmpty := by
  cases xs <;> cases ys <;> simp_all
theorem getKm_ok {F : Kn} {ι : List Addr} {h : AH} {H : Hp} (r : HR g F ι h H) {d : D} {v : V} {ds : List (Key × D)} (e : getKm h d = some ds) (rv : VR g F ι d v) : ∃ a n vs, d = .ref n ∧ v = .ref a ∧ ι[n]? = some a ∧ h[n]? = some (some (.dct ds)) ∧ H a = some (.dK vs) ∧ VRk g F ι ds vs := by
  cases d with
  | ref n =>
    simp only [VR] at rv
    obtain ⟨a, rfl, t⟩ := rv
    simp only [getKm] at e
    split at e
    · rename_i es q
      cases e
      obtain ⟨b, x, q1, q2, ⟨vs, rfl, q3⟩, _⟩ := r.hp n _ q
      rw [t] at q1
      cases q1
      exact ⟨a, n, vs, rfl, rfl, t, q, q2, q3⟩
    · cases e
  | _ => cases e
theorem tru_D {F : Kn} {ι : List Addr} {h : AH} {H : Hp} {W : WX} {σv : L2.St} {β γ : Type} {rel : Kn → List Addr → β → γ → Prop} {Q : γ → Hp → Prop} {d : D} {v : V} {f : Bool → AH → Rv β} (hr : HR g F ι h H) (rv : VR g F ι d v) (p : Post g W F ι σv rel (bindR (truD d h) f) Q) :
    ∃ k, TruV g.K v H k ∧ Post g W F ι σv rel (f k h) Q := by
  have big : (bindR (match getS h d with
    | some xs => .ok (!xs.isEmpty) h
    | none => match getKm h d with
      | some ks => .ok (!ks.isEmpty) h
      | none => .stuck) f) = bindR (truD d h) f → ∃ k, TruV g.K v H k ∧ Post g W F ι σv rel (f k h) Q := fun e => by
    rw [← e] at p
    split at p
    · rename_i xs e1
      obtain ⟨a, vs, rfl, q1, q2⟩ := getS_ok hr e1 rv
      refine ⟨_, ?_, p⟩
      rw [← empty_of q2.length]
      rcases q1 with q1 | q1
      · exact .inl ⟨vs, q1, rfl⟩
      · exact .inr (.inl ⟨vs, q1, rfl⟩)
    · split at p
      · rename_i ks e1
        obtain ⟨a, n, vs, rfl, rfl, q0, q1, q2, q3⟩ := getKm_ok hr e1 rv
        refine ⟨_, ?_, p⟩
        rw [← empty_of q3.length]
        exact .inr (.inr ⟨vs, q2, rfl⟩)
      · exact p.elim
  cases d with
  | non => cases rv.non'; exact ⟨false, rfl, p⟩
  | bl b => cases rv.bl'; exact ⟨b, rfl, p⟩
  | int i => cases rv.int'; exact ⟨_, rfl, p⟩
  | str y =>
    cases rv.str'
    simp only [truD] at p
    split at p
    · rename_i hz
      exact ⟨_, ⟨hz, rfl⟩, p⟩
    · exact p.elim
  | _ => exact big rfl
end

/-! ### tests, and, or, not, if -/
theorem bindR_ok {α : Type} (r : Rv α) : bindR r (fun a h => .ok a h) = r := by cases r <;> rfl
section
variable {X : Cx} {g : G} {W : WX} {e a b c : Expr} {es rest : List Expr} {pos : Pos} {m ma mb : ME} {t t1 t2 : MT}
def mTru (m : ME) : MT := fun σ h => bindR (m σ h) truD
theorem em_tru (hK : X.K = g.K) (ha : PE X a (tE g W m)) (he : ∀ whole, isTrue a X.env whole = (do let v ← whole; standAt a.pos; holding [v] (truthy v))) : PT X a (tT g W (mTru m)) := by
  refine PT_weak (pt_truth ha he) ?_
  rintro σv H Q ⟨F, ι, σ, h, hr, lr, p⟩
  refine tM_bind (f := fun _ => truD) hr lr p fun F1 ι1 H1 x h1 v l hr1 lr1 r1 p1 => ?_
  rw [← bindR_ok (truD x h1)] at p1
  obtain ⟨k, q1, q2⟩ := tru_D hr1 r1 p1
  exact ⟨k, by rw [hK]; exact q1, q2 F1 ι1 H1 k .refl hr1 rfl⟩
def mAnd (t1 t2 : MT) : MT := fun σ h => bindR (t1 σ h) fun k h1 => if k = true then t2 σ h1 else .ok false h1
def mOr (t1 t2 : MT) : MT := fun σ h => bindR (t1 σ h) fun k h1 => if k = true then .ok true h1 else t2 σ h1
def mNot (t : MT) : MT := fun σ h => bindR (t σ h) fun k h1 => .ok (!k) h1
theorem em_and1 (ha : PT X a (tT g W t)) : PW X (.BoolOp .And [a] pos) (tT g W t) := pw_and1 ha
theorem em_or1 (ha : PT X a (tT g W t)) : PW X (.BoolOp .Or [a] pos) (tT g W t) := pw_or1 ha
theorem em_and (ha : PT X a (tT g W t1)) (hb : PW X (.BoolOp .And (b :: rest) pos) (tT g W t2)) : PW X (.BoolOp .And (a :: b :: rest) pos) (tT g W (mAnd t1 t2)) := by
  refine PW_weak (pw_and ha hb) ?_
  rintro σv H Q ⟨F, ι, σ, h, hr, lr, p⟩
  refine tM_bind (f := fun σ k h1 => if k = true then t2 σ h1 else .ok false h1) hr lr p fun F1 ι1 H1 x h1 v l hr1 lr1 r1 p1 => ?_
  subst r1
  by_cases hk : v = true
  · rw [if_pos hk] at p1 ⊢
    exact ⟨F1, ι1, σ, h1, hr1, lr1, p1⟩
  · rw [if_neg hk] at p1 ⊢
    exact p1 F1 ι1 H1 false .refl hr1 rfl
theorem em_or (ha : PT X a (tT g W t1)) (hb : PW X (.BoolOp .Or (b :: rest) pos) (tT g W t2)) : PW X (.BoolOp .Or (a :: b :: rest) pos) (tT g W (mOr t1 t2)) := by
  refine PW_weak (pw_or ha hb) ?_
  rintro σv H Q ⟨F, ι, σ, h, hr, lr, p⟩
  refine tM_bind (f := fun σ k h1 => if k = true then .ok true h1 else t2 σ h1) hr lr p fun F1 ι1 H1 x h1 v l hr1 lr1 r1 p1 => ?_
  subst r1
  by_cases hk : v = true
  · rw [if_pos hk] at p1 ⊢
    exact p1 F1 ι1 H1 true .refl hr1 rfl
  · rw [if_neg hk] at p1 ⊢
    exact ⟨F1, ι1, σ, h1, hr1, lr1, p1⟩
theorem em_pw (h : PW X e (tT g W t)) : PT X e (tT g W t) := h.pt
theorem em_not (ha : PT X a (tT g W t)) : PT X (.UnaryOp .Not a pos) (tT g W (mNot t)) := by
  refine PT_weak (pt_not ha) ?_
  rintro σv H Q ⟨F, ι, σ, h, hr, lr, p⟩
  refine tM_bind (f := fun σ k h1 => .ok (!k) h1) hr lr p fun F1 ι1 H1 x h1 v l hr1 lr1 r1 p1 => ?_
  subst r1
  exact p1 F1 ι1 H1 _ .refl hr1 rfl
/-! .. as values -/
def mAndV (ma mb : ME) : ME := fun σ h => bindR (ma σ h) fun x h1 => bindR (truD x h1) fun k h2 => if k = true then mb σ h2 else .ok x h2
def mOrV (ma mb : ME) : ME := fun σ h => bindR (ma σ h) fun x h1 => bindR (truD x h1) fun k h2 => if k = true then .ok x h2 else mb σ h2
def mNotV (ma : ME) : ME := fun σ h => bindR (ma σ h) fun x h1 => bindR (truD x h1) fun k h2 => .ok (.bl (!k)) h2
theorem em_oneV {op} (ha : PE X a (tE g W m)) : PE X (.BoolOp op [a] pos) (tE g W m) := pe_one ha
theorem em_andV (hK : X.K = g.K) (ha : PE X a (tE g W ma)) (hb : PE X (.BoolOp .And (b :: rest) pos) (tE g W mb)) : PE X (.BoolOp .And (a :: b :: rest) pos) (tE g W (mAndV ma mb)) := by
  refine PE_weak (pe_andT ha hb) ?_
  rintro σv H Q ⟨F, ι, σ, h, hr, lr, p⟩
  refine tM_bind (f := fun σ x h1 => bindR (truD x h1) fun k h2 => if k = true then mb σ h2 else .ok x h2) hr lr p fun F1 ι1 H1 x h1 v l hr1 lr1 r1 p1 => ?_
  obtain ⟨k, q1, q2⟩ := tru_D hr1 r1 p1
  refine ⟨k, by rw [hK]; exact q1, ?_⟩
  by_cases hk : k = true
  · rw [if_pos hk] at q2 ⊢
    exact ⟨F1, ι1, σ, h1, hr1, lr1, q2⟩
  · rw [if_neg hk] at q2 ⊢
    exact q2 F1 ι1 H1 v .refl hr1 r1
theorem em_orV (hK : X.K = g.K) (ha : PE X a (tE g W ma)) (hb : PE X (.BoolOp .Or (b :: rest) pos) (tE g W mb)) : PE X (.BoolOp .Or (a :: b :: rest) pos) (tE g W (mOrV ma mb)) := by
  refine PE_weak (pe_orT ha hb) ?_
  rintro σv H Q ⟨F, ι, σ, h, hr, lr, p⟩
  refine tM_bind (f := fun σ x h1 => bindR (truD x h1) fun k h2 => if k = true then .ok x h2 else mb σ h2) hr lr p fun F1 ι1 H1 x h1 v l hr1 lr1 r1 p1 => ?_
  obtain ⟨k, q1, q2⟩ := tru_D hr1 r1 p1
  refine ⟨k, by rw [hK]; exact q1, ?_⟩
  by_cases hk : k = true
  · rw [if_pos hk] at q2 ⊢
    exact q2 F1 ι1 H1 v .refl hr1 r1
  · rw [if_neg hk] at q2 ⊢
    exact ⟨F1, ι1, σ, h1, hr1, lr1, q2⟩
theorem em_notV (hK : X.K = g.K) (ha : PE X a (tE g W ma)) : PE X (.UnaryOp .Not a pos) (tE g W (mNotV ma)) := by
  refine PE_weak (pe_notT ha) ?_
  rintro σv H Q ⟨F, ι, σ, h, hr, lr, p⟩
  refine tM_bind (f := fun σ x h1 => bindR (truD x h1) fun k h2 => .ok (D.bl (!k)) h2) hr lr p fun F1 ι1 H1 x h1 v l hr1 lr1 r1 p1 => ?_
  obtain ⟨k, q1, q2⟩ := tru_D hr1 r1 p1
  exact ⟨k, by rw [hK]; exact q1, finb q2 hr1⟩
def mIf (t : MT) (ma mb : ME) : ME := fun σ h => bindR (t σ h) fun k h1 => if k = true then ma σ h1 else mb σ h1
theorem em_ifE (hc : PT X c (tT g W t)) (ha : PE X a (tE g W ma)) (hb : PE X b (tE g W mb)) : PE X (.IfExp c a b pos) (tE g W (mIf t ma mb)) := by
  refine PE_weak (pe_ifExp hc ha hb) ?_
  rintro σv H Q ⟨F, ι, σ, h, hr, lr, p⟩
  refine tM_bind (f := fun σ k h1 => if k = true then ma σ h1 else mb σ h1) hr lr p fun F1 ι1 H1 x h1 v l hr1 lr1 r1 p1 => ?_
  subst r1
  by_cases hk : v = true
  · rw [if_pos hk] at p1 ⊢
    exact ⟨F1, ι1, σ, h1, hr1, lr1, p1⟩
  · rw [if_neg hk] at p1 ⊢
    exact ⟨F1, ι1, σ, h1, hr1, lr1, p1⟩
/-! ### unary minus -/
def mNeg (m : ME) : ME := fun σ h => bindR (m σ h) fun x h1 => match x with | .int i => .ok (.int (-i)) h1 | _ => .stuck
theorem em_neg (ha : PE X a (tE g W m)) : PE X (.UnaryOp .USub a pos) (tE g W (mNeg m)) := by
  refine PE_weak (pe_un un_neg ha) ?_
  rintro σv H Q ⟨F, ι, σ, h, hr, lr, p⟩
  refine tM_bind (f := fun σ x h1 => match x with | D.int i => .ok (D.int (-i)) h1 | _ => .stuck) hr lr p fun F1 ι1 H1 x h1 v l hr1 lr1 r1 p1 => ?_
  split at p1
  · cases r1.int'
    exact ⟨_, rfl, fini p1 hr1⟩
  · exact p1.elim
/-! ### arguments, displays -/
def mNil : MA := fun _ h => .ok [] h
def mCons (m : ME) (r : MA) : MA := fun σ h => bindR (m σ h) fun x h1 => bindR (r σ h1) fun xs h2 => .ok (x :: xs) h2
theorem am_nil : PA X [] (tA g W mNil) := by
  refine PA_weak pa_nil ?_
  rintro σv H Q ⟨F, ι, σ, h, hr, lr, p⟩
  exact p F ι H [] .refl hr (by simp [VRs])
theorem am_cons {r : MA} (ha : PE X e (tE g W m)) (hr : PA X es (tA g W r)) (hs : starEach (e :: es) X.env = (false, eval e X.env) :: starEach es X.env := by rfl) : PA X (e :: es) (tA g W (mCons m r)) := by
  refine PA_weak (pa_cons ha hr hs) ?_
  rintro σv H Q ⟨F, ι, σ, h, hr, lr, p⟩
  refine tM_bind (f := fun σ x h1 => bindR (r σ h1) fun xs h2 => .ok (x :: xs) h2) hr lr p fun F1 ι1 H1 x h1 v l hr1 lr1 r1 p1 => ?_
  refine tM_bind (f := fun σ xs h2 => .ok (x :: xs) h2) hr1 lr1 p1 fun F2 ι2 H2 xs h2 vs l2 hr2 lr2 r2 p2 => ?_
  exact p2 F2 ι2 H2 (v :: vs) .refl hr2 (by simp only [VRs]; exact ⟨v, vs, rfl, VR.mono l2 _ _ r1, r2⟩)
def mTup (r : MA) : ME := fun σ h => bindR (r σ h) fun xs h1 => okIf (xs.length ≤ sizeLine) (.ok (.tup xs) h1)
def mLst (mu : Bool) (r : MA) : ME := fun σ h => bindR (r σ h) fun xs h1 => okIf (xs.length ≤ sizeLine) (mkL mu xs h1)
theorem em_tup {r : MA} {k} (t : TiOk g) (ha : PA X es (tA g W r)) : PE X (.Tuple es k pos) (tE g W (mTup r)) := by
  refine PE_weak (pe_tup ha) ?_
  rintro σv H Q ⟨F, ι, σ, h, hr, lr, p⟩
  refine tM_bind (f := fun σ xs h1 => okIf (xs.length ≤ sizeLine) (.ok (.tup xs) h1)) hr lr p fun F1 ι1 H1 x h1 v l hr1 lr1 r1 p1 => ?_
  obtain ⟨hz, p1⟩ := okIf_post p1
  exact ⟨by rw [r1.length]; exact hz, mkT_ok t hr1 r1 p1⟩
theorem em_lst {r : MA} (t : TiOk g) (mu : Bool) (ha : PA X es (tA g W r)) : PE X (.List es pos) (tE g W (mLst mu r)) := by
  refine PE_weak (pe_lst ha) ?_
  rintro σv H Q ⟨F, ι, σ, h, hr, lr, p⟩
  refine tM_bind (f := fun σ xs h1 => okIf (xs.length ≤ sizeLine) (mkL mu xs h1)) hr lr p fun F1 ι1 H1 x h1 v l hr1 lr1 r1 p1 => ?_
  obtain ⟨hz, p1⟩ := okIf_post p1
  exact ⟨by rw [r1.length]; exact hz, mkL_ok t hr1 r1 p1⟩
end
end DV
end
section
set_option Elab.async false
set_option linter.all false
set_option maxRecDepth 100000
set_option maxHeartbeats 2000000
namespace DV
open PySem L2 PyProof.Rows

section
variable {X : Cx} {g : G} {W : WX} {e a b c o : Expr} {es rest : List Expr} {pos : Pos} {m ma mb : ME} {r : MA}
/-! ### fields -/
/-- what is asked of a class and a name -/
def AttrOk (K : PySem.W.Frag) (C : Addr) (f : Str) : Prop := Cls K C ∧ NoAttr K C f
def fldD (cs : List Nat) (f : Str) (x : D) (h : AH) : Rv D :=
  match getI h x with
  | some (c, fs) => if cs.contains c = true then match fs.lookup f with | some d => .ok d h | none => .stuck else .stuck
  | none => .stuck
def mFld (cs : List Nat) (f : Str) (m : ME) : ME := fun σ h => bindR (m σ h) (fldD cs f)
theorem em_fld {f : Str} (cs : List Nat) (hK : X.K = g.K) (hc : ∀ c ∈ cs, AttrOk g.K (g.cls c) f) (he : PE X e (tE g W m)) (hb : attributeBase e f X.env (eval e X.env) = eval e X.env) : PE X (.Attribute e f pos) (tE g W (mFld cs f m)) := by
  refine PE_weak (pe_fld he hb) ?_
  rintro σv H Q ⟨F, ι, σ, h, hr, lr, p⟩
  refine tM_bind (f := fun _ => fldD cs f) hr lr p fun F1 ι1 H1 x h1 v l hr1 lr1 r1 p1 => ?_
  unfold fldD at p1
  split at p1
  · rename_i c fs eI
    split at p1
    · rename_i hcs
      split at p1
      · rename_i d ed
        obtain ⟨p', dx, ws, rfl, q1, q2⟩ := getI_ok hr1 eI r1
        obtain ⟨y, q3, q4⟩ := q2.look.1 d ed
        obtain ⟨A1, A2⟩ := hc c (by simpa using hcs)
        exact ⟨p', _, dx, ws, y, rfl, q1, by rw [hK]; exact A1, by rw [hK]; exact A2, q3, fin p1 hr1 q4⟩
      · exact p1.elim
    · exact p1.elim
  · exact p1.elim

/-! ### subscripts -/
def ixD (a b : D) (h : AH) : Rv D :=
  match b with
  | .int i =>
    match a with
    | .str z => okIf (z.length ≤ sizeLine) (match atI z.cps.toList i with | some c => .ok (.str ⟨#[c]⟩) h | none => .stuck)
    | a => match getS h a with
      | some xs => match atI xs i with | some d => .ok d h | none => .stuck
      | none => .stuck
  | _ => .stuck
theorem atI_rel {F : Kn} {ι : List Addr} {ds : List D} {vs : List V} {i : Int} {d : D} (r : VRs g F ι ds vs) (e : atI ds i = some d) : ∃ v, atI vs i = some v ∧ VR g F ι d v := by
  unfold atI at e ⊢
  rw [r.length]
  cases q : ixN ds.length i with
  | none => rw [q] at e; cases e
  | some j =>
    rw [q] at e
    exact r.get e
theorem ok_ix : OpOk g (rIx g.K) ixD := by
  intro W F ι h H σv a b v u Q hr ra rb p
  have big : (∀ i, b = .int i → (match getS h a with
      | some xs => match atI xs i with | some d => Rv.ok d h | none => .stuck
      | none => .stuck) = ixD a b h → rIx g.K v u H Q) := fun i ei e => by
    rw [← e] at p
    subst ei
    cases rb.int'
    split at p
    · rename_i xs e1
      split at p
      · rename_i d e2
        obtain ⟨l, vs, rfl, q1, q2⟩ := getS_ok hr e1 ra
        obtain ⟨y, q3, q4⟩ := atI_rel q2 e2
        rcases q1 with q1 | q1
        · exact .inl ⟨l, vs, i, y, rfl, rfl, q1, q3, fin p hr q4⟩
        · exact .inr (.inl ⟨l, vs, i, y, rfl, rfl, q1, q3, fin p hr q4⟩)
      · exact p.elim
    · exact p.elim
  cases b with
  | int i =>
    cases a with
    | str z =>
      cases ra.str'; cases rb.int'
      simp only [ixD] at p
      obtain ⟨hz, p⟩ := okIf_post p
      split at p
      · rename_i c e1
        exact .inr (.inr ⟨z, i, c, rfl, rfl, hz, e1, fins p hr⟩)
      · exact p.elim
    | _ => exact big i rfl rfl
  | _ => exact p.elim
theorem em_ixS (hK : X.K = g.K) (ha : PE X a (tE g W ma)) (hb : PE X b (tE g W mb)) (hs : PlainIx b) : PE X (.Subscript a b pos) (tE g W (mOp ixD ma mb)) :=
  em_ix (r := rIx X.K) ix_seq (by rw [hK]; exact ok_ix) ha hb hs

/-! dicts -/
def lkK : List (Key × D) → Key → Option D
  | [], _ => none
  | (k', d) :: r, k => if k' = k then some d else lkK r k
theorem VRk.val {F : Kn} {ι : List Addr} {k : Key} : ∀ {ks : List (Key × D)} {ws : List (Key × V)}, VRk g F ι ks ws → (∀ d, lkK ks k = some d → ∃ v, valV ws k = some v ∧ VR g F ι d v) ∧ (lkK ks k = none → valV ws k = none)
  | [], ws, r => by simp only [VRk] at r; subst r; simp [valV, lkK]
  | (k', d) :: ks, ws, r => by
    simp only [VRk] at r
    obtain ⟨v, us, rfl, q, r⟩ := r
    by_cases e : k' = k
    · simp only [lkK, if_pos e, Option.some.injEq, reduceCtorEq, false_implies, and_true]
      rintro _ rfl
      exact ⟨v, valV_pos e, q⟩
    · simp only [lkK, if_neg e]
      rw [valV_neg (show ¬ (k', v).1 = k from e)]
      exact VRk.val r
def keyD : D → Option Key
  | .int i => some (.inl i)
  | .str x => some (.inr x)
  | _ => none
theorem keyD_ok {F : Kn} {ι : List Addr} {d : D} {v : V} {k : Key} (e : keyD d = some k) (r : VR g F ι d v) : v = kV k := by
  cases d with
  | int i => cases e; exact r.int'
  | str i => cases e; exact r.str'
  | _ => cases e
theorem getK_ok {F : Kn} {ι : List Addr} {h : AH} {H : Hp} (r : HR g F ι h H) {d : D} {v : V} {ds : List (Key × D)} (e : getK h d = some ds) (rv : VR g F ι d v) : ∃ a vs, v = .ref a ∧ Rd H a (.dK vs) ∧ VRk g F ι ds vs := by
  cases d with
  | dct es =>
    cases e
    simp only [VR] at rv
    obtain ⟨a, vs, rfl, t, q⟩ := rv
    rcases r.fr _ _ t with ⟨z, _⟩ | ⟨ws, ob, e, z⟩
    · exact ⟨a, vs, rfl, .inl z, q⟩
    · exact ⟨a, vs, rfl, .inr ⟨ob, z⟩, q⟩
  | ref n =>
    simp only [VR] at rv
    obtain ⟨a, rfl, t⟩ := rv
    simp only [getK] at e
    split at e
    · rename_i es q
      cases e
      obtain ⟨b, x, q1, q2, ⟨vs, rfl, q3⟩, _⟩ := r.hp n _ q
      rw [t] at q1
      cases q1
      exact ⟨a, vs, rfl, .inl q2, q3⟩
    · rename_i es q
      cases e
      obtain ⟨b, x, q1, q2, ⟨ob, vs, rfl, q3⟩, _⟩ := r.hp n _ q
      rw [t] at q1
      cases q1
      exact ⟨a, vs, rfl, .inr ⟨ob, q2⟩, q3⟩
    · cases e
  | _ => cases e
/-- d[k], by values -/
def rIxD : R2 := fun x y H Q => ∃ a v, x = .ref a ∧ DGet H a y (some v) ∧ Q v H
theorem ix_dict (hu : X.A.units + 1 < cLine) : IxR X rIxD := by
  intro value slice pins s σ H x y v u Q I rx ry h hs
  obtain ⟨a, w, rfl, gt, q⟩ := h
  cases rx
  exact tail_any (ops := [.ref a, u]) (dict_typeIs I gt) PySem.F.slot_dict_getitem.lookup (d_getItem hu I gt ry fun w' s3 I3 rw' => ⟨w, H, I3, rw', q⟩) hs
def ORel (g : G) (F : Kn) (ι : List Addr) : Option D → Option V → Prop
  | some d, ov => ∃ y, ov = some y ∧ VR g F ι d y
  | none, ov => ov = none
def lookD (a b : D) (h : AH) : Option (Option D) :=
  match getK h a, keyD b with
  | some ks, some k => some (lkK ks k)
  | _, _ => none
theorem lookD_ok {F : Kn} {ι : List Addr} {h : AH} {H : Hp} (hr : HR g F ι h H) {a b : D} {v u : V} {o : Option D} (e : lookD a b h = some o) (ra : VR g F ι a v) (rb : VR g F ι b u) :
    ∃ p, v = .ref p ∧ ∃ ov, DGet H p u ov ∧ ORel g F ι o ov := by
  unfold lookD at e
  split at e
  · rename_i ks k e1 e2
    cases e
    obtain ⟨p, ws, rfl, q1, q2⟩ := getK_ok hr e1 ra
    cases keyD_ok e2 rb
    refine ⟨p, rfl, valV ws k, .inl ⟨ws, k, q1, rfl, rfl⟩, ?_⟩
    have z := VRk.val (k := k) q2
    revert z
    cases lkK ks k with
    | some d => exact fun z => z.1 d rfl
    | none => exact fun z => z.2 rfl
  · cases e
/-- any subscript -/
def subD (a b : D) (h : AH) : Rv D :=
  match getK h a with
  | some _ => match lookD a b h with | some (some d) => .ok d h | _ => .stuck
  | none => ixD a b h
theorem ok_sub : OpOk g (fun x y H Q => rIx g.K x y H Q ∨ rIxD x y H Q) subD := by
  intro W F ι h H σv a b v u Q hr ra rb p
  unfold subD at p
  split at p
  · split at p
    · rename_i d e
      obtain ⟨q, rfl, ov, z1, y, rfl, z2⟩ := lookD_ok hr e ra rb
      exact .inr ⟨q, y, rfl, z1, fin p hr z2⟩
    · exact p.elim
  · exact .inl (ok_ix W F ι h H σv a b v u Q hr ra rb p)
theorem em_sub (hK : X.K = g.K) (hu : X.A.units + 1 < cLine) (ha : PE X a (tE g W ma)) (hb : PE X b (tE g W mb)) (hs : PlainIx b) : PE X (.Subscript a b pos) (tE g W (mOp subD ma mb)) :=
  em_ix (r := fun x y H Q => rIx X.K x y H Q ∨ rIxD x y H Q) (ix_seq.or (ix_dict hu)) (by rw [hK]; exact ok_sub) ha hb hs

/-! ### slices -/
abbrev MO := AS → AH → Rv (Option Int)
abbrev tO (g : G) (W : WX) (m : MO) : TO := tM g W (fun _ _ a b => b = a) m
def mPN : MO := fun _ h => .ok none h
def mPS (m : ME) : MO := fun σ h => bindR (m σ h) fun x h1 => match x with | .int i => .ok (some i) h1 | _ => .stuck
theorem om_none : PO X none (tO g W mPN) := by
  refine PO_weak po_none ?_
  rintro σv H Q ⟨F, ι, σ, h, hr, lr, p⟩
  exact p F ι H none .refl hr rfl
theorem om_some (ha : PE X e (tE g W m)) : PO X (some e) (tO g W (mPS m)) := by
  refine PO_weak (po_some ha) ?_
  rintro σv H Q ⟨F, ι, σ, h, hr, lr, p⟩
  refine tM_bind (f := fun σ x h1 => match x with | D.int i => .ok (some i) h1 | _ => .stuck) hr lr p fun F1 ι1 H1 x h1 v l hr1 lr1 r1 p1 => ?_
  split at p1
  · cases r1.int'
    exact ⟨_, rfl, p1 F1 ι1 H1 _ .refl hr1 rfl⟩
  · exact p1.elim
def cutD (xs : List D) (lo hi : Option Int) : List D := (xs.drop (HT.sIx xs.length 0 lo)).take (HT.sIx xs.length xs.length hi - HT.sIx xs.length 0 lo)
theorem cut_rel {F : Kn} {ι : List Addr} {ds : List D} {vs : List V} {lo hi : Option Int} (r : VRs g F ι ds vs) : VRs g F ι (cutD ds lo hi) (cutV vs lo hi) := by
  unfold cutD cutV
  rw [r.length]
  exact (r.drop _).take _
def slD (mu : Bool) (x : D) (lo hi : Option Int) (h : AH) : Rv D :=
  match x with
  | .str z => okIf (z.length ≤ sizeLine) (.ok (.str (cutS z lo hi)) h)
  | .tup xs => .ok (.tup (cutD xs lo hi)) h
  | x => match getL h x with
    | some xs => mkL mu (cutD xs lo hi) h
    | none => .stuck
def mSl (mu : Bool) (m : ME) (ml mh : MO) : ME := fun σ h => bindR (m σ h) fun x h1 => bindR (ml σ h1) fun lo h2 => bindR (mh σ h2) fun hi h3 => slD mu x lo hi h3
theorem tup_cut {F : Kn} {ι : List Addr} {h : AH} {H : Hp} {σv : L2.St} {Q : VK} (t : TiOk g) {xs : List D} {lo hi : Option Int} {v : V} (hr : HR g F ι h H) (ra : VR g F ι (.tup xs) v) (p : Post g W F ι σv (VR g) (.ok (.tup (cutD xs lo hi)) h) Q) : rSlA g.K v lo hi H Q := by
  obtain ⟨a, vs, rfl, q1, q2⟩ := tup_ok hr ra
  refine ⟨a, vs, rfl, q1, fun hw => ?_, fun _ => mkT_ok t hr (cut_rel q2) p⟩
  have e : cutD xs lo hi = xs := by
    unfold cutD
    rw [← q2.length, hw.1, hw.2]
    simp [q2.length]
  rw [e] at p
  exact fin p hr ra
theorem em_sl (t : TiOk g) (mu : Bool) (hK : X.K = g.K) {lo hi : Option Expr} {ml mh : MO} {p2 : Pos} (he : PE X e (tE g W m)) (hl : PO X lo (tO g W ml)) (hu : PO X hi (tO g W mh)) : PE X (.Subscript e (.Slice lo hi none p2) pos) (tE g W (mSl mu m ml mh)) := by
  refine PE_weak (pe_slice (r := fun x lo hi H Q => rSlS x lo hi H Q ∨ rSlA X.K x lo hi H Q ∨ rSlL X.K x lo hi H Q) (sl_str.or (sl_tupA.or sl_list)) he hl hu) ?_
  rintro σv H Q ⟨F, ι, σ, h, hr, lr, p⟩
  refine tM_bind (f := fun σ x h1 => bindR (ml σ h1) fun lo h2 => bindR (mh σ h2) fun hi h3 => slD mu x lo hi h3) hr lr p fun F1 ι1 H1 x h1 v l hr1 lr1 r1 p1 => ?_
  refine tM_bind (f := fun σ lo h2 => bindR (mh σ h2) fun hi h3 => slD mu x lo hi h3) hr1 lr1 p1 fun F2 ι2 H2 lo h2 lo' l2 hr2 lr2 r2 p2 => ?_
  refine tM_bind (f := fun σ hi h3 => slD mu x lo hi h3) hr2 lr2 p2 fun F3 ι3 H3 hi h3 hi' l3 hr3 lr3 r3 p3 => ?_
  subst r2 r3
  have r1' := VR.mono (l2.trans l3) _ _ r1
  rw [hK]
  have big : (match getL h3 x with
    | some xs => mkL mu (cutD xs lo' hi') h3
    | none => .stuck) = slD mu x lo' hi' h3 → rSlS v lo' hi' H3 Q ∨ rSlA g.K v lo' hi' H3 Q ∨ rSlL g.K v lo' hi' H3 Q := fun e => by
    rw [← e] at p3
    split at p3
    · rename_i xs e1
      obtain ⟨a, vs, rfl, q1, q2⟩ := getL_ok hr3 e1 r1'
      exact .inr (.inr ⟨a, vs, rfl, q1, mkL_ok t hr3 (cut_rel q2) p3⟩)
    · exact p3.elim
  cases x with
  | str z =>
    cases r1'.str'
    obtain ⟨hz, p3⟩ := okIf_post p3
    exact .inl ⟨z, rfl, hz, fins p3 hr3⟩
  | tup xs => exact .inr (.inl (tup_cut t hr3 r1' p3))
  | _ => exact big rfl
/-- xs[::-1] of a list -/
def mRev (mu : Bool) (m : ME) : ME := fun σ h => bindR (m σ h) fun x h1 => match getL h1 x with | some xs => mkL mu xs.reverse h1 | none => .stuck
theorem em_rev (t : TiOk g) (mu : Bool) (hK : X.K = g.K) {k : Nat} {p1 p2 p3 : Pos} (he : PE X e (tE g W m)) : PE X (.Subscript e (.Slice none none (some (.UnaryOp .USub (.Constant (.int 1) k p1) p2)) p3) pos) (tE g W (mRev mu m)) := by
  refine PE_weak (pe_revL he) ?_
  rintro σv H Q ⟨F, ι, σ, h, hr, lr, p⟩
  refine tM_bind (f := fun σ x h1 => match getL h1 x with | some xs => mkL mu xs.reverse h1 | none => .stuck) hr lr p fun F1 ι1 H1 x h1 v l hr1 lr1 r1 p1 => ?_
  split at p1
  · rename_i xs e1
    obtain ⟨a, vs, rfl, q1, q2⟩ := getL_ok hr1 e1 r1
    exact ⟨a, vs, rfl, by rw [hK]; exact q1, mkL_ok t hr1 q2.rev p1⟩
  · exact p1.elim
end
end DV
end
section
set_option Elab.async false
set_option linter.all false
set_option maxRecDepth 100000
set_option maxHeartbeats 2000000
namespace DV
open PySem L2 PyProof.Rows

/-! ### defs -/
abbrev FM := List D → AH → Rv D
def PostF (g : G) (F : Kn) (ι : List Addr) (r : Rv D) (Q : VK) (E : XK) : Prop :=
  match r with
  | .ok d h => ∀ F' ι' H' v, Le F ι F' ι' → HR g F' ι' h H' → VR g F' ι' d v → Q v H'
  | .exc c h => ∀ F' ι' H', Le F ι F' ι' → HR g F' ι' h H' → E (.ref (g.exc c)) none H'
  | .stuck => False
theorem PostF.of {g : G} {W : WX} {F : Kn} {ι : List Addr} {σv : L2.St} {r : Rv D} {Q : VK} (p : Post g W F ι σv (VR g) r Q) : PostF g F ι r Q (WE W σv) := by
  cases r with
  | ok d h => exact p
  | exc c h => exact p
  | stuck => exact p
/-- the def does what Fm says -/
def spF (g : G) (n : Nat) (Fm : FM) : Sp := fun vs H Q E => vs.length = n ∧ ∃ F ι ds h, HR g F ι h H ∧ VRs g F ι ds vs ∧ PostF g F ι (Fm ds h) Q E
section
variable {X : Cx} {g : G} {W : WX} {e a b c o : Expr} {es rest : List Expr} {pos p apos : Pos} {m ma mb mo : ME} {r : MA}
def mCall (Fm : FM) (r : MA) : ME := fun σ h => bindR (r σ h) Fm
section
variable {k : Nat} {f : Addr} {fd : FuncData} {ps : List Str} {n : Nat} {Fm : FM} {dvs : List V} {ds : List Value} {dds : List D} {x : Str}
theorem em_call (hK : X.K = g.K) (tk : Takes X W) (F : FnOk X.prog X.w X.K X.mg X.base (L2.CX X.prog X.w) k f fd ps (spF g ps.length Fm)) (hr : Room k X.A) (hg : Gl X x) (hm : X.mg x = some (.ref f)) (hk : PySem.W.keepIn X.K (.ref f) = true)
    (hb : Binds X.K fd ps ds) (hd : Vals dvs ds) (hdd : ∀ F ι, VRs g F ι dds dvs) (hn : (e :: es).length + dds.length = ps.length) (hl : ∀ σ h xs h', r σ h = .ok xs h' → xs.length = (e :: es).length)
    (ha : PA X (e :: es) (tA g W r)) (hdb : (x == ("__debug__" : Str)) = false := by decide) (he : starEach (e :: es) X.env = (false, eval e X.env) :: starEach es X.env := by rfl) (hpl : (backTo pos (starEach es X.env)).any (·.1) = false := by rfl) :
    PE X (.Call (.Name x p) (e :: es) [] pos) (tE g W (mCall (fun xs => Fm (xs ++ dds)) r)) := by
  refine PE_weak (pe_callSD (E := WE W) F hr hg hm hk hb hd (fun σ => passAt tk σ) ha hdb he hpl) ?_
  rintro σv H Q ⟨F, ι, σ, h, hr, lr, p⟩
  refine ⟨F, ι, σ, h, hr, lr, ?_⟩
  have hl' := hl σ h
  revert p
  unfold mCall
  cases q : r σ h with
  | ok xs h1 =>
    intro p F1 ι1 H1 vs l hr1 rv
    have e1 := hl' xs h1 q
    have r2 := rv.append (hdd F1 ι1)
    refine ⟨by rw [r2.length, List.length_append, e1]; exact hn, F1, ι1, xs ++ dds, h1, hr1, r2, PostF.of (p.le l)⟩
  | exc c h1 => exact fun p => p
  | stuck => exact fun p => p
end
end
/-- a list's arguments by number -/
theorem len_nil {σ : AS} {h : AH} {xs : List D} {h' : AH} (e : mNil σ h = .ok xs h') : xs.length = 0 := by cases e; rfl
theorem len_cons {m : ME} {r : MA} {n : Nat} (hr : ∀ σ h xs h', r σ h = .ok xs h' → xs.length = n) : ∀ σ h xs h', mCons m r σ h = .ok xs h' → xs.length = n + 1 := by
  intro σ h xs h' e
  unfold mCons at e
  cases q : m σ h with
  | ok x h1 =>
    rw [q] at e
    simp only [bindR] at e
    cases q2 : r σ h1 with
    | ok ys h2 =>
      rw [q2] at e
      simp only [bindR, Rv.ok.injEq] at e
      obtain ⟨rfl, _⟩ := e
      simp [hr _ _ _ _ q2]
    | exc c h2 => rw [q2] at e; cases e
    | stuck => rw [q2] at e; cases e
  | exc c h1 => rw [q] at e; cases e
  | stuck => rw [q] at e; cases e

section
variable {X : Cx} {g : G} {W : WX} {e a b c o : Expr} {es rest : List Expr} {pos p apos : Pos} {m ma mb mo : ME} {r : MA}
variable {k : Nat} {f C : Addr} {fd : FuncData} {ps : List Str} {n ci : Nat} {Fm : FM} {dvs : List V} {ds : List Value} {dds : List D} {x mn : Str}
theorem post_call {F : Kn} {ι : List Addr} {h : AH} {H : Hp} {σv : L2.St} {Q : VK} {xs : List D} {vs : List V} (hdd : ∀ F ι, VRs g F ι dds dvs) (hn : n + dds.length = ps.length) (hl : xs.length = n) (hr : HR g F ι h H) (rv : VRs g F ι xs vs)
    (p : Post g W F ι σv (VR g) (Fm (xs ++ dds) h) Q) : spF g ps.length Fm (vs ++ dvs) H Q (WE W σv) := by
  have r2 := rv.append (hdd F ι)
  exact ⟨by rw [r2.length, List.length_append, hl]; exact hn, F, ι, xs ++ dds, h, hr, r2, PostF.of p⟩
theorem em_call0 (hK : X.K = g.K) (tk : Takes X W) (F : FnOk X.prog X.w X.K X.mg X.base (L2.CX X.prog X.w) k f fd ps (spF g ps.length Fm)) (hr : Room k X.A) (hg : Gl X x) (hm : X.mg x = some (.ref f)) (hk : PySem.W.keepIn X.K (.ref f) = true)
    (hb : Binds X.K fd ps ds) (hd : Vals dvs ds) (hdd : ∀ F ι, VRs g F ι dds dvs) (hn : 0 + dds.length = ps.length)
    (hdb : (x == ("__debug__" : Str)) = false := by decide) :
    PE X (.Call (.Name x p) [] [] pos) (tE g W (mCall (fun xs => Fm (xs ++ dds)) mNil)) := by
  refine ⟨fun pins s σv H Q I hq => ?_⟩
  obtain ⟨F1, ι, σ, h, hr1, lr, pq⟩ := hq
  refine wpAny_Call_Name_kw (ld_glob I hg hm ?_ hdb)
  refine PySem.W.callWith_K0 I.kIn hk (run_fnSD (us := []) (vs := []) (E := WE W) F hr hb hd (passAt tk σv) I .nil ?_)
  exact post_call (xs := []) (vs := []) hdd hn rfl hr1 (by simp [VRs]) pq
/-! methods -/
def rcvD (c : Nat) (mn : Str) (x : D) (h : AH) : Bool := match getI h x with | some (c', fs) => decide (c' = c) && (fs.lookup mn).isNone | none => false
def mMeth (c : Nat) (mn : Str) (Fm : FM) (mo : ME) (r : MA) : ME := fun σ h => bindR (mo σ h) fun x h1 => if rcvD c mn x h1 = true then bindR (r σ h1) fun xs h2 => Fm (x :: xs) h2 else .stuck
theorem rcv_ok {F : Kn} {ι : List Addr} {h : AH} {H : Hp} (hr : HR g F ι h H) {x : D} {v : V} (e : rcvD ci mn x h = true) (rv : VR g F ι x v) : ∃ a dx fs, v = .ref a ∧ H a = some (.ins (g.cls ci) dx fs) ∧ fs.lookup mn = none := by
  unfold rcvD at e
  split at e
  · rename_i c' fs eI
    obtain ⟨a, dx, ws, rfl, q1, q2⟩ := getI_ok hr eI rv
    simp only [Bool.and_eq_true, decide_eq_true_eq, Option.isNone_iff_eq_none] at e
    obtain ⟨rfl, e2⟩ := e
    exact ⟨a, dx, ws, rfl, q1, q2.look.2 e2⟩
  · cases e
theorem em_meth {pl : Sem Bool} (hK : X.K = g.K) (tk : Takes X W) (he : PE X o (tE g W mo)) (hc : Cls X.K (g.cls ci)) (hm : Meth X.K (g.cls ci) mn f) (F : FnOk X.prog X.w X.K X.mg X.base (L2.CX X.prog X.w) k f fd ps (spF g ps.length Fm)) (hr : Room k X.A)
    (hb : Binds X.K fd ps ds) (hd : Vals dvs ds) (hdd : ∀ F ι, VRs g F ι dds dvs) (hn : (e :: es).length + 1 + dds.length = ps.length) (hl : ∀ σ h xs h', r σ h = .ok xs h' → xs.length = (e :: es).length)
    (ha : PA X (e :: es) (tA g W r))
    (hst : starEach (e :: es) X.env = (false, eval e X.env) :: starEach es X.env := by rfl) (hpl : (backTo pos (starEach es X.env)).any (·.1) = false := by rfl)
    (ht : eval (.Call (.Attribute o mn apos) (e :: es) [] pos) X.env = (do
      let ov ← eval o X.env
      standAt apos.atName
      let (f, first) ← holding [ov] (getMethod ov mn pl)
      callWith pos f first (backTo pos (starEach (e :: es) X.env)) (backToKw pos (keywordEach [] X.env))) := by rfl) :
    PE X (.Call (.Attribute o mn apos) (e :: es) [] pos) (tE g W (mMeth ci mn (fun xs => Fm (xs ++ dds)) mo r)) := by
  refine ⟨fun pins s σv H Q I hq => ?_⟩
  obtain ⟨F0, ι, σ, h, hr0, lr, pq⟩ := hq
  refine methcall_of (pl := pl) he I (tM_bind (f := fun σ x h1 => if rcvD ci mn x h1 = true then bindR (r σ h1) fun xs h2 => Fm (x :: xs ++ dds) h2 else .stuck) hr0 lr pq fun F1 ι1 H1 x h1 v l hr1 lr1 r1 p1 => ?_) ht
  split at p1
  · rename_i ex
    obtain ⟨a, dx, fs, rfl, q1, q2⟩ := rcv_ok hr1 ex r1
    refine ⟨a, _, dx, fs, f, rfl, q1, hc, hm, q2, fun s1 I1 => ?_⟩
    refine PySem.W.callWith_K (first := [.ref a]) (h₀ := X.base) I1.ok.mod.kin hm.kp (thn (ha.run pos pins s1 σv H1 (fun vs H2 => spF g ps.length Fm ((V.ref a :: vs) ++ dvs) H2 Q (WE W σv)) I1 ?_) fun us s2 ⟨vs, H2, I2, r, q2⟩ => ⟨I2.kIn, ?_⟩) hst hpl
    · refine ⟨F1, ι1, σ, h1, hr1, lr1, ?_⟩
      have hl' := hl σ h1
      revert p1
      cases q : r σ h1 with
      | ok xs h2 =>
        intro p1 F2 ι2 H2 vs l2 hr2 rv
        exact post_call (n := (e :: es).length + 1) hdd hn (by simp [hl' xs h2 q]) hr2 (by simp only [VRs]; exact ⟨_, _, rfl, VR.mono l2 _ _ r1, rv⟩) (p1.le l2)
      | exc c h1 => exact fun p => p
      | stuck => exact fun p => p
    · exact run_fnSD (us := .ref a :: us) (vs := .ref a :: vs) (E := WE W) F hr hb hd (passAt tk σv) I2 (.cons rfl r) q2
  · exact p1.elim
theorem em_meth0 {pl : Sem Bool} (hK : X.K = g.K) (tk : Takes X W) (he : PE X o (tE g W mo)) (hc : Cls X.K (g.cls ci)) (hm : Meth X.K (g.cls ci) mn f) (F : FnOk X.prog X.w X.K X.mg X.base (L2.CX X.prog X.w) k f fd ps (spF g ps.length Fm)) (hr : Room k X.A)
    (hb : Binds X.K fd ps ds) (hd : Vals dvs ds) (hdd : ∀ F ι, VRs g F ι dds dvs) (hn : 1 + dds.length = ps.length)
    (ht : eval (.Call (.Attribute o mn apos) [] [] pos) X.env = (do
      let ov ← eval o X.env
      standAt apos.atName
      let (f, first) ← holding [ov] (getMethod ov mn pl)
      callWith pos f first (backTo pos (starEach [] X.env)) (backToKw pos (keywordEach [] X.env))) := by rfl) :
    PE X (.Call (.Attribute o mn apos) [] [] pos) (tE g W (mMeth ci mn (fun xs => Fm (xs ++ dds)) mo mNil)) := by
  refine ⟨fun pins s σv H Q I hq => ?_⟩
  obtain ⟨F0, ι, σ, h, hr0, lr, pq⟩ := hq
  refine methcall_of (pl := pl) he I (tM_bind (f := fun σ x h1 => if rcvD ci mn x h1 = true then bindR (mNil σ h1) fun xs h2 => Fm (x :: xs ++ dds) h2 else .stuck) hr0 lr pq fun F1 ι1 H1 x h1 v l hr1 lr1 r1 p1 => ?_) ht
  split at p1
  · rename_i ex
    obtain ⟨a, dx, fs, rfl, q1, q2⟩ := rcv_ok hr1 ex r1
    refine ⟨a, _, dx, fs, f, rfl, q1, hc, hm, q2, fun s1 I1 => ?_⟩
    refine PySem.W.callWith_K0 (first := [.ref a]) I1.kIn hm.kp (run_fnSD (us := [.ref a]) (vs := [.ref a]) (E := WE W) F hr hb hd (passAt tk σv) I1 (.cons rfl .nil) ?_)
    exact post_call (n := 1) (xs := [x]) (vs := [V.ref a]) hdd hn rfl hr1 (VRs.one r1) p1
  · exact p1.elim
/-! a new instance -/
def initD (c : Nat) (Fm : FM) (xs : List D) (h : AH) : Rv D :=
  bindR (Fm (.ref h.length :: xs) (h ++ [some (.ins c [])])) fun d h2 => match d with | .non => .ok (.ref h.length) h2 | _ => .stuck
def mMake (c : Nat) (Fm : FM) (r : MA) : ME := fun σ h => bindR (r σ h) (initD c Fm)
theorem run_makeSD {pins : List (Addr × Obj)} {σ : L2.St} {H : Hp} {s : Shared} {Q : VK} {us : List Value} {vs : List V} {sp : Sp} {E : L2.St → XK} {CX : CXT} (M : Mk X.K C f) (F : FnOk X.prog X.w X.K X.mg X.base CX k f fd ps sp) (hr : Room (k + 1) X.A) (hb : Binds X.K fd ps ds) (hd : Vals dvs ds)
    (hx : PassesAt CX X σ (E σ)) (I : L2.Inv X pins σ H s) (r : Vals vs us)
    (h : ∀ x dx, H x = none → H dx = none → dx ≠ x → sp (.ref x :: (vs ++ dvs)) (upd (upd H dx (.own x)) x (.ins C dx [])) (fun v H2 => v = .non ∧ Q (.ref x) H2) (E σ)) :
    wpAny (model X.prog X.w) X.A (call (.ref C) us) (EP X pins σ Q) X.xe s := by
  have hq := h (s.heap.objs.size + 1) s.heap.objs.size (I.hok.fresh (Nat.le_succ _)) (I.hok.fresh (Nat.le_refl _)) (Nat.ne_of_lt (Nat.lt_succ_self _))
  have I2 := Inv.made (C := C) I
  have r2 : Vals (V.ref (s.heap.objs.size + 1) :: (vs ++ dvs)) (Value.ref (s.heap.objs.size + 1) :: (us ++ ds)) := .cons rfl (r.append hd)
  have hl : (Value.ref (s.heap.objs.size + 1) :: us ++ ds).length = ps.length := by
    have e := r2.length
    rw [F.len _ _ _ _ hq] at e
    exact e.symm
  refine wpAny_call (make_map (f := f) I.kIn M.makes M.init (beq_iff_eq.mp M.fn) (codeAny_mono (F.run _ X.stack _ _ ⟨Value.ref (s.heap.objs.size + 1) :: us, []⟩ (Value.ref (s.heap.objs.size + 1) :: (us ++ ds)) _ _ (E σ) (hr.make C us [])
    (I2.env0.make C us []) (hb _ (Value.ref (s.heap.objs.size + 1) :: us) I2.kIn hl) r2 hq) fun r s' hq' => ?_))
  cases r with
  | error e => exact hx pins _ _ e s' I2 hq'
  | ok fl =>
    cases fl with
    | ret u =>
      obtain ⟨v, H', I3, rv, ev, q3⟩ := I2.after hq'
      subst ev
      exact ⟨rv, ⟨V.ref (s.heap.objs.size + 1), H', I3, rfl, q3⟩⟩
    | next => exact False.elim hq'
    | brk => exact False.elim hq'
    | cont => exact False.elim hq'
theorem post_init (t : TiOk g) {F : Kn} {ι : List Addr} {h : AH} {H : Hp} {σv : L2.St} {Q : VK} {xs : List D} {vs : List V} (hdd : ∀ F ι, VRs g F ι dds dvs) (hn : n + 1 + dds.length = ps.length) (hl : xs.length = n) (hr : HR g F ι h H) (rv : VRs g F ι xs vs)
    (p : Post g W F ι σv (VR g) (initD ci (fun xs => Fm (xs ++ dds)) xs h) Q) : ∀ x dx, H x = none → H dx = none → dx ≠ x → spF g ps.length Fm (.ref x :: (vs ++ dvs)) (upd (upd H dx (.own x)) x (.ins (g.cls ci) dx [])) (fun v H2 => v = .non ∧ Q (.ref x) H2) (WE W σv) := by
  intro x dx hx hdx hne
  obtain ⟨hr1, l1⟩ := hr.newF t hdx (.own x)
  obtain ⟨hr2, l2⟩ := hr1.newO t (p := x) (o := .ins ci []) (x := .ins (g.cls ci) dx []) (by rw [upd_ne (Ne.symm hne)]; exact hx) ⟨dx, [], rfl, by simp [VRf]⟩
  have l := l1.trans l2
  have rx : VR g (Kn.add F dx (.own x)) (ι ++ [x]) (.ref h.length) (.ref x) := by simp only [VR]; exact ⟨x, rfl, by rw [← hr.len]; simp⟩
  have rv2 : VRs g (Kn.add F dx (.own x)) (ι ++ [x]) (.ref h.length :: xs ++ dds) (.ref x :: (vs ++ dvs)) := by
    simp only [List.cons_append, VRs]
    exact ⟨_, _, rfl, rx, (VRs.mono l _ _ rv).append (hdd _ _)⟩
  refine ⟨by rw [rv2.length]; simp [hl]; omega, _, _, _, _, hr2, rv2, ?_⟩
  have p := p.le l
  unfold initD at p
  dsimp only at p
  revert p
  cases Fm (.ref h.length :: xs ++ dds) (h ++ [some (.ins ci [])]) with
  | ok d h2 =>
    intro p F3 ι3 H3 v l3 hr3 r3
    cases d with
    | non => exact ⟨r3.non', p F3 ι3 H3 (.ref x) l3 hr3 (VR.mono l3 _ _ rx)⟩
    | _ => exact p.elim
  | exc c h2 => exact fun p => p
  | stuck => exact fun p => p
theorem em_make (t : TiOk g) (hK : X.K = g.K) (tk : Takes X W) (M : Mk X.K (g.cls ci) f) (F : FnOk X.prog X.w X.K X.mg X.base (L2.CX X.prog X.w) k f fd ps (spF g ps.length Fm)) (hr : Room (k + 1) X.A) (hg : Gl X x) (hm : X.mg x = some (.ref (g.cls ci)))
    (hb : Binds X.K fd ps ds) (hd : Vals dvs ds) (hdd : ∀ F ι, VRs g F ι dds dvs) (hn : (e :: es).length + 1 + dds.length = ps.length) (hl : ∀ σ h xs h', r σ h = .ok xs h' → xs.length = (e :: es).length)
    (ha : PA X (e :: es) (tA g W r)) (hdb : (x == ("__debug__" : Str)) = false := by decide) (he : starEach (e :: es) X.env = (false, eval e X.env) :: starEach es X.env := by rfl) (hpl : (backTo pos (starEach es X.env)).any (·.1) = false := by rfl) :
    PE X (.Call (.Name x p) (e :: es) [] pos) (tE g W (mMake ci (fun xs => Fm (xs ++ dds)) r)) := by
  refine ⟨fun pins s σv H Q I hq => ?_⟩
  obtain ⟨F0, ι, σ, h, hr0, lr, pq⟩ := hq
  refine wpAny_Call_Name_kw (ld_glob I hg hm ?_ hdb)
  refine PySem.W.callWith_K (h₀ := X.base) I.ok.mod.kin M.kp (thn (ha.run pos pins s σv H (fun vs H1 => ∀ x dx, H1 x = none → H1 dx = none → dx ≠ x → spF g ps.length Fm (.ref x :: (vs ++ dvs)) (upd (upd H1 dx (.own x)) x (.ins (g.cls ci) dx [])) (fun v H2 => v = .non ∧ Q (.ref x) H2) (WE W σv)) I ?_)
    fun us s1 ⟨vs, H1, I1, r, q⟩ => ⟨I1.kIn, run_makeSD (E := WE W) M F hr hb hd (passAt tk σv) I1 r q⟩) he hpl
  refine ⟨F0, ι, σ, h, hr0, lr, ?_⟩
  have hl' := hl σ h
  unfold mMake at pq
  revert pq
  cases q : r σ h with
  | ok xs h2 =>
    intro p1 F2 ι2 H2 vs l2 hr2 rv
    exact post_init t (n := (e :: es).length) hdd hn (hl' xs h2 q) hr2 rv (p1.le l2)
  | exc c h1 => exact fun p => p
  | stuck => exact fun p => p
theorem em_make0 (t : TiOk g) (hK : X.K = g.K) (tk : Takes X W) (M : Mk X.K (g.cls ci) f) (F : FnOk X.prog X.w X.K X.mg X.base (L2.CX X.prog X.w) k f fd ps (spF g ps.length Fm)) (hr : Room (k + 1) X.A) (hg : Gl X x) (hm : X.mg x = some (.ref (g.cls ci)))
    (hb : Binds X.K fd ps ds) (hd : Vals dvs ds) (hdd : ∀ F ι, VRs g F ι dds dvs) (hn : 0 + 1 + dds.length = ps.length) (hdb : (x == ("__debug__" : Str)) = false := by decide) :
    PE X (.Call (.Name x p) [] [] pos) (tE g W (mMake ci (fun xs => Fm (xs ++ dds)) mNil)) := by
  refine ⟨fun pins s σv H Q I hq => ?_⟩
  obtain ⟨F0, ι, σ, h, hr0, lr, pq⟩ := hq
  refine wpAny_Call_Name_kw (ld_glob I hg hm ?_ hdb)
  refine PySem.W.callWith_K0 I.kIn M.kp (run_makeSD (us := []) (vs := []) (E := WE W) M F hr hb hd (passAt tk σv) I .nil ?_)
  exact post_init t (n := 0) (xs := []) (vs := []) hdd hn rfl hr0 (by simp [VRs]) pq
/-! a thing of one's own becomes data for good -/
def frzD (d : D) (h : AH) : Rv D :=
  match d with
  | .ref n => match h[n]? with
    | some (some (.ins c fs)) => .ok (.obj c fs) (h.set n none)
    | some (some (.lst ds)) => .ok (.lst ds) (h.set n none)
    | some (some (.dct ks)) => .ok (.dct ks) (h.set n none)
    | _ => .stuck
  | d => .ok d h
def mFrz (m : ME) : ME := fun σ h => bindR (m σ h) frzD
theorem frz_ok {F : Kn} {ι : List Addr} {h : AH} {H : Hp} {σv : L2.St} {Q : VK} {d : D} {v : V} (hr : HR g F ι h H) (rv : VR g F ι d v) (p : Post g W F ι σv (VR g) (frzD d h) Q) : Q v H := by
  cases d with
  | ref n =>
    simp only [VR] at rv
    obtain ⟨a, rfl, en⟩ := rv
    simp only [frzD] at p
    split at p
    · rename_i c fs eo
      obtain ⟨b, x, q1, q2, q3, q4⟩ := hr.hp n _ eo
      rw [en] at q1
      cases q1
      obtain ⟨hr', l⟩ := hr.freeze eo en q2
      obtain ⟨dx, ws, rfl, q5⟩ := q3
      exact p _ _ _ _ l hr' (by simp only [VR]; exact ⟨a, dx, ws, rfl, add_same, VRf.mono l _ _ q5⟩)
    · rename_i ds eo
      obtain ⟨b, x, q1, q2, q3, q4⟩ := hr.hp n _ eo
      rw [en] at q1
      cases q1
      obtain ⟨hr', l⟩ := hr.freeze eo en q2
      obtain ⟨ws, rfl, q5⟩ := q3
      exact p _ _ _ _ l hr' (by simp only [VR]; exact ⟨a, ws, rfl, add_same, VRs.mono l _ _ q5⟩)
    · rename_i ds eo
      obtain ⟨b, x, q1, q2, q3, q4⟩ := hr.hp n _ eo
      rw [en] at q1
      cases q1
      obtain ⟨hr', l⟩ := hr.freeze eo en q2
      obtain ⟨ws, rfl, q5⟩ := q3
      exact p _ _ _ _ l hr' (by simp only [VR]; exact ⟨a, ws, rfl, add_same, VRk.mono l _ _ q5⟩)
    · exact p.elim
  | _ => exact fin p hr rv
theorem em_frz (he : PE X e (tE g W m)) : PE X e (tE g W (mFrz m)) := by
  refine PE_weak he ?_
  rintro σv H Q ⟨F, ι, σ, h, hr, lr, p⟩
  exact tM_bind (f := fun _ => frzD) hr lr p fun F1 ι1 H1 x h1 v l hr1 lr1 r1 p1 => frz_ok hr1 r1 p1
/-! ### built-ins by name -/
def CallOk (g : G) (r : List V → Hp → VK → Prop) (f : List D → AH → Rv D) : Prop :=
  ∀ (W : WX) (F : Kn) (ι : List Addr) (h : AH) (H : Hp) (σv : L2.St) (ds : List D) (vs : List V) (Q : VK), HR g F ι h H → VRs g F ι ds vs → Post g W F ι σv (VR g) (f ds h) Q → r vs H Q
def mCB (f : List D → AH → Rv D) (r : MA) : ME := fun σ h => bindR (r σ h) f
theorem tCB_weak {rv : List V → Hp → VK → Prop} {f : List D → AH → Rv D} (hk : CallOk g rv f) : ∀ σv H Q, tE g W (mCB f r) σv H Q → tCB rv (tA g W r) σv H Q := by
  rintro σv H Q ⟨F, ι, σ, h, hr, lr, p⟩
  exact tM_bind (f := fun _ => f) hr lr p fun F1 ι1 H1 x h1 v l hr1 lr1 r1 p1 => hk W F1 ι1 h1 H1 σv x v Q hr1 r1 p1
theorem em_callB {id : String} {rv : List V → Hp → VK → Prop} {f : List D → AH → Rv D} (hc : CallR X (.builtin id) rv) (hk : CallOk g rv f) (hg : Gl X x) (hm : X.mg x = none) (hv : bootBuiltins x = some (.builtin id)) (ha : PA X (e :: es) (tA g W r))
    (hdb : (x == ("__debug__" : Str)) = false := by decide) (hn : x ≠ "__name__" := by decide) (he : starEach (e :: es) X.env = (false, eval e X.env) :: starEach es X.env := by rfl) (hpl : (backTo pos (starEach es X.env)).any (·.1) = false := by rfl) :
    PE X (.Call (.Name x p) (e :: es) [] pos) (tE g W (mCB f r)) := PE_weak (pe_callB hc hg hm hv ha (hn := hn) (hdb := hdb) (he := he) (hpl := hpl)) (tCB_weak hk)
theorem em_callTy {id : String} {rv : List V → Hp → VK → Prop} {f : List D → AH → Rv D} (hc : CallR X (.type id) rv) (hk : CallOk g rv f) (hg : Gl X x) (hm : X.mg x = none) (hv : bootBuiltins x = some (.type id)) (ha : PA X (e :: es) (tA g W r))
    (hdb : (x == ("__debug__" : Str)) = false := by decide) (hn : x ≠ "__name__" := by decide) (he : starEach (e :: es) X.env = (false, eval e X.env) :: starEach es X.env := by rfl) (hpl : (backTo pos (starEach es X.env)).any (·.1) = false := by rfl) :
    PE X (.Call (.Name x p) (e :: es) [] pos) (tE g W (mCB f r)) := PE_weak (pe_callTy hc hg hm hv ha (hn := hn) (hdb := hdb) (he := he) (hpl := hpl)) (tCB_weak hk)
end
end DV
end
section
set_option Elab.async false
set_option linter.all false
set_option maxRecDepth 100000
set_option maxHeartbeats 2000000
namespace DV
open PySem L2 PyProof.Rows

/-! ### statements -/
def PostFl (g : G) (F : Kn) (ι : List Addr) (f : Fl) (H : Hp) (E : Ends) : Prop :=
  match f with
  | .nx σ => ∀ σv, LR g F ι σ σv → E.nx σv H
  | .bk σ => ∀ σv, LR g F ι σ σv → E.bk σv H
  | .ct σ => ∀ σv, LR g F ι σ σv → E.ct σv H
  | .rt d => ∀ v, VR g F ι d v → E.rt v H
def PostS (g : G) (W : WX) (F : Kn) (ι : List Addr) (r : Rs) (E : Ends) : Prop :=
  match r with
  | .ok f h => ∀ F' ι' H', Le F ι F' ι' → HR g F' ι' h H' → PostFl g F' ι' f H' E
  | .exc c σ h => ∀ F' ι' H' σv, Le F ι F' ι' → HR g F' ι' h H' → LR g F' ι' σ σv → W (.ref (g.exc c)) none σv H'
  | .stuck => False
theorem PostS.le {g : G} {W : WX} {F F1 : Kn} {ι ι1 : List Addr} {r : Rs} {E : Ends} (l : Le F ι F1 ι1) (p : PostS g W F ι r E) : PostS g W F1 ι1 r E := by
  cases r with
  | ok f h => exact fun F' ι' H' l' hr => p F' ι' H' (l.trans l') hr
  | exc c σ h => exact fun F' ι' H' σv l' hr lr => p F' ι' H' σv (l.trans l') hr lr
  | stuck => exact p
def tS (g : G) (W : WX) (m : MS) : TS := fun E σv H => ∃ F ι σ h, HR g F ι h H ∧ LR g F ι σ σv ∧ PostS g W F ι (m σ h) E
/-- an expression's result within a statement -/
def ofE {α : Type} (σ : AS) (r : Rv α) (f : α → AH → Rs) : Rs :=
  match r with
  | .ok a h => f a h
  | .exc c h => .exc c σ h
  | .stuck => .stuck
def seqS (r : Rs) (f : AS → AH → Rs) : Rs :=
  match r with
  | .ok (.nx σ) h => f σ h
  | r => r
section
variable {X : Cx} {g : G} {W : WX}
theorem PS_weak {st : Stmt} {t t' : TS} (h : PS X st t) (k : ∀ E σ H, t' E σ H → t E σ H) : PS X st t' := ⟨fun pins s σ H E I q => h.run pins s σ H E I (k E σ H q)⟩
theorem PSs_weak {st : List Stmt} {t t' : TS} (h : PSs X st t) (k : ∀ E σ H, t' E σ H → t E σ H) : PSs X st t' := ⟨fun pins s σ H E I q => h.run pins s σ H E I (k E σ H q)⟩
theorem PG_weak {e : Expr} {t t' : TG} (h : PG X e t) (k : ∀ v σ H Q, t' v σ H Q → t v σ H Q) : PG X e t' := ⟨fun pins s σ H v u Q I r q => h.run pins s σ H v u Q I r (k v σ H Q q)⟩
theorem PGs_weak {e : List Expr} {t t' : TGs} (h : PGs X e t) (k : ∀ v σ H Q, t' v σ H Q → t v σ H Q) : PGs X e t' := ⟨fun pins s σ H v u Q I r q => h.run pins s σ H v u Q I r (k v σ H Q q)⟩
theorem nxt {F : Kn} {ι : List Addr} {h : AH} {H : Hp} {σ : AS} {σv : L2.St} {E : Ends} (p : PostS g W F ι (.ok (.nx σ) h) E) (hr : HR g F ι h H) (lr : LR g F ι σ σv) : E.nx σv H := p F ι H .refl hr σv lr
theorem tS_bind {α β : Type} {rel : Kn → List Addr → α → β → Prop} {m : AS → AH → Rv α} {f : AS → α → AH → Rs} {F : Kn} {ι : List Addr} {σ : AS} {h : AH} {σv : L2.St} {H : Hp}
    {Q : β → Hp → Prop} {E : Ends} (hr : HR g F ι h H) (lr : LR g F ι σ σv) (p : PostS g W F ι (ofE σ (m σ h) (f σ)) E)
    (k : ∀ F1 ι1 H1 a h1 v, Le F ι F1 ι1 → HR g F1 ι1 h1 H1 → LR g F1 ι1 σ σv → rel F1 ι1 a v → PostS g W F1 ι1 (f σ a h1) E → Q v H1) : tM g W rel m σv H Q := by
  refine ⟨F, ι, σ, h, hr, lr, ?_⟩
  revert p
  cases m σ h with
  | ok a h1 => exact fun p F1 ι1 H1 v l hr1 r1 => k F1 ι1 H1 a h1 v l hr1 (lr.mono l) r1 (p.le l)
  | exc c h1 => exact fun p F1 ι1 H1 l hr1 => p F1 ι1 H1 σv l hr1 (lr.mono l)
  | stuck => exact fun p => p
variable {st : Stmt} {rest a b : List Stmt} {e o i c value : Expr} {es : List Expr} {m mo mi ma : ME} {t : MT} {s r s1 s2 : MS} {pos pos' tpos : Pos}
def sNext : MS := fun σ h => .ok (.nx σ) h
def sSeq (s r : MS) : MS := fun σ h => seqS (s σ h) r
theorem sm_nil : PSs X [] (tS g W sNext) := by
  refine PSs_weak pss_nil ?_
  rintro E σv H ⟨F, ι, σ, h, hr, lr, p⟩
  exact nxt p hr lr
theorem sm_cons (h1 : PS X st (tS g W s)) (h2 : PSs X rest (tS g W r)) : PSs X (st :: rest) (tS g W (sSeq s r)) := by
  refine PSs_weak (pss_cons h1 h2) ?_
  rintro E σv H ⟨F, ι, σ, h, hr, lr, p⟩
  refine ⟨F, ι, σ, h, hr, lr, ?_⟩
  revert p
  unfold sSeq
  cases s σ h with
  | ok f h1 =>
    cases f with
    | nx σ1 => exact fun p F1 ι1 H1 l hr1 σv1 lr1 => ⟨F1, ι1, σ1, h1, hr1, lr1, p.le l⟩
    | rt d => exact fun p => p
    | bk σ1 => exact fun p => p
    | ct σ1 => exact fun p => p
  | exc c σ1 h1 => exact fun p => p
  | stuck => exact fun p => p
theorem sm_one (h1 : PS X st (tS g W s)) : PSs X [st] (tS g W s) := pss_one h1
theorem sm_pass : PS X (.Pass pos) (tS g W sNext) := by
  refine PS_weak ps_pass ?_
  rintro E σv H ⟨F, ι, σ, h, hr, lr, p⟩
  exact nxt p hr lr
def sBreak : MS := fun σ h => .ok (.bk σ) h
def sCont : MS := fun σ h => .ok (.ct σ) h
theorem sm_break : PS X (.Break pos) (tS g W sBreak) := by
  refine PS_weak ps_break ?_
  rintro E σv H ⟨F, ι, σ, h, hr, lr, p⟩
  exact p F ι H .refl hr σv lr
theorem sm_cont : PS X (.Continue pos) (tS g W sCont) := by
  refine PS_weak ps_continue ?_
  rintro E σv H ⟨F, ι, σ, h, hr, lr, p⟩
  exact p F ι H .refl hr σv lr
def sExpr (m : ME) : MS := fun σ h => ofE σ (m σ h) fun _ h1 => .ok (.nx σ) h1
theorem sm_expr (he : PE X e (tE g W m)) (hs : swapsWith e none pos.line X.env = pure false := by rfl) : PS X (.Expr e pos) (tS g W (sExpr m)) := by
  refine PS_weak (ps_expr he hs) ?_
  rintro E σv H ⟨F, ι, σ, h, hr, lr, p⟩
  exact tS_bind (f := fun σ _ h1 => .ok (.nx σ) h1) hr lr p fun F1 ι1 H1 x h1 v l hr1 lr1 r1 p1 => nxt p1 hr1 lr1
def sRet (m : ME) : MS := fun σ h => ofE σ (m σ h) fun d h1 => .ok (.rt d) h1
theorem sm_ret (he : PE X e (tE g W m)) : PS X (.Return (some e) pos) (tS g W (sRet m)) := by
  refine PS_weak (ps_ret he) ?_
  rintro E σv H ⟨F, ι, σ, h, hr, lr, p⟩
  exact tS_bind (f := fun σ d h1 => .ok (.rt d) h1) hr lr p fun F1 ι1 H1 x h1 v l hr1 lr1 r1 p1 => p1 F1 ι1 H1 .refl hr1 v r1
def sRetN : MS := fun _ h => .ok (.rt .non) h
theorem sm_retN : PS X (.Return none pos) (tS g W sRetN) := by
  refine PS_weak ps_retN ?_
  rintro E σv H ⟨F, ι, σ, h, hr, lr, p⟩
  exact p F ι H .refl hr .non (by simp [VR])
def sIf (t : MT) (s1 s2 : MS) : MS := fun σ h => ofE σ (t σ h) fun k h1 => if k = true then s1 σ h1 else s2 σ h1
theorem sm_if (hc : PT X c (tT g W t)) (ha : PSs X a (tS g W s1)) (hb : PSs X b (tS g W s2)) : PS X (.If c a b pos) (tS g W (sIf t s1 s2)) := by
  refine PS_weak (ps_if hc ha hb) ?_
  rintro E σv H ⟨F, ι, σ, h, hr, lr, p⟩
  refine tS_bind (f := fun σ k h1 => if k = true then s1 σ h1 else s2 σ h1) hr lr p fun F1 ι1 H1 x h1 v l hr1 lr1 r1 p1 => ?_
  subst r1
  by_cases hk : v = true
  · rw [if_pos hk] at p1 ⊢
    exact ⟨F1, ι1, σ, h1, hr1, lr1, p1⟩
  · rw [if_neg hk] at p1 ⊢
    exact ⟨F1, ι1, σ, h1, hr1, lr1, p1⟩

/-! ### targets -/
abbrev MG := D → AS → AH → Rv AS
abbrev MGs := List D → AS → AH → Rv AS
/-- but for the slots of is -/
def SameBut (is : List Nat) (σ σ' : L2.St) : Prop := σ'.length = σ.length ∧ ∀ j, j ∉ is → σ'[j]? = σ[j]?
theorem SameBut.refl {is : List Nat} {σ : L2.St} : SameBut is σ σ := ⟨rfl, fun _ _ => rfl⟩
theorem SameBut.trans {is js : List Nat} {σ σ1 σ2 : L2.St} (a : SameBut is σ σ1) (b : SameBut js σ1 σ2) : SameBut (is ++ js) σ σ2 :=
  ⟨b.1.trans a.1, fun j hj => (b.2 j fun z => hj (List.mem_append_right _ z)).trans (a.2 j fun z => hj (List.mem_append_left _ z))⟩
theorem SameBut.set {i : Nat} {σ : L2.St} {v : V} : SameBut [i] σ (σ.set i (some v)) := ⟨by simp, fun j hj => List.getElem?_set_ne (fun z => hj (by simp [z]))⟩
def tG (g : G) (W : WX) (is : List Nat) (m : MG) : TG := fun v σv H Q => ∃ F ι σ h d, HR g F ι h H ∧ LR g F ι σ σv ∧ VR g F ι d v ∧ (match m d σ h with | .ok σ' h' => ∀ F' ι' H' σv', Le F ι F' ι' → HR g F' ι' h' H' → LR g F' ι' σ' σv' → SameBut is σv σv' → Q σv' H' | _ => False)
def tGs (g : G) (W : WX) (is : List Nat) (m : MGs) : TGs := fun v σv H Q => ∃ F ι σ h d, HR g F ι h H ∧ LR g F ι σ σv ∧ VRs g F ι d v ∧ (match m d σ h with | .ok σ' h' => ∀ F' ι' H' σv', Le F ι F' ι' → HR g F' ι' h' H' → LR g F' ι' σ' σv' → SameBut is σv σv' → Q σv' H' | _ => False)
theorem LR.set {F : Kn} {ι : List Addr} {σ : AS} {σv : L2.St} (lr : LR g F ι σ σv) {i : Nat} {d : D} {v : V} (r : VR g F ι d v) : LR g F ι (σ.set i (some d)) (σv.set i (some v)) := by
  refine ⟨by simpa using lr.1, fun j x e => ?_⟩
  by_cases hj : j = i
  · subst hj
    by_cases hl : j < σ.length
    · rw [List.getElem?_set_self hl] at e
      cases e
      exact ⟨v, by rw [List.getElem?_set_self (by rw [← lr.1]; exact hl)], r⟩
    · rw [List.getElem?_eq_none (by simpa using hl)] at e
      cases e
  · rw [List.getElem?_set_ne (Ne.symm hj)] at e
    obtain ⟨y, q1, q2⟩ := lr.2 j x e
    exact ⟨y, by rw [List.getElem?_set_ne (Ne.symm hj)]; exact q1, q2⟩
def gmName (i : Nat) : MG := fun d σ h => .ok (σ.set i (some d)) h
theorem gm_name {i : Nat} {x : Str} (hN : X.N.Nodup) (hi : X.N[i]? = some x) (hx : Loc X.env.scope x) (hf : X.fn x = true ∨ X.env.scope.names.lookup x = some .local) : PG X (.Name x pos) (tG g W [i] (gmName i)) := by
  refine PG_weak (pg_name hN hi hx hf) ?_
  rintro v σv H Q ⟨F, ι, σ, h, d, hr, lr, rv, p⟩
  exact p F ι H _ .refl hr (lr.set rv) .set
def gmNil : MGs := fun ds σ h => match ds with | [] => .ok σ h | _ => .stuck
def gmCons (m : MG) (r : MGs) : MGs := fun ds σ h => match ds with | d :: ds => (match m d σ h with | .ok σ1 h1 => r ds σ1 h1 | _ => .stuck) | _ => .stuck
theorem gm_nil : PGs X [] (tGs g W [] gmNil) := by
  refine PGs_weak pgs_nil ?_
  rintro v σv H Q ⟨F, ι, σ, h, d, hr, lr, rv, p⟩
  cases d with
  | nil => simp only [VRs] at rv; exact ⟨rv, p F ι H _ .refl hr lr .refl⟩
  | cons d ds => exact p.elim
theorem gm_cons {mg : MG} {rg : MGs} {is js : List Nat} (h1 : PG X e (tG g W is mg)) (h2 : PGs X es (tGs g W js rg)) (hs : (assignEach (e :: es) X.env).map (·.2) = assign e X.env :: (assignEach es X.env).map (·.2) := by rfl) : PGs X (e :: es) (tGs g W (is ++ js) (gmCons mg rg)) := by
  refine PGs_weak (pgs_cons h1 h2 hs) ?_
  rintro v σv H Q ⟨F, ι, σ, h, d, hr, lr, rv, p⟩
  cases d with
  | nil => exact p.elim
  | cons d ds =>
    simp only [VRs] at rv
    obtain ⟨v, ws, rfl, r1, r2⟩ := rv
    refine ⟨v, ws, rfl, F, ι, σ, h, d, hr, lr, r1, ?_⟩
    simp only [gmCons] at p
    revert p
    cases mg d σ h with
    | ok σ1 h1 => exact fun p F1 ι1 H1 σv1 l1 hr1 lr1 sb1 => ⟨F1, ι1, σ1, h1, ds, hr1, lr1, VRs.mono l1 _ _ r2, by
        revert p
        dsimp only
        cases rg ds σ1 h1 with
        | ok σ2 h2 => exact fun p F2 ι2 H2 σv2 l2 hr2 lr2 sb2 => p F2 ι2 H2 σv2 (l1.trans l2) hr2 lr2 (sb1.trans sb2)
        | exc c h2 => exact fun p => p
        | stuck => exact fun p => p⟩
    | exc c h1 => exact fun p => p
    | stuck => exact fun p => p
def gmTup (n : Nat) (r : MGs) : MG := fun d σ h => match d with | .tup ds => if ds.length = n then r ds σ h else .stuck | _ => .stuck
theorem gm_tup {k n : Nat} {rg : MGs} {is : List Nat} (hK : X.K = g.K) (hc : X.calm = true) (h : PGs X es (tGs g W is rg)) (hn : (assignEach es X.env).length = n := by rfl) (hst : (assignEach es X.env).findIdx? (·.1) = none := by rfl) : PG X (.Tuple es k pos) (tG g W is (gmTup n rg)) := by
  refine PG_weak (pg_tup hc h hn hst) ?_
  rintro v σv H Q ⟨F, ι, σ, h, d, hr, lr, rv, p⟩
  cases d with
  | tup ds =>
    by_cases hl : ds.length = n
    · simp only [gmTup, if_pos hl] at p
      obtain ⟨a, vs, rfl, q1, q2⟩ := tup_ok hr rv
      exact ⟨a, vs, rfl, by rw [hK]; exact q1, by rw [q2.length]; exact hl, F, ι, σ, h, ds, hr, lr, q2, p⟩
    · simp only [gmTup, if_neg hl] at p
  | _ => exact p.elim
/-- target = value -/
def ofG (r : Rv AS) : Rs := match r with | .ok σ h => .ok (.nx σ) h | _ => .stuck
def sAsg (m : ME) (mg : MG) : MS := fun σ h => ofE σ (m σ h) fun d h1 => ofG (mg d σ h1)
theorem asg_weak {mg : MG} {is : List Nat} : ∀ E σv H, tS g W (sAsg m mg) E σv H → tAsg (tE g W m) (tG g W is mg) E σv H := by
  rintro E σv H ⟨F, ι, σ, h, hr, lr, p⟩
  refine tS_bind (f := fun σ d h1 => ofG (mg d σ h1)) hr lr p fun F1 ι1 H1 x h1 v l hr1 lr1 r1 p1 => ?_
  refine ⟨F1, ι1, σ, h1, x, hr1, lr1, r1, ?_⟩
  revert p1
  cases mg x σ h1 with
  | ok σ2 h2 => exact fun p F2 ι2 H2 σv2 l2 hr2 lr2 _ => p F2 ι2 H2 l2 hr2 σv2 lr2
  | exc c h2 => exact fun p => p
  | stuck => exact fun p => p
theorem sm_asg {tg : Expr} {mg : MG} {is : List Nat} (he : PE X e (tE g W m)) (hg : PG X tg (tG g W is mg)) (hs : swapsWithSole [tg] e pos.line X.env = pure false := by rfl) (hw : swappedStores [tg] e X.env = pure none := by rfl)
    (h1 : (assignEach [tg] X.env).map (·.2) = [assign tg X.env] := by rfl) : PS X (.Assign [tg] e pos) (tS g W (sAsg m mg)) := PS_weak (ps_asg he hg hs hw h1) asg_weak
theorem sm_set {i : Nat} {x : Str} (hN : X.N.Nodup) (hi : X.N[i]? = some x) (hx : Loc X.env.scope x) (he : PE X e (tE g W m)) (hf : X.fn x = true ∨ X.env.scope.names.lookup x = some .local) (hs : swapsWith e (some (.Name x pos')) pos.line X.env = pure false := by rfl) :
    PS X (.Assign [.Name x pos'] e pos) (tS g W (sAsg m (gmName i))) := by
  refine PS_weak (ps_set hN hi hx he hs hf) ?_
  rintro E σv H ⟨F, ι, σ, h, hr, lr, p⟩
  refine tS_bind (f := fun σ d h1 => ofG (gmName i d σ h1)) hr lr p fun F1 ι1 H1 x h1 v l hr1 lr1 r1 p1 => ?_
  exact nxt p1 hr1 (lr1.set r1)
/-- a, b = x, y: stored from the right -/
def parSet : List Nat → List D → AS → AS
  | i :: is, d :: ds, σ => parSet is ds (σ.set i (some d))
  | _, _, σ => σ
def parS (is : List Nat) (σ : AS) (ds : List D) (h : AH) : Rs := if ds.length = is.length then .ok (.nx (parSet is ds σ)) h else .stuck
def sPar (is : List Nat) (r : MA) : MS := fun σ h => ofE σ (r σ h) (parS is σ)
theorem sm_par {i j : Nat} {x y : Str} {a b : Expr} {r : MA} {px py pt : Pos} {kt k2 pt2} (hc : X.calm = true) (hN : X.N.Nodup) (hi : X.N[i]? = some x) (hj : X.N[j]? = some y) (hij : i ≠ j)
    (hx : X.env.scope.names.lookup x = some .local) (hy : X.env.scope.names.lookup y = some .local) (ha : PA X [a, b] (tA g W r))
    (hw : swappedStores [.Tuple [.Name x px, .Name y py] kt pt] (.Tuple [a, b] k2 pt2) X.env = pure (some [x, y]))
    (hs : swapsWithSole [.Tuple [.Name x px, .Name y py] kt pt] (.Tuple [a, b] k2 pt2) pos.line X.env = pure false := by rfl) :
    PS X (.Assign [.Tuple [.Name x px, .Name y py] kt pt] (.Tuple [a, b] k2 pt2) pos) (tS g W (sPar [i, j] r)) := by
  refine PS_weak (ps_par hc hN hi hj hij hx hy ha hw hs) ?_
  rintro E σv H ⟨F, ι, σ, h, hr, lr, p⟩
  refine tS_bind (f := parS [i, j]) hr lr p fun F1 ι1 H1 x h1 v l hr1 lr1 r1 p1 => ?_
  match x, r1, p1 with
  | [d1, d2], r1, p1 =>
    simp only [VRs] at r1
    obtain ⟨v1, _, rfl, q1, v2, _, rfl, q2, rfl⟩ := r1
    exact ⟨v1, v2, rfl, nxt p1 hr1 ((lr1.set q1).set q2)⟩
  | [], _, p1 => exact p1.elim
  | [_], _, p1 => exact p1.elim
  | _ :: _ :: _ :: _, _, p1 => exact (by simp [parS] at p1; exact p1.elim)
theorem sm_par3 {i j k : Nat} {x y z : Str} {a b c : Expr} {r : MA} {px py pz pt : Pos} {kt k2 pt2} (hc : X.calm = true) (hN : X.N.Nodup) (hi : X.N[i]? = some x) (hj : X.N[j]? = some y) (hk : X.N[k]? = some z) (hij : i ≠ j) (hik : i ≠ k) (hjk : j ≠ k)
    (hx : X.env.scope.names.lookup x = some .local) (hy : X.env.scope.names.lookup y = some .local) (hz : X.env.scope.names.lookup z = some .local) (ha : PA X [a, b, c] (tA g W r))
    (hw : swappedStores [.Tuple [.Name x px, .Name y py, .Name z pz] kt pt] (.Tuple [a, b, c] k2 pt2) X.env = pure (some [x, y, z]))
    (hs : swapsWithSole [.Tuple [.Name x px, .Name y py, .Name z pz] kt pt] (.Tuple [a, b, c] k2 pt2) pos.line X.env = pure false := by rfl) :
    PS X (.Assign [.Tuple [.Name x px, .Name y py, .Name z pz] kt pt] (.Tuple [a, b, c] k2 pt2) pos) (tS g W (sPar [i, j, k] r)) := by
  refine PS_weak (ps_par3 hc hN hi hj hk hij hik hjk hx hy hz ha hw hs) ?_
  rintro E σv H ⟨F, ι, σ, h, hr, lr, p⟩
  refine tS_bind (f := parS [i, j, k]) hr lr p fun F1 ι1 H1 x h1 v l hr1 lr1 r1 p1 => ?_
  match x, r1, p1 with
  | [d1, d2, d3], r1, p1 =>
    simp only [VRs] at r1
    obtain ⟨v1, _, rfl, q1, v2, _, rfl, q2, v3, _, rfl, q3, rfl⟩ := r1
    exact ⟨v1, v2, v3, rfl, nxt p1 hr1 (((lr1.set q1).set q2).set q3)⟩
  | [], _, p1 => exact p1.elim
  | [_], _, p1 => exact p1.elim
  | [_, _], _, p1 => exact p1.elim
  | _ :: _ :: _ :: _ :: _, _, p1 => exact (by simp [parS] at p1; exact p1.elim)
end
end DV
end
section
set_option Elab.async false
set_option linter.all false
set_option maxRecDepth 100000
set_option maxHeartbeats 2000000
namespace DV
open PySem L2 PyProof.Rows

section
variable {X : Cx} {g : G} {W : WX} {st : Stmt} {rest a b : List Stmt} {e o i c value : Expr} {es : List Expr} {m mo mi ma mv : ME} {t : MT} {s r s1 s2 : MS} {pos pos' tpos : Pos}
/-! ### stores to fields -/
def putFd (f : Str) (d : D) : List (Str × D) → List (Str × D)
  | [] => [(f, d)]
  | (k, x) :: r => if k = f then (k, d) :: r else (k, x) :: putFd f d r
theorem VRf.put {F : Kn} {ι : List Addr} {f : Str} {d : D} {v : V} (rv : VR g F ι d v) : ∀ {fs : List (Str × D)} {ws : List (Str × V)}, VRf g F ι fs ws → VRf g F ι (putFd f d fs) (putF f v ws)
  | [], ws, r => by
    simp only [VRf] at r
    subst r
    simp only [putFd, putF, VRf]
    exact ⟨v, [], rfl, rv, rfl⟩
  | (k, x) :: fs, ws, r => by
    simp only [VRf] at r
    obtain ⟨y, us, rfl, q, r⟩ := r
    unfold putFd putF
    by_cases e : k = f
    · simp only [if_pos e, VRf]
      exact ⟨v, us, rfl, rv, r⟩
    · simp only [if_neg e, VRf]
      exact ⟨y, _, rfl, q, VRf.put rv r⟩
def putI (cs : List Nat) (f : Str) (x d : D) (h : AH) : Option AH :=
  match x with
  | .ref n => match h[n]? with
    | some (some (.ins c fs)) => if cs.contains c = true ∧ fs.length < 1000 then some (h.set n (some (.ins c (putFd f d fs)))) else none
    | _ => none
  | _ => none
theorem putI_ok (t : TiOk g) {cs : List Nat} {f : Str} {x d : D} {h h' : AH} {F : Kn} {ι : List Addr} {H : Hp} {v y : V} (hr : HR g F ι h H) (e : putI cs f x d h = some h') (rx : VR g F ι x v) (rd : VR g F ι d y) :
    ∃ a dx fs c, v = .ref a ∧ H a = some (.ins (g.cls c) dx fs) ∧ c ∈ cs ∧ fs.length < 1000 ∧ HR g F ι h' (upd H a (.ins (g.cls c) dx (putF f y fs))) := by
  cases x with
  | ref n =>
    simp only [VR] at rx
    obtain ⟨a, rfl, en⟩ := rx
    simp only [putI] at e
    split at e
    · rename_i c fs eo
      split at e
      · rename_i hc
        cases e
        obtain ⟨b, z, q1, q2, ⟨dx, ws, rfl, q3⟩, q4⟩ := hr.hp n _ eo
        rw [en] at q1
        cases q1
        refine ⟨a, dx, ws, c, rfl, q2, by simpa using hc.1, by rw [q3.length]; exact hc.2, ?_⟩
        exact hr.write t eo en (by rw [q2]; trivial) ⟨dx, _, rfl, VRf.put rd q3⟩
      · cases e
    · cases e
  | _ => cases e
def fldS (cs : List Nat) (f : Str) (mo : ME) (σ : AS) (d : D) (h : AH) : Rs := ofE σ (mo σ h) fun x h2 => match putI cs f x d h2 with | some h3 => .ok (.nx σ) h3 | none => .stuck
def sFldP (cs : List Nat) (f : Str) (mo mv : ME) : MS := fun σ h => ofE σ (mv σ h) (fldS cs f mo σ)
theorem sm_fld {f : Str} (cs : List Nat) (t : TiOk g) (hK : X.K = g.K) (hc : ∀ c ∈ cs, AttrOk g.K (g.cls c) f) (ho : PE X o (tE g W mo)) (hv : PE X value (tE g W mv)) (hs : swapsWith value (some (.Attribute o f pos')) pos.line X.env = pure false := by rfl) :
    PS X (.Assign [.Attribute o f pos'] value pos) (tS g W (sFldP cs f mo mv)) := by
  refine PS_weak (ps_fld ho hv hs) ?_
  rintro E σv H ⟨F, ι, σ, h, hr, lr, p⟩
  refine tS_bind (f := fldS cs f mo) hr lr p fun F1 ι1 H1 d h1 y l hr1 lr1 r1 p1 => ?_
  refine tS_bind (f := fun σ x h2 => match putI cs f x d h2 with | some h3 => .ok (.nx σ) h3 | none => .stuck) hr1 lr1 p1 fun F2 ι2 H2 x h2 v l2 hr2 lr2 r2 p2 => ?_
  split at p2
  · rename_i h3 ep
    obtain ⟨a, dx, fs, c, rfl, q1, q2, q3, q4⟩ := putI_ok t hr2 ep r2 (VR.mono l2 _ _ r1)
    obtain ⟨A1, A2⟩ := hc c q2
    exact ⟨a, _, dx, fs, rfl, q1, by rw [hK]; exact A1, by rw [hK]; exact A2, q3, nxt p2 q4 lr2⟩
  · exact p2.elim
/-! ### name op= e -/
def augS (f : D → D → AH → Rv D) (i : Nat) (x : D) (σ : AS) (y : D) (h : AH) : Rs := ofE σ (f x y h) fun z h2 => .ok (.nx (σ.set i (some z))) h2
def sAug (f : D → D → AH → Rv D) (i : Nat) (m : ME) : MS := fun σ h => match σ[i]? with
  | some (some x) => ofE σ (m σ h) (augS f i x σ)
  | _ => .stuck
theorem ofE_post {F : Kn} {ι : List Addr} {σ : AS} {σv : L2.St} {rv : Rv D} {f : D → AH → Rs} {E : Ends} {Q : VK} (lr : LR g F ι σ σv) (p : PostS g W F ι (ofE σ rv f) E)
    (k : ∀ F1 ι1 H1 a h1 v, Le F ι F1 ι1 → HR g F1 ι1 h1 H1 → LR g F1 ι1 σ σv → VR g F1 ι1 a v → PostS g W F1 ι1 (f a h1) E → Q v H1) : Post g W F ι σv (VR g) rv Q := by
  cases rv with
  | ok a h1 => exact fun F1 ι1 H1 v l hr1 r1 => k F1 ι1 H1 a h1 v l hr1 (lr.mono l) r1 (p.le l)
  | exc c h1 => exact fun F1 ι1 H1 l hr1 => p F1 ι1 H1 σv l hr1 (lr.mono l)
  | stuck => exact p
theorem sm_aug {i : Nat} {x : Str} {op : Operator} {ti : TIp} {f : D → D → AH → Rv D} (hN : X.N.Nodup) (hi : X.N[i]? = some x) (hx : Loc X.env.scope x) (he : PE X e (tE g W m)) (ho : PIp X op ti) (hk : OpOk g ti f) (hf : X.fn x = true ∨ X.env.scope.names.lookup x = some .local) :
    PS X (.AugAssign (.Name x pos') op e pos) (tS g W (sAug f i m)) := by
  refine PS_weak (ps_aug hN hi hx he ho hf) ?_
  rintro E σv H ⟨F, ι, σ, h, hr, lr, p⟩
  unfold sAug at p
  split at p
  · rename_i d ed
    obtain ⟨v, ev, rv⟩ := lr.2 i d ed
    refine ⟨v, ev, ?_⟩
    refine tS_bind (f := augS f i d) hr lr p fun F1 ι1 H1 y h1 u l hr1 lr1 r1 p1 => ?_
    refine hk W F1 ι1 h1 H1 σv d y v u _ hr1 (VR.mono l _ _ rv) r1 (ofE_post lr1 p1 fun F2 ι2 H2 z h2 w l2 hr2 lr2 r2 p2 => ?_)
    exact nxt p2 hr2 (lr2.set r2)
  · exact p.elim
/-! ### raise -/
def sRaise (c : Nat) : MS := fun σ h => .exc c σ h
theorem sm_raise {ci : Nat} {x z : Str} {j : Nat} {p1 p2 p3 : Pos} {bmB : List Value} {B newId initId : String} (hc : X.calm = true) (tk : Takes X W) (F : ExcBaseFacts B newId initId bmB) (q : PySem.W.excIn X.K (g.exc ci) bmB newId = true) (gC : X.mg x = some (.ref (g.exc ci)))
    (kC : PySem.W.keepIn X.K (.ref (g.exc ci)) = true) (r : Raises X (.ref (g.exc ci))) (hg : Gl X x) (hdb : (x == ("__debug__" : Str)) = false := by decide) :
    PS X (.Raise (some (.Call (.Name x p1) [.Constant (.str z) j p2] [] p3)) none pos) (tS g W (sRaise ci)) := by
  refine PS_weak (ps_raise hc tk (pmk_own F q gC kC r hg hdb)) ?_
  rintro E σv H ⟨F, ι, σ, h, hr, lr, p⟩
  exact p F ι H σv .refl hr lr
end
end DV
end
section
set_option Elab.async false
set_option linter.all false
set_option maxRecDepth 100000
set_option maxHeartbeats 2000000
namespace DV
open PySem L2 PyProof.Rows

/-! ### what is walked -/
inductive Stp where
  | stop | go (d : D) | bad
abbrev IT := Nat → AH → Stp
def JR (g : G) (F : Kn) (ι : List Addr) (it : IT) (J : It) : Prop := ∀ (F' : Kn) (ι' : List Addr) (i : Nat) (h : AH) (H : Hp), Lf F ι F' ι' → HR g F' ι' h H →
  match it i h with
  | .stop => J.stop i H
  | .go d => J.go i H ∧ ∀ x H', J.yld i H x H' → ∃ F2, Le F' ι' F2 ι' ∧ HR g F2 ι' h H' ∧ VR g F2 ι' d x
  | .bad => True
theorem JR.monoF {g : G} {F F1 : Kn} {ι ι1 : List Addr} {it : IT} {J : It} (l : Lf F ι F1 ι1) (r : JR g F ι it J) : JR g F1 ι1 it J := fun F' ι' i h H l' hr => r F' ι' i h H (l.trans l') hr
abbrev MI := AS → AH → Rv IT
abbrev tI (g : G) (W : WX) (m : MI) : TI := tM g W (JR g) m
section
variable {X : Cx} {g : G} {W : WX} {st : Stmt} {rest a b body : List Stmt} {tg e o i c value l iter : Expr} {es : List Expr} {m mo mi ma mv : ME} {t : MT} {s r s1 s2 : MS} {pos pos' tpos p : Pos}
theorem PI_weak {t t' : TI} (h : PI X tg l t) (k : ∀ σ H R, t' σ H R → t σ H R) : PI X tg l t' := ⟨fun pins s σ H R I q => h.run pins s σ H R I (k σ H R q)⟩
def itSeq (ds : List D) : IT := fun i _ => match ds[i]? with | some d => .go d | none => .stop
/-- the list d, as it stands at each turn -/
def itOf (d : D) : IT := fun i h => match getL h d with | some ds => itSeq ds i h | none => .bad
def itTup (d : D) : IT := fun i h => match d with | .tup ds => itSeq ds i h | _ => .bad
theorem sqL_inj {F : Kn} {ι : List Addr} {h : AH} {H : Hp} {d : D} {a : Addr} {ds : List D} (hr : HR g F ι h H) (e : getL h d = some ds) (rv : VR g F ι d (.ref a)) : ∃ vs, SqL g.K H a vs ∧ VRs g F ι ds vs := by
  obtain ⟨b, vs, z, q1, q2⟩ := getL_ok hr e rv
  cases z
  exact ⟨vs, q1, q2⟩
theorem jr_list {F : Kn} {ι : List Addr} {d : D} {a : Addr} (rv : VR g F ι d (.ref a)) : JR g F ι (itOf d) (Itl g.K a) := by
  intro F' ι' i h H l hr
  unfold itOf
  cases e : getL h d with
  | none => trivial
  | some ds =>
    obtain ⟨vs, q1, q2⟩ := sqL_inj hr e (VR.monoF l _ _ rv)
    have hs : SqL g.K H a vs := q1
    show match itSeq ds i h with | .stop => _ | .go d => _ | .bad => True
    unfold itSeq
    cases e : ds[i]? with
    | none => exact ⟨vs, hs, by rw [q2.length]; exact List.getElem?_eq_none_iff.mp e⟩
    | some d =>
      obtain ⟨y, z1, z2⟩ := q2.get e
      refine ⟨⟨vs, y, hs, z1⟩, fun x H' hy => ?_⟩
      obtain ⟨rfl, hy⟩ := hy
      have z := hy vs hs
      rw [z1] at z
      cases z
      exact ⟨F', .refl, hr, z2⟩
theorem jr_tup {F : Kn} {ι : List Addr} {d : D} {a : Addr} (rv : VR g F ι d (.ref a)) : JR g F ι (itTup d) (Itt g.K a) := by
  intro F' ι' i h H l hr
  unfold itTup
  cases d with
  | tup ds =>
    obtain ⟨b, vs, z, hs, q2⟩ := tup_ok hr (VR.monoF l _ _ rv)
    cases z
    show match itSeq ds i h with | .stop => _ | .go d => _ | .bad => True
    unfold itSeq
    cases e : ds[i]? with
    | none => exact ⟨vs, hs, by rw [q2.length]; exact List.getElem?_eq_none_iff.mp e⟩
    | some d =>
      obtain ⟨y, z1, z2⟩ := q2.get e
      refine ⟨⟨vs, y, hs, z1⟩, fun x H' hy => ?_⟩
      obtain ⟨rfl, hy⟩ := hy
      have z := hy vs hs
      rw [z1] at z
      cases z
      exact ⟨F', .refl, hr, z2⟩
  | _ => trivial

/-! an iterable by its value -/
def PIV (X : Cx) (tg : Expr) (t : V → Hp → (It → Hp → Prop) → Prop) : Prop :=
  ∀ (pins : List (Addr × Obj)) (s : Shared) (σ : L2.St) (H : Hp) (x : V) (v : Value) (R : It → Hp → Prop), L2.Inv X pins σ H s → L2.RelV x v → t x H R → wpAny (model X.prog X.w) X.A (pyIter v) (PIE X pins σ tg R) X.xe s
theorem pi_val {tl : TE} {t : V → Hp → (It → Hp → Prop) → Prop} (hl : PE X l tl) (hv : PIV X tg t) : PI X tg l (fun σ H R => tl σ H fun x H1 => t x H1 R) :=
  ⟨fun pins s σ H R I h => thn (hl.run pins s σ H _ I h) fun v s1 ⟨x, H1, I1, r1, q1⟩ => hv pins s1 σ H1 x v R I1 r1 q1⟩
theorem PIV.or {t u : V → Hp → (It → Hp → Prop) → Prop} (a : PIV X tg t) (b : PIV X tg u) : PIV X tg (fun x H R => t x H R ∨ u x H R) := fun pins s σ H x v R I r h =>
  h.elim (a pins s σ H x v R I r) (b pins s σ H x v R I r)
def vList (K : PySem.W.Frag) : V → Hp → (It → Hp → Prop) → Prop := fun x H R => ∃ a, x = .ref a ∧ (∃ xs, SqL K H a xs) ∧ R (Itl K a) H
def vTup (K : PySem.W.Frag) : V → Hp → (It → Hp → Prop) → Prop := fun x H R => ∃ a, x = .ref a ∧ (∃ xs, SqT K H a xs) ∧ R (Itt K a) H
def vStr : V → Hp → (It → Hp → Prop) → Prop := fun x H R => ∃ z, x = .str z ∧ R (Its z) H
theorem pv_list : PIV X tg (vList X.K) := by
  intro pins s σ H x v R I r h
  obtain ⟨a, rfl, ⟨xs, hq⟩, q⟩ := h
  cases r
  obtain ⟨its, rv, p, hz⟩ := I.list hq
  refine wpAny_pyIter_list p.isList ?_
  refine ⟨s.heap.objs.size, [s.heap.objs.size], _, _, H, rfl, I.kept (t' := s.toks) fun b o e => Heap.get?_push_of_some _ e, turn_list a _, ⟨_, Heap.get?_push_size _ rfl, rfl, rfl⟩, fun b hb => ?_, q⟩
  have e : b = s.heap.objs.size := by simpa using hb
  subst e
  exact I.fpOk (Nat.le_refl _) (I.hok.fresh (Nat.le_refl _))
theorem pv_tup : PIV X tg (vTup X.K) := by
  intro pins s σ H x v R I r h
  obtain ⟨a, rfl, ⟨xs, hq⟩, q⟩ := h
  cases r
  obtain ⟨its, rv, p, hz⟩ := I.tuple hq
  refine wpAny_pyIter_tuple (show s.heap.IsTuple a its.toArray from p) ?_
  refine ⟨s.heap.objs.size, [s.heap.objs.size], _, _, H, rfl, I.kept (t' := s.toks) fun b o e => Heap.get?_push_of_some _ e, turn_tuple a _, ⟨_, Heap.get?_push_size _ rfl, rfl, rfl⟩, fun b hb => ?_, q⟩
  have e : b = s.heap.objs.size := by simpa using hb
  subst e
  exact I.fpOk (Nat.le_refl _) (I.hok.fresh (Nat.le_refl _))
/-- a list or a tuple -/
def itLT (d : D) (h : AH) : Rv IT :=
  match d with
  | .tup ds => .ok (itSeq ds) h
  | d => match getL h d with
    | some _ => .ok (itOf d) h
    | none => .stuck
def miLT (m : ME) : MI := fun σ h => bindR (m σ h) itLT
theorem lt_ok {F : Kn} {ι : List Addr} {h : AH} {H : Hp} {σv : L2.St} {x : D} {v : V} {R : It → Hp → Prop} (hr : HR g F ι h H) (rv : VR g F ι x v) (p : Post g W F ι σv (JR g) (itLT x h) R) : vList g.K v H R ∨ vTup g.K v H R := by
  have big : (match getL h x with | some _ => Rv.ok (itOf x) h | none => .stuck) = itLT x h → vList g.K v H R := fun e => by
    rw [← e] at p
    split at p
    · rename_i ds e1
      obtain ⟨a, vs, rfl, q1, q2⟩ := getL_ok hr e1 rv
      exact ⟨a, rfl, ⟨vs, q1⟩, p F ι H _ .refl hr (jr_list rv)⟩
    · exact p.elim
  cases x with
  | tup ds =>
    obtain ⟨a, vs, rfl, q1, q2⟩ := tup_ok hr rv
    exact .inr ⟨a, rfl, ⟨vs, q1⟩, p F ι H _ .refl hr (jr_tup rv)⟩
  | _ => exact .inl (big rfl)
theorem im_LT (hK : X.K = g.K) (hl : PE X l (tE g W m)) : PI X tg l (tI g W (miLT m)) := by
  refine PI_weak (pi_val hl (pv_list.or pv_tup)) ?_
  rintro σv H R ⟨F, ι, σ, h, hr, lr, p⟩
  refine tM_bind (f := fun _ => itLT) hr lr p fun F1 ι1 H1 x h1 v l hr1 lr1 r1 p1 => ?_
  rw [hK]
  exact lt_ok hr1 r1 p1
/-! ranges -/
def itRg (lo c : Int) (n : Nat) : IT := fun i _ => if i < n then .go (.int (lo + i * c)) else .stop
theorem jr_rg {F : Kn} {ι : List Addr} {lo : Int} {n : Nat} : JR g F ι (itRg lo 1 n) (Itr lo n) := by
  intro F' ι' i h H l hr
  unfold itRg
  by_cases hi : i < n
  · rw [if_pos hi]
    refine ⟨hi, fun x H' hy => ?_⟩
    obtain ⟨rfl, rfl⟩ := hy
    exact ⟨F', .refl, hr, by simp [VR]⟩
  · rw [if_neg hi]
    exact Nat.le_of_not_lt hi
theorem jr_rgc {F : Kn} {ι : List Addr} {lo c : Int} {n : Nat} : JR g F ι (itRg lo c n) (Itc lo c n) := by
  intro F' ι' i h H l hr
  unfold itRg
  by_cases hi : i < n
  · rw [if_pos hi]
    refine ⟨hi, fun x H' hy => ?_⟩
    obtain ⟨rfl, rfl⟩ := hy
    exact ⟨F', .refl, hr, by simp [VR]⟩
  · rw [if_neg hi]
    exact Nat.le_of_not_lt hi
def rgB (j : Int) : Prop := -(2 ^ 62) ≤ j ∧ j < 2 ^ 62
instance (j : Int) : Decidable (rgB j) := by unfold rgB; exact inferInstance
def rg1D (ds : List D) (h : AH) : Rv IT := match ds with | [.int j] => if rgB j then .ok (itRg 0 1 j.toNat) h else .stuck | _ => .stuck
def rg2D (ds : List D) (h : AH) : Rv IT := match ds with | [.int i, .int j] => if rgB i ∧ rgB j then .ok (itRg i 1 (j - i).toNat) h else .stuck | _ => .stuck
def miCall (f : List D → AH → Rv IT) (r : MA) : MI := fun σ h => bindR (r σ h) f
theorem im_rg1 {r : MA} {a1 : Expr} (hg : Gl X "range") (hm : X.mg "range" = none) (ha : PA X [a1] (tA g W r)) (hs : starEach [a1] X.env = [(false, eval a1 X.env)] := by rfl) : PI X tg (.Call (.Name "range" p) [a1] [] pos) (tI g W (miCall rg1D r)) := by
  refine PI_weak (pi_range1 hg hm ha hs) ?_
  rintro σv H R ⟨F, ι, σ, h, hr, lr, p⟩
  refine tM_bind (f := fun _ => rg1D) hr lr p fun F1 ι1 H1 x h1 v l hr1 lr1 r1 p1 => ?_
  unfold rg1D at p1
  split at p1
  · rename_i j
    split at p1
    · rename_i hj
      simp only [VRs] at r1
      obtain ⟨v1, _, rfl, q1, rfl⟩ := r1
      exact ⟨j, by rw [q1.int'], hj.1, hj.2, p1 F1 ι1 H1 _ .refl hr1 jr_rg⟩
    · exact p1.elim
  · exact p1.elim
theorem im_rg2 {r : MA} {a1 a2 : Expr} (hg : Gl X "range") (hm : X.mg "range" = none) (ha : PA X [a1, a2] (tA g W r)) (hs : starEach [a1, a2] X.env = [(false, eval a1 X.env), (false, eval a2 X.env)] := by rfl) (hs2 : starEach [a2] X.env = [(false, eval a2 X.env)] := by rfl) :
    PI X tg (.Call (.Name "range" p) [a1, a2] [] pos) (tI g W (miCall rg2D r)) := by
  refine PI_weak (pi_range2 hg hm ha hs hs2) ?_
  rintro σv H R ⟨F, ι, σ, h, hr, lr, p⟩
  refine tM_bind (f := fun _ => rg2D) hr lr p fun F1 ι1 H1 x h1 v l hr1 lr1 r1 p1 => ?_
  unfold rg2D at p1
  split at p1
  · rename_i i j
    split at p1
    · rename_i hj
      simp only [VRs] at r1
      obtain ⟨v1, _, rfl, q1, v2, _, rfl, q2, rfl⟩ := r1
      exact ⟨i, j, by rw [q1.int', q2.int'], ⟨hj.1.1, hj.1.2, hj.2.1, hj.2.2⟩, p1 F1 ι1 H1 _ .refl hr1 jr_rg⟩
    · exact p1.elim
  · exact p1.elim
end

/-! ### loops -/
def loopS (r : Rs) (f : AS → AH → Rs) : Rs :=
  match r with
  | .ok (.nx σ) h => f σ h
  | .ok (.ct σ) h => f σ h
  | .ok (.bk σ) h => .ok (.nx σ) h
  | r => r
def whileN (t : MT) (s : MS) : Nat → AS → AH → Rs
  | 0, _, _ => .stuck
  | n + 1, σ, h => ofE σ (t σ h) fun k h1 => if k = true then loopS (s σ h1) (whileN t s n) else .ok (.nx σ) h1
def bigN : Nat := 2 ^ 40
def sWhile (t : MT) (s : MS) : MS := whileN t s bigN
def forN (it : IT) (mg : MG) (s : MS) : Nat → Nat → AS → AH → Rs
  | 0, _, _, _ => .stuck
  | n + 1, i, σ, h => match it i h with
    | .stop => .ok (.nx σ) h
    | .bad => .stuck
    | .go d => match mg d σ h with
      | .ok σ1 h1 => loopS (s σ1 h1) (forN it mg s n (i + 1))
      | _ => .stuck
def sFor (mi : MI) (mg : MG) (s : MS) : MS := fun σ h => ofE σ (mi σ h) fun it h1 => forN it mg s bigN 0 σ h1
section
variable {X : Cx} {g : G} {W : WX} {st : Stmt} {rest a b body : List Stmt} {tg e o i c value l iter : Expr} {es : List Expr} {m mo mi' ma mv : ME} {t : MT} {s r s1 s2 : MS} {pos pos' tpos p : Pos} {mi : MI} {mg : MG} {is : List Nat}
theorem loop_ends {E : Ends} {F : Kn} {ι : List Addr} {σ : AS} {h : AH} {σv : L2.St} {H : Hp} {f : AS → AH → Rs} {N : L2.St → Hp → Prop} (hr : HR g F ι h H) (lr : LR g F ι σ σv) (p : PostS g W F ι (loopS (s σ h) f) E)
    (k : ∀ F1 ι1 σ1 h1 σv1 H1, Le F ι F1 ι1 → HR g F1 ι1 h1 H1 → LR g F1 ι1 σ1 σv1 → PostS g W F1 ι1 (f σ1 h1) E → N σv1 H1) : tS g W s { E with nx := N, ct := N, bk := E.nx } σv H := by
  refine ⟨F, ι, σ, h, hr, lr, ?_⟩
  revert p
  cases s σ h with
  | ok fl h1 =>
    cases fl with
    | nx σ1 => exact fun p F1 ι1 H1 l hr1 σv1 lr1 => k F1 ι1 σ1 h1 σv1 H1 l hr1 lr1 (p.le l)
    | ct σ1 => exact fun p F1 ι1 H1 l hr1 σv1 lr1 => k F1 ι1 σ1 h1 σv1 H1 l hr1 lr1 (p.le l)
    | bk σ1 => exact fun p F1 ι1 H1 l hr1 σv1 lr1 => p F1 ι1 H1 l hr1 σv1 lr1
    | rt d => exact fun p F1 ι1 H1 l hr1 v rv => p F1 ι1 H1 l hr1 v rv
  | exc c σ1 h1 => exact fun p => p
  | stuck => exact fun p => p
theorem sm_while (hp : PassesOwn (model X.prog X.w) X.A X.env X.xe) (hc : PT X c (tT g W t)) (hb : PSs X body (tS g W s)) : PS X (.While c body [] pos) (tS g W (sWhile t s)) := by
  refine PS_weak (ps_while hp hc hb) ?_
  rintro E σv H ⟨F, ι, σ, h, hr, lr, p⟩
  refine ⟨fun m σv H => ∃ F ι σ h, HR g F ι h H ∧ LR g F ι σ σv ∧ PostS g W F ι (whileN t s m σ h) E, ⟨bigN, F, ι, σ, h, hr, lr, p⟩, ?_⟩
  rintro m σv H ⟨F, ι, σ, h, hr, lr, p⟩
  cases m with
  | zero => exact p.elim
  | succ n =>
    refine tS_bind (f := fun σ k h1 => if k = true then loopS (s σ h1) (whileN t s n) else .ok (.nx σ) h1) hr lr p fun F1 ι1 H1 k h1 v l hr1 lr1 r1 p1 => ?_
    subst r1
    by_cases hk : v = true
    · rw [if_pos hk] at p1 ⊢
      refine ⟨fun σ' H' => ∃ F ι σ h, HR g F ι h H' ∧ LR g F ι σ σ' ∧ PostS g W F ι (whileN t s n σ h) E, fun σ' H' w => ⟨n, Nat.lt_succ_self n, w⟩, ?_⟩
      exact loop_ends hr1 lr1 p1 fun F2 ι2 σ2 h2 σv2 H2 l2 hr2 lr2 p2 => ⟨F2, ι2, σ2, h2, hr2, lr2, p2⟩
    · rw [if_neg hk] at p1 ⊢
      exact nxt p1 hr1 lr1
theorem sm_for (hp : PassesOwn (model X.prog X.w) X.A X.env X.xe) (hc : X.calm = true) (hi : PI X tg iter (tI g W mi)) (hg : PG X tg (tG g W is mg)) (hb : PSs X body (tS g W s)) (hs : ∀ x, foldedSetIterable iter X.env x = pure x := by intro _; rfl) :
    PS X (.For tg iter body [] pos) (tS g W (sFor mi mg s)) := by
  refine PS_weak (ps_for hp hc hi hg hb hs) ?_
  rintro E σv H ⟨F, ι, σ, h, hr, lr, p⟩
  refine tS_bind (f := fun σ it h1 => forN it mg s bigN 0 σ h1) hr lr p fun F1 ι1 H1 it h1 J l hr1 lr1 r1 p1 => ?_
  refine ⟨fun i m σv H => ∃ F ι σ h, Le F1 ι1 F ι ∧ HR g F ι h H ∧ LR g F ι σ σv ∧ PostS g W F ι (forN it mg s m i σ h) E, ⟨bigN, F1, ι1, σ, h1, .refl, hr1, lr1, p1⟩, ?_⟩
  rintro i m σv H ⟨F, ι, σ, h, l, hr, lr, p⟩
  cases m with
  | zero => exact p.elim
  | succ n =>
    have hj := r1 F ι i h H l.toLf hr
    unfold forN at p
    revert p hj
    cases it i h with
    | stop => exact fun hj p => .inl ⟨hj, nxt p hr lr⟩
    | bad => exact fun _ p => p.elim
    | go d =>
      intro hj p
      obtain ⟨go, yld⟩ := hj
      refine .inr ⟨go, fun σ' H' => ∃ F ι σ h, Le F1 ι1 F ι ∧ HR g F ι h H' ∧ LR g F ι σ σ' ∧ PostS g W F ι (forN it mg s n (i + 1) σ h) E, fun σ' H' w => ⟨n, Nat.lt_succ_self n, w⟩, fun x H' hy => ?_⟩
      obtain ⟨F2, l2, hr2, r2⟩ := yld x H' hy
      refine ⟨F2, ι, σ, h, d, hr2, lr.mono l2, r2, ?_⟩
      revert p
      dsimp only
      cases mg d σ h with
      | ok σ3 h3 => exact fun p F3 ι3 H3 σv3 l3 hr3 lr3 _ => loop_ends hr3 lr3 (p.le (l2.trans l3)) fun F4 ι4 σ4 h4 σv4 H4 l4 hr4 lr4 p4 => ⟨F4, ι4, σ4, h4, l.trans (l2.trans (l3.trans l4)), hr4, lr4, p4⟩
      | exc c h3 => exact fun p => p.elim
      | stuck => exact fun p => p.elim
end
end DV
end
section
set_option Elab.async false
set_option linter.all false
set_option maxRecDepth 100000
set_option maxHeartbeats 2000000
namespace DV
open PySem L2 PyProof.Rows

/-! ### things held apart -/
def Kn.hold (F : Kn) (q : Addr × HO) : Kn := ⟨F.f, q :: F.pr⟩
section
variable {g : G} {F F1 : Kn} {ι ι1 : List Addr} {h : AH} {H : Hp}
theorem Lf.hold {q : Addr × HO} : Lf F ι (F.hold q) ι := ⟨fun _ _ e => e, [], by simp⟩
theorem Lf.pr {f : Addr → Option HO} {p p' : List (Addr × HO)} : Lf ⟨f, p⟩ ι ⟨f, p'⟩ ι := ⟨fun _ _ e => e, [], by simp⟩
theorem HR.hold (t : TiOk g) (r : HR g F ι h H) {p : Addr} (hp : H p = none) (o : HO) (hnt : ∃ xs, o = HO.lst xs := by exact ⟨_, rfl⟩) : HR g (F.hold (p, o)) ι h (upd H p o) := by
  refine ⟨fun a u e => ?_, fun n u e => ?_, r.inj, r.len, t.upd _ _ _ r.ti (.inl hp), fun q hq => ?_, fun q hq => (List.mem_cons.mp hq).elim (fun z => by rw [z]; exact hnt) (r.pt q)⟩
  · have ha : a ≠ p := by
      rintro rfl
      have z : F a = some u := e
      rw [r.free hp] at z
      cases z
    unfold Std
    rw [upd_ne ha]
    exact r.fr a u e
  · obtain ⟨a, x, e1, e2, e3, e4⟩ := r.hp n u e
    exact ⟨a, x, e1, by rw [upd_ne (ne_of_none e2 hp)]; exact e2, e3.monoF Lf.hold, e4⟩
  · rcases List.mem_cons.mp hq with rfl | hq
    · refine ⟨upd_same, r.free hp, fun n u e z => ?_⟩
      obtain ⟨a, x, e1, e2, e3, e4⟩ := r.hp n u e
      rw [z] at e1
      cases e1
      rw [hp] at e2
      cases e2
    · obtain ⟨q1, q2, q3⟩ := r.pv q hq
      exact ⟨by rw [upd_ne (ne_of_none q1 hp)]; exact q1, q2, q3⟩
/-- what is held apart is written -/
theorem HR.held {f : Addr → Option HO} {p : Addr} {o o' : HO} {P : List (Addr × HO)} (t : TiOk g) (r : HR g ⟨f, (p, o) :: P⟩ ι h H) (hw : Wr (some o)) (hP : ∀ q ∈ P, q.1 ≠ p) (hnt : ∃ xs, o' = HO.lst xs := by exact ⟨_, rfl⟩) : HR g ⟨f, (p, o') :: P⟩ ι h (upd H p o') := by
  obtain ⟨p1, p2, p3⟩ := r.pv (p, o) List.mem_cons_self
  refine ⟨fun a u e => ?_, fun n u e => ?_, r.inj, r.len, t.upd _ _ _ r.ti (.inr (by rw [p1]; exact hw)), fun q hq => ?_, fun q hq => (List.mem_cons.mp hq).elim (fun z => by rw [z]; exact hnt) fun z => r.pt q (List.mem_cons_of_mem _ z)⟩
  · have ha : a ≠ p := by
      rintro rfl
      have z : f a = some u := e
      have z2 : f a = none := p2
      rw [z2] at z
      cases z
    unfold Std
    rw [upd_ne ha]
    exact r.fr a u e
  · obtain ⟨a, x, e1, e2, e3, e4⟩ := r.hp n u e
    have ha : a ≠ p := by
      rintro rfl
      exact p3 n u e e1
    exact ⟨a, x, e1, by rw [upd_ne ha]; exact e2, e3.monoF Lf.pr, e4⟩
  · rcases List.mem_cons.mp hq with rfl | hq
    · exact ⟨upd_same, p2, p3⟩
    · obtain ⟨q1, q2, q3⟩ := r.pv q (List.mem_cons_of_mem _ hq)
      exact ⟨by rw [upd_ne (hP q hq)]; exact q1, q2, q3⟩
/-- .. becomes known -/
theorem HR.unheld {f : Addr → Option HO} {p : Addr} {o : HO} {P : List (Addr × HO)} (r : HR g ⟨f, (p, o) :: P⟩ ι h H) (hP : ∀ q ∈ P, q.1 ≠ p) : HR g ⟨upd f p o, P⟩ ι h H ∧ f p = none := by
  obtain ⟨p1, p2, p3⟩ := r.pv (p, o) List.mem_cons_self
  have p2' : f p = none := p2
  have lf : Lf ⟨f, (p, o) :: P⟩ ι ⟨upd f p o, P⟩ ι := ⟨fun a u e => by
    have e' : f a = some u := e
    show upd f p o a = some u
    rw [upd_ne (ne_of_none (H := f) e' p2')]
    exact e', [], by simp⟩
  refine ⟨⟨fun a u e => ?_, fun n u e => ?_, r.inj, r.len, r.ti, fun q hq => ?_, fun q hq => r.pt q (List.mem_cons_of_mem _ hq)⟩, p2'⟩
  · have e' : upd f p o a = some u := e
    by_cases ha : a = p
    · rw [ha, upd_same] at e'
      cases e'
      rw [ha]
      exact .inl ⟨p1, fun ps z => by obtain ⟨xs, hx⟩ := r.pt (p, o) List.mem_cons_self; have hx : o = HO.lst xs := hx; rw [hx] at z; cases z⟩
    · rw [upd_ne ha] at e'
      exact r.fr a u e'
  · obtain ⟨a, x, e1, e2, e3, e4⟩ := r.hp n u e
    have ha : a ≠ p := by
      rintro rfl
      exact p3 n u e e1
    refine ⟨a, x, e1, e2, e3.monoF lf, ?_⟩
    show upd f p o a = none
    rw [upd_ne ha]
    exact e4
  · obtain ⟨q1, q2, q3⟩ := r.pv q (List.mem_cons_of_mem _ hq)
    refine ⟨q1, ?_, q3⟩
    show upd f p o q.1 = none
    rw [upd_ne (hP q hq)]
    exact q2
/-- .. becomes a thing of the plain heap -/
theorem HR.unheldO {f : Addr → Option HO} {p : Addr} {x : HO} {o : O} {P : List (Addr × HO)} (r : HR g ⟨f, (p, x) :: P⟩ ι h H) (hP : ∀ q ∈ P, q.1 ≠ p) (ho : OR g ⟨f, P⟩ ι o x) : HR g ⟨f, P⟩ (ι ++ [p]) (h ++ [some o]) H := by
  obtain ⟨p1, p2, p3⟩ := r.pv (p, x) List.mem_cons_self
  have hl := r.len
  have lf : Lf ⟨f, (p, x) :: P⟩ ι ⟨f, P⟩ (ι ++ [p]) := ⟨fun a u e => e, [p], rfl⟩
  have lf2 : Lf ⟨f, P⟩ ι ⟨f, P⟩ (ι ++ [p]) := ⟨fun a u e => e, [p], rfl⟩
  have old : ∀ {n : Nat} {u : O}, (h ++ [some o])[n]? = some (some u) → (n < h.length ∧ h[n]? = some (some u)) ∨ (n = h.length ∧ u = o) := by
    intro n u e
    by_cases hn : n < h.length
    · rw [List.getElem?_append_left hn] at e
      exact .inl ⟨hn, e⟩
    · rw [List.getElem?_append_right (by omega)] at e
      by_cases hz : n - h.length = 0
      · rw [hz] at e
        simp at e
        exact .inr ⟨by omega, e.symm⟩
      · rw [List.getElem?_eq_none (by simp; omega)] at e
        cases e
  have iold : ∀ {n : Nat} {a : Addr}, n < h.length → (ι ++ [p])[n]? = some a → ι[n]? = some a := by
    intro n a hn e
    rwa [List.getElem?_append_left (by omega)] at e
  have inew : ∀ {a : Addr}, (ι ++ [p])[h.length]? = some a → a = p := by
    intro a e
    rw [← hl] at e
    simp at e
    exact e.symm
  refine ⟨r.fr, fun n u e => ?_, fun n m a hn hm en em => ?_, by simp [hl], r.ti, fun q hq => ?_, fun q hq => r.pt q (List.mem_cons_of_mem _ hq)⟩
  · rcases old e with ⟨hn, e⟩ | ⟨hn, rfl⟩
    · obtain ⟨a, y, e1, e2, e3, e4⟩ := r.hp n u e
      exact ⟨a, y, lf.at e1, e2, e3.monoF lf, e4⟩
    · rw [hn, ← hl]
      exact ⟨p, x, by simp, p1, ho.monoF lf2, p2⟩
  · obtain ⟨u, hn⟩ := hn
    obtain ⟨u', hm⟩ := hm
    rcases old hn with ⟨n1, e1⟩ | ⟨n1, rfl⟩ <;> rcases old hm with ⟨m1, e2⟩ | ⟨m1, rfl⟩
    · exact r.inj n m a ⟨_, e1⟩ ⟨_, e2⟩ (iold n1 en) (iold m1 em)
    · rw [m1] at em
      have z := inew em
      exact (p3 n _ e1 (by rw [iold n1 en, z])).elim
    · rw [n1] at en
      have z := inew en
      exact (p3 m _ e2 (by rw [iold m1 em, z])).elim
    · omega
  · obtain ⟨q1, q2, q3⟩ := r.pv q (List.mem_cons_of_mem _ hq)
    refine ⟨q1, q2, fun n u e z => ?_⟩
    rcases old e with ⟨hn, e⟩ | ⟨hn, rfl⟩
    · exact q3 n u e (iold hn z)
    · rw [hn] at z
      exact hP q hq (inew z)
end

/-! ### comprehensions -/
def wipeA (σ : AS) : List Nat → AS
  | [] => σ
  | v :: vs => (wipeA σ vs).set v none
theorem wipe_get {σ : L2.St} : ∀ {vs : List Nat} {j : Nat}, (wipe σ vs)[j]? = if j ∈ vs then (if j < σ.length then some none else none) else σ[j]?
  | [], j => by simp [wipe]
  | v :: vs, j => by
    unfold wipe
    by_cases hj : v = j
    · subst hj
      by_cases hl : v < σ.length
      · rw [List.getElem?_set_self (by rw [wipe_length]; exact hl)]; simp [hl]
      · rw [List.getElem?_eq_none (by simp [wipe_length]; omega)]; simp [hl]
    · rw [List.getElem?_set_ne hj, wipe_get]
      have : j ∈ v :: vs ↔ j ∈ vs := by simp [Ne.symm hj]
      simp only [this]
theorem wipeA_length (σ : AS) : ∀ vs : List Nat, (wipeA σ vs).length = σ.length
  | [] => rfl
  | v :: vs => by unfold wipeA; rw [List.length_set, wipeA_length σ vs]
theorem wipeA_some {σ : AS} {i : Nat} {x : D} : ∀ {vs : List Nat}, (wipeA σ vs)[i]? = some (some x) → σ[i]? = some (some x) ∧ i ∉ vs
  | [], h => ⟨h, by simp⟩
  | v :: vs, h => by
    unfold wipeA at h
    by_cases hi : v = i
    · subst hi
      by_cases hv : v < (wipeA σ vs).length
      · rw [List.getElem?_set_self hv] at h; cases h
      · rw [List.getElem?_eq_none (by simpa using hv)] at h; cases h
    · rw [List.getElem?_set_ne hi] at h
      obtain ⟨h1, h2⟩ := wipeA_some h
      exact ⟨h1, by simp only [List.mem_cons, not_or]; exact ⟨fun e => hi e.symm, h2⟩⟩
theorem wipe_same {is vs : List Nat} {σ σ' : L2.St} (sb : SameBut is σ σ') (hs : ∀ i ∈ is, i ∈ vs) : wipe σ' vs = wipe σ vs := by
  apply List.ext_getElem?
  intro j
  rw [wipe_get, wipe_get, sb.1]
  by_cases hj : j ∈ vs
  · simp [hj]
  · simp only [hj, if_false]
    exact sb.2 j fun z => hj (hs j z)
theorem wipe_same2 {is vs : List Nat} {σ σ' : L2.St} (sb : SameBut is (wipe σ vs) σ') (hs : ∀ i ∈ is, i ∈ vs) : wipe σ' vs = wipe σ vs := by
  rw [wipe_same sb hs]
  apply List.ext_getElem?
  intro j
  rw [wipe_get, wipe_get, wipe_length]
  by_cases hj : j ∈ vs
  · simp [hj]
  · simp [hj, wipe_get]
theorem LR.wipe {g : G} {F : Kn} {ι : List Addr} {σ : AS} {σv : L2.St} (lr : LR g F ι σ σv) (vs : List Nat) : LR g F ι (wipeA σ vs) (L2.wipe σv vs) := by
  refine ⟨by rw [wipeA_length, wipe_length]; exact lr.1, fun i d e => ?_⟩
  obtain ⟨e1, e2⟩ := wipeA_some e
  obtain ⟨v, q1, q2⟩ := lr.2 i d e1
  refine ⟨v, ?_, q2⟩
  rw [wipe_get, if_neg e2]
  exact q1
abbrev W0 : WX := fun _ _ _ _ => False
def mYes : MT := fun _ h => .ok true h
/-- nothing is let out -/
def noX {α : Type} (r : Rv α) : Rv α := match r with | .exc _ _ => .stuck | r => r
def compN (it : IT) (mg : MG) (mt : MT) (me : ME) : Nat → Nat → AS → List D → AH → Rv (List D)
  | 0, _, _, _, _ => .stuck
  | n + 1, i, σ, acc, h => match it i h with
    | .stop => .ok acc h
    | .bad => .stuck
    | .go d => match mg d σ h with
      | .ok σ1 h1 => bindR (noX (mt σ1 h1)) fun k h2 => if k = true then bindR (noX (me σ1 h2)) fun y h3 => if acc.length < sizeLine then compN it mg mt me n (i + 1) σ (acc ++ [y]) h3 else .stuck
          else compN it mg mt me n (i + 1) σ acc h2
      | _ => .stuck
def mLc (mu : Bool) (mi : MI) (vs : List Nat) (mg : MG) (mt : MT) (me : ME) : ME := fun σ h => bindR (mi σ h) fun it h1 => bindR (compN it mg mt me bigN 0 (wipeA σ vs) [] h1) (mkL mu)
section
variable {X : Cx} {g : G} {W : WX} {F : Kn} {ι : List Addr} {mi : MI} {mg : MG} {mt : MT} {me : ME} {is vs : List Nat} {mu : Bool}
theorem noX_bind {α β γ δ : Type} {F : Kn} {ι : List Addr} {σ : AS} {σv : L2.St} {rel : Kn → List Addr → α → γ → Prop} {m : AS → AH → Rv α} {h : AH} {H : Hp} {f : α → AH → Rv β} {rel' : Kn → List Addr → β → δ → Prop} {Q' : δ → Hp → Prop} {Q : γ → Hp → Prop} {σ' : AS} {σv' : L2.St}
    (hr : HR g F ι h H) (lr : LR g F ι σ σv) (p : Post g W F ι σv' rel' (bindR (noX (m σ h)) f) Q')
    (k : ∀ F1 ι1 H1 a h1 v, Le F ι F1 ι1 → HR g F1 ι1 h1 H1 → rel F1 ι1 a v → Post g W F1 ι1 σv' rel' (f a h1) Q' → Q v H1) : tM g W0 rel m σv H Q := by
  refine ⟨F, ι, σ, h, hr, lr, ?_⟩
  revert p
  cases m σ h with
  | ok a h1 => exact fun p F1 ι1 H1 v l hr1 r1 => k F1 ι1 H1 a h1 v l hr1 r1 (p.le l)
  | exc c h1 => exact fun p => p.elim
  | stuck => exact fun p => p.elim
theorem Post.lf {α β : Type} {F F1 : Kn} {ι ι1 : List Addr} {σv : L2.St} {rel : Kn → List Addr → α → β → Prop} {r : Rv α} {Q : β → Hp → Prop} (h : ∀ F2 ι2, Le F1 ι1 F2 ι2 → Le F ι F2 ι2) (p : Post g W F ι σv rel r Q) : Post g W F1 ι1 σv rel r Q := by
  cases r with
  | ok d h1 => exact fun F' ι' H' v l' hr rv => p F' ι' H' v (h _ _ l') hr rv
  | exc c h1 => exact fun F' ι' H' l' hr => p F' ι' H' (h _ _ l') hr
  | stuck => exact p
/-- the end of a comprehension's list -/
theorem lc_end (t : TiOk g) {f1 f : Addr → Option HO} {P : List (Addr × HO)} {ι1 : List Addr} {Dd : Addr} {acc : List D} {ws : List V} {h : AH} {H : Hp} {σv : L2.St} {Q : VK} (hP : ∀ q ∈ P, q.1 ≠ Dd) (l : Lf ⟨f1, P⟩ ι1 ⟨f, (Dd, .lst ws) :: P⟩ ι)
    (hr : HR g ⟨f, (Dd, .lst ws) :: P⟩ ι h H) (rv : VRs g ⟨f, (Dd, .lst ws) :: P⟩ ι acc ws) (p : Post g W ⟨f1, P⟩ ι1 σv (VR g) (mkL mu acc h) Q) : Q (.ref Dd) H := by
  cases mu with
  | true =>
    have hr2 := hr.unheldO hP (o := .lst acc) ⟨ws, rfl, VRs.monoF Lf.pr _ _ rv⟩
    refine p ⟨f, P⟩ (ι ++ [Dd]) H (.ref Dd) ⟨⟨fun a o e => l.fr a o e, ?_⟩, rfl⟩ hr2 (by simp only [VR]; exact ⟨Dd, rfl, by rw [← hr.len]; simp⟩)
    obtain ⟨m, rfl⟩ := l.io
    exact ⟨m ++ [Dd], by simp⟩
  | false =>
    obtain ⟨hr2, z⟩ := hr.unheld hP
    refine p ⟨upd f Dd (.lst ws), P⟩ ι H (.ref Dd) ⟨⟨fun a o e => ?_, l.io⟩, rfl⟩ hr2 ?_
    · have e' : f a = some o := l.fr a o e
      show upd f Dd _ a = some o
      rw [upd_ne (ne_of_none (H := f) e' z)]
      exact e'
    · simp only [VR]
      refine ⟨Dd, ws, rfl, upd_same, VRs.monoF ⟨fun a o e => ?_, [], by simp⟩ _ _ rv⟩
      have e' : f a = some o := e
      show upd f Dd _ a = some o
      rw [upd_ne (ne_of_none (H := f) e' z)]
      exact e'
theorem bindR_assoc {α β γ : Type} (r : Rv α) (f : α → AH → Rv β) (k : β → AH → Rv γ) : bindR (bindR r f) k = bindR r fun a h => bindR (f a h) k := by cases r <;> rfl
theorem lc_weak (t : TiOk g) (hs : ∀ i ∈ is, i ∈ vs) : ∀ σv H Q, tE g W (mLc mu mi vs mg mt me) σv H Q → tLc (tI g W mi) (tG g W0 is mg) (tT g W0 mt) (tE g W0 me) vs σv H Q := by
  rintro σv H Q ⟨F, ι, σ, h, hr, lr, p⟩
  refine tM_bind (f := fun σ it h1 => bindR (compN it mg mt me bigN 0 (wipeA σ vs) [] h1) (mkL mu)) hr lr p fun F1 ι1 H1 it h1 J l hr1 lr1 r1 p1 => ?_
  intro Dd hD
  obtain ⟨f1, P⟩ := F1
  have hP : ∀ q ∈ P, q.1 ≠ Dd := fun q hq => ne_of_none (hr1.pv q hq).1 hD
  refine ⟨fun i m H => ∃ f ι h acc ws, Lf ⟨f1, P⟩ ι1 ⟨f, (Dd, .lst ws) :: P⟩ ι ∧ HR g ⟨f, (Dd, .lst ws) :: P⟩ ι h H ∧ VRs g ⟨f, (Dd, .lst ws) :: P⟩ ι acc ws ∧ Post g W ⟨f1, P⟩ ι1 σv (VR g) (bindR (compN it mg mt me m i (wipeA σ vs) acc h) (mkL mu)) Q,
    ⟨bigN, f1, ι1, h1, [], [], Lf.hold, hr1.hold t hD _, by simp [VRs], p1⟩, ?_⟩
  rintro i m H ⟨f, ι, h, acc, ws, lf, hr, rv, p⟩
  cases m with
  | zero => exact p.elim
  | succ n =>
    have hj := r1 _ ι i h H lf hr
    unfold compN at p
    revert p hj
    cases it i h with
    | stop => exact fun hj p => .inl ⟨hj, lc_end t hP lf hr rv p⟩
    | bad => exact fun _ p => p.elim
    | go d =>
      intro hj p
      obtain ⟨go, yld⟩ := hj
      refine .inr ⟨go, fun H' => ∃ f ι h acc ws, Lf ⟨f1, P⟩ ι1 ⟨f, (Dd, .lst ws) :: P⟩ ι ∧ HR g ⟨f, (Dd, .lst ws) :: P⟩ ι h H' ∧ VRs g ⟨f, (Dd, .lst ws) :: P⟩ ι acc ws ∧ Post g W ⟨f1, P⟩ ι1 σv (VR g) (bindR (compN it mg mt me n (i + 1) (wipeA σ vs) acc h) (mkL mu)) Q,
        fun H' w => ⟨n, Nat.lt_succ_self n, w⟩, fun x H' hy => ?_⟩
      obtain ⟨F2, l2, hr2, r2⟩ := yld x H' hy
      have lr2 : LR g F2 ι (wipeA σ vs) (wipe σv vs) := ((lr1.monoF lf).mono l2).wipe vs
      refine ⟨F2, ι, wipeA σ vs, h, d, hr2, lr2, r2, ?_⟩
      revert p
      dsimp only
      cases mg d (wipeA σ vs) h with
      | ok σ3 h3 =>
        intro p F3 ι3 H3 σv3 l3 hr3 lr3 sb3
        refine ⟨wipe_same2 sb3 hs, ?_⟩
        have lf3 := lf.trans (l2.trans l3).toLf
        have p' : Post g W ⟨f1, P⟩ ι1 σv (VR g) (bindR (bindR (noX (mt σ3 h3)) fun k h2 => if k = true then bindR (noX (me σ3 h2)) fun y h3 => if acc.length < sizeLine then compN it mg mt me n (i + 1) (wipeA σ vs) (acc ++ [y]) h3 else .stuck else compN it mg mt me n (i + 1) (wipeA σ vs) acc h2) (mkL mu)) Q := p
        rw [bindR_assoc] at p'
        clear p
        refine ⟨F3, ι3, σ3, h3, hr3, lr3, ?_⟩
        revert p'
        cases mt σ3 h3 with
        | exc c h4 => exact fun p => p.elim
        | stuck => exact fun p => p.elim
        | ok k h4 =>
          intro p F4 ι4 H4 b l4 hr4 eb
          subst eb
          have lf4 := lf3.trans l4.toLf
          have pr4 : F4.pr = (Dd, .lst ws) :: P := l4.pr.trans (l3.pr.trans l2.pr)
          have rv4 : VRs g F4 ι4 acc ws := VRs.mono (l2.trans (l3.trans l4)) _ _ rv
          have p : Post g W ⟨f1, P⟩ ι1 σv (VR g) (bindR (if b = true then bindR (noX (me σ3 h4)) fun y h3 => if acc.length < sizeLine then compN it mg mt me n (i + 1) (wipeA σ vs) (acc ++ [y]) h3 else .stuck else compN it mg mt me n (i + 1) (wipeA σ vs) acc h4) (mkL mu)) Q := p
          by_cases hb : b = true
          · rw [if_pos hb] at p ⊢
            refine ⟨F4, ι4, σ3, h4, hr4, lr3.mono l4, ?_⟩
            revert p
            cases me σ3 h4 with
            | exc c h5 => exact fun p => p.elim
            | stuck => exact fun p => p.elim
            | ok y h5 =>
              intro p F5 ι5 H5 u l5 hr5 r5
              have pr5 : F5.pr = (Dd, .lst ws) :: P := l5.pr.trans pr4
              obtain ⟨f5, p5⟩ := F5
              have e5 : p5 = (Dd, .lst ws) :: P := pr5
              subst e5
              have p : Post g W ⟨f1, P⟩ ι1 σv (VR g) (bindR (if acc.length < sizeLine then compN it mg mt me n (i + 1) (wipeA σ vs) (acc ++ [y]) h5 else .stuck) (mkL mu)) Q := p
              by_cases hz : acc.length < sizeLine
              · rw [if_pos hz] at p
                have rv5 : VRs g ⟨f5, (Dd, .lst ws) :: P⟩ ι5 acc ws := VRs.mono l5 _ _ rv4
                refine ⟨ws, (hr5.pv (Dd, .lst ws) List.mem_cons_self).1, by rw [rv5.length]; exact hz, f5, ι5, h5, acc ++ [y], ws ++ [u], (lf4.trans l5.toLf).trans Lf.pr, hr5.held t trivial hP, ?_, p⟩
                exact (VRs.monoF Lf.pr _ _ rv5).append (VRs.one (VR.monoF Lf.pr _ _ r5))
              · rw [if_neg hz] at p
                exact p.elim
          · rw [if_neg hb] at p ⊢
            obtain ⟨f4, p4⟩ := F4
            have e4 : p4 = (Dd, .lst ws) :: P := pr4
            subst e4
            exact ⟨f4, ι4, h4, acc, ws, lf4, hr4, rv4, p⟩
      | exc c h3 => exact fun p => p.elim
      | stuck => exact fun p => p.elim

variable {elt tg iter : Expr} {ifs : List Expr} {scope : Scope} {own : List (Str × Nat)} {pos spos py : Pos} {c : Expr} {mt1 : MT}
theorem ts_nil : PTs X [] (tT g W mYes) := ⟨fun pins s σ H Q I h => pts_nil.run pins s σ H Q I (by
  obtain ⟨F, ι, σ, h, hr, lr, p⟩ := h
  exact p F ι H true .refl hr rfl)⟩
theorem ts_one (h : PT X c (tT g W mt)) : PTs X [c] (tT g W mt) := pts_one h
theorem em_lc (t : TiOk g) (mu : Bool) (hc : X.calm = true) (hN : X.N.Nodup) (hi : PI X tg iter (tI g W mi)) (ok : BlkOk X.N X.env.scope scope own) (hvs : own.map (·.2) = vs) (hsub : ∀ i ∈ is, i ∈ vs)
    (hg : ∀ (s : Shared) (H : Hp) (C : Addr) (cl : List (Str × Addr)) (fp : List Addr), PG (X.blk s H scope (compEnvC scope cl C X.env) fp) tg (tG g W0 is mg)) (ht : ∀ (s : Shared) (H : Hp) (C : Addr) (cl : List (Str × Addr)) (fp : List Addr), PTs (X.blk s H scope (compEnvC scope cl C X.env) fp) ifs (tT g W0 mt))
    (he : ∀ (s : Shared) (H : Hp) (C : Addr) (cl : List (Str × Addr)) (fp : List Addr), PE (X.blk s H scope (compEnvC scope cl C X.env) fp) elt (tE g W0 me)) (hs : ∀ x, foldedSetIterable iter X.env x = pure x := by intro _; rfl) :
    PE X (.ListComp elt [⟨tg, iter, ifs, 0⟩] scope pos) (tE g W (mLc mu mi vs mg mt me)) := by
  subst hvs
  exact PE_weak (pe_lc hc hN hi ok hg ht he hs) (lc_weak t hsub)
theorem sm_setLc {i : Nat} {y : Str} (t : TiOk g) (mu : Bool) (hc : X.calm = true) (hN : X.N.Nodup) (hy : X.N[i]? = some y) (hyl : X.env.scope.names.lookup y = some .local)
    (hsw : swapsWith (.ListComp elt [⟨tg, iter, ifs, 0⟩] scope pos) (some (.Name y py)) spos.line X.env = pure true) (hi : PI X tg iter (tI g W mi)) (ok : BlkOk X.N X.env.scope scope own) (hvs : own.map (·.2) = vs) (hsub : ∀ i ∈ is, i ∈ vs)
    (hg : ∀ (s : Shared) (H : Hp) (C : Addr) (cl : List (Str × Addr)) (fp : List Addr), PG (X.blk s H scope (compEnvC scope cl C X.env) fp) tg (tG g W0 is mg)) (ht : ∀ (s : Shared) (H : Hp) (C : Addr) (cl : List (Str × Addr)) (fp : List Addr), PTs (X.blk s H scope (compEnvC scope cl C X.env) fp) ifs (tT g W0 mt))
    (he : ∀ (s : Shared) (H : Hp) (C : Addr) (cl : List (Str × Addr)) (fp : List Addr), PE (X.blk s H scope (compEnvC scope cl C X.env) fp) elt (tE g W0 me)) (hs : ∀ x, foldedSetIterable iter X.env x = pure x := by intro _; rfl) :
    PS X (.Assign [.Name y py] (.ListComp elt [⟨tg, iter, ifs, 0⟩] scope pos) spos) (tS g W (sAsg (mLc mu mi vs mg mt me) (gmName i))) := by
  subst hvs
  refine PS_weak (ps_setLc hc hN hy hyl hsw hi ok hg ht he hs) ?_
  rintro E σv H ⟨F, ι, σ, h, hr, lr, p⟩
  refine lc_weak t hsub σv H _ (tS_bind (f := fun σ d h1 => ofG (gmName i d σ h1)) hr lr p fun F1 ι1 H1 x h1 v l hr1 lr1 r1 p1 => ?_)
  exact nxt p1 hr1 (lr1.set r1)
end
end DV
end
section
set_option Elab.async false
set_option linter.all false
set_option maxRecDepth 100000
set_option maxHeartbeats 2000000
namespace DV
open PySem L2 PyProof.Rows PySem.Spec GenW

/-! ### generator expressions -/
/-- what the consumer holds while ys is out -/
abbrev Cs := List V → List (Addr × Obj) → Prop
/-- while the generator sleeps the consumer takes x in -/
def Slp (cp : Cs) (ys : List V) (x : V) (p : List (Addr × Obj)) (s s' : Shared) : Prop :=
  s'.os = s.os ∧ AllBare s'.gens ∧ ∃ p', cp (ys ++ [x]) p' ∧ p'.map (·.1) = p.map (·.1) ∧ (∀ q ∈ p', s'.heap.get? q.1 = some q.2 ∧ ∀ v, q.2.data ≠ .cell v) ∧ ∀ b o, b ∉ p.map (·.1) → s.heap.get? b = some o → s'.heap.get? b = some o
/-- the context of the generator's frame -/
abbrev gxCx (X : Cx) (A : Around) (s : Shared) (H : Hp) (scope : Scope) (C : Addr) (code : Value) (fp : List Addr) (pn : List (Addr × Obj)) : Cx :=
  { X with A := A.deeper (genEnv scope (cloFrom X.env.cells scope.names []) C code builtinsNs X.env), s_0 := s, H_0 := H, env := genEnv scope (cloFrom X.env.cells scope.names []) C code builtinsNs X.env, outer := X.stack,
           stack := genEnv scope (cloFrom X.env.cells scope.names []) C code builtinsNs X.env :: X.stack, ex := fp, fn := fun _ => false, calm := true, pn := pn, xe := fun _ _ => False }
section
variable {X : Cx} {pins : List (Addr × Obj)} {σ : L2.St} {H : Hp} {s : Shared}
theorem gx_start {A : Around} {scope : Scope} {own : List (Str × Nat)} {fp : List Addr} {C : Addr} {code : Value} {pn p : List (Addr × Obj)} {m : Str → Option Value} {s2 : Shared} (I : L2.Inv X pins σ H s) (ok : BlkOk X.N X.env.scope scope own) (hcell : ∀ y ∈ scope.names, y.2 ≠ .cell) (hN : X.N.Nodup)
    (hA : A.frames = some X.stack) (hh : A.handled = none) (hfp : ∀ b ∈ fp, FpOk X pins H b ∧ b < s.heap.objs.size) (hC : C = s.heap.objs.size) (hos : s2.os = s.os) (hb : AllBare s2.gens) (kp : ∀ b o, s.heap.get? b = some o → s2.heap.get? b = some o) (hns : s2.heap.Ns C m)
    (hp : ∀ q ∈ pn ++ p, s2.heap.get? q.1 = some q.2 ∧ s.heap.objs.size < q.1 ∧ ∀ v, q.2.data ≠ .cell v) :
    L2.Inv (gxCx X A s H scope C code fp pn) p (L2.wipe σ (own.map (·.2))) H s2 := by
  have hfree : ∀ y ∈ scope.names, y.2 = .free → ∃ c, X.env.cells.lookup y.1 = some c := fun y hy e => by
    rcases ok.free y hy e with k | k
    · exact I.ok.has _ (.inl k)
    · exact I.ok.has _ (.inr k)
  have cm : ∀ {y c}, (cloFrom X.env.cells scope.names []).lookup y = some c → X.env.cells.lookup y = some c ∧ c < s.heap.objs.size := fun {y c} hm => by
    rcases cloFrom_mem (PySem.mem_of_lookup hm) with hm | ⟨h1, h2⟩
    · cases hm
    · obtain ⟨c1, hc⟩ := hfree _ h1 rfl
      have hc : X.env.cells.lookup y = some c1 := hc
      have e2 : c = c1 := by
        rw [h2, hc] <;> rfl
      rw [e2]
      obtain ⟨w, z⟩ := I.cell _ _ hc
      exact ⟨hc, z.lt⟩
  have look : ∀ {y}, scope.names.lookup y = some .free → ∃ c, (cloFrom X.env.cells scope.names []).lookup y = some c := fun {y} hl => by
    have hy : (y, NameKind.free) ∈ scope.names := PySem.mem_of_lookup hl
    exact mem_lookup (cloFrom_has (cells := X.env.cells) (acc := []) hy)
  refine ⟨⟨I.ok.mod, ok.kind, I.ok.glob, rfl, by show s.heap.objs.size ≤ C; rw [hC]; exact Nat.le_refl _, fun y z c e1 e2 => I.ok.inj y z c (cm e1).1 (cm e2).1, fun y hy => ?_, fun y c z _ => ?_, fun _ => hh, Around.frames_deeper hA, .inr ⟨rfl, rfl⟩, fun b hb => ⟨?_, fun y c e z => ?_⟩, I.bs, Nat.le_trans I.ok.bsz I.sz, fun b o e hb => ?_, fun b hb z => ?_, I.stack, I.stkFree⟩,
    hos, hb, Un.kept kp, ⟨m, hns, fun i y v e1 e2 e3 => ?_⟩, fun y c e => ?_, ?_, fun y c e => ?_, fun q hq => ?_, I.hok.kept kp, by rw [wipe_length]; exact I.len⟩
  · have hy : scope.names.lookup y = some .cell ∨ scope.names.lookup y = some .free := hy
    rcases hy with hy | hy
    · exact absurd rfl (hcell _ (PySem.mem_of_lookup hy))
    · exact look hy
  · exact absurd (show false = true from z) Bool.false_ne_true
  · show b ≠ C
    rw [hC]; exact Nat.ne_of_lt (hfp b hb).2
  · exact (hfp b hb).1.2.2.2.2.1 y c (cm e).1 z
  · rcases (hfp b hb).1.2.2.2.1 with z | z
    · exact I.ok.noex b o e z
    · exact absurd (Nat.lt_of_lt_of_le (Heap.lt_size e) (Nat.le_trans I.ok.bsz z)) (Nat.lt_irrefl _)
  · rcases List.mem_cons.mp (I.stkSub b z) with z | z
    · exact (hfp b hb).1.2.1 z
    · exact (hfp b hb).1.2.2.1 z
  · obtain ⟨e2, hne⟩ := wipe_some e2
    have no : ∀ k, scope.names.lookup y = some k → ¬ (k = .local ∨ k = .cell) := fun k e hh => by
      rcases ok.own _ (PySem.mem_of_lookup e) hh with e' | e'
      · obtain ⟨p, hp, hpy⟩ := List.mem_map.mp e'
        have e3 := ok.ix p hp
        have : p.1 = y := hpy
        rw [this] at e3
        exact hne (List.mem_map.mpr ⟨p, hp, nodup_ix hN e3 e1⟩)
      · exact e' (List.mem_of_getElem? e1)
    have e3 : Vis scope y := e3
    rcases e3 with k | k | k
    · exact absurd (.inl rfl) (no _ k)
    · exact absurd (.inr rfl) (no _ k)
    · obtain ⟨m, hn, hl⟩ := I.loc
      have hvis : Vis X.env.scope y := (ok.free _ (PySem.mem_of_lookup k) rfl).elim (fun k => .inr (.inl k)) (fun k => .inr (.inr k))
      obtain ⟨w', r, q⟩ := hl i y v e1 e2 hvis
      obtain ⟨c2, h2⟩ := look k
      refine ⟨w', r, .inr ⟨.inr k, c2, h2, ?_⟩⟩
      have c1 := (cm h2).1
      rcases q with ⟨k', _⟩ | ⟨_, c3, e', z⟩
      · have k' : X.env.scope.names.lookup y = some .local := k'
        rcases ok.free _ (PySem.mem_of_lookup k) rfl with k2 | k2 <;> rw [show X.env.scope.names.lookup y = _ from k2] at k' <;> cases k'
      · rw [c1] at e'
        cases e'
        exact z.keeps kp
  · obtain ⟨w', z⟩ := I.cell y c (cm e).1
    exact ⟨w', z.keeps kp⟩
  · show H C = none
    rw [hC]; exact I.hok.fresh (Nat.le_refl _)
  · exact I.freeC y c (cm e).1
  · obtain ⟨h1, h2, h3⟩ := hp q hq
    refine ⟨h1, I.hok.fresh (Nat.le_of_lt h2), ?_, ?_, h3⟩
    · show q.1 ≠ C
      rw [hC]; exact Nat.ne_of_gt h2
    · show q.1 ∉ frs X.stack
      intro z
      rcases List.mem_cons.mp (I.stkSub q.1 z) with z | z
      · have := I.lt
        rw [← z] at this
        exact Nat.lt_irrefl _ (Nat.lt_trans this h2)
      · exact I.nofs (Nat.le_of_lt h2) z
/-- woken again -/
theorem gx_woken {Xg : Cx} {cp : Cs} {p ip : List (Addr × Obj)} {ys : List V} {x : V} {s s' : Shared} (hpn : ∀ q ∈ Xg.pn, q.1 ∉ p.map (·.1)) (hip : ∀ q ∈ ip, q.1 ∉ p.map (·.1)) (hA : ∀ b ∈ p.map (·.1), Xg.s_0.heap.objs.size ≤ b ∧ b ≠ Xg.env.locals ∧ ∀ x c, Xg.env.cells.lookup x = some c → c ≠ b)
    (I : L2.Inv Xg (p ++ ip) σ H s) (z : Slp cp ys x p s s') : ∃ p', cp (ys ++ [x]) p' ∧ p'.map (·.1) = p.map (·.1) ∧ L2.Inv Xg (p' ++ ip) σ H s' := by
  obtain ⟨z1, z2, p', z3, z4, z5, z6⟩ := z
  have hz : ∀ b ∈ p.map (·.1), H b = none ∧ b ≠ Xg.env.locals ∧ b ∉ Xg.fs := fun b hb => by
    obtain ⟨q, hq, rfl⟩ := List.mem_map.mp hb
    obtain ⟨h1, h2, h3, h4, _⟩ := I.pin q (List.mem_append_right _ (List.mem_append_left _ hq))
    exact ⟨h2, h3, h4⟩
  have I0 : L2.Inv Xg ip σ H s := I.pins_of fun q hq => I.pin q (List.mem_append_right _ (List.mem_append_right _ hq))
  have nt : ∀ b u, H b = some u → b ∉ p.map (·.1) := fun b u q hb => by rw [(hz b hb).1] at q; cases q
  obtain ⟨hh, g, d, t, o⟩ := s'
  have ho : o = s.os := z1
  subst ho
  have there : ∀ b ∈ p.map (·.1), ∃ o', hh.get? b = some o' := fun b hb => by
    rw [← z4] at hb
    obtain ⟨q, hq, rfl⟩ := List.mem_map.mp hb
    exact ⟨_, (z5 q hq).1⟩
  have J : L2.Inv Xg ip σ H { s with heap := hh, gens := g, drawn := d, toks := t } := by
    refine I0.step (g' := g) (t' := t) (d' := d) (ch := p.map (·.1)) (fun b hb => ?_)
      (fun b ob _ _ hc q _ => z6 b ob hc q) (fun b ob _ _ hc q _ => ⟨ob.slots, z6 b ob hc q⟩) (fun _ _ _ _ n => n) (fun b ob hc q => ⟨ob, z6 b ob hc q⟩)
      (fun _ _ q => q) (fun _ _ _ q => q) (fun b ps q => ⟨#[], by rw [q]; simp⟩) (fun m hm => ?_) (fun b u q => ?_) z2
    · refine ⟨.inr (hA b hb).1, (hA b hb).2.1, (hA b hb).2.2, fun q hq => ?_⟩
      rcases List.mem_append.mp hq with hq | hq
      · exact fun e => hpn q hq (e ▸ hb)
      · exact fun e => hip q hq (e ▸ hb)
    · obtain ⟨ob, es, ep, ho, r⟩ := hm
      exact ⟨ob, es, ep, z6 _ ob (fun hb => (hz _ hb).2.1 rfl) ho, r⟩
    · refine (I0.hok b u q).stay (fun c v hc y => z6 c v ?_ y) (fun _ y => y) fun _ _ y => y
      rcases hc with y | y
      · rw [y]; exact nt b u q
      · exact nt c _ y
  refine ⟨p', z3, z4, J.pins_of fun q hq => ?_⟩
  rcases List.mem_append.mp hq with hq | hq
  · have hb : q.1 ∈ p.map (·.1) := by rw [← z4]; exact List.mem_map.mpr ⟨q, hq, rfl⟩
    exact ⟨(z5 q hq).1, (hz _ hb).1, (hz _ hb).2.1, (hz _ hb).2.2, (z5 q hq).2⟩
  · exact J.pin q (List.mem_append_right _ hq)

theorem over_gx {A : Around} {elt : Expr} {gs : List Comprehension} {scope : Scope} {pos : Pos} {it acc : Value} {env : Env} : A.over (.compLoop (.GeneratorExp elt gs scope pos) 0 it acc env) [] = A.deeper env := by
  first
    | rfl
    | (obtain ⟨hd, d, fr, gs, u⟩ := A; simp [Around.over, Around.deeper, marksOver, frameCount, unitsOf, envsOf, guardsOf, pushEnvs, pushGuards, Code.envs, Code.env?, Code.isFrame, Code.guards, Code.isGuard, Code.weight, Code.frames, Code.isCreation, Code.isCaller, Code.cUnits])
theorem over_gx0 {A : Around} {elt : Expr} {gs : List Comprehension} {scope : Scope} {pos : Pos} {it acc : Value} {env : Env} : A.over (.compStart (.GeneratorExp elt gs scope pos) 0 it acc env) [] = A.deeper env := by
  first
    | rfl
    | (obtain ⟨hd, d, fr, gs, u⟩ := A; simp [Around.over, Around.deeper, marksOver, frameCount, unitsOf, envsOf, guardsOf, pushEnvs, pushGuards, Code.envs, Code.env?, Code.isFrame, Code.guards, Code.isGuard, Code.weight, Code.frames, Code.isCreation, Code.isCaller, Code.cUnits])
def GEnd (X : Cx) (pins : List (Addr × Obj)) (σ : L2.St) (cp : Cs) (fin : List V → Hp → Prop) : GenEnd := fun n s₀ r s1 =>
  ((r = .ok (.ret .none) ∨ r = .ok .next) ∧ ∃ ys p H, ys.length ≤ sizeLine ∧ cp ys p ∧ (∀ q ∈ p, s₀.heap.get? q.1 = some q.2 ∧ s1.heap.get? q.1 = some q.2) ∧ L2.Inv X pins σ H s1 ∧ fin ys H) ∨ ∃ e, r = .error e ∧ False
def GYld (X : Cx) (pins : List (Addr × Obj)) (σ : L2.St) (pn : List (Addr × Obj)) (cp : Cs) (Out : List V → V → Hp → Prop) : Protocol := fun n s₀ v s kap =>
  ∃ ys x p H, n + 1 + ys.length = sizeLine ∧ RelV x v ∧ cp ys p ∧ (∀ q ∈ p, s₀.heap.get? q.1 = some q.2 ∧ s.heap.get? q.1 = some q.2) ∧ L2.Inv X pins σ H s ∧ (∀ q ∈ pn, s.heap.get? q.1 = some q.2) ∧ Out ys x H ∧ ∀ s', Slp cp ys x p s s' → kap (.send .none) s'
/-- the generator's turns -/
def gxTurn (g : TG) (tt : TT) (te : TE) (vs : List Nat) (σ : L2.St) (J : It) (fin : List V → Hp → Prop) (Out : List V → V → Hp → Prop) (Ok : List V → Prop) (W : Nat → Nat → List V → Hp → Prop) : Prop := ∀ i m ys H, W i m ys H →
  (J.stop i H ∧ fin ys H) ∨ (J.go i H ∧ ∃ Nx : List V → Hp → Prop, (∀ ys' H', Nx ys' H' → ∃ m', m' < m ∧ W (i + 1) m' ys' H') ∧ ∀ x H', J.yld i H x H' → g x (L2.wipe σ vs) H' fun σ2 H2 => L2.wipe σ2 vs = L2.wipe σ vs ∧ tt σ2 H2 fun b H3 =>
    if b = true then te σ2 H3 fun y H4 => ys.length < sizeLine ∧ Out ys y H4 ∧ (Ok (ys ++ [y]) → Nx (ys ++ [y]) H4) else Nx ys H3)
theorem gx_loop {A : Around} {elt tg iter : Expr} {ifs : List Expr} {scope : Scope} {pos : Pos} {own : List (Str × Nat)} {fp Z : List Addr} {it C : Addr} {code : Value} {pn : List (Addr × Obj)} {J : It} {tn : Nat → Heap → Prop} {g : TG} {tt : TT} {te : TE} {cp : Cs} {fin : List V → Hp → Prop} {Out : List V → V → Hp → Prop} {W : Nat → Nat → List V → Hp → Prop}
    (I : L2.Inv X pins σ H s) (hco : scope.isCoroutine = false) (hfp : ∀ b ∈ fp, FpOk X pins H b ∧ b < s.heap.objs.size) (hC : C = s.heap.objs.size) (hpn : ∀ q ∈ pn, s.heap.objs.size < q.1 ∧ q.1 ∉ Z) (hZ : ∀ b ∈ Z, s.heap.objs.size < b) (hcp : ∀ ys p, cp ys p → p.map (·.1) = Z) (hcell : ∀ x c, X.env.cells.lookup x = some c → c < s.heap.objs.size)
    (hcl : ∀ x c, (cloFrom X.env.cells scope.names []).lookup x = some c → X.env.cells.lookup x = some c)
    (T : Turn X.prog X.w X.K tg J fp it tn) (pg : PG (gxCx X A s H scope C code fp pn) tg g) (pt : PTs (gxCx X A s H scope C code fp pn) ifs tt) (pe : PE (gxCx X A s H scope C code fp pn) elt te) (hw : gxTurn g tt te (own.map (·.2)) σ J fin Out (fun ys => ∃ p, cp ys p) W) :
    ∀ (m i n : Nat) (ys : List V) (s₀ s1 : Shared) (p : List (Addr × Obj)) (H1 : Hp), n + ys.length = sizeLine → W i m ys H1 → cp ys p → (∀ q ∈ p, s₀.heap.get? q.1 = some q.2) → L2.Inv (gxCx X A s H scope C code fp pn) p (L2.wipe σ (own.map (·.2))) H1 s1 → tn i s1.heap → (∀ b ∈ fp, H1 b = none) →
      Seg (model X.prog X.w) A (GEnd X pins σ cp fin) (GYld X pins σ pn cp Out) n s₀ (.compLoop (.GeneratorExp elt [⟨tg, iter, ifs, 0⟩] scope pos) 0 (.ref it) .none (genEnv scope (cloFrom X.env.cells scope.names []) C code builtinsNs X.env))
        ((model X.prog X.w).den (.compLoop (.GeneratorExp elt [⟨tg, iter, ifs, 0⟩] scope pos) 0 (.ref it) .none (genEnv scope (cloFrom X.env.cells scope.names []) C code builtinsNs X.env))) [] s1 := by
  intro m
  induction m using Nat.strongRecOn with
  | ind m ih =>
  intro i n ys s₀ s1 p H1 hn hwm hp hp0 I1 st1 n1
  generalize hXg : gxCx X A s H scope C code fp pn = Xg at I1 pg pt pe
  generalize hce : genEnv scope (cloFrom X.env.cells scope.names []) C code builtinsNs X.env = ce
  have eC : ce.locals = C := by rw [← hce]; rfl
  have eA : Xg.A = A.deeper ce := by rw [← hXg, ← hce]
  have eE : Xg.env = ce := by rw [← hXg, ← hce]
  have eP : Xg.prog = X.prog := by rw [← hXg]
  have eW : Xg.w = X.w := by rw [← hXg]
  have eK : Xg.K = X.K := by rw [← hXg]
  have ec : Xg.calm = true := by rw [← hXg]
  have ex : Xg.xe = fun _ _ => False := by rw [← hXg]
  have epn : Xg.pn = pn := by rw [← hXg]
  have zp : ∀ b ∈ p.map (·.1), s.heap.objs.size < b := fun b hb => hZ b (by rw [← hcp _ _ hp]; exact hb)
  have stat : ∀ {p' : List (Addr × Obj)} {σ' : L2.St} {H' : Hp} {s' : Shared}, (∀ q ∈ p', s.heap.objs.size < q.1) → L2.Inv Xg p' σ' H' s' → (∀ b ∈ fp, H' b = none) → ∀ b ∈ fp, FpOk Xg p' H' b := fun {p' σ' H' s'} hp' I' hn b hb => by
    have I' := I'
    rw [← hXg] at I' ⊢
    refine ⟨hn b hb, (I'.ok.exf b hb).1, I'.ok.exfs b hb, .inl hb, fun x c e => (I'.ok.exf b hb).2 x c e, fun q hq => ?_⟩
    rcases List.mem_append.mp hq with hq | hq
    · exact Nat.ne_of_gt (Nat.lt_trans (hfp b hb).2 (hpn q hq).1)
    · exact Nat.ne_of_gt (Nat.lt_trans (hfp b hb).2 (hp' q hq))
  have back : ∀ {p' : List (Addr × Obj)} {σ' : L2.St} {H' : Hp} {s' : Shared}, L2.Inv Xg p' σ' H' s' → L2.Inv X pins σ H' s' := fun {p' σ' H' s'} I' => by
    rw [← hXg] at I'
    exact I.call' (ch := fp) I'.os I'.base I'.hok I'.bare fun b hb => ⟨(hfp b hb).1.2.2.2.1, (hfp b hb).1.2.1, (hfp b hb).1.2.2.2.2.1, (hfp b hb).1.2.2.2.2.2⟩
  have pz : ∀ q ∈ p, s.heap.objs.size < q.1 := fun q hq => zp q.1 (List.mem_map.mpr ⟨q, hq, rfl⟩)
  show Seg _ A _ _ _ s₀ _ ((compTurn (.GeneratorExp elt [⟨tg, iter, ifs, 0⟩] scope pos) 0 (.ref it) .none ce).onRaise (leaving ce)) [] s1
  rw [compTurn_gen, Sem.onRaise_eq_wrap]
  refine seg_bind_wrap ?_
  rw [over_gx]
  refine wpAny_standAt ?_
  rcases hw i m ys H1 hwm with ⟨stop, qq⟩ | ⟨go, Nx, hNx, step⟩
  · have td := T.done Xg eP eW eK ec i p s1 _ H1 (fun _ _ => False) I1 (stat pz I1 n1) st1 stop
    rw [eA] at td
    refine seg_bind_wrap ?_
    rw [over_gx]
    refine thnF td fun r s6 ⟨hr, I6⟩ => ?_
    subst hr
    exact seg_end (.ok .next) (.inl ⟨.inr rfl, ys, p, H1, by omega, hp, fun q hq => ⟨hp0 q hq, (I6.pin q (List.mem_append_right _ hq)).1⟩, back I6, qq⟩)
  · have ti := T.item Xg eP eW eK ec i p s1 _ H1 (fun _ _ => False) I1 (stat pz I1 n1) st1 go
    rw [eA] at ti
    refine seg_bind_wrap ?_
    rw [over_gx]
    refine thnF ti fun r s6 ⟨u, hr, h6⟩ => ?_
    subst hr
    refine seg_bind_wrap ?_
    rw [over_gx]
    refine thnF h6 fun _ s7 ⟨x, H7, I7, r7, y7, st7, n7⟩ => ?_
    have I7' := I7.pinned (stat pz I7 n7) (T.obj _ _ st7)
    have pgr := pg.run _ s7 _ H7 x u _ I7' r7 (step x H7 y7)
    rw [ex, eP, eW, eE, eA] at pgr
    refine seg_bind_wrap ?_
    rw [over_gx]
    refine thnF pgr fun _ s8 ⟨σ8, H8, I8, hw8, q8⟩ => ?_
    have ptr := pt.run _ s8 σ8 H8 _ I8 q8
    rw [ex, eP, eW, eE, eA] at ptr
    refine seg_bind_wrap ?_
    rw [over_gx]
    refine thnF ptr fun b s9 ⟨H9, I9, q9⟩ => ?_
    -- the turn's end
    have fine : ∀ {n' : Nat} {ys' : List V} {p' : List (Addr × Obj)} {s0' s' : Shared} {H' : Hp}, n' + ys'.length = sizeLine → cp ys' p' → (∀ q ∈ p', s0'.heap.get? q.1 = some q.2) → L2.Inv Xg (p' ++ pinsAt fp s7.heap) σ8 H' s' → Nx ys' H' →
        Seg (model X.prog X.w) A (GEnd X pins σ cp fin) (GYld X pins σ pn cp Out) n' s0' (.compLoop (.GeneratorExp elt [⟨tg, iter, ifs, 0⟩] scope pos) 0 (.ref it) .none ce)
          ((model X.prog X.w).den (.compLoop (.GeneratorExp elt [⟨tg, iter, ifs, 0⟩] scope pos) 0 (.ref it) .none ce)) [] s' := fun {n' ys' p' s0' s' H'} hn' hp' hp0' I' nx => by
      obtain ⟨m', hm, w'⟩ := hNx ys' H' nx
      have pin' : ∀ b ∈ fp, ∀ o, s7.heap.get? b = some o → s'.heap.get? b = some o ∧ H' b = none := fun b hb o e =>
        let z := I'.pin (b, o) (List.mem_append_right _ (List.mem_append_right _ (mem_pinsAt hb e)))
        ⟨z.1, z.2.1⟩
      have hl : (L2.wipe σ (own.map (·.2))).length = σ8.length := by rw [← hw8, wipe_length]
      have I'' := (I'.unpinned (pins := p')).weak hl (fun j v e => by
        rw [← hw8] at e
        exact (wipe_some e).1)
      subst hXg hce
      refine ih m' hm (i + 1) n' ys' s0' s' p' H' hn' w' hp' hp0' I'' (T.keep _ _ _ st7 fun b hb o e => (pin' b hb o e).1) fun b hb => ?_
      obtain ⟨o, e, _⟩ := T.obj _ _ st7 b hb
      exact (pin' b hb o e).2
    cases b with
    | false =>
      simp only [Bool.false_eq_true, if_false] at q9 ⊢
      exact seg_again rfl (fine hn hp hp0 I9 q9)
    | true =>
      simp only [if_true] at q9 ⊢
      have hy : ∀ v, yieldOut ce v = yieldValue v := fun v => by
        have : ce.scope.isCoroutine = false := by rw [← hce]; exact hco
        simp only [yieldOut, this, Bool.false_eq_true, if_false]
      simp only [hy]
      rw [Sem.bind_eq_wrap', Sem.bind_eq_wrap', Sem.wrap_wrap, Sem.wrap_wrap]
      have per := pe.run _ s9 σ8 H9 _ I9 q9
      rw [ex, eP, eW, eE, eA] at per
      refine seg_wrap ?_
      rw [over_gx]
      refine thnF per fun z s10 ⟨yv, H10, I10, r10, hlt, hout, nx⟩ => ?_
      obtain ⟨n', rfl⟩ : ∃ n', n = n' + 1 := ⟨n - 1, by omega⟩
      have zpp : ∀ q ∈ p ++ pinsAt fp s7.heap, q ∈ pn ++ (p ++ pinsAt fp s7.heap) := fun q hq => List.mem_append_right _ hq
      refine seg_at (seg_yield rfl rfl rfl ⟨ys, yv, p, H10, by omega, r10, hp, fun q hq => ⟨hp0 q hq, (I10.pin q (by rw [epn]; exact List.mem_append_right _ (List.mem_append_left _ hq))).1⟩, back I10, fun q hq => (I10.pin q (by rw [epn]; exact List.mem_append_left _ hq)).1, hout, fun s'' hal => ?_⟩)
      obtain ⟨p', e1, e2, I'⟩ := gx_woken (by
          rw [epn]
          intro q hq hb
          exact (hpn q hq).2 (by rw [← hcp _ _ hp]; exact hb)) (by
          intro q hq hb
          obtain ⟨h1, _⟩ := of_pinsAt hq
          exact Nat.lt_irrefl _ (Nat.lt_trans (hfp _ h1).2 (zp _ hb))) (by
          intro b hb
          have hb' := zp b hb
          rw [← hXg]
          refine ⟨Nat.le_of_lt hb', ?_, fun y c e => Nat.ne_of_lt (Nat.lt_trans (hcell y c (hcl y c e)) hb')⟩
          show b ≠ C
          rw [hC]
          exact Nat.ne_of_gt hb') I10 hal
      exact seg_again rfl (fine (by rw [List.length_append]; simp only [List.length_cons, List.length_nil]; omega) e1 (fun q hq => (I'.pin q (List.mem_append_right _ (List.mem_append_left _ hq))).1) I' (nx ⟨p', e1⟩))
end
end DV
end
section
set_option Elab.async false
set_option linter.all false
set_option maxRecDepth 100000
set_option maxHeartbeats 2000000
namespace DV
open PySem L2 PyProof.Rows PySem.Spec GenW LamX

/-- all but the code tables stays -/
theorem HR.ext {g : G} {F : Kn} {ι : List Addr} {h : AH} {H H2 : Hp} (r : HR g F ι h H) (e : ExtN H H2) (ti : g.Ti H2) : HR g F ι h H2 := by
  refine ⟨fun a o z => ?_, fun n o z => ?_, r.inj, r.len, ti, fun q hq => ?_, r.pt⟩
  · rcases r.fr a o z with ⟨z1, z2⟩ | ⟨ws, ob, e1, e2⟩
    · exact .inl ⟨e _ _ z1 z2, z2⟩
    · exact .inr ⟨ws, ob, e1, e _ _ e2 fun ps z => by cases z⟩
  · obtain ⟨a, x, e1, e2, e3, e4⟩ := r.hp n o z
    exact ⟨a, x, e1, e _ _ e2 e3.nt, e3, e4⟩
  · obtain ⟨q1, q2, q3⟩ := r.pv q hq
    exact ⟨e _ _ q1 fun ps z => (by obtain ⟨xs, hx⟩ := r.pt q hq; rw [hx] at z; cases z), q2, q3⟩
section
variable {X : Cx} {pins : List (Addr × Obj)} {σ : L2.St} {H : Hp} {s : Shared}
/-- the code object of a generator expression: new, or found in the table -/
theorem gx_code {T : List (Addr × Str)} {c P : Addr} {scope : Scope} {pos : Pos} {E : Value → Shared → Prop} {Q : Value → Shared → Prop} (I : L2.Inv X pins σ H s) (TB : TabB X.base X.mg c P) (hcode : X.env.code = .ref c)
    (hm : (P, X.env.qual ++ "<genexpr>") ∈ T) (hu : ∀ p ∈ T, p.1 = P → p.2 = X.env.qual ++ "<genexpr>") (hT : Tabs T H)
    (h : ∀ (code : Value) (H1 : Hp) (s' : Shared), L2.Inv X pins σ H1 s' → ExtN H H1 → Tabs T H1 → (∀ b o, H b = none → s.heap.get? b = some o → s'.heap.get? b = some o ∧ H1 b = none) → s.heap.objs.size ≤ s'.heap.objs.size → Q code s') :
    wpAny (model X.prog X.w) X.A (genexprCode X.env pos (X.env.qual ++ "<genexpr>") scope) Q E s := by
  obtain ⟨ps, hP, ht, ha⟩ := hT _ hm
  have bP : s.heap.BuiltinsAt X.mg P := TB.bm.keeps I.bk
  have hP' : s.heap.get? P = some { cls := .none, data := .fields ps } := I.hok P _ hP
  have cd : PySem.W.CodeHd s.heap c P := TB.code.keeps I.bk
  cases hc : codeAmong pos ps.toList with
  | none =>
    refine wpAny_genexprCodeX hcode (cd.code hP' ht) (cd.tab hP') hc fun c' h' tk hx hge hlt hco' hrec htab' _ => ?_
    obtain ⟨c2, oc, vs, t, e2, hoc, hd, hv⟩ := hrec
    cases e2
    have hsz : s.heap.objs.size ≤ h'.objs.size := Nat.le_trans hge (Nat.le_of_lt hlt)
    have nC : H c' = none := I.hok.fresh hge
    have I1 := inv_table (t' := tk) (more := #[rawInt pos.line, rawInt pos.col, .ref c']) (h' := h') I hP (fun b o hb e => hx b o hb e) htab'.2 hge ⟨oc, vs, t, hoc, hd, hv⟩
    have hE : ExtN H (upd (upd H P (.tbl (ps ++ #[rawInt pos.line, rawInt pos.col, .ref c']))) c' (CodeO c' (X.env.qual ++ "<genexpr>"))) := fun b o e n => by
      rw [upd_ne (ne_of_none e nC), upd_ne (fun z => n ps (Option.some.inj (e.symm.trans (by rw [z]; exact hP))))]
      exact e
    have eL : (ps ++ #[rawInt pos.line, rawInt pos.col, .ref c']).toList = ps.toList ++ [rawInt pos.line, rawInt pos.col, .ref c'] := by simp
    refine h _ _ _ I1 hE (fun p hp => ?_) (fun b o hb e => ?_) hsz
    · by_cases hb : p.1 = P
      · rw [hu p hp hb, hb]
        refine ⟨_, by rw [upd_ne (ne_of_none hP nC), upd_same], by rw [eL]; exact PySem.TriplesOk_snoc _ _ _ _ ht, fun p' cv hcv => ?_⟩
        rw [eL] at hcv
        rcases among_app _ ht hcv with z | z
        · obtain ⟨c0, e1, e2⟩ := ha p' cv z
          exact ⟨c0, e1, hE _ _ e2 codeO_ne⟩
        · exact ⟨c', z, upd_same⟩
      · obtain ⟨ps', a1, a2, a3⟩ := hT p hp
        refine ⟨ps', by rw [upd_ne (ne_of_none a1 nC), upd_ne hb]; exact a1, a2, fun p' cv hcv => ?_⟩
        obtain ⟨c0, e1, e2⟩ := a3 p' cv hcv
        exact ⟨c0, e1, hE _ _ e2 codeO_ne⟩
    · have n1 : b ≠ P := fun z => by rw [z, hP] at hb; cases hb
      have n2 : b ≠ c' := Nat.ne_of_lt (Nat.lt_of_lt_of_le (Heap.lt_size e) hge)
      exact ⟨hx b o n1 e, by rw [upd_ne n2, upd_ne n1]; exact hb⟩
  | some cv =>
    obtain ⟨c', e, hco⟩ := ha pos cv hc
    subst e
    refine wpAny_genexprCode_hit hcode (cd.code hP' ht) hc ?_
    exact h _ H s I (ExtN.refl H) hT (fun b o hb e => ⟨e, hb⟩) (Nat.le_refl _)

def GAlive (X : Cx) (pins : List (Addr × Obj)) (σ : L2.St) (a : Addr) (gi : Nat) (pn : List (Addr × Obj)) (cp : Cs) (fin : List V → Hp → Prop) (Out : List V → V → Hp → Prop) (A : Around) (n : Nat) (s : Shared) : Prop :=
  s.heap.IsGen a gi ∧ s.heap.NoLimit ∧ ∃ gs, s.gens[gi]? = some gs ∧ gs.Goes (model X.prog X.w) A (GEnd X pins σ cp fin) (GYld X pins σ pn cp Out) n (.send .none) (s.setGen gi .running)
def GxLive (X : Cx) (pins : List (Addr × Obj)) (σ : L2.St) (k : Nat) (turn : (List V → Hp → Prop) → (List V → V → Hp → Prop) → (List V → Prop) → (Nat → Nat → List V → Hp → Prop) → Prop) (H1 : Hp) (u : Value) (s5 : Shared) : Prop :=
  ∃ (a : Addr) (gi : Nat) (go : Obj), u = .ref a ∧ s5.heap.get? a = some go ∧ (∀ h : Heap, h.get? a = some go → h.IsGen a gi) ∧ gi < s5.gens.size ∧
    ∀ (A : Around) (cp : Cs) (Z : List Addr) (fin : List V → Hp → Prop) (Out : List V → V → Hp → Prop) (W : Nat → Nat → List V → Hp → Prop), Room k A → A.frames = some X.stack → turn fin Out (fun ys => ∃ p, cp ys p) W → (∃ m, W 0 m [] H1) →
      (∀ ys p, cp ys p → p.map (·.1) = Z) → (∀ b ∈ Z, s5.heap.objs.size ≤ b) → ∀ (s6 : Shared) (p : List (Addr × Obj)), (∀ b o, s5.heap.get? b = some o → s6.heap.get? b = some o) → s6.gens = s5.gens → s6.os = s5.os → cp [] p →
        (∀ q ∈ p, s6.heap.get? q.1 = some q.2 ∧ ∀ v, q.2.data ≠ .cell v) → GAlive X pins σ a gi [(a, go)] cp fin Out A sizeLine s6
theorem gx_make {k : Nat} {T : List (Addr × Str)} {c P : Addr} {elt tg iter : Expr} {ifs : List Expr} {scope : Scope} {own : List (Str × Nat)} {pos : Pos} {wi : TI} {g : TG} {tt : TT} {te : TE} {Q : Value → Shared → Prop} {R : It → Hp → Prop}
    (hd : X.A.depth < recursionLimit) (I : L2.Inv X pins σ H s) (TB : TabB X.base X.mg c P) (hcode : X.env.code = .ref c) (hm : (P, X.env.qual ++ "<genexpr>") ∈ T) (hu : ∀ p ∈ T, p.1 = P → p.2 = X.env.qual ++ "<genexpr>")
    (hN : X.N.Nodup) (ok : BlkOk X.N X.env.scope scope own) (hcell : ∀ y ∈ scope.names, y.2 ≠ .cell) (hco : scope.isCoroutine = false) (h0 : scope.names.lookup (".0" : Str) = some NameKind.local) (hi : PI X tg iter wi)
    (hg : ∀ (A : Around) (s : Shared) (H : Hp) (C : Addr) (code : Value) (fp : List Addr) (pn : List (Addr × Obj)), PG (gxCx X A s H scope C code fp pn) tg g)
    (ht : ∀ (A : Around) (s : Shared) (H : Hp) (C : Addr) (code : Value) (fp : List Addr) (pn : List (Addr × Obj)), Room k (gxCx X A s H scope C code fp pn).A → PTs (gxCx X A s H scope C code fp pn) ifs tt)
    (he : ∀ (A : Around) (s : Shared) (H : Hp) (C : Addr) (code : Value) (fp : List Addr) (pn : List (Addr × Obj)), Room k (gxCx X A s H scope C code fp pn).A → PE (gxCx X A s H scope C code fp pn) elt te)
    (hs : ∀ x, genFold iter X.env x = pure x) (hw : wi σ H fun J H1 => Tabs T H1 ∧ R J H1)
    (h : ∀ (J : It) (H1 H2 : Hp) (u : Value) (s5 : Shared), R J H1 → ExtN H1 H2 → Tabs T H2 → L2.Inv X pins σ H2 s5 → GxLive X pins σ (k + 1) (gxTurn g tt te (own.map (·.2)) σ J) H2 u s5 → Q u s5) :
    wpAny (model X.prog X.w) X.A (eval (.GeneratorExp elt [⟨tg, iter, ifs, 0⟩] scope pos) X.env) Q X.xe s := by
  have hfree : ∀ y ∈ scope.names, y.2 = .free → ∃ c, X.env.cells.lookup y.1 = some c := fun y hy e => by
    rcases ok.free y hy e with k | k
    · exact I.ok.has _ (.inl k)
    · exact I.ok.has _ (.inr k)
  have hcl : ∀ x c, (cloFrom X.env.cells scope.names []).lookup x = some c → X.env.cells.lookup x = some c := fun y c hm => by
    rcases cloFrom_mem (PySem.mem_of_lookup hm) with hm | ⟨h1, h2⟩
    · cases hm
    · obtain ⟨c1, hc⟩ := hfree _ h1 rfl
      have hc : X.env.cells.lookup y = some c1 := hc
      have e2 : c = c1 := by
        rw [h2, hc] <;> rfl
      rw [e2]
      exact hc
  refine wpAny_GeneratorExp_make hco (closure_ok hfree) hcell h0 ok.kind hd ?_ hs
  refine thn (hi.run pins s σ H _ I hw) fun xv s1 h1 => thn h1 fun itv s2 h2 => ?_
  obtain ⟨it, fp, tn, J, H1, e, I2, T2, st2, f2, hT, hR⟩ := h2
  subst e
  refine ⟨I2.nolimit, ?_⟩
  refine gx_code (T := T) I2 TB hcode hm hu hT fun code H2 s3 I3 hE hT3 kp3 sz3 => ?_
  have bm3 : s3.heap.BuiltinsAt X.mg P := TB.bm.keeps I3.bk
  obtain ⟨bm, ob, e1, e2, e3, e4, e5, e6, e7, e8⟩ := TB.bm
  refine wpAny_builtinsFor (m := X.mg) (by rw [I3.ok.glob]; exact I3.mod.glob.keeps I3.bk) e1 e2 (I3.bk _ _ e5) e6 e7 e8 ?_
  have szf : ∀ b ∈ fp, b < s2.heap.objs.size := fun b hb => by
    obtain ⟨o, e, _⟩ := T2.obj _ _ st2 b hb
    exact Heap.lt_size e
  have f3 : ∀ b ∈ fp, FpOk X pins H2 b ∧ b < s3.heap.objs.size := fun b hb => by
    obtain ⟨o, e, _⟩ := T2.obj _ _ st2 b hb
    exact ⟨⟨(kp3 b o (f2 b hb).1 e).2, (f2 b hb).2⟩, Nat.lt_of_lt_of_le (szf b hb) sz3⟩
  have st3 : tn 0 s3.heap := T2.keep _ _ _ st2 fun b hb o e => (kp3 b o (f2 b hb).1 e).1
  intro h' hn' hs'
  have hsz : h'.objs.size = s3.heap.objs.size + 1 := by rw [hs'.1, Heap.size_push]
  have keep' : ∀ b o, s3.heap.get? b = some o → h'.get? b = some o := fun b o e => hs'.extBut b o (Nat.ne_of_lt (Heap.lt_size e)) (Heap.get?_push_of_some _ e)
  generalize hgo : ({ cls := .type "generator", data := .fields #[.int s3.gens.size 0, .str "<genexpr>" (s3.toks + 1), .str (X.env.qual ++ "<genexpr>") (s3.toks + 1 + 1)] } : Obj) = go
  have hgd : ∀ v, go.data ≠ .cell v := fun v q => by rw [← hgo] at q; cases q
  have hisg : ∀ h : Heap, h.get? h'.objs.size = some go → h.IsGen h'.objs.size s3.gens.size := fun h e => ⟨go, _, _, e, by rw [← hgo], by rw [← hgo], by rw [← hgo]⟩
  have hpg : (h'.push go).get? h'.objs.size = some go := Heap.get?_push_size _ (by rw [← hgo]; rfl)
  have keep5 : ∀ b o, s3.heap.get? b = some o → (h'.push go).get? b = some o := fun b o e => Heap.get?_push_of_some _ (keep' b o e)
  generalize hce : genEnv scope (cloFrom X.env.cells scope.names []) s3.heap.objs.size code builtinsNs X.env = ce
  have I5 : L2.Inv X pins σ H2 { s3 with gens := s3.gens.push (.fresh (.compStart (.GeneratorExp elt [⟨tg, iter, ifs, 0⟩] scope pos) 0 (.ref it) .none ce)), toks := s3.toks + 1 + 1 + 1, heap := h'.push go } :=
    I3.call' (ch := []) rfl (Un.kept keep5) (I3.hok.kept keep5) (AllBare.push I3.bare rfl) fun b z => by simp at z
  refine h J H1 H2 _ _ hR hE hT3 I5 ⟨h'.objs.size, s3.gens.size, go, rfl, hpg, hisg, by simp, ?_⟩
  intro A cp Z fin Out W hrA hfA hturn hW hcp hZ s6 p k6 g6 o6 hcp0 hp6
  have hgs6 : s6.gens[s3.gens.size]? = some (.fresh (.compStart (.GeneratorExp elt [⟨tg, iter, ifs, 0⟩] scope pos) 0 (.ref it) .none ce)) := by rw [g6]; exact Array.getElem?_push_size ..
  refine ⟨hisg _ (k6 _ _ hpg), I5.nolimit.keeps k6, _, hgs6, ⟨rfl, ?_⟩⟩
  have kp : ∀ b o, s3.heap.get? b = some o → s6.heap.get? b = some o := fun b o e => k6 b o (keep5 b o e)
  have hb6 : AllBare s6.gens := by rw [g6]; exact I5.bare
  have hZ' : ∀ b ∈ Z, s3.heap.objs.size < b := fun b hb => by
    have := hZ b hb
    have e : (h'.push go).objs.size = s3.heap.objs.size + 1 + 1 := by rw [Heap.size_push, hsz]
    have this : (h'.push go).objs.size ≤ b := this
    omega
  have hpZ : ∀ q ∈ p, q.1 ∈ Z := fun q hq => by rw [← hcp _ _ hcp0]; exact List.mem_map.mpr ⟨q, hq, rfl⟩
  have hns : s6.heap.Ns s3.heap.objs.size (fun y => if y = ".0" then some (.ref it) else none) := (hn'.push go).keeps k6
  have aZ : h'.objs.size ∉ Z := fun hb => by
    have := hZ _ hb
    have this : (h'.push go).objs.size ≤ h'.objs.size := this
    rw [Heap.size_push] at this
    omega
  have J6 := gx_start (A := A) (code := code) (pn := [(h'.objs.size, go)]) (p := p) I3 ok hcell hN hfA hrA.hd f3 rfl (s2 := s6.setGen s3.gens.size .running) (o6.trans rfl) (allBare_setGen hb6 rfl) kp hns (fun q hq => by
    rcases List.mem_append.mp hq with hq | hq
    · rw [List.mem_singleton.mp hq]
      exact ⟨k6 _ _ hpg, by show s3.heap.objs.size < h'.objs.size; omega, hgd⟩
    · exact ⟨(hp6 q hq).1, hZ' _ (hpZ q hq), (hp6 q hq).2⟩)
  obtain ⟨m0, hW0⟩ := hW
  have hRd : Room k (gxCx X A s3 H2 scope s3.heap.objs.size code fp [(h'.objs.size, go)]).A := hrA.deeper _
  have st6 : tn 0 (s6.setGen s3.gens.size .running).heap := T2.keep _ _ _ st3 fun b _ o e => kp b o e
  have nfp : ∀ b ∈ fp, H2 b = none := fun b hb => (f3 b hb).1.1
  have hcs : ∀ x c, X.env.cells.lookup x = some c → c < s3.heap.objs.size := fun x c e => by
    obtain ⟨w, z⟩ := I3.cell x c e
    exact z.lt
  have loop := gx_loop (A := A) (iter := iter) (pos := pos) I3 hco f3 rfl (Z := Z) (pn := [(h'.objs.size, go)]) (fun q hq => by rw [List.mem_singleton.mp hq]; exact ⟨by show s3.heap.objs.size < h'.objs.size; omega, aZ⟩) hZ' hcp hcs hcl T2
    (hg A s3 H2 _ code fp _) (ht A s3 H2 _ code fp _ hRd) (he A s3 H2 _ code fp _ hRd) hturn m0 0 sizeLine [] (s6.setGen s3.gens.size .running) (s6.setGen s3.gens.size .running) p H2 (Nat.add_zero _) hW0 hcp0 (fun q hq => (hp6 q hq).1) J6 st6 nfp
  rw [hce] at loop
  show Seg _ A _ _ _ _ _ ((compStart (.GeneratorExp elt [⟨tg, iter, ifs, 0⟩] scope pos) 0 (.ref it) .none ce).onRaise (leaving ce)) [] _
  unfold compStart
  rw [Sem.onRaise_eq_wrap]
  show Seg _ A _ _ _ _ _ ((ask >>= _).wrap _ _ _ _) [] _
  refine seg_bind_wrap (wpAny_askSetting ?_)
  split
  · exact seg_again rfl loop
  · first
      | exact seg_bind_wrap (wpAny_rule (seg_bind_wrap (wpAny_standAt (seg_bind_wrap (T2.self _ 0 _ _ _ st6 (seg_again rfl loop))))))
      | (refine seg_bind_wrap (wpAny_rule ?_); show Seg _ A _ _ _ _ _ ((standAt iter.pos >>= _).wrap _ _ _ _) [] _; exact seg_bind_wrap (wpAny_standAt (seg_bind_wrap (T2.self _ 0 _ _ _ st6 (seg_again rfl loop)))))

theorem inv_to {s' : Shared} (I : L2.Inv X pins σ H s) (ho : s'.os = s.os) (hb : AllBare s'.gens) (k : ∀ b o, s.heap.get? b = some o → s'.heap.get? b = some o) : L2.Inv X pins σ H s' :=
  I.call' (ch := []) ho (Un.kept k) (I.hok.kept k) hb fun b z => by simp at z
def GF (X : Cx) (pins : List (Addr × Obj)) (σ : L2.St) (cp : Cs) (fin : List V → Hp → Prop) : Nat → Shared → Shared → Prop := fun n s₀ s1 => ∃ ys p H, ys.length ≤ sizeLine ∧ cp ys p ∧ (∀ q ∈ p, s₀.heap.get? q.1 = some q.2 ∧ s1.heap.get? q.1 = some q.2) ∧ L2.Inv X pins σ H s1 ∧ fin ys H
theorem next_gx {A : Around} {a : Addr} {gi n : Nat} {pn : List (Addr × Obj)} {cp : Cs} {fin : List V → Hp → Prop} {Out : List V → V → Hp → Prop} {Q : Option Value → Shared → Prop} {E : Value → Shared → Prop} (hh : A.handled = none) (hd : A.depth < recursionLimit)
    (hpn : ∀ h : Heap, (∀ q ∈ pn, h.get? q.1 = some q.2) → h.IsGen a gi) (hpc : ∀ ys p, cp ys p → ∀ q ∈ pn, q.1 ∉ p.map (·.1)) (al : GAlive X pins σ a gi pn cp fin Out A.in1 n s)
    (hY : ∀ (v : Value) (x : V) (ys : List V) (p : List (Addr × Obj)) (H : Hp) (s3 : Shared), ys.length < sizeLine → RelV x v → cp ys p → (∀ q ∈ p, s.heap.get? q.1 = some q.2 ∧ s3.heap.get? q.1 = some q.2) → L2.Inv X pins σ H s3 → Out ys x H →
      (∀ (p' : List (Addr × Obj)) (h' : Heap) (tk : Nat), cp (ys ++ [x]) p' → p'.map (·.1) = p.map (·.1) → (∀ q ∈ p', h'.get? q.1 = some q.2 ∧ ∀ v, q.2.data ≠ .cell v) → (∀ b o, b ∉ p.map (·.1) → s3.heap.get? b = some o → h'.get? b = some o) → h'.NoLimit →
        ∃ m, n = m + 1 ∧ GAlive X pins σ a gi pn cp fin Out A.in1 m { s3 with heap := h', toks := tk }) → Q (some v) s3)
    (hZ : ∀ (ys : List V) (p : List (Addr × Obj)) (H : Hp) (s3 : Shared), ys.length ≤ sizeLine → cp ys p → (∀ q ∈ p, s.heap.get? q.1 = some q.2 ∧ s3.heap.get? q.1 = some q.2) → L2.Inv X pins σ H s3 → fin ys H → Q none s3) :
    wpAny (model X.prog X.w) A (pyNext (.ref a)) Q E s := by
  obtain ⟨hg, hl, gs, hgs, hgo⟩ := al
  have hgl : gi < s.gens.size := (Array.getElem?_eq_some_iff.mp hgs).1
  have goes : ∀ {gs : GenState} {B : Around} {n : Nat} {r : Resume} {s : Shared}, gs.Goes (model X.prog X.w) B (GEnd X pins σ cp fin) (GYld X pins σ pn cp Out) n r s →
      gs.Goes (model X.prog X.w) B (fun n s₀ r s1 => ((r = .ok (.ret .none) ∨ r = .ok .next) ∧ GF X pins σ cp fin n s₀ s1) ∨ ∃ e, r = .error e ∧ (fun _ _ => False : Value → Shared → Prop) e s1) (GYld X pins σ pn cp Out) n r s := fun h => h
  refine wpAny_gsz (n := gi + 1) hgl (next_genG hh hl hd hg hgs (goes hgo) (fun v s₁ gs' hbare hv => ?_) (fun s₁ hp h' hk => ?_) fun e s₁ he => he.elim)
  · intro hsz
    obtain ⟨ys, x, p, H1, hn, rv, hcp, hp, I1, hq, hout, hk⟩ := hv
    have hsz1 : gi < s₁.gens.size := by
      have q : (s₁.setGen gi gs').gens.size = s₁.gens.size := setGen_size _ _ _
      have hsz' : gi + 1 ≤ (s₁.setGen gi gs').gens.size := hsz
      omega
    have hb3 : AllBare (s₁.setGen gi gs').gens := allBare_setGen I1.bare hbare
    refine hY v x ys p H1 (s₁.setGen gi gs') (by omega) rv hcp hp (inv_to I1 rfl hb3 fun _ _ e => e) hout fun p' h' tk c1 c2 c3 c4 c5 => ?_
    have kk := hk ((({ s₁.setGen gi gs' with heap := h', toks := tk } : Shared)).setGen gi .running) ⟨rfl, allBare_setGen hb3 rfl, p', c1, c2, c3, c4⟩
    cases n with
    | zero => exact kk.elim
    | succ m => exact ⟨m, rfl, hpn _ fun q hq' => c4 _ _ (hpc _ _ hcp q hq') (hq q hq'), c5, gs', setGen_at hsz1, kk⟩
  · intro hsz
    obtain ⟨ys, p, H1, h1, h2, h3, I1, h5⟩ := hp
    exact hZ ys p H1 _ h1 h2 (fun q hq => ⟨(h3 q hq).1, hk _ _ (h3 q hq).2⟩) (inv_to I1 rfl (allBare_setGen I1.bare rfl) hk) h5
end
end DV
end
section
set_option Elab.async false
set_option linter.all false
set_option maxRecDepth 100000
set_option maxHeartbeats 2000000
namespace DV
open PySem L2 PyProof.Rows PySem.Spec GenW LamX

/-! ### consumers -/
/-- nothing is kept; all that came was b -/
def cpB (b : Bool) : Cs := fun ys p => p = [] ∧ ∀ y ∈ ys, y = .bl b
def cpS (S : Addr) : Cs := fun ys p => ∃ acc c, p = [(S, lstObj acc c)] ∧ Vals ys acc.toList
section
variable {X : Cx} {pins : List (Addr × Obj)} {σ : L2.St} {H2 : Hp} {s5 : Shared}
theorem any_loop_gx {A : Around} {a : Addr} {gi : Nat} {pn : List (Addr × Obj)} {Q : Bool → Hp → Prop} {R : Result → Shared → Prop} (hh : A.handled = none) (hd : A.depth < recursionLimit) (hpn : ∀ h : Heap, (∀ q ∈ pn, h.get? q.1 = some q.2) → h.IsGen a gi)
    (hR : ∀ b H' s', L2.Inv X pins σ H' s' → Q b H' → R (.ok (.ret (.bool b))) s') : ∀ (n : Nat) (s : Shared), GAlive X pins σ a gi pn (cpB false) (fun _ H => Q false H) (fun _ y H => ∃ b, y = .bl b ∧ (b = true → Q true H)) A.in1.in1 n s →
      codeAny (model X.prog X.w) A (.builtin "any.loop" ⟨[.ref a], []⟩) R s := by
  intro n
  induction n using Nat.strongRecOn with
  | ind n ih =>
    intro s al
    refine codeAny_builtin F.entry_any_loop ?_
    rw [Around.under_plainId F.plain_any_loop _]
    show wpAny _ A.in1 (pyNext (.ref a) >>= _) _ _ s
    refine wpAny_bind (next_gx (A := A.in1) hh hd hpn (fun ys p hp q _ => by rw [hp.1]; simp) al (fun v x ys p H s3 _ rv hp _ I ho wake => ?_) fun ys p H s3 _ _ _ I hq => ?_)
    · obtain ⟨b, rfl, ho⟩ := ho
      obtain ⟨rfl, hys⟩ := hp
      have rv : v = .bool b := rv
      subst rv
      refine wpAny_bind (wpAny_holding (wpAny_truthy_bool ?_))
      refine wpAny_bind (wpAny_letGo ?_)
      cases b with
      | false =>
        simp only [Bool.not_true, Bool.not_false, Bool.false_eq_true, if_false, if_true]
        obtain ⟨m, rfl, al'⟩ := wake [] s3.heap s3.toks ⟨rfl, fun y hy => (List.mem_append.mp hy).elim (hys y) fun z => List.mem_singleton.mp z⟩ rfl (by simp) (fun _ _ _ e => e) I.nolimit
        exact wpAny_pure ⟨plainId_quiet F.plain_any_loop _, ih m (Nat.lt_succ_self m) _ al'⟩
      | true =>
        simp only [Bool.not_true, Bool.not_false, Bool.false_eq_true, if_false, if_true]
        exact wpAny_bind (wpAny_rule (wpAny_pure (hR true H s3 I (ho rfl))))
    · exact wpAny_bind (wpAny_rule (wpAny_pure (hR false H s3 I hq)))
theorem all_loop_gx {A : Around} {a : Addr} {gi : Nat} {pn : List (Addr × Obj)} {Q : Bool → Hp → Prop} {R : Result → Shared → Prop} (hh : A.handled = none) (hd : A.depth < recursionLimit) (hpn : ∀ h : Heap, (∀ q ∈ pn, h.get? q.1 = some q.2) → h.IsGen a gi)
    (hR : ∀ b H' s', L2.Inv X pins σ H' s' → Q b H' → R (.ok (.ret (.bool b))) s') : ∀ (n : Nat) (s : Shared), GAlive X pins σ a gi pn (cpB true) (fun _ H => Q true H) (fun _ y H => ∃ b, y = .bl b ∧ (b = false → Q false H)) A.in1.in1 n s →
      codeAny (model X.prog X.w) A (.builtin "all.loop" ⟨[.ref a], []⟩) R s := by
  intro n
  induction n using Nat.strongRecOn with
  | ind n ih =>
    intro s al
    refine codeAny_builtin F.entry_all_loop ?_
    rw [Around.under_plainId F.plain_all_loop _]
    show wpAny _ A.in1 (pyNext (.ref a) >>= _) _ _ s
    refine wpAny_bind (next_gx (A := A.in1) hh hd hpn (fun ys p hp q _ => by rw [hp.1]; simp) al (fun v x ys p H s3 _ rv hp _ I ho wake => ?_) fun ys p H s3 _ _ _ I hq => ?_)
    · obtain ⟨b, rfl, ho⟩ := ho
      obtain ⟨rfl, hys⟩ := hp
      have rv : v = .bool b := rv
      subst rv
      refine wpAny_bind (wpAny_holding (wpAny_truthy_bool ?_))
      refine wpAny_bind (wpAny_letGo ?_)
      cases b with
      | true =>
        simp only [Bool.not_true, Bool.not_false, Bool.false_eq_true, if_false, if_true]
        obtain ⟨m, rfl, al'⟩ := wake [] s3.heap s3.toks ⟨rfl, fun y hy => (List.mem_append.mp hy).elim (hys y) fun z => List.mem_singleton.mp z⟩ rfl (by simp) (fun _ _ _ e => e) I.nolimit
        exact wpAny_pure ⟨plainId_quiet F.plain_all_loop _, ih m (Nat.lt_succ_self m) _ al'⟩
      | false =>
        simp only [Bool.not_true, Bool.not_false, Bool.false_eq_true, if_false, if_true]
        exact wpAny_bind (wpAny_rule (wpAny_pure (hR false H s3 I (ho rfl))))
    · exact wpAny_bind (wpAny_rule (wpAny_pure (hR true H s3 I hq)))
theorem any_gx {k : Nat} {turn : (List V → Hp → Prop) → (List V → V → Hp → Prop) → (List V → Prop) → (Nat → Nat → List V → Hp → Prop) → Prop} {W : Nat → Nat → List V → Hp → Prop} {u : Value} {Q : Bool → Hp → Prop} {Q' : Value → Shared → Prop} {E : Value → Shared → Prop} (hr : Room (k + 3) X.A) (I : L2.Inv X pins σ H2 s5) (L : GxLive X pins σ k turn H2 u s5)
    (ht : turn (fun _ H => Q false H) (fun _ y H => ∃ b, y = .bl b ∧ (b = true → Q true H)) (fun ys => ∃ p, cpB false ys p) W) (hW : ∃ m, W 0 m [] H2) (hQ : ∀ b H' s', L2.Inv X pins σ H' s' → Q b H' → Q' (.bool b) s') : wpAny (model X.prog X.w) X.A (call (.builtin "any") [u]) Q' E s5 := by
  obtain ⟨a, gi, go, rfl, ha, hg, hgi, wake⟩ := L
  refine call_function_tree F.kind_any F.plain_any F.entry_any (F.args_any1 _) ?_
  unfold Builtin.«any»
  refine wpAny_bind (m := oneArg "any" _) (wpAny_pure ?_)
  refine wpAny_bind (wpAny_pyIter_gen (hg _ ha) ?_)
  refine wpAny_pure ⟨plainId_quiet F.plain_any_loop _, any_loop_gx (Q := Q) (pn := [(a, go)]) hr.hd (by have := hr.depth; exact this) (fun h hq => hg h (hq (a, go) (List.mem_singleton.mpr rfl))) (fun b H' s' I' hq => hQ b H' s' I' hq) sizeLine s5 ?_⟩
  have r3 : Room k X.A.in1.in1 := Room.in1 (Room.in1 (hr.mono (by omega)))
  exact wake _ (cpB false) [] _ _ W r3 I.ok.frames ht hW (fun ys p hp => by rw [hp.1]; rfl) (by simp) s5 [] (fun _ _ e => e) rfl rfl ⟨rfl, by simp⟩ (by simp)
theorem all_gx {k : Nat} {turn : (List V → Hp → Prop) → (List V → V → Hp → Prop) → (List V → Prop) → (Nat → Nat → List V → Hp → Prop) → Prop} {W : Nat → Nat → List V → Hp → Prop} {u : Value} {Q : Bool → Hp → Prop} {Q' : Value → Shared → Prop} {E : Value → Shared → Prop} (hr : Room (k + 3) X.A) (I : L2.Inv X pins σ H2 s5) (L : GxLive X pins σ k turn H2 u s5)
    (ht : turn (fun _ H => Q true H) (fun _ y H => ∃ b, y = .bl b ∧ (b = false → Q false H)) (fun ys => ∃ p, cpB true ys p) W) (hW : ∃ m, W 0 m [] H2) (hQ : ∀ b H' s', L2.Inv X pins σ H' s' → Q b H' → Q' (.bool b) s') : wpAny (model X.prog X.w) X.A (call (.builtin "all") [u]) Q' E s5 := by
  obtain ⟨a, gi, go, rfl, ha, hg, hgi, wake⟩ := L
  refine call_function_tree F.kind_all F.plain_all F.entry_all (F.args_all1 _) ?_
  unfold Builtin.«all»
  refine wpAny_bind (m := oneArg "all" _) (wpAny_pure ?_)
  refine wpAny_bind (wpAny_pyIter_gen (hg _ ha) ?_)
  refine wpAny_pure ⟨plainId_quiet F.plain_all_loop _, all_loop_gx (Q := Q) (pn := [(a, go)]) hr.hd (by have := hr.depth; exact this) (fun h hq => hg h (hq (a, go) (List.mem_singleton.mpr rfl))) (fun b H' s' I' hq => hQ b H' s' I' hq) sizeLine s5 ?_⟩
  have r3 : Room k X.A.in1.in1 := Room.in1 (Room.in1 (hr.mono (by omega)))
  exact wake _ (cpB true) [] _ _ W r3 I.ok.frames ht hW (fun ys p hp => by rw [hp.1]; rfl) (by simp) s5 [] (fun _ _ e => e) rfl rfl ⟨rfl, by simp⟩ (by simp)
/-- all that comes, into the list at S -/
theorem drain_gx {A : Around} {a S : Addr} {gi : Nat} {pn : List (Addr × Obj)} {Q : List V → Hp → Prop} {R : Result → Shared → Prop} {res : Value} (hh : A.handled = none) (hd : A.depth < recursionLimit) (hpn : ∀ h : Heap, (∀ q ∈ pn, h.get? q.1 = some q.2) → h.IsGen a gi) (hS : ∀ q ∈ pn, q.1 ≠ S) (hSc : S ≠ cStatics)
    (hR : ∀ ys acc c H' s', ys.length ≤ sizeLine → Vals ys acc.toList → s'.heap.get? S = some (lstObj acc c) → L2.Inv X pins σ H' s' → Q ys H' → R (.ok (.ret res)) s') : ∀ (n : Nat) (s : Shared), GAlive X pins σ a gi pn (cpS S) Q (fun _ _ _ => True) A.in1.in1 n s →
      codeAny (model X.prog X.w) A (.builtin "list.extend.loop" ⟨[.ref S, .ref a, res], []⟩) R s := by
  have hpc : ∀ ys p, cpS S ys p → ∀ q ∈ pn, q.1 ∉ p.map (·.1) := fun ys p hp q hq => by
    obtain ⟨acc, c, rfl, _⟩ := hp
    simpa using hS q hq
  have push : ∀ {ys : List V} {x : V} {v : Value} {acc : Array Value} {c : Nat} {h : Heap}, RelV x v → Vals ys acc.toList → h.get? S = some (lstObj acc c) → ∃ c', (h.update S (Obj.mapSeq (·.push v))).get? S = some (lstObj (acc.push v) c') ∧ Vals (ys ++ [x]) (acc.push v).toList := fun {ys x v acc c h} rv r e =>
    ⟨_, Heap.get?_update_self _ e rfl, by rw [Array.toList_push]; exact r.append (.cons rv .nil)⟩
  intro n
  induction n using Nat.strongRecOn with
  | ind n ih =>
    intro s al
    refine codeAny_builtin F.entry_extend_loop ?_
    rw [Around.under_plainId F.plain_extend_loop _]
    show wpAny _ A.in1 (pyNext (.ref a) >>= _) _ _ s
    refine wpAny_bind (next_gx (A := A.in1) hh hd hpn hpc al (fun v x ys p H s3 hlt rv hp he I _ wake => ?_) fun ys p H s3 hl hp he I hq => ?_)
    · obtain ⟨acc, c, rfl, r⟩ := hp
      have e := (he (S, lstObj acc c) (List.mem_singleton.mpr rfl)).2
      obtain ⟨c', e1, r1⟩ := push rv r e
      have hl := r.length
      have hsz : acc.size < sizeLine := by
        have : acc.toList.length = acc.size := by simp
        omega
      have keep3 : ∀ b o, b ≠ S → s3.heap.get? b = some o → (s3.heap.update S (Obj.mapSeq (·.push v))).get? b = some o := fun b o hbS e => (Heap.get?_update_other _ _ (Ne.symm hbS)).trans e
      obtain ⟨m, rfl, al'⟩ := wake [(S, lstObj (acc.push v) c')] (s3.heap.update S (Obj.mapSeq (·.push v))) s3.toks ⟨_, _, rfl, r1⟩ rfl (fun q hq => by
        rw [List.mem_singleton.mp hq]
        exact ⟨e1, fun v z => by cases z⟩) (fun b o hb' eo => keep3 b o (fun z => hb' (by simp [z])) eo) (by
        obtain ⟨mc, hns, hnn⟩ := I.nolimit
        exact ⟨mc, hns.at' fun o e => keep3 _ o (Ne.symm hSc) e, hnn⟩)
      show wpAny _ A.in1 (updateSeq S (·.push v) >>= _) _ _ _
      refine wpAny_bind ?_
      exact wpAny_updateSeq e rfl (wpAny_pure ⟨plainId_quiet F.plain_extend_loop _, ih m (Nat.lt_succ_self m) _ al'⟩) (Nat.le_of_lt hsz) (by show (acc.push v).size ≤ sizeLine + 1; rw [Array.size_push]; omega)
    · obtain ⟨acc, c, rfl, r⟩ := hp
      exact wpAny_pure (hR ys acc c H s3 hl r (he (S, lstObj acc c) (List.mem_singleton.mpr rfl)).2 I hq)
theorem collect_gx {k : Nat} {turn : (List V → Hp → Prop) → (List V → V → Hp → Prop) → (List V → Prop) → (Nat → Nat → List V → Hp → Prop) → Prop} {W : Nat → Nat → List V → Hp → Prop} {u : Value} {fin : List V → Hp → Prop} {A : Around} {Q : List Value → Shared → Prop} {E : Value → Shared → Prop} (hr : Room (k + 2) A) (hfr : A.frames = some X.stack) (I : L2.Inv X pins σ H2 s5) (L : GxLive X pins σ k turn H2 u s5)
    (ht : ∀ Ok, turn fin (fun _ _ _ => True) Ok W) (hW : ∃ m, W 0 m [] H2) (hQ : ∀ ys acc H' s', ys.length ≤ sizeLine → Vals ys acc → L2.Inv X pins σ H' s' → fin ys H' → Q acc s') : wpAny (model X.prog X.w) A (collect u) Q E s5 := by
  obtain ⟨a, gi, go, rfl, ha, hg, hgi, wake⟩ := L
  have haS : a < s5.heap.objs.size := Heap.lt_size ha
  have hSI : s5.heap.objs.size ≠ a := Nat.ne_of_gt haS
  have hSc : s5.heap.objs.size ≠ cStatics := Nat.ne_of_gt (let ⟨_, hns, _⟩ := I.nolimit; hns.lt)
  unfold collect
  refine wpAny_bind (wpAny_runValue (codeAny_builtin F.entry_proto_collect ?_))
  rw [Around.under_plainId F.plain_proto_collect _]
  show wpAny _ A.in1 (newList [] >>= fun l => again (.builtin "list.__iadd__" ⟨[l, .ref a], []⟩)) _ _ s5
  refine wpAny_bind (wpAny_newObj_type ?_)
  refine wpAny_pure ⟨plainId_quiet F.plain_list_iadd _, codeAny_builtin F.entry_list_iadd ?_⟩
  rw [Around.under_plainId F.plain_list_iadd _]
  have k1 : ∀ b o, s5.heap.get? b = some o → (s5.heap.push { cls := .type "list", data := .seq ([] : List Value).toArray }).get? b = some o := fun b o e => Heap.get?_push_of_some _ e
  have gty : ∀ {h : Heap}, (∀ b o, s5.heap.get? b = some o → h.get? b = some o) → h.IsGen a gi := fun {h} q => hg _ (q _ _ ha)
  show wpAny _ A.in1 (Builtin.List.listExtendWith (.ref s5.heap.objs.size) (.ref a) (.ref s5.heap.objs.size)) _ _ _
  unfold Builtin.List.listExtendWith
  refine wpAny_bind (wpAny_typeOf (Heap.IsGen.typeIs (s := { s5 with heap := _ }) (gty k1)) ?_)
  have h1 : Builtin.List.listSameRef (.ref s5.heap.objs.size) (.ref a) = false := by simp [Builtin.List.listSameRef, hSI]
  have h2 : (Value.type "generator" == Value.type "list") = false := by decide
  have h3 : (Value.type "generator" == Value.type "tuple") = false := by decide
  simp only [h1, h2, h3, Bool.or_false, Bool.false_eq_true, if_false]
  refine wpAny_bind (wpAny_pyIter_gen (s := { s5 with heap := _ }) (gty k1) ?_)
  refine wpAny_bind (wpAny_holding ?_)
  unfold Builtin.List.listLengthHint
  refine wpAny_bind (wpAny_specialOf (Heap.IsGen.typeIs (s := { s5 with heap := _ }) (gty k1)) F.gen_no_len ?_)
  show wpAny _ A.in1 (specialOf (Value.ref a) (Str.ofString "__length_hint__") >>= _) _ _ _
  refine wpAny_bind (wpAny_specialOf (Heap.IsGen.typeIs (s := { s5 with heap := _ }) (gty k1)) F.gen_no_hint ?_)
  refine wpAny_pure ?_
  show wpAny _ A.in1 (rule "list.extend.makes-room" >>= fun _ => Builtin.List.listTouch (.ref s5.heap.objs.size) >>= fun _ =>
    again (.builtin "list.extend.loop" ⟨[.ref s5.heap.objs.size, .ref a, .ref s5.heap.objs.size], []⟩)) _ _ _
  refine wpAny_bind (wpAny_rule ?_)
  have hS1 : (s5.heap.push { cls := .type "list", data := .seq ([] : List Value).toArray }).get? s5.heap.objs.size = some { cls := .type "list", data := .seq ([] : List Value).toArray } := Heap.get?_push_size _ rfl
  refine wpAny_bind ?_
  show wpAny _ A.in1 (updateSeq s5.heap.objs.size (·.push .none) >>= fun _ => updateSeq s5.heap.objs.size (·.pop)) _ _ _
  refine wpAny_bind (wpAny_updateSeq hS1 rfl ?_)
  have hS2 := Heap.get?_update_self (Obj.mapSeq (·.push Value.none)) hS1 rfl
  refine wpAny_updateSeq hS2 rfl ?_
  have hS3 := Heap.get?_update_self (Obj.mapSeq (·.pop)) hS2 rfl
  obtain ⟨c3, hS3⟩ : ∃ c, (((s5.heap.push { cls := .type "list", data := .seq ([] : List Value).toArray }).update s5.heap.objs.size (Obj.mapSeq (·.push Value.none))).update s5.heap.objs.size (Obj.mapSeq (·.pop))).get? s5.heap.objs.size = some (lstObj #[] c) := ⟨_, hS3⟩
  have oth : ∀ b o, s5.heap.get? b = some o →
      (((s5.heap.push { cls := .type "list", data := .seq ([] : List Value).toArray }).update s5.heap.objs.size (Obj.mapSeq (·.push Value.none))).update s5.heap.objs.size (Obj.mapSeq (·.pop))).get? b = some o :=
    fun b o e => (Heap.get?_update_other _ _ (Nat.ne_of_gt (Heap.lt_size e))).trans ((Heap.get?_update_other _ _ (Nat.ne_of_gt (Heap.lt_size e))).trans (k1 b o e))
  refine wpAny_pure ⟨plainId_quiet F.plain_extend_loop _, ?_⟩
  refine drain_gx (X := X) (pins := pins) (σ := σ) (gi := gi) (Q := fin) (pn := [(a, go)]) hr.hd (by have := hr.depth; exact this) (fun h hq => hg h (hq (a, go) (List.mem_singleton.mpr rfl))) (fun q hq => by rw [List.mem_singleton.mp hq]; exact Ne.symm hSI) hSc (fun ys acc c H' s' hl r e I' hq => ?_) sizeLine _ ?_
  · show wpAny _ A (load s5.heap.objs.size >>= _) _ _ s'
    refine wpAny_bind (wpAny_load e ?_)
    exact wpAny_pure (hQ ys acc.toList H' s' hl r I' hq)
  · have r2 : Room k A.in1.in1 := Room.in1 (Room.in1 hr)
    refine wake _ (cpS s5.heap.objs.size) [s5.heap.objs.size] _ _ W r2 hfr (ht _) hW (fun ys p hp => by obtain ⟨acc, c, rfl, _⟩ := hp; rfl) (by simp) _ [(s5.heap.objs.size, lstObj #[] c3)] oth rfl rfl ⟨#[], c3, rfl, .nil⟩ ?_
    intro q hq
    rw [List.mem_singleton.mp hq]
    exact ⟨hS3, fun v z => by cases z⟩

theorem gx_typeIs {k : Nat} {turn : (List V → Hp → Prop) → (List V → V → Hp → Prop) → (List V → Prop) → (Nat → Nat → List V → Hp → Prop) → Prop} {u : Value} (L : GxLive X pins σ k turn H2 u s5) : s5.TypeIs u "generator" := by
  obtain ⟨a, gi, go, rfl, ha, hg, hgi, wake⟩ := L
  exact Heap.IsGen.typeIs (hg _ ha)
theorem tuple_gx {k : Nat} {turn : (List V → Hp → Prop) → (List V → V → Hp → Prop) → (List V → Prop) → (Nat → Nat → List V → Hp → Prop) → Prop} {W : Nat → Nat → List V → Hp → Prop} {u : Value} {fin : List V → Hp → Prop} {Q : Value → Shared → Prop} {E : Value → Shared → Prop} (hr : Room (k + 5) X.A) (I : L2.Inv X pins σ H2 s5) (L : GxLive X pins σ k turn H2 u s5)
    (ht : ∀ Ok, turn fin (fun _ _ _ => True) Ok W) (hW : ∃ m, W 0 m [] H2) (hQ : ∀ ys p H' s', ys.length ≤ sizeLine → H' p = none → L2.Inv X pins σ (upd H' p (.tup ys)) s' → fin ys H' → Q (.ref p) s') : wpAny (model X.prog X.w) X.A (call (.type "tuple") [u]) Q E s5 := by
  have hT := gx_typeIs L
  obtain ⟨a, eu⟩ : ∃ a, u = .ref a := let ⟨a, _, _, e, _⟩ := L; ⟨a, e⟩
  subst eu
  have step : ∀ (A : Around), Room (k + 2) A.in1.in1 → A.frames = some X.stack → codeAny (model X.prog X.w) A (.call (.builtin "tuple.__new__") ⟨[.type "tuple", .ref a], []⟩) (wants (fun obj s₁ => s₁.TypeIs obj "tuple" ∧ Q obj s₁) E) s5 := by
    intro A hr2 hf2
    refine codeAny_of_tree ?_
    show wpAny _ A.in1 (do checkBuiltinCall "tuple.__new__" ⟨[.type "tuple", .ref a], []⟩; again (.builtin "tuple.__new__" ⟨[.type "tuple", .ref a], []⟩)) _ _ s5
    refine wpAny_bind (wpAny_of_eq (F.newCall_tuple_1 _) (wpAny_pure ⟨plainId_quiet F.plain_tuple_new _, codeAny_builtin F.entry_tuple_new ?_⟩))
    rw [Around.under_plainId F.plain_tuple_new _]
    have hsub := sub_tuple_self
    have hinit := init_tuple_lookup
    have hmh := madeHere_tuple
    wp_walk using wpAny_typeOf hT, collect_gx (A := A.in1) (Room.mono (by exact ⟨hr2.hd, hr2.dp, by have := hr2.un; have e : A.in1.in1.units = A.in1.units + 1 := rfl; omega⟩ : Room (k + 2) A.in1) (Nat.le_refl _)) hf2 I L ht hW
    intro ys acc H' s' hl r I' hq
    show wpAny _ _ (Builtin.Tuple.tupleExact acc.toArray >>= fun v => ret v) _ _ _
    unfold Builtin.Tuple.tupleExact
    have hsz : acc.length ≤ sizeLine := by rw [← r.length]; exact hl
    refine wpAny_bind (wpAny_newObj_type ?_ (by show acc.toArray.size ≤ sizeLine; simpa using hsz))
    refine wpAny_pure ?_
    have hpo : (s'.heap.push { cls := .type "tuple", data := .seq acc.toArray }).get? s'.heap.objs.size = some { cls := .type "tuple", data := .seq acc.toArray } := Heap.get?_push_size _ rfl
    refine ⟨⟨_, hpo, rfl⟩, ?_⟩
    refine hQ ys _ H' _ hl (I'.hok.fresh (Nat.le_refl _)) (I'.laid (t' := s'.toks) (fun b o e => Heap.get?_push_of_some _ e) (Nat.le_refl _) ⟨hl, acc, r, ?_⟩) hq
    exact ⟨_, hpo, rfl, _, rfl⟩
  refine callType_codes (Q₁ := fun obj s₁ => s₁.TypeIs obj "tuple" ∧ Q obj s₁) F.called_tuple (F.typeCall_tuple_1 _) F.entry_object_init (step _ ?_ ?_) fun obj s₁ h₁ => ?_
  · have r4 : Room (k + 2) X.A.in1.in1.in1 := Room.in1 (Room.in1 (Room.in1 hr))
    exact r4
  · exact I.ok.frames
  · exact ⟨h₁.1, F.args_object_init_2 obj _, object_init_meets F.called_tuple.init.lookup F.called_tuple.made (by decide) X.prog X.w X.A.in1 _ s₁ ⟨h₁.1, rfl, h₁.2⟩⟩
end
end DV
end
section
set_option Elab.async false
set_option linter.all false
set_option maxRecDepth 100000
set_option maxHeartbeats 2000000
namespace DV
open PySem L2 PyProof.Rows PySem.Spec GenW LamX

abbrev totObj (tot : Int) (t : Tok) (c : Nat) : Obj := { cls := .type "list", dict := none, data := .seq #[.int tot t] c, slots := #[] }
def cpT (S : Addr) : Cs := fun ys p => ∃ (ns : List Int) (t : Tok) (c : Nat), ys = ns.map V.int ∧ p = [(S, totObj ns.sum t c)]
section
variable {X : Cx} {pins : List (Addr × Obj)} {σ : L2.St} {H2 : Hp} {s5 : Shared}
theorem sum_loop_gx {A : Around} {a S : Addr} {gi : Nat} {pn : List (Addr × Obj)} {Q : List V → Hp → Prop} {R : Result → Shared → Prop} (hh : A.handled = none) (hd : A.depth < recursionLimit) (hpn : ∀ h : Heap, (∀ q ∈ pn, h.get? q.1 = some q.2) → h.IsGen a gi) (hS : ∀ q ∈ pn, q.1 ≠ S) (hSc : S ≠ cStatics)
    (hR : ∀ (ns : List Int) t H' s', L2.Inv X pins σ H' s' → Q (ns.map V.int) H' → R (.ok (.ret (.int ns.sum t))) s') : ∀ (n : Nat) (s : Shared) (tot : Int) (t : Tok) (c : Nat) (st : Int), (st = 0 ∨ st = 2) → s.heap.get? S = some (totObj tot t c) →
      GAlive X pins σ a gi pn (cpT S) Q (fun _ y _ => ∃ i, y = .int i) A.in1.in1 n s →
      codeAny (model X.prog X.w) A (.builtin "sum.loop" ⟨[.ref a, .ref S, rawInt st, rawInt 0], []⟩) R s := by
  have hpc : ∀ ys p, cpT S ys p → ∀ q ∈ pn, q.1 ∉ p.map (·.1) := fun ys p hp q hq => by
    obtain ⟨ns, t, c, _, rfl⟩ := hp
    simpa using hS q hq
  intro n
  induction n using Nat.strongRecOn with
  | ind n ih =>
    intro s tot t c st hst2 hS0 al
    refine codeAny_builtin F.entry_sum_loop ?_
    rw [Around.under_plainId F.plain_sum_loop _]
    show wpAny _ A.in1 (seqItems? (.ref S) >>= _) _ _ s
    refine wpAny_bind (wpAny_seqItems hS0 rfl ?_)
    show wpAny _ A.in1 (tryCatch (pyNext (.ref a)) _ >>= _) _ _ s
    refine wpAny_bind (wpAny_tryCatch (next_gx (A := A.in1) hh hd hpn hpc al (fun v x ys p H s3 hlt rv hp he I ho wake => ?_) fun ys p H s3 hl hp he I hq => ?_))
    · obtain ⟨ns, t', c', rfl, rfl⟩ := hp
      obtain ⟨e0, e3⟩ := he (S, totObj ns.sum t' c') (List.mem_singleton.mpr rfl)
      have e0 : s.heap.get? S = some (totObj ns.sum t' c') := e0
      rw [hS0] at e0
      injection e0 with e0
      injection e0 with _ _ e0 _
      injection e0 with e0 e9
      have e8 : (Value.int tot t) = .int ns.sum t' := by
        have := congrArg (fun a => a[0]?) e0
        simpa using this
      injection e8 with e8 e7
      subst e8 e7 e9
      obtain ⟨i, rfl⟩ := ho
      obtain ⟨ti, rfl⟩ := id rv
      have keep3 : ∀ (f : Obj → Obj) b o, b ≠ S → s3.heap.get? b = some o → (s3.heap.update S f).get? b = some o := fun f b o hbS e => (Heap.get?_update_other _ _ (Ne.symm hbS)).trans e
      have lim3 : ∀ f : Obj → Obj, (s3.heap.update S f).NoLimit := fun f => by
        obtain ⟨mc, hns, hnn⟩ := I.nolimit
        exact ⟨mc, hns.at' fun o e => keep3 f _ o (Ne.symm hSc) e, hnn⟩
      have hsum : (ns ++ [i]).sum = ns.sum + i := by simp
      have hmap : (ns.map V.int) ++ [V.int i] = (ns ++ [i]).map V.int := by simp
      have go : ∀ (st' : Int) (h' : Heap) (t' : Tok) (c' tk : Nat), (st' = 0 ∨ st' = 2) → h'.get? S = some (totObj (ns.sum + i) t' c') → (∀ b o, b ≠ S → s3.heap.get? b = some o → h'.get? b = some o) → h'.NoLimit →
          codeAny (model X.prog X.w) A (.builtin "sum.loop" ⟨[.ref a, .ref S, rawInt st', rawInt 0], []⟩) R { s3 with heap := h', toks := tk } := fun st' h' t' c' tk h1 h2 h3 h4 => by
        obtain ⟨m, rfl, al'⟩ := wake [(S, totObj (ns.sum + i) t' c')] h' tk ⟨ns ++ [i], t', c', hmap, by rw [hsum]⟩ rfl (fun q hq => by
          rw [List.mem_singleton.mp hq]
          exact ⟨h2, fun v z => by cases z⟩) (fun b o hb' eo => h3 b o (fun z => hb' (by simp [z])) eo) h4
        exact ih m (Nat.lt_succ_self m) _ _ t' c' st' h1 h2 al'
      rcases hst2 with rfl | rfl
      · show wpAny _ A.in1 (if (_ : Bool) = true then (mkInt (ns.sum + i) >>= _) else _) _ _ _
        split
        · refine wpAny_bind (wpAny_mkInt ?_)
          show wpAny _ A.in1 (updateSeq S (fun _ => #[.int (ns.sum + i) s3.toks]) >>= _) _ _ _
          refine wpAny_bind ?_
          exact wpAny_updateSeq e3 rfl (wpAny_pure ⟨plainId_quiet F.plain_sum_loop _, go 0 _ _ _ _ (.inl rfl) (Heap.get?_update_self _ e3 rfl) (keep3 _) (lim3 _)⟩)
        · refine wpAny_bind (wpAny_rule ?_)
          refine wpAny_bind (wpAny_attempt (wpAny_holding (wpAny_add_int ?_)))
          show wpAny _ A.in1 (updateSeq S (fun _ => #[.int (ns.sum + i) s3.toks]) >>= _) _ _ _
          refine wpAny_bind (wpAny_updateSeq e3 rfl ?_)
          have hS2 := Heap.get?_update_self (Obj.mapSeq fun _ => #[Value.int (ns.sum + i) s3.toks]) e3 rfl
          refine wpAny_bind (wpAny_letGo ?_)
          refine wpAny_bind (wpAny_updateSeq hS2 rfl (wpAny_pure ⟨plainId_quiet F.plain_sum_loop _, go 2 _ _ _ _ (.inr rfl) (Heap.get?_update_self _ hS2 rfl) (fun b o hb e => (Heap.get?_update_other _ _ (Ne.symm hb)).trans (keep3 _ b o hb e)) ?_⟩))
          obtain ⟨mc, hns, hnn⟩ := I.nolimit
          exact ⟨mc, hns.at' fun o e => (Heap.get?_update_other _ _ hSc).trans (keep3 _ _ o (Ne.symm hSc) e), hnn⟩
      · show wpAny _ A.in1 ((holding [Value.int i ti] (binaryOp .Add (.int ns.sum t) (.int i ti))).attempt >>= _) _ _ _
        refine wpAny_bind (wpAny_attempt (wpAny_holding (wpAny_add_int ?_)))
        show wpAny _ A.in1 (updateSeq S (fun _ => #[.int (ns.sum + i) s3.toks]) >>= _) _ _ _
        refine wpAny_bind (wpAny_updateSeq e3 rfl ?_)
        have hS2 := Heap.get?_update_self (Obj.mapSeq fun _ => #[Value.int (ns.sum + i) s3.toks]) e3 rfl
        refine wpAny_bind (wpAny_letGo ?_)
        refine wpAny_bind (wpAny_updateSeq hS2 rfl (wpAny_pure ⟨plainId_quiet F.plain_sum_loop _, go 2 _ _ _ _ (.inr rfl) (Heap.get?_update_self _ hS2 rfl) (fun b o hb e => (Heap.get?_update_other _ _ (Ne.symm hb)).trans (keep3 _ b o hb e)) ?_⟩))
        obtain ⟨mc, hns, hnn⟩ := I.nolimit
        exact ⟨mc, hns.at' fun o e => (Heap.get?_update_other _ _ hSc).trans (keep3 _ _ o (Ne.symm hSc) e), hnn⟩
    · obtain ⟨ns, t', c', rfl, rfl⟩ := hp
      obtain ⟨e0, e3⟩ := he (S, totObj ns.sum t' c') (List.mem_singleton.mpr rfl)
      have e0 : s.heap.get? S = some (totObj ns.sum t' c') := e0
      rw [hS0] at e0
      injection e0 with e0
      injection e0 with _ _ e0 _
      injection e0 with e0 e9
      have e8 : (Value.int tot t) = .int ns.sum t' := by
        have := congrArg (fun a => a[0]?) e0
        simpa using this
      injection e8 with e8 e7
      subst e8 e7
      exact wpAny_pure (hR ns t H s3 I hq)
theorem sum_gx {k : Nat} {turn : (List V → Hp → Prop) → (List V → V → Hp → Prop) → (List V → Prop) → (Nat → Nat → List V → Hp → Prop) → Prop} {W : Nat → Nat → List V → Hp → Prop} {u : Value} {fin : List V → Hp → Prop} {Q' : Value → Shared → Prop} {E : Value → Shared → Prop} (hr : Room (k + 3) X.A) (I : L2.Inv X pins σ H2 s5) (L : GxLive X pins σ k turn H2 u s5)
    (ht : ∀ Ok, turn fin (fun _ y _ => ∃ i, y = .int i) Ok W) (hW : ∃ m, W 0 m [] H2) (hQ : ∀ (ns : List Int) t H' s', L2.Inv X pins σ H' s' → fin (ns.map V.int) H' → Q' (.int ns.sum t) s') : wpAny (model X.prog X.w) X.A (call (.builtin "sum") [u]) Q' E s5 := by
  obtain ⟨a, gi, go, rfl, ha, hg, hgi, wake⟩ := L
  have haS : a < s5.heap.objs.size := Heap.lt_size ha
  have hSI : s5.heap.objs.size ≠ a := Nat.ne_of_gt haS
  have hSc : s5.heap.objs.size ≠ cStatics := Nat.ne_of_gt (let ⟨_, hns, _⟩ := I.nolimit; hns.lt)
  refine call_function_tree F.kind_sum F.plain_sum F.entry_sum (F.args_sum1 _) ?_
  unfold Builtin.«sum»
  simp only [List.length_cons, List.length_nil]
  rw [if_neg (by decide)]
  refine wpAny_bind (wpAny_of_eq (show Builtin.Builtins.bindParams "sum" ["start"] 0 { } = pure [none] from rfl) ?_)
  refine wpAny_bind (wpAny_pyIter_gen (hg _ ha) ?_)
  refine wpAny_bind (wpAny_mkInt ?_)
  refine wpAny_bind (wpAny_pure ?_)
  simp only [List.forIn_cons, List.forIn_nil]
  refine wpAny_bind (wpAny_bind (wpAny_bind (wpAny_isInstance (T := "int") (b := false) (typeIs_int _ _ _) PySem.sub_int_str ?_)))
  simp only [Bool.false_eq_true, if_false]
  refine wpAny_pure (wpAny_bind (wpAny_bind (wpAny_isInstance (T := "int") (b := false) (typeIs_int _ _ _) PySem.sub_int_bytes ?_)))
  simp only [Bool.false_eq_true, if_false]
  refine wpAny_pure (wpAny_bind (wpAny_bind (wpAny_isInstance (T := "int") (b := false) (typeIs_int _ _ _) PySem.sub_int_bytearray ?_)))
  simp only [Bool.false_eq_true, if_false]
  refine wpAny_pure (wpAny_pure ?_)
  refine wpAny_bind (wpAny_newObj_type ?_)
  have hpo : (s5.heap.push (totObj 0 s5.toks 0)).get? s5.heap.objs.size = some (totObj 0 s5.toks 0) := Heap.get?_push_size _ rfl
  refine wpAny_pure ⟨plainId_quiet F.plain_sum_loop _, sum_loop_gx (X := X) (pins := pins) (σ := σ) (gi := gi) (Q := fin) (pn := [(a, go)]) hr.hd (by have := hr.depth; exact this) (fun h hq => hg h (hq (a, go) (List.mem_singleton.mpr rfl)))
    (fun q hq => by rw [List.mem_singleton.mp hq]; exact Ne.symm hSI) hSc (fun ns t H' s' I' hq => hQ ns t H' s' I' hq) sizeLine _ 0 s5.toks 0 0 (.inl rfl) hpo ?_⟩
  have r3 : Room k X.A.in1.in1 := Room.in1 (Room.in1 (hr.mono (by omega)))
  refine wake _ (cpT s5.heap.objs.size) [s5.heap.objs.size] _ _ W r3 I.ok.frames (ht _) hW (fun ys p hp => by obtain ⟨ns, t, c, _, rfl⟩ := hp; rfl) (by simp) _ [(s5.heap.objs.size, totObj 0 s5.toks 0)] (fun b o e => Heap.get?_push_of_some _ e) rfl rfl ⟨[], s5.toks, 0, rfl, rfl⟩ ?_
  intro q hq
  rw [List.mem_singleton.mp hq]
  exact ⟨hpo, fun v z => by cases z⟩
end
end DV
end
section
set_option Elab.async false
set_option linter.all false
set_option maxRecDepth 100000
set_option maxHeartbeats 2000000
namespace DV
open PySem L2 PyProof.Rows PySem.Spec GenW LamX

/-- a generator expression, run by its consumer: tk: what the consumer makes of an item, and if it goes on -/
def gxN {S : Type} (it : IT) (mg : MG) (mt : MT) (me : ME) (tk : S → D → Option (S × Bool)) : Nat → Nat → AS → S → AH → Rv S
  | 0, _, _, _, _ => .stuck
  | n + 1, i, σ, st, h => match it i h with
    | .stop => .ok st h
    | .bad => .stuck
    | .go d => match mg d σ h with
      | .ok σ1 h1 => bindR (noX (mt σ1 h1)) fun k h2 => if k = true then bindR (noX (me σ1 h2)) fun y h3 => match tk st y with
          | none => .stuck
          | some (st', true) => gxN it mg mt me tk n (i + 1) σ st' h3
          | some (st', false) => .ok st' h3
          else gxN it mg mt me tk n (i + 1) σ st h2
      | _ => .stuck
def mGx {S : Type} (mi : MI) (vs : List Nat) (mg : MG) (mt : MT) (me : ME) (tk : S → D → Option (S × Bool)) (st : S) (fk : S → AH → Rv D) : ME := fun σ h => bindR (mi σ h) fun it h1 => bindR (gxN it mg mt me tk sizeLine 0 (wipeA σ vs) st h1) fk
section
variable {X : Cx} {g : G} {W : WX} {F1 : Kn} {ι1 : List Addr} {mi : MI} {mg : MG} {mt : MT} {me : ME} {is vs : List Nat} {S : Type} {tk : S → D → Option (S × Bool)} {fk : S → AH → Rv D}
def gFin (g : G) (W : WX) (F1 : Kn) (ι1 : List Addr) (σv : L2.St) (fk : S → AH → Rv D) (rel : S → Kn → List Addr → List V → Prop) (Q : VK) : List V → Hp → Prop := fun ys H =>
  ∃ F ι h st, Le F1 ι1 F ι ∧ HR g F ι h H ∧ rel st F ι ys ∧ Post g W F1 ι1 σv (VR g) (fk st h) Q
def gOut (g : G) (W : WX) (F1 : Kn) (ι1 : List Addr) (σv : L2.St) (tk : S → D → Option (S × Bool)) (fk : S → AH → Rv D) (rel : S → Kn → List Addr → List V → Prop) (Q : VK) : List V → V → Hp → Prop := fun ys y H =>
  ∃ F ι h st d st' b, Le F1 ι1 F ι ∧ HR g F ι h H ∧ rel st F ι ys ∧ VR g F ι d y ∧ tk st d = some (st', b) ∧ (b = false → Post g W F1 ι1 σv (VR g) (fk st' h) Q)
theorem gx_turn {σ : AS} {σv : L2.St} {it : IT} {J : It} {rel : S → Kn → List Addr → List V → Prop} {Ok : List V → Prop} {Q : VK} (hs : ∀ i ∈ is, i ∈ vs) (lr1 : LR g F1 ι1 σ σv) (r1 : JR g F1 ι1 it J)
    (rm : ∀ st F ι F' ι' ys, Le F ι F' ι' → rel st F ι ys → rel st F' ι' ys) (ok : ∀ st d st' b F ι ys y, tk st d = some (st', b) → rel st F ι ys → VR g F ι d y → Ok (ys ++ [y]) → b = true ∧ rel st' F ι (ys ++ [y])) :
    gxTurn (tG g W0 is mg) (tT g W0 mt) (tE g W0 me) vs σv J (gFin g W F1 ι1 σv fk rel Q) (gOut g W F1 ι1 σv tk fk rel Q) Ok
      (fun i m ys H => i + m = sizeLine ∧ ys.length ≤ i ∧ ∃ F ι h st, Le F1 ι1 F ι ∧ HR g F ι h H ∧ rel st F ι ys ∧ Post g W F1 ι1 σv (VR g) (bindR (gxN it mg mt me tk m i (wipeA σ vs) st h) fk) Q) := by
  rintro i m ys H ⟨him, hyi, F, ι, h, st, lf, hr, rl, p⟩
  cases m with
  | zero => exact p.elim
  | succ n =>
    have hj := r1 _ ι i h H lf.toLf hr
    unfold gxN at p
    revert p hj
    cases it i h with
    | stop => exact fun hj p => .inl ⟨hj, F, ι, h, st, lf, hr, rl, p⟩
    | bad => exact fun _ p => p.elim
    | go d =>
      intro hj p
      obtain ⟨go, yld⟩ := hj
      refine .inr ⟨go, fun ys' H' => i + 1 + n = sizeLine ∧ ys'.length ≤ i + 1 ∧ ∃ F ι h st, Le F1 ι1 F ι ∧ HR g F ι h H' ∧ rel st F ι ys' ∧ Post g W F1 ι1 σv (VR g) (bindR (gxN it mg mt me tk n (i + 1) (wipeA σ vs) st h) fk) Q,
        fun ys' H' w => ⟨n, Nat.lt_succ_self n, w⟩, fun x H' hy => ?_⟩
      obtain ⟨F2, l2, hr2, r2⟩ := yld x H' hy
      have lr2 : LR g F2 ι (wipeA σ vs) (L2.wipe σv vs) := ((lr1.mono lf).mono l2).wipe vs
      refine ⟨F2, ι, wipeA σ vs, h, d, hr2, lr2, r2, ?_⟩
      revert p
      dsimp only
      cases mg d (wipeA σ vs) h with
      | ok σ3 h3 =>
        intro p F3 ι3 H3 σv3 l3 hr3 lr3 sb3
        refine ⟨wipe_same2 sb3 hs, ?_⟩
        have lf3 := lf.trans (l2.trans l3)
        have rl3 := rm _ _ _ _ _ _ (l2.trans l3) rl
        have p' : Post g W F1 ι1 σv (VR g) (bindR (bindR (noX (mt σ3 h3)) fun k h2 => if k = true then bindR (noX (me σ3 h2)) fun y h3 => match tk st y with
          | none => .stuck
          | some (st', true) => gxN it mg mt me tk n (i + 1) (wipeA σ vs) st' h3
          | some (st', false) => .ok st' h3
          else gxN it mg mt me tk n (i + 1) (wipeA σ vs) st h2) fk) Q := p
        rw [bindR_assoc] at p'
        clear p
        refine ⟨F3, ι3, σ3, h3, hr3, lr3, ?_⟩
        revert p'
        cases mt σ3 h3 with
        | exc c h4 => exact fun p => p.elim
        | stuck => exact fun p => p.elim
        | ok k h4 =>
          intro p F4 ι4 H4 b l4 hr4 eb
          subst eb
          have lf4 := lf3.trans l4
          have rl4 := rm _ _ _ _ _ _ l4 rl3
          have p : Post g W F1 ι1 σv (VR g) (bindR (if b = true then bindR (noX (me σ3 h4)) fun y h3 => match tk st y with
            | none => .stuck
            | some (st', true) => gxN it mg mt me tk n (i + 1) (wipeA σ vs) st' h3
            | some (st', false) => .ok st' h3
            else gxN it mg mt me tk n (i + 1) (wipeA σ vs) st h4) fk) Q := p
          by_cases hb : b = true
          · rw [if_pos hb] at p ⊢
            refine ⟨F4, ι4, σ3, h4, hr4, lr3.mono l4, ?_⟩
            revert p
            cases me σ3 h4 with
            | exc c h5 => exact fun p => p.elim
            | stuck => exact fun p => p.elim
            | ok y h5 =>
              intro p F5 ι5 H5 u l5 hr5 r5
              have lf5 := lf4.trans l5
              have rl5 := rm _ _ _ _ _ _ l5 rl4
              have p : Post g W F1 ι1 σv (VR g) (bindR (match tk st y with
                | none => .stuck
                | some (st', true) => gxN it mg mt me tk n (i + 1) (wipeA σ vs) st' h5
                | some (st', false) => .ok st' h5) fk) Q := p
              refine ⟨by omega, ?_⟩
              cases e : tk st y with
              | none =>
                rw [e] at p
                exact p.elim
              | some q =>
                obtain ⟨st', b'⟩ := q
                rw [e] at p
                refine ⟨⟨F5, ι5, h5, st, y, st', b', lf5, hr5, rl5, r5, e, fun z => ?_⟩, fun hok => ?_⟩
                · subst z
                  exact p
                · obtain ⟨z, rl6⟩ := ok st y st' b' F5 ι5 ys u e rl5 r5 hok
                  subst z
                  exact ⟨by omega, by rw [List.length_append]; simp only [List.length_cons, List.length_nil]; omega, F5, ι5, h5, st', lf5, hr5, rl6, p⟩
          · rw [if_neg hb] at p ⊢
            exact ⟨by omega, by omega, F4, ι4, h4, st, lf4, hr4, rl4, p⟩
      | exc c h3 => exact fun p => p.elim
      | stuck => exact fun p => p.elim
end
end DV
end
section
set_option Elab.async false
set_option linter.all false
set_option maxRecDepth 100000
set_option maxHeartbeats 2000000
namespace DV
open PySem L2 PyProof.Rows PySem.Spec GenW LamX

/-- an expression that makes a generator -/
structure GxP (X : Cx) (g : G) (W : WX) (k : Nat) (e : Expr) (mi : MI) (vs is : List Nat) (mg : MG) (mt : MT) (me : ME) : Prop where
  sub : ∀ i ∈ is, i ∈ vs
  run : ∀ (pins : List (Addr × Obj)) (s : Shared) (σv : L2.St) (H : Hp) (R : It → Hp → Prop) (Q' : Value → Shared → Prop), L2.Inv X pins σv H s → tI g W mi σv H R →
    (∀ (J : It) (H1 H2 : Hp) (u : Value) (s5 : Shared), R J H1 → ExtN H1 H2 → g.Ti H2 → L2.Inv X pins σv H2 s5 → GxLive X pins σv (k + 1) (gxTurn (tG g W0 is mg) (tT g W0 mt) (tE g W0 me) vs σv J) H2 u s5 → Q' u s5) →
      wpAny (model X.prog X.w) X.A (eval e X.env) Q' X.xe s
section
variable {X : Cx} {g : G} {W : WX} {mi : MI} {mg : MG} {mt : MT} {me : ME} {is vs : List Nat} {k : Nat} {e : Expr}
theorem gxp_of {T : List (Addr × Str)} {c P : Addr} {elt tg iter : Expr} {ifs : List Expr} {scope : Scope} {own : List (Str × Nat)} {pos : Pos} (hTi : g.Ti = Tabs T) (hd : X.A.depth < recursionLimit) (TB : TabB X.base X.mg c P) (hcode : X.env.code = .ref c)
    (hm : (P, X.env.qual ++ "<genexpr>") ∈ T) (hu : ∀ p ∈ T, p.1 = P → p.2 = X.env.qual ++ "<genexpr>") (hN : X.N.Nodup) (ok : BlkOk X.N X.env.scope scope own) (hvs : own.map (·.2) = vs) (hsub : ∀ i ∈ is, i ∈ vs)
    (hcell : ∀ y ∈ scope.names, y.2 ≠ .cell) (hco : scope.isCoroutine = false) (h0 : scope.names.lookup (".0" : Str) = some NameKind.local) (hi : PI X tg iter (tI g W mi))
    (hg : ∀ (A : Around) (s : Shared) (H : Hp) (C : Addr) (code : Value) (fp : List Addr) (pn : List (Addr × Obj)), PG (gxCx X A s H scope C code fp pn) tg (tG g W0 is mg))
    (ht : ∀ (A : Around) (s : Shared) (H : Hp) (C : Addr) (code : Value) (fp : List Addr) (pn : List (Addr × Obj)), Room k (gxCx X A s H scope C code fp pn).A → PTs (gxCx X A s H scope C code fp pn) ifs (tT g W0 mt))
    (he : ∀ (A : Around) (s : Shared) (H : Hp) (C : Addr) (code : Value) (fp : List Addr) (pn : List (Addr × Obj)), Room k (gxCx X A s H scope C code fp pn).A → PE (gxCx X A s H scope C code fp pn) elt (tE g W0 me))
    (hs : ∀ x, genFold iter X.env x = pure x := by intro _; rfl) : GxP X g W k (.GeneratorExp elt [⟨tg, iter, ifs, 0⟩] scope pos) mi vs is mg mt me := by
  subst hvs
  refine ⟨hsub, fun pins s σv H R Q' I hw h => ?_⟩
  refine gx_make (R := R) hd I TB hcode hm hu hN ok hcell hco h0 hi hg ht he hs ?_ fun J H1 H2 u s5 hR hE hT I5 L => h J H1 H2 u s5 hR hE (by rw [hTi]; exact hT) I5 L
  obtain ⟨F, ι, σ, h1, hr, lr, p⟩ := hw
  refine ⟨F, ι, σ, h1, hr, lr, ?_⟩
  revert p
  cases mi σ h1 with
  | ok it h2 => exact fun p F' ι' H' J l hr' r => ⟨by rw [← hTi]; exact hr'.ti, p F' ι' H' J l hr' r⟩
  | exc c h2 => exact fun p => p
  | stuck => exact fun p => p
/-- what stands where the generator has been made -/
def gMid {S : Type} (g : G) (W : WX) (σv : L2.St) (mg : MG) (mt : MT) (me : ME) (vs : List Nat) (tk : S → D → Option (S × Bool)) (st : S) (fk : S → AH → Rv D) (Q : VK) : It → Hp → Prop := fun J H1 =>
  ∃ F1 ι1 σ h1 it, HR g F1 ι1 h1 H1 ∧ LR g F1 ι1 σ σv ∧ JR g F1 ι1 it J ∧ Post g W F1 ι1 σv (VR g) (bindR (gxN it mg mt me tk sizeLine 0 (wipeA σ vs) st h1) fk) Q
theorem gx_in {S : Type} {tk : S → D → Option (S × Bool)} {st : S} {fk : S → AH → Rv D} {σv : L2.St} {H : Hp} {Q : VK} (h : tE g W (mGx mi vs mg mt me tk st fk) σv H Q) : tI g W mi σv H (gMid g W σv mg mt me vs tk st fk Q) := by
  obtain ⟨F, ι, σ, h, hr, lr, p⟩ := h
  exact tM_bind (f := fun σ it h1 => bindR (gxN it mg mt me tk sizeLine 0 (wipeA σ vs) st h1) fk) hr lr p fun F1 ι1 H1 it h1 J l hr1 lr1 r1 p1 => ⟨F1, ι1, σ, h1, it, hr1, lr1, r1, p1⟩
/-- .. and its turns -/
theorem gx_go {S : Type} {tk : S → D → Option (S × Bool)} {st : S} {fk : S → AH → Rv D} {σv : L2.St} {H1 H2 : Hp} {J : It} {Q : VK} {rel : S → Kn → List Addr → List V → Prop} (G : GxP X g W k e mi vs is mg mt me) (m : gMid g W σv mg mt me vs tk st fk Q J H1) (hE : ExtN H1 H2) (hT : g.Ti H2)
    (rm : ∀ st F ι F' ι' ys, Le F ι F' ι' → rel st F ι ys → rel st F' ι' ys) (r0 : ∀ F ι, rel st F ι []) :
    ∃ F1 ι1 W', (∃ m, W' 0 m [] H2) ∧ ∀ Ok : List V → Prop, (∀ st d st' b F ι ys y, tk st d = some (st', b) → rel st F ι ys → VR g F ι d y → Ok (ys ++ [y]) → b = true ∧ rel st' F ι (ys ++ [y])) →
      gxTurn (tG g W0 is mg) (tT g W0 mt) (tE g W0 me) vs σv J (gFin g W F1 ι1 σv fk rel Q) (gOut g W F1 ι1 σv tk fk rel Q) Ok W' := by
  obtain ⟨F1, ι1, σ, h1, it, hr1, lr1, r1, p1⟩ := m
  exact ⟨F1, ι1, _, ⟨sizeLine, Nat.zero_add _, Nat.le_refl _, F1, ι1, h1, st, .refl, hr1.ext hE hT, r0 _ _, p1⟩, fun Ok ok => gx_turn G.sub lr1 r1 rm ok⟩

theorem tM_mono {α β : Type} {rel : Kn → List Addr → α → β → Prop} {m : AS → AH → Rv α} {σv : L2.St} {H : Hp} {Q Q' : β → Hp → Prop} (h : tM g W rel m σv H Q) (k : ∀ v H', Q v H' → Q' v H') : tM g W rel m σv H Q' := by
  obtain ⟨F, ι, σ, h, hr, lr, p⟩ := h
  refine ⟨F, ι, σ, h, hr, lr, ?_⟩
  revert p
  cases m σ h with
  | ok a h1 => exact fun p F' ι' H' v l hr' r => k _ _ (p F' ι' H' v l hr' r)
  | exc c h1 => exact fun p => p
  | stuck => exact fun p => p
theorem tG_mono {m : MG} {v : V} {σv : L2.St} {H : Hp} {Q Q' : L2.St → Hp → Prop} (h : tG g W is m v σv H Q) (k : ∀ σ H', Q σ H' → Q' σ H') : tG g W is m v σv H Q' := by
  obtain ⟨F, ι, σ, h, d, hr, lr, rv, p⟩ := h
  refine ⟨F, ι, σ, h, d, hr, lr, rv, ?_⟩
  revert p
  cases m d σ h with
  | ok a h1 => exact fun p F' ι' H' v l hr' r sb => k _ _ (p F' ι' H' v l hr' r sb)
  | exc c h1 => exact fun p => p
  | stuck => exact fun p => p
def tkAny (st : Bool) (d : D) : Option (Bool × Bool) := match d with | .bl true => some (true, false) | .bl false => some (false, true) | _ => none
def tkAll (st : Bool) (d : D) : Option (Bool × Bool) := match d with | .bl true => some (true, true) | .bl false => some (false, false) | _ => none
def tkCol (st : List D) (d : D) : Option (List D × Bool) := some (st ++ [d], true)
def tkSum (st : Int) (d : D) : Option (Int × Bool) := match d with | .int i => some (st + i, true) | _ => none
def fkB (b : Bool) (h : AH) : Rv D := .ok (.bl b) h
def fkT (ds : List D) (h : AH) : Rv D := .ok (.tup ds) h
def fkI (i : Int) (h : AH) : Rv D := .ok (.int i) h
theorem tkAny_some {st st' b : Bool} {d : D} (h : tkAny st d = some (st', b)) : d = .bl st' ∧ b = !st' := by
  unfold tkAny at h
  split at h <;> cases h <;> exact ⟨rfl, rfl⟩
theorem tkAll_some {st st' b : Bool} {d : D} (h : tkAll st d = some (st', b)) : d = .bl st' ∧ b = st' := by
  unfold tkAll at h
  split at h <;> cases h <;> exact ⟨rfl, rfl⟩
theorem tkSum_some {st st' : Int} {b : Bool} {d : D} (h : tkSum st d = some (st', b)) : ∃ i, d = .int i ∧ st' = st + i ∧ b = true := by
  unfold tkSum at h
  split at h <;> cases h
  exact ⟨_, rfl, rfl, rfl⟩
variable {p pos : Pos} {elt : Expr} {gs : List Comprehension} {scope : Scope} {gpos : Pos}
theorem em_any (hr : Room (k + 4) X.A) (hg : Gl X "any") (hm : X.mg "any" = none) (G : GxP X g W k (.GeneratorExp elt gs scope gpos) mi vs is mg mt me)
    (he : starEach [.GeneratorExp elt gs scope gpos] X.env = (false, eval (.GeneratorExp elt gs scope gpos) X.env) :: starEach [] X.env := by rfl) :
    PE X (.Call (.Name "any" p) [.GeneratorExp elt gs scope gpos] [] pos) (tE g W (mGx mi vs mg mt me tkAny false fkB)) := by
  refine ⟨fun pins s σ H Q I h => ?_⟩
  refine wpAny_Call_Name_kw (ld_blt I hg hm boot_any ?_)
  refine PyProof.Rows.callWith_builtin1 ?_ he (by rfl)
  rw [he]
  show wpAny _ _ (spliced ((false, eval (.GeneratorExp elt gs scope gpos) X.env) :: backTo pos (starEach [] X.env))) _ _ s
  refine Calls.spliced_cons (G.run pins s σ H _ _ I (gx_in h) fun J H1 H2 u s5 hR hE hT I5 L => ?_)
  refine Calls.spliced_nil ?_
  obtain ⟨F1, ι1, W', hW', turn⟩ := gx_go (rel := fun st _ _ ys => st = false ∧ ∀ y ∈ ys, y = .bl false) G hR hE hT (fun _ _ _ _ _ _ _ r => r) fun _ _ => ⟨rfl, by simp⟩
  have t2 := turn (fun ys => ∃ p, cpB false ys p) fun st d st' b F ι ys y h1 h2 h3 h4 => by
    obtain ⟨p, _, h4⟩ := h4
    obtain ⟨rfl, rfl⟩ := tkAny_some h1
    simp only [VR] at h3
    have := h4 y (by simp)
    rw [h3] at this
    cases this
    exact ⟨rfl, rfl, h4⟩
  refine any_gx (Q := fun b H => Q (.bl b) H) hr I5 L ?_ hW' fun b H' s' I' hq => ⟨.bl b, H', I', rfl, hq⟩
  intro i m ys H hw
  rcases t2 i m ys H hw with ⟨a, F, ι, h, st, lf, hr', rl, p⟩ | ⟨a, Nx, b1, b2⟩
  · refine .inl ⟨a, ?_⟩
    obtain ⟨rfl, _⟩ := rl
    exact p F ι H (.bl false) lf hr' (by simp [VR])
  · refine .inr ⟨a, Nx, b1, fun x H' hy => ?_⟩
    exact tG_mono (b2 x H' hy) fun σ2 H2 ⟨c1, c2⟩ => ⟨c1, tM_mono c2 fun b H3 c3 => by
      cases b with
      | false => exact c3
      | true =>
        simp only [if_true] at c3 ⊢
        exact tM_mono c3 fun y H4 ⟨d1, ⟨F, ι, h, st, d, st', b, lf, hr', rl, rv, e, q⟩, d3⟩ => ⟨d1, by
          obtain ⟨rfl, rfl⟩ := tkAny_some e
          simp only [VR] at rv
          exact ⟨st', rv, fun z => by
            subst z
            exact q rfl F ι H4 (.bl true) lf hr' (by simp [VR])⟩, d3⟩⟩
theorem em_all (hr : Room (k + 4) X.A) (hg : Gl X "all") (hm : X.mg "all" = none) (hb : bootBuiltins "all" = some (.builtin "all")) (G : GxP X g W k (.GeneratorExp elt gs scope gpos) mi vs is mg mt me)
    (he : starEach [.GeneratorExp elt gs scope gpos] X.env = (false, eval (.GeneratorExp elt gs scope gpos) X.env) :: starEach [] X.env := by rfl) :
    PE X (.Call (.Name "all" p) [.GeneratorExp elt gs scope gpos] [] pos) (tE g W (mGx mi vs mg mt me tkAll true fkB)) := by
  refine ⟨fun pins s σ H Q I h => ?_⟩
  refine wpAny_Call_Name_kw (ld_blt I hg hm hb ?_)
  refine PyProof.Rows.callWith_builtin1 ?_ he (by rfl)
  rw [he]
  show wpAny _ _ (spliced ((false, eval (.GeneratorExp elt gs scope gpos) X.env) :: backTo pos (starEach [] X.env))) _ _ s
  refine Calls.spliced_cons (G.run pins s σ H _ _ I (gx_in h) fun J H1 H2 u s5 hR hE hT I5 L => ?_)
  refine Calls.spliced_nil ?_
  obtain ⟨F1, ι1, W', hW', turn⟩ := gx_go (rel := fun st _ _ ys => st = true ∧ ∀ y ∈ ys, y = .bl true) G hR hE hT (fun _ _ _ _ _ _ _ r => r) fun _ _ => ⟨rfl, by simp⟩
  have t2 := turn (fun ys => ∃ p, cpB true ys p) fun st d st' b F ι ys y h1 h2 h3 h4 => by
    obtain ⟨p, _, h4⟩ := h4
    obtain ⟨rfl, rfl⟩ := tkAll_some h1
    simp only [VR] at h3
    have := h4 y (by simp)
    rw [h3] at this
    cases this
    exact ⟨rfl, rfl, h4⟩
  refine all_gx (Q := fun b H => Q (.bl b) H) hr I5 L ?_ hW' fun b H' s' I' hq => ⟨.bl b, H', I', rfl, hq⟩
  intro i m ys H hw
  rcases t2 i m ys H hw with ⟨a, F, ι, h, st, lf, hr', rl, p⟩ | ⟨a, Nx, b1, b2⟩
  · refine .inl ⟨a, ?_⟩
    obtain ⟨rfl, _⟩ := rl
    exact p F ι H (.bl true) lf hr' (by simp [VR])
  · refine .inr ⟨a, Nx, b1, fun x H' hy => ?_⟩
    exact tG_mono (b2 x H' hy) fun σ2 H2 ⟨c1, c2⟩ => ⟨c1, tM_mono c2 fun b H3 c3 => by
      cases b with
      | false => exact c3
      | true =>
        simp only [if_true] at c3 ⊢
        exact tM_mono c3 fun y H4 ⟨d1, ⟨F, ι, h, st, d, st', b, lf, hr', rl, rv, e, q⟩, d3⟩ => ⟨d1, by
          obtain ⟨rfl, e2⟩ := tkAll_some e
          simp only [VR] at rv
          exact ⟨st', rv, fun z => by
            subst z
            exact q e2 F ι H4 (.bl false) lf hr' (by simp [VR])⟩, d3⟩⟩

theorem em_tupG (hr : Room (k + 6) X.A) (hg : Gl X "tuple") (hm : X.mg "tuple" = none) (hb : bootBuiltins "tuple" = some (.type "tuple")) (t : TiOk g) (G : GxP X g W k (.GeneratorExp elt gs scope gpos) mi vs is mg mt me)
    (he : starEach [.GeneratorExp elt gs scope gpos] X.env = (false, eval (.GeneratorExp elt gs scope gpos) X.env) :: starEach [] X.env := by rfl) :
    PE X (.Call (.Name "tuple" p) [.GeneratorExp elt gs scope gpos] [] pos) (tE g W (mGx mi vs mg mt me tkCol [] fkT)) := by
  refine ⟨fun pins s σ H Q I h => ?_⟩
  refine wpAny_Call_Name_kw (ld_blt I hg hm hb ?_)
  refine PyProof.Rows.callWith_type1 ?_ he (by rfl)
  rw [he]
  show wpAny _ _ (spliced ((false, eval (.GeneratorExp elt gs scope gpos) X.env) :: backTo pos (starEach [] X.env))) _ _ s
  refine Calls.spliced_cons (G.run pins s σ H _ _ I (gx_in h) fun J H1 H2 u s5 hR hE hT I5 L => ?_)
  refine Calls.spliced_nil ?_
  obtain ⟨F1, ι1, W', hW', turn⟩ := gx_go (rel := fun st F ι ys => VRs g F ι st ys) G hR hE hT (fun _ _ _ _ _ _ l r => VRs.mono l _ _ r) fun _ _ => by simp [VRs]
  refine tuple_gx (fin := gFin g W F1 ι1 σ fkT (fun st F ι ys => VRs g F ι st ys) Q) hr I5 L (fun Ok => ?_) hW' fun ys p H' s' hl hp I' hq => ?_
  · have t2 := turn Ok fun st d st' b F ι ys y h1 h2 h3 _ => by
      cases h1
      exact ⟨rfl, h2.append (VRs.one h3)⟩
    intro i m ys H hw
    rcases t2 i m ys H hw with ⟨a, b⟩ | ⟨a, Nx, b1, b2⟩
    · exact .inl ⟨a, b⟩
    · refine .inr ⟨a, Nx, b1, fun x H' hy => ?_⟩
      exact tG_mono (b2 x H' hy) fun σ2 H2 ⟨c1, c2⟩ => ⟨c1, tM_mono c2 fun b H3 c3 => by
        cases b with
        | false => exact c3
        | true =>
          simp only [if_true] at c3 ⊢
          exact tM_mono c3 fun y H4 ⟨d1, _, d3⟩ => ⟨d1, trivial, d3⟩⟩
  · obtain ⟨F, ι, h, st, lf, hr', rl, q⟩ := hq
    exact ⟨.ref p, _, I', rfl, mkT_ok t hr' rl (q.le lf) p hp⟩
theorem em_sumG (hr : Room (k + 4) X.A) (hg : Gl X "sum") (hm : X.mg "sum" = none) (hb : bootBuiltins "sum" = some (.builtin "sum")) (G : GxP X g W k (.GeneratorExp elt gs scope gpos) mi vs is mg mt me)
    (he : starEach [.GeneratorExp elt gs scope gpos] X.env = (false, eval (.GeneratorExp elt gs scope gpos) X.env) :: starEach [] X.env := by rfl) :
    PE X (.Call (.Name "sum" p) [.GeneratorExp elt gs scope gpos] [] pos) (tE g W (mGx mi vs mg mt me tkSum 0 fkI)) := by
  refine ⟨fun pins s σ H Q I h => ?_⟩
  refine wpAny_Call_Name_kw (ld_blt I hg hm hb ?_)
  refine PyProof.Rows.callWith_builtin1 ?_ he (by rfl)
  rw [he]
  show wpAny _ _ (spliced ((false, eval (.GeneratorExp elt gs scope gpos) X.env) :: backTo pos (starEach [] X.env))) _ _ s
  refine Calls.spliced_cons (G.run pins s σ H _ _ I (gx_in h) fun J H1 H2 u s5 hR hE hT I5 L => ?_)
  refine Calls.spliced_nil ?_
  obtain ⟨F1, ι1, W', hW', turn⟩ := gx_go (rel := fun st F ι ys => ∃ ns : List Int, ys = ns.map V.int ∧ st = ns.sum) G hR hE hT (fun _ _ _ _ _ _ l r => r) fun _ _ => ⟨[], rfl, rfl⟩
  refine sum_gx (fin := gFin g W F1 ι1 σ fkI (fun st _ _ ys => ∃ ns : List Int, ys = ns.map V.int ∧ st = ns.sum) Q) hr I5 L (fun Ok => ?_) hW' fun ns t H' s' I' hq => ?_
  · have t2 := turn Ok fun st d st' b F ι ys y h1 h2 h3 _ => by
      obtain ⟨i, rfl, rfl, rfl⟩ := tkSum_some h1
      simp only [VR] at h3
      subst h3
      obtain ⟨ns, rfl, rfl⟩ := h2
      exact ⟨rfl, ns ++ [i], by simp, by simp⟩
    intro i m ys H hw
    rcases t2 i m ys H hw with ⟨a, b⟩ | ⟨a, Nx, b1, b2⟩
    · exact .inl ⟨a, b⟩
    · refine .inr ⟨a, Nx, b1, fun x H' hy => ?_⟩
      exact tG_mono (b2 x H' hy) fun σ2 H2 ⟨c1, c2⟩ => ⟨c1, tM_mono c2 fun b H3 c3 => by
        cases b with
        | false => exact c3
        | true =>
          simp only [if_true] at c3 ⊢
          exact tM_mono c3 fun y H4 ⟨d1, ⟨F, ι, h, st, d, st', b, lf, hr', rl, rv, e, q⟩, d3⟩ => ⟨d1, by
            obtain ⟨i, rfl, _, _⟩ := tkSum_some e
            simp only [VR] at rv
            exact ⟨i, rv⟩, d3⟩⟩
  · obtain ⟨F, ι, h, st, lf, hr', ⟨ns', e1, e2⟩, q⟩ := hq
    have e3 : ns = ns' := by
      have inj : ∀ (a b : List Int), a.map V.int = b.map V.int → a = b := fun a => by
        induction a with
        | nil => intro b z; cases b with | nil => rfl | cons => cases z
        | cons x a ih => intro b z; cases b with
          | nil => cases z
          | cons y b => injection z with z1 z2; injection z1 with z1; rw [z1, ih b z2]
      exact inj _ _ e1
    subst e3
    subst e2
    exact ⟨.int ns.sum, H', I', ⟨t, rfl⟩, q F ι H' (.int ns.sum) lf hr' (by simp [VR])⟩
end
end DV
end
section
set_option Elab.async false
set_option linter.all false
set_option maxRecDepth 100000
set_option maxHeartbeats 2000000
namespace DV
open PySem L2 PyProof.Rows PySem.Spec LamX

/-! ### defs by their bodies -/
def startA (n : Nat) (ds : List D) : AS := ds.map some ++ List.replicate (n - ds.length) none
def runF (n : Nat) (ms : MS) : FM := fun ds h => match ms (startA n ds) h with
  | .ok (.nx _) h' => .ok .non h'
  | .ok (.rt d) h' => .ok d h'
  | .ok _ _ => .stuck
  | .exc c _ h' => .exc c h'
  | .stuck => .stuck
theorem LR.start {g : G} {F : Kn} {ι : List Addr} {N : List Str} {ds : List D} {vs : List V} (r : VRs g F ι ds vs) : LR g F ι (startA N.length ds) (L2.start N vs) := by
  have hl := r.length
  refine ⟨by simp [startA, L2.start, hl], fun i d e => ?_⟩
  unfold startA at e
  by_cases hi : i < ds.length
  · rw [List.getElem?_append_left (by simpa using hi), List.getElem?_map] at e
    cases q : ds[i]? with
    | none => rw [q] at e; cases e
    | some x =>
      rw [q] at e
      cases e
      obtain ⟨v, z1, z2⟩ := r.get q
      refine ⟨v, ?_, z2⟩
      unfold L2.start
      rw [List.getElem?_append_left (by simp [hl]; exact hi), List.getElem?_map, z1]
      rfl
  · rw [List.getElem?_append_right (by simpa using hi)] at e
    have := List.mem_of_getElem? e
    simp at this
abbrev WF (E : XK) : WX := fun cls d _ H => E cls d H
/-- the def does what its body's plain form does -/
theorem fm_of {P : Program} {w : World} {K : PySem.W.Frag} {mg : Str → Option Value} {base : Heap} {x qual : Str} {params : Arguments} {body : List Stmt} {scope : Scope} {dvs : List V} {kws : List (Str × V)} {p : He.Defn} {fd : FuncData} {g : G} {N ps : List Str} {k : Nat} {ms : MS}
    (F : FunD K x qual params body scope dvs kws (He.fAd K p) fd) (S : FnScope N ps scope)
    (hbody : ∀ (cdv : Value) (A : Around) (outer : List Env) (s : Shared) (H : Hp) (E : XK), cdv = .ref (He.codeOf K p) → Room k (cxOf (L2.CX P w) P w K mg base N qual scope (He.fAd K p) cdv A outer s H E).A →
      Takes (cxOf (L2.CX P w) P w K mg base N qual scope (He.fAd K p) cdv A outer s H E) (WF E) → PassesOwn (model P w) (cxOf (L2.CX P w) P w K mg base N qual scope (He.fAd K p) cdv A outer s H E).A (cxOf (L2.CX P w) P w K mg base N qual scope (He.fAd K p) cdv A outer s H E).env (cxOf (L2.CX P w) P w K mg base N qual scope (He.fAd K p) cdv A outer s H E).xe →
      PSs (cxOf (L2.CX P w) P w K mg base N qual scope (He.fAd K p) cdv A outer s H E) body (tS g (WF E) ms)) :
    FnOk P w K mg base (L2.CX P w) (k + 1) (He.fAd K p) fd ps (spF g ps.length (runF N.length ms)) := by
  obtain ⟨oc, od, dV, kV, doc, pm, an, cdv, ct, osl, rfl, lk, hcd, _, _⟩ := F.ex
  obtain ⟨c, hc⟩ := He.codeIn_ref hcd
  have hco : He.codeOf K p = c := He.codeOf_eq lk hc
  refine fn_of lk hcd S (fun vs H Q E h => h.1) fun A outer s H vs Q E hr hsp => ?_
  refine ⟨_, hbody cdv A outer s H E (by rw [hco]; exact hc) hr (takes_of rfl rfl rfl rfl) (passes_of rfl), ?_⟩
  obtain ⟨hl, F0, ι, ds, h, hr0, rv, p0⟩ := hsp
  refine ⟨F0, ι, startA N.length ds, h, hr0, LR.start rv, ?_⟩
  revert p0
  unfold runF
  cases ms (startA N.length ds) h with
  | ok f h' =>
    cases f with
    | nx σ => exact fun p0 F' ι' H' l hr' σv lr => p0 F' ι' H' .non l hr' (by simp [VR])
    | rt d => exact fun p0 F' ι' H' l hr' v r => p0 F' ι' H' v l hr' r
    | bk σ => exact fun p0 => p0.elim
    | ct σ => exact fun p0 => p0.elim
  | exc c σ h' => exact fun p0 F' ι' H' σv l hr' _ => p0 F' ι' H' l hr'
  | stuck => exact fun p0 => p0
/-! ### the end -/
theorem walk_ofX {l : PySem.W.OpenLaw} {n k : Nat} {q : Program} {loose : List Str} {XP : (Str → Option Value) → Heap → Prop} {YP : World → Heap → Prop} {d : DefRec} {x : Str}
    (hn : l.most = some n) (hn2 : n ≤ sizeLine) (hdf : d.params.defaults = []) (hr : Room k callerA)
    (F : ∀ (w : World) (mg : Str → Option Value) (fa : Addr) (h : Heap), YP w h → h.Ns mainGlobals mg → mg d.name = some (.ref fa) → ∃ K : PySem.W.Frag, K.In h ∧ LawAtS l w K (L2.CX l.prog w) k n x mg fa h) :
    PySem.W.WalkO q loose XP YP l.row.toRowW d [] (fun f vs => PySem.call f vs) := by
  refine Att.attach_callB hn hdf fun w s₀ s₁ mg mb fa o pm cd doc a vs ns G Y ho hd hcd hmg hobj hints hlen hbits hg => ?_
  obtain ⟨K, KX, fd, cs, sp, hT, nT, C, hb, hsp, hF⟩ := F w mg fa _ Y G.T.g hmg
  exact law_callTs KX G.T.g G.T.b G.T.builtins G.T.nolimit hg hT nT C G.T.bmain hobj hints (Nat.le_trans hlen hn2) hr hF hb (fun H hH hS => hsp H a ns hlen hbits hH hS) fun H e s' z => by
    obtain ⟨_, _, _, _, _, _, _, _, _, _, _, _, z⟩ := z
    exact z
/-- the law's plain form answers True -/
def Plain (n : Nat) (Fm : FM) : Prop := ∀ ns : List Int, ns.length ≤ n → (∀ z ∈ ns, Builtin.Int.intBits z ≤ 1048576) → ∃ h', Fm [.scr ns] [] = .ok (.bl true) h'
theorem spF_law {g : G} {n : Nat} {Fm : FM} (pl : Plain n Fm) {H : Hp} {a : Addr} {ns : List Int} (hl : ns.length ≤ n) (hb : ∀ z ∈ ns, Builtin.Int.intBits z ≤ 1048576) (ht : g.Ti H) (hS : SqL g.K H a (ns.map V.int)) :
    spF g 1 Fm [.ref a] H (fun v _ => v = .bl true) fun _ _ _ => False := by
  obtain ⟨h', e⟩ := pl ns hl hb
  have key : ∃ F : Kn, HR g F [] [] H ∧ ScrAt g.K F a ns := by
    have emp : ∀ f : Addr → Option HO, (∀ b o, f b = some o → Std H b o) → HR g ⟨f, []⟩ [] [] H := fun f hf =>
      ⟨hf, fun n o z => (by simp at z), fun n m a z => (by simp at z), rfl, ht, fun q hq => (by simp at hq), fun q hq => (by simp at hq)⟩
    rcases hS with hS | hS
    · have : ∃ o, H a = some o ∧ (o = .lst (ns.map V.int) ∨ ∃ ob, o = .frz ob (.lst (ns.map V.int))) := by
        rcases hS with z | ⟨ob, z⟩
        · exact ⟨_, z, .inl rfl⟩
        · exact ⟨_, z, .inr ⟨ob, rfl⟩⟩
      obtain ⟨o, e1, e2⟩ := this
      refine ⟨⟨fun b => if b = a then some o else none, []⟩, emp _ fun b u z => ?_, .inl ⟨o, if_pos rfl, e2⟩⟩
      by_cases hb : b = a
      · rw [if_pos hb] at z
        cases z
        rw [hb]
        refine .inl ⟨e1, fun ps z => ?_⟩
        rcases e2 with e2 | ⟨ob, e2⟩ <;> rw [e2] at z <;> cases z
      · rw [if_neg hb] at z
        cases z
    · exact ⟨⟨fun _ => none, []⟩, emp _ fun b o z => (by cases z), .inr fun H' => .inr hS⟩
  obtain ⟨F, hr, hsc⟩ := key
  refine ⟨rfl, F, [], [.scr ns], [], hr, by simp only [VRs, VR]; exact ⟨.ref a, [], rfl, ⟨a, rfl, hsc⟩, rfl⟩, ?_⟩
  rw [e]
  intro F' ι' H' v _ _ rv
  simpa only [VR] using rv
end DV
end
section
set_option Elab.async false
set_option linter.all false
set_option maxRecDepth 100000
set_option maxHeartbeats 2000000
namespace DV
open PySem L2 PyProof.Rows PySem.Spec LamX

/-- nothing is said: for what is never reached -/
def mStuck : ME := fun _ _ => .stuck
def sStuck : MS := fun _ _ => .stuck
section
variable {X : Cx} {g : G} {W : WX} {st : Stmt} {e a b o i : Expr} {es : List Expr} {m ma mb mo mi : ME} {r : MA} {pos p tpos : Pos}
theorem em_stuck : PE X e (tE g W mStuck) := ⟨fun pins s σ H Q I h => by
  obtain ⟨F, ι, σ, h, hr, lr, p⟩ := h
  exact p.elim⟩
theorem sm_stuck : PS X st (tS g W sStuck) := ⟨fun pins s σ H Q I h => by
  obtain ⟨F, ι, σ, h, hr, lr, p⟩ := h
  exact p.elim⟩
/-! ### names -/
def visB (sc : Scope) (x : Str) : Bool := match sc.names.lookup x with | some .local => true | some .cell => true | some .free => true | _ => false
def locB (sc : Scope) (x : Str) : Bool := match sc.names.lookup x with | some .local => true | some .cell => true | _ => false
theorem vis_by {sc : Scope} {x : Str} (h : visB sc x = true) : Vis sc x := by
  unfold visB at h
  split at h <;> first | exact .inl (by assumption) | exact .inr (.inl (by assumption)) | exact .inr (.inr (by assumption)) | cases h
theorem loc_by {sc : Scope} {x : Str} (h : locB sc x = true) : Loc sc x := by
  unfold locB at h
  split at h <;> first | exact .inl (by assumption) | exact .inr (by assumption) | cases h
/-- a module's constant -/
theorem em_glob {x : Str} {v : V} {u : Value} {d : D} (hg : Gl X x) (hm : X.mg x = some u) (r : RelV v u) (hv : ∀ F ι, VR g F ι d v) (hd : (x == ("__debug__" : Str)) = false := by decide) : PE X (.Name x pos) (tE g W (mC d)) := em_c (pe_glob hg hm r hd) hv
/-! ### == of data at any depth -/
def allS {α : Type} : List (Option α) → Option (List α)
  | [] => some []
  | none :: _ => none
  | some x :: r => (allS r).map (x :: ·)
theorem allS_cons {α : Type} {x : Option α} {r : List (Option α)} {zs : List α} (h : allS (x :: r) = some zs) : ∃ y ys, x = some y ∧ allS r = some ys ∧ zs = y :: ys := by
  cases x with
  | none => cases h
  | some y =>
    unfold allS at h
    cases q : allS r with
    | none => rw [q] at h; cases h
    | some ys => rw [q] at h; cases h; exact ⟨y, ys, rfl, rfl, rfl⟩
def toP : Nat → AH → D → Option PyData
  | 0, _, _ => none
  | n + 1, h, d => match d with
    | .non => some .none
    | .bl b => some (.bool b)
    | .int i => some (.int i)
    | .str x => if PyData.strOk x = true then some (.str x) else none
    | .tup ds => (allS (ds.map (toP n h))).map .tuple
    | d => match getL h d with
      | some ds => (allS (ds.map (toP n h))).map .list
      | none => none
theorem toP_ok {F : Kn} {ι : List Addr} {h : AH} {H : Hp} (hr : HR g F ι h H) : ∀ (n : Nat) (d : D) (v : V) (q : PyData), toP n h d = some q → VR g F ι d v → Dp g.K H v q ∧ q.canLay0 = true ∧ q.depth ≤ n := by
  intro n
  induction n with
  | zero => intro d v q e; cases e
  | succ n ih =>
    have all : ∀ (ds : List D) (vs : List V) (qs : List PyData), allS (ds.map (toP n h)) = some qs → VRs g F ι ds vs → DpAll g.K H vs qs ∧ PyData.canLayAll0 qs = true ∧ PyData.depthAll qs ≤ n := by
      intro ds
      induction ds with
      | nil =>
        intro vs qs e r
        simp only [VRs] at r
        subst r
        cases e
        exact ⟨.nil, rfl, Nat.zero_le _⟩
      | cons d ds ih2 =>
        intro vs qs e r
        simp only [VRs] at r
        obtain ⟨v, ws, rfl, r1, r2⟩ := r
        obtain ⟨y, ys, e1, e2, rfl⟩ := allS_cons e
        obtain ⟨a1, a2, a3⟩ := ih d v y e1 r1
        obtain ⟨b1, b2, b3⟩ := ih2 ws ys e2 r2
        exact ⟨.cons a1 b1, by simp only [PyData.canLayAll0, a2, b2, Bool.and_self], by simp only [PyData.depthAll]; omega⟩
    have lst : ∀ (d : D) (v : V) (q : PyData), (match getL h d with | some ds => (allS (ds.map (toP n h))).map PyData.list | none => none) = some q → VR g F ι d v → Dp g.K H v q ∧ q.canLay0 = true ∧ q.depth ≤ n + 1 := by
      intro d v q e r
      split at e
      · rename_i ds e1
        cases e2 : allS (ds.map (toP n h)) with
        | none => rw [e2] at e; cases e
        | some qs =>
          rw [e2] at e
          cases e
          obtain ⟨a, vs, rfl, s1, s2⟩ := getL_ok hr e1 r
          obtain ⟨b1, b2, b3⟩ := all ds vs qs e2 s2
          exact ⟨.lst s1 b1, by simpa only [PyData.canLay0] using b2, by simp only [PyData.depth]; omega⟩
      · cases e
    intro d v q e r
    cases d with
    | non => cases e; cases r.non'; exact ⟨.non, rfl, by simp [PyData.depth]⟩
    | bl b => cases e; cases r.bl'; exact ⟨.bl b, rfl, by simp [PyData.depth]⟩
    | int i => cases e; cases r.int'; exact ⟨.int i, rfl, by simp [PyData.depth]⟩
    | str x =>
      cases r.str'
      have e : (if PyData.strOk x = true then some (PyData.str x) else none) = some q := e
      split at e
      · rename_i c
        cases e
        exact ⟨.str x, by simpa only [PyData.canLay0] using c, by simp [PyData.depth]⟩
      · cases e
    | tup ds =>
      have e : (allS (ds.map (toP n h))).map PyData.tuple = some q := e
      cases e2 : allS (ds.map (toP n h)) with
      | none => rw [e2] at e; cases e
      | some qs =>
        rw [e2] at e
        cases e
        obtain ⟨a, vs, rfl, s1, s2⟩ := tup_ok hr r
        obtain ⟨b1, b2, b3⟩ := all ds vs qs e2 s2
        exact ⟨.tup s1 b1, by simpa only [PyData.canLay0] using b2, by simp only [PyData.depth]; omega⟩
    | lst ds => exact lst (.lst ds) v q e r
    | dct ds => exact lst (.dct ds) v q e r
    | obj c ds => exact lst (.obj c ds) v q e r
    | ref k => exact lst (.ref k) v q e r
    | clo k => exact lst (.clo k) v q e r
    | scr ns => exact lst (.scr ns) v q e r
def dEqB (a b : D) (h : AH) : Option Bool := match toP 20 h a, toP 20 h b with
  | some x, some y => some (PyData.eqv x y)
  | _, _ => none
def dEq (a b : D) (h : AH) : Rv D := match dEqB a b h with | some k => .ok (.bl k) h | none => .stuck
def dNe (a b : D) (h : AH) : Rv D := match dEqB a b h with | some k => .ok (.bl (!k)) h | none => .stuck
theorem dEqB_ok {F : Kn} {ι : List Addr} {h : AH} {H : Hp} (hr : HR g F ι h H) {a b : D} {v u : V} {k : Bool} (e : dEqB a b h = some k) (ra : VR g F ι a v) (rb : VR g F ι b u) :
    ∃ x y, Dp g.K H v x ∧ Dp g.K H u y ∧ SeqAt.shaped x = true ∧ SeqAt.shaped y = true ∧ PyData.eqv x y = k := by
  unfold dEqB at e
  split at e
  · rename_i x y e1 e2
    cases e
    obtain ⟨a1, a2, a3⟩ := toP_ok hr 20 a v x e1 ra
    obtain ⟨b1, b2, b3⟩ := toP_ok hr 20 b u y e2 rb
    have sh : ∀ q : PyData, q.canLay0 = true → q.depth ≤ 20 → SeqAt.shaped q = true := fun q h1 h2 => by
      unfold SeqAt.shaped
      rw [h1, decide_eq_true (show q.depth ≤ 64 by omega)]
      rfl
    exact ⟨x, y, a1, b1, sh x a2 a3, sh y b2 b3, rfl⟩
  · cases e
theorem ok_eq : OpOk g (rEqD g.K) dEq := by
  intro W F ι h H σv a b v u Q hr ra rb p
  unfold dEq at p
  split at p
  · rename_i k e
    obtain ⟨x, y, h1, h2, h3, h4, h5⟩ := dEqB_ok hr e ra rb
    exact ⟨x, y, h1, h2, h3, h4, by rw [h5]; exact finb p hr⟩
  · exact p.elim
theorem ok_ne : OpOk g (rNeD g.K) dNe := by
  intro W F ι h H σv a b v u Q hr ra rb p
  unfold dNe at p
  split at p
  · rename_i k e
    obtain ⟨x, y, h1, h2, h3, h4, h5⟩ := dEqB_ok hr e ra rb
    exact ⟨x, y, h1, h2, h3, h4, by rw [h5]; exact finb p hr⟩
  · exact p.elim
theorem op_eqK (hK : X.K = g.K) (hu : X.A.units + 64 < cLine) : OpR X (compareOp .Eq) (rEqD g.K) := by rw [← hK]; exact op_eqD hu
theorem op_neK (hK : X.K = g.K) (hu : X.A.units + 64 < cLine) : OpR X (compareOp .NotEq) (rNeD g.K) := by rw [← hK]; exact op_neD hu
/-! ### in, not in a list -/
def dInB (a b : D) (h : AH) : Option Bool := match toP 20 h a, toP 20 h b with
  | some x, some (.list ys) => some (ys.any fun z => PyData.eqv z x)
  | _, _ => none
def dIn (a b : D) (h : AH) : Rv D := match dInB a b h with | some k => .ok (.bl k) h | none => .stuck
def dNotIn (a b : D) (h : AH) : Rv D := match dInB a b h with | some k => .ok (.bl (!k)) h | none => .stuck
theorem dInB_ok {F : Kn} {ι : List Addr} {h : AH} {H : Hp} (hr : HR g F ι h H) {a b : D} {v u : V} {k : Bool} (e : dInB a b h = some k) (ra : VR g F ι a v) (rb : VR g F ι b u) :
    ∃ x ys, Dp g.K H v x ∧ Dp g.K H u (.list ys) ∧ SeqAt.shaped x = true ∧ SeqAt.shaped (.list ys) = true ∧ (ys.any fun z => PyData.eqv z x) = k := by
  unfold dInB at e
  split at e
  · rename_i x ys e1 e2
    cases e
    obtain ⟨a1, a2, a3⟩ := toP_ok hr 20 a v x e1 ra
    obtain ⟨b1, b2, b3⟩ := toP_ok hr 20 b u _ e2 rb
    have sh : ∀ q : PyData, q.canLay0 = true → q.depth ≤ 20 → SeqAt.shaped q = true := fun q h1 h2 => by
      unfold SeqAt.shaped
      rw [h1, decide_eq_true (show q.depth ≤ 64 by omega)]
      rfl
    exact ⟨x, ys, a1, b1, sh x a2 a3, sh _ b2 b3, rfl⟩
  · cases e
theorem ok_in : OpOk g (rInD g.K) dIn := by
  intro W F ι h H σv a b v u Q hr ra rb p
  unfold dIn at p
  split at p
  · rename_i k e
    obtain ⟨x, y, h1, h2, h3, h4, h5⟩ := dInB_ok hr e ra rb
    exact ⟨x, y, h1, h2, h3, h4, by rw [h5]; exact finb p hr⟩
  · exact p.elim
theorem ok_notIn : OpOk g (rNotInD g.K) dNotIn := by
  intro W F ι h H σv a b v u Q hr ra rb p
  unfold dNotIn at p
  split at p
  · rename_i k e
    obtain ⟨x, y, h1, h2, h3, h4, h5⟩ := dInB_ok hr e ra rb
    exact ⟨x, y, h1, h2, h3, h4, by rw [h5]; exact finb p hr⟩
  · exact p.elim
theorem op_inK (hK : X.K = g.K) (hu : X.A.units + 65 < cLine) : OpR X (compareOp .In) (rInD g.K) := by rw [← hK]; exact op_inD hu
theorem op_notInK (hK : X.K = g.K) (hu : X.A.units + 65 < cLine) : OpR X (compareOp .NotIn) (rNotInD g.K) := by rw [← hK]; exact op_notInD hu
/-! ### builtins -/
def intsD : List D → Option (List Int)
  | [] => some []
  | .int i :: r => (intsD r).map (i :: ·)
  | _ :: _ => none
theorem intsD_eq : ∀ {ds : List D} {ns : List Int}, intsD ds = some ns → ds = ns.map D.int
  | [], ns, e => by cases e; rfl
  | .int i :: r, ns, e => by
    unfold intsD at e
    cases q : intsD r with
    | none => rw [q] at e; cases e
    | some l => rw [q] at e; cases e; rw [intsD_eq q]; rfl
theorem VRs.ints' {F : Kn} {ι : List Addr} : ∀ {ns : List Int} {vs : List V}, VRs g F ι (ns.map D.int) vs → vs = ns.map V.int
  | [], vs, r => by simpa only [List.map_nil, VRs] using r
  | n :: ns, vs, r => by
    simp only [List.map_cons, VRs, VR] at r
    obtain ⟨v, ws, rfl, rfl, r⟩ := r
    rw [VRs.ints' r]
    rfl
theorem one1 {F : Kn} {ι : List Addr} {d : D} {vs : List V} (r : VRs g F ι [d] vs) : ∃ v, vs = [v] ∧ VR g F ι d v := by
  simp only [VRs] at r
  obtain ⟨v, ws, rfl, h1, rfl⟩ := r
  exact ⟨v, rfl, h1⟩
theorem two2 {F : Kn} {ι : List Addr} {d e : D} {vs : List V} (r : VRs g F ι [d, e] vs) : ∃ v u, vs = [v, u] ∧ VR g F ι d v ∧ VR g F ι e u := by
  simp only [VRs] at r
  obtain ⟨v, ws, rfl, h1, u, us, rfl, h2, rfl⟩ := r
  exact ⟨v, u, rfl, h1, h2⟩
def bLen (ds : List D) (h : AH) : Rv D := match ds with
  | [.str y] => okIf (y.length ≤ sizeLine) (.ok (.int y.length) h)
  | [d] => match getS h d with | some xs => .ok (.int xs.length) h | none => .stuck
  | _ => .stuck
theorem k_len : CallOk g (fun xs H Q => ∃ x n, xs = [x] ∧ LenV g.K x H n ∧ Q (.int n) H) bLen := by
  intro W F ι h H σv ds vs Q hr rv p
  unfold bLen at p
  split at p
  · obtain ⟨v, rfl, r⟩ := one1 rv
    cases r.str'
    obtain ⟨hz, p⟩ := okIf_post p
    exact ⟨_, _, rfl, ⟨hz, rfl⟩, fini p hr⟩
  · obtain ⟨v, rfl, r⟩ := one1 rv
    split at p
    · rename_i xs e
      obtain ⟨a, ws, rfl, q1, q2⟩ := getS_ok hr e r
      refine ⟨_, xs.length, rfl, ?_, fini p hr⟩
      rcases q1 with q1 | q1
      · exact .inl ⟨ws, q1, by rw [q2.length]⟩
      · exact .inr ⟨ws, q1, by rw [q2.length]⟩
    · exact p.elim
  · exact p.elim
theorem c_len (hK : X.K = g.K) : CallR X (.builtin "len") (fun xs H Q => ∃ x n, xs = [x] ∧ LenV g.K x H n ∧ Q (.int n) H) := by rw [← hK]; exact call_len
def bAbs (ds : List D) (h : AH) : Rv D := match ds with
  | [.int i] => .ok (.int (if i < 0 then -i else i)) h
  | _ => .stuck
theorem k_abs : CallOk g (fun xs H Q => ∃ i, xs = [.int i] ∧ Q (.int (if i < 0 then -i else i)) H) bAbs := by
  intro W F ι h H σv ds vs Q hr rv p
  unfold bAbs at p
  split at p
  · obtain ⟨v, rfl, r⟩ := one1 rv
    cases r.int'
    exact ⟨_, rfl, fini p hr⟩
  · exact p.elim
def bInt (ds : List D) (h : AH) : Rv D := match ds with
  | [.int i] => .ok (.int i) h
  | [.bl b] => .ok (.int (if b then 1 else 0)) h
  | _ => .stuck
theorem k_int : CallOk g (fun xs H Q => (∃ i, xs = [.int i] ∧ Q (.int i) H) ∨ ∃ k, xs = [.bl k] ∧ Q (.int (if k then 1 else 0)) H) bInt := by
  intro W F ι h H σv ds vs Q hr rv p
  unfold bInt at p
  split at p
  · obtain ⟨v, rfl, r⟩ := one1 rv
    cases r.int'
    exact .inl ⟨_, rfl, fini p hr⟩
  · obtain ⟨v, rfl, r⟩ := one1 rv
    cases r.bl'
    exact .inr ⟨_, rfl, fini p hr⟩
  · exact p.elim
def bMax2 (ds : List D) (h : AH) : Rv D := match ds with
  | [.int i, .int j] => .ok (.int (if j > i then j else i)) h
  | _ => .stuck
def bMin2 (ds : List D) (h : AH) : Rv D := match ds with
  | [.int i, .int j] => .ok (.int (if j < i then j else i)) h
  | _ => .stuck
theorem k_max2 : CallOk g (fun xs H Q => ∃ i j, xs = [.int i, .int j] ∧ Q (.int (if j > i then j else i)) H) bMax2 := by
  intro W F ι h H σv ds vs Q hr rv p
  unfold bMax2 at p
  split at p
  · obtain ⟨v, u, rfl, r1, r2⟩ := two2 rv
    cases r1.int'; cases r2.int'
    exact ⟨_, _, rfl, fini p hr⟩
  · exact p.elim
theorem k_min2 : CallOk g (fun xs H Q => ∃ i j, xs = [.int i, .int j] ∧ Q (.int (if j < i then j else i)) H) bMin2 := by
  intro W F ι h H σv ds vs Q hr rv p
  unfold bMin2 at p
  split at p
  · obtain ⟨v, u, rfl, r1, r2⟩ := two2 rv
    cases r1.int'; cases r2.int'
    exact ⟨_, _, rfl, fini p hr⟩
  · exact p.elim
/-! sum, min, max of a tuple of ints, too -/
section
open PySem.W
variable {prog : Program} {w : World} {A : Around} {E : Value → Shared → Prop} {s : Shared} {l : Addr} {its : List Value} {ns : List Int} {Q : Value → Shared → Prop} {xs : Array (Int × Tok)}
theorem iter_intTup (hl : s.heap.IsTuple l (intItems xs))
    (h : ∀ s₂ : Shared, s₂ = { s with heap := s.heap.push { cls := .type "tuple_iterator", data := .fields #[.ref l, .int 0 0] } } →
      (s₂.heap.IsTupleIter s.heap.objs.size l 0 ∧ s₂.heap.IsTuple l (intItems xs)) → (∀ b ∈ [s.heap.objs.size, l], b < s₂.heap.objs.size) → l ≠ s.heap.objs.size → Q (.ref s.heap.objs.size) s₂) :
    wpAny (model prog w) A (pyIter (.ref l)) Q E s := by
  have hlt : l < s.heap.objs.size := by obtain ⟨_, e, _⟩ := hl; exact Heap.lt_size e
  refine wpAny_pyIter_tuple hl (h _ rfl ⟨⟨_, Heap.get?_push_size _ rfl, rfl, rfl⟩, hl.push _⟩ (fun b hb => ?_) (Nat.ne_of_lt hlt))
  show b < (s.heap.push _).objs.size
  rw [Heap.size_push]
  rcases List.mem_cons.mp hb with rfl | hb
  · exact Nat.lt_succ_self _
  · rcases List.mem_cons.mp hb with rfl | hb
    · exact Nat.lt_succ_of_lt hlt
    · cases hb
theorem old_keptT {h' : Heap} (hk : ∀ b o, b ∉ [s.heap.objs.size] → (s.heap.push { cls := .type "tuple_iterator", data := .fields #[.ref l, .int 0 0] }).get? b = some o → h'.get? b = some o) :
    ∀ b o, s.heap.get? b = some o → h'.get? b = some o := fun b o e => by
  refine hk b o (fun hm => ?_) (Heap.get?_push_of_some _ e)
  rcases List.mem_cons.mp hm with e1 | hm
  · exact absurd (e1 ▸ Heap.lt_size e) (Nat.lt_irrefl _)
  · cases hm
theorem sum_tupR (hh : A.handled = none) (hl : s.heap.IsTuple l its.toArray) (hi : IntsAre its ns)
    (h : ∀ h' tk t', (∀ b o, s.heap.get? b = some o → h'.get? b = some o) → Q (.int ns.sum t') { s with heap := h', toks := tk }) : wpAny (model prog w) A (call (.builtin "sum") [.ref l]) Q E s := by
  obtain ⟨xs, e⟩ := hi.allInts.items
  have hn : numsOf (intItems xs).toList = ns := by rw [← e]; exact hi.numsOf
  rw [nums_intItems] at hn
  rw [e] at hl
  refine call_sum_walkG (iter_intTup hl fun s₂ e st hfp hlI => ?_)
  subst e
  refine ⟨_, _, _, _, _, _, numAt xs, rfl, Walks.tuple (A := A.in1) hh _ l hlI (intItems xs), st, hfp, (fun _ _ => intItems_at), fun h' tk t' hk => ?_⟩
  have := h h' tk t' (old_keptT hk)
  rw [preSum_eq, List.take_of_length_le (by simp [intItems]), hn]
  exact this
theorem max_tupR (hh : A.handled = none) (hl : s.heap.IsTuple l its.toArray) (hi : IntsAre its ns) (hne : 0 < ns.length)
    (h : ∀ h' tk M t', (∀ b o, s.heap.get? b = some o → h'.get? b = some o) → M ∈ ns → (∀ a, a ∈ ns → a ≤ M) → Q (.int M t') { s with heap := h', toks := tk }) : wpAny (model prog w) A (call (.builtin "max") [.ref l]) Q E s := by
  obtain ⟨xs, e⟩ := hi.allInts.items
  have hn : numsOf (intItems xs).toList = ns := by rw [← e]; exact hi.numsOf
  rw [nums_intItems] at hn
  subst hn
  rw [e] at hl
  have hsz : 0 < xs.size := by simpa using hne
  refine call_max_walk (iter_intTup hl fun s₂ e st hfp hlI => ?_)
  subst e
  refine ⟨_, _, _, _, _, _, _, rfl, Walks.tuple (A := A.in1) hh _ l hlI (intItems xs), st, hfp, by simpa [intItems] using hsz, CmpOf.ints_gt (numAt xs) (fun _ _ => intItems_at), fun v h' tk hP hk => ?_⟩
  have hv : (intItems xs)[argBest (fun i j => decide (numAt xs i > numAt xs j)) (xs.size - 1)]? = some v := by simpa [intItems] using hP
  obtain ⟨t, rfl⟩ := intItems_at hv
  obtain ⟨h1, h2⟩ := argBest_gt (numAt xs) (xs.size - 1)
  refine h h' tk _ t (old_keptT hk) ?_ fun a ha => ?_
  · rw [numAt_eq]; exact PySem.getD_mem (by rw [List.length_map, Array.length_toList]; omega)
  · obtain ⟨j, hj, rfl⟩ := mem_getD ha
    rw [List.length_map, Array.length_toList] at hj
    rw [← numAt_eq]; exact h2 j (by omega)
theorem min_tupR (hh : A.handled = none) (hl : s.heap.IsTuple l its.toArray) (hi : IntsAre its ns) (hne : 0 < ns.length)
    (h : ∀ h' tk M t', (∀ b o, s.heap.get? b = some o → h'.get? b = some o) → M ∈ ns → (∀ a, a ∈ ns → M ≤ a) → Q (.int M t') { s with heap := h', toks := tk }) : wpAny (model prog w) A (call (.builtin "min") [.ref l]) Q E s := by
  obtain ⟨xs, e⟩ := hi.allInts.items
  have hn : numsOf (intItems xs).toList = ns := by rw [← e]; exact hi.numsOf
  rw [nums_intItems] at hn
  subst hn
  rw [e] at hl
  have hsz : 0 < xs.size := by simpa using hne
  refine call_min_walk (iter_intTup hl fun s₂ e st hfp hlI => ?_)
  subst e
  refine ⟨_, _, _, _, _, _, _, rfl, Walks.tuple (A := A.in1) hh _ l hlI (intItems xs), st, hfp, by simpa [intItems] using hsz, CmpOf.ints_lt (numAt xs) (fun _ _ => intItems_at), fun v h' tk hP hk => ?_⟩
  have hv : (intItems xs)[argBest (fun i j => decide (numAt xs i < numAt xs j)) (xs.size - 1)]? = some v := by simpa [intItems] using hP
  obtain ⟨t, rfl⟩ := intItems_at hv
  obtain ⟨h1, h2⟩ := argBest_lt (numAt xs) (xs.size - 1)
  refine h h' tk _ t (old_keptT hk) ?_ fun a ha => ?_
  · rw [numAt_eq]; exact PySem.getD_mem (by rw [List.length_map, Array.length_toList]; omega)
  · obtain ⟨j, hj, rfl⟩ := mem_getD ha
    rw [List.length_map, Array.length_toList] at hj
    rw [← numAt_eq]; exact h2 j (by omega)
end
def SqE (K : PySem.W.Frag) (H : Hp) (a : Addr) (xs : List V) : Prop := SqL K H a xs ∨ SqT K H a xs
def rSumE (K : PySem.W.Frag) : List V → Hp → VK → Prop := fun vs H Q => ∃ (a : Addr) (ns : List Int), vs = [V.ref a] ∧ SqE K H a (ns.map V.int) ∧ Q (.int ns.sum) H
def rMaxE (K : PySem.W.Frag) : List V → Hp → VK → Prop := fun vs H Q => ∃ (a : Addr) (ns : List Int), vs = [V.ref a] ∧ SqE K H a (ns.map V.int) ∧ 0 < ns.length ∧ ∀ m, m ∈ ns → (∀ y, y ∈ ns → y ≤ m) → Q (.int m) H
def rMinE (K : PySem.W.Frag) : List V → Hp → VK → Prop := fun vs H Q => ∃ (a : Addr) (ns : List Int), vs = [V.ref a] ∧ SqE K H a (ns.map V.int) ∧ 0 < ns.length ∧ ∀ m, m ∈ ns → (∀ y, y ∈ ns → m ≤ y) → Q (.int m) H
theorem cr_sumE {X : Cx} (hc : X.calm = true) : CallR X (.builtin "sum") (rSumE X.K) := by
  intro pins s σ H vs us Q I r h
  obtain ⟨a, ns, rfl, hs, q⟩ := h
  rcases hs with hs | hs
  · exact cr_sum hc pins s σ H _ us Q I r ⟨a, ns, rfl, hs, q⟩
  · obtain ⟨its, rv, hl, _⟩ := I.tuple hs
    rw [Vals.ref1 r]
    exact sum_tupR (I.ok.hd hc) hl rv.ints fun h' tk t' hk => ⟨.int _, H, I.kept hk, ⟨_, rfl⟩, q⟩
theorem cr_maxE {X : Cx} (hc : X.calm = true) : CallR X (.builtin "max") (rMaxE X.K) := by
  intro pins s σ H vs us Q I r h
  obtain ⟨a, ns, rfl, hs, hne, q⟩ := h
  rcases hs with hs | hs
  · exact cr_max hc pins s σ H _ us Q I r ⟨a, ns, rfl, hs, hne, q⟩
  · obtain ⟨its, rv, hl, _⟩ := I.tuple hs
    rw [Vals.ref1 r]
    exact max_tupR (I.ok.hd hc) hl rv.ints hne fun h' tk m t' hk h1 h2 => ⟨.int _, H, I.kept hk, ⟨_, rfl⟩, q m h1 h2⟩
theorem cr_minE {X : Cx} (hc : X.calm = true) : CallR X (.builtin "min") (rMinE X.K) := by
  intro pins s σ H vs us Q I r h
  obtain ⟨a, ns, rfl, hs, hne, q⟩ := h
  rcases hs with hs | hs
  · exact cr_min hc pins s σ H _ us Q I r ⟨a, ns, rfl, hs, hne, q⟩
  · obtain ⟨its, rv, hl, _⟩ := I.tuple hs
    rw [Vals.ref1 r]
    exact min_tupR (I.ok.hd hc) hl rv.ints hne fun h' tk m t' hk h1 h2 => ⟨.int _, H, I.kept hk, ⟨_, rfl⟩, q m h1 h2⟩
def bSum (ds : List D) (h : AH) : Rv D := match ds with
  | [d] => match (getS h d).bind intsD with | some ns => .ok (.int ns.sum) h | none => .stuck
  | _ => .stuck
theorem intsL {F : Kn} {ι : List Addr} {h : AH} {H : Hp} (hr : HR g F ι h H) {d : D} {v : V} {ns : List Int} (e : (getS h d).bind intsD = some ns) (rv : VR g F ι d v) : ∃ a, v = .ref a ∧ SqE g.K H a (ns.map V.int) := by
  cases q : getS h d with
  | none => rw [q] at e; cases e
  | some xs =>
    rw [q] at e
    have e : intsD xs = some ns := e
    obtain ⟨a, ws, rfl, q1, q2⟩ := getS_ok hr q rv
    rw [intsD_eq e] at q2
    rw [VRs.ints' q2] at q1
    exact ⟨a, rfl, q1⟩
theorem k_sum : CallOk g (rSumE g.K) bSum := by
  intro W F ι h H σv ds vs Q hr rv p
  unfold bSum at p
  split at p
  · obtain ⟨v, rfl, r⟩ := one1 rv
    split at p
    · rename_i ns e
      obtain ⟨a, rfl, q⟩ := intsL hr e r
      exact ⟨a, ns, rfl, q, fini p hr⟩
    · exact p.elim
  · exact p.elim
theorem c_sum (hK : X.K = g.K) (hc : X.calm = true) : CallR X (.builtin "sum") (rSumE g.K) := by rw [← hK]; exact cr_sumE hc
def leastI : Int → List Int → Int
  | m, [] => m
  | m, n :: r => leastI (if n < m then n else m) r
theorem leastI_le : ∀ (l : List Int) (m : Int), leastI m l ≤ m ∧ ∀ y ∈ l, leastI m l ≤ y
  | [], m => ⟨Int.le_refl _, by simp⟩
  | n :: r, m => by
    obtain ⟨h1, h2⟩ := leastI_le r (if n < m then n else m)
    unfold leastI
    have e : (if n < m then n else m) ≤ m ∧ (if n < m then n else m) ≤ n := by split <;> omega
    refine ⟨Int.le_trans h1 e.1, fun y hy => ?_⟩
    rcases List.mem_cons.mp hy with rfl | hy
    · exact Int.le_trans h1 e.2
    · exact h2 y hy
theorem leastI_mem : ∀ (l : List Int) (m : Int), leastI m l ∈ m :: l
  | [], m => by simp [leastI]
  | n :: r, m => by
    have h := leastI_mem r (if n < m then n else m)
    unfold leastI
    rcases List.mem_cons.mp h with h | h
    · rw [h]
      split <;> simp
    · exact List.mem_cons_of_mem _ (List.mem_cons_of_mem _ h)
def mostI : Int → List Int → Int
  | m, [] => m
  | m, n :: r => mostI (if n > m then n else m) r
theorem mostI_le : ∀ (l : List Int) (m : Int), m ≤ mostI m l ∧ ∀ y ∈ l, y ≤ mostI m l
  | [], m => ⟨Int.le_refl _, by simp⟩
  | n :: r, m => by
    obtain ⟨h1, h2⟩ := mostI_le r (if n > m then n else m)
    unfold mostI
    have e : m ≤ (if n > m then n else m) ∧ n ≤ (if n > m then n else m) := by split <;> omega
    refine ⟨Int.le_trans e.1 h1, fun y hy => ?_⟩
    rcases List.mem_cons.mp hy with rfl | hy
    · exact Int.le_trans e.2 h1
    · exact h2 y hy
theorem mostI_mem : ∀ (l : List Int) (m : Int), mostI m l ∈ m :: l
  | [], m => by simp [mostI]
  | n :: r, m => by
    have h := mostI_mem r (if n > m then n else m)
    unfold mostI
    rcases List.mem_cons.mp h with h | h
    · rw [h]
      split <;> simp
    · exact List.mem_cons_of_mem _ (List.mem_cons_of_mem _ h)
def bMin (ds : List D) (h : AH) : Rv D := match ds with
  | [d] => match (getS h d).bind intsD with | some (n :: ns) => .ok (.int (leastI n ns)) h | _ => .stuck
  | _ => .stuck
def bMax (ds : List D) (h : AH) : Rv D := match ds with
  | [d] => match (getS h d).bind intsD with | some (n :: ns) => .ok (.int (mostI n ns)) h | _ => .stuck
  | _ => .stuck
theorem k_min : CallOk g (rMinE g.K) bMin := by
  intro W F ι h H σv ds vs Q hr rv p
  unfold bMin at p
  split at p
  · obtain ⟨v, rfl, r⟩ := one1 rv
    split at p
    · rename_i n ns e
      obtain ⟨a, rfl, q⟩ := intsL hr e r
      refine ⟨a, n :: ns, rfl, q, by simp, fun m hm hle => ?_⟩
      have e2 : m = leastI n ns := by
        have h1 := leastI_le ns n
        have h2 := hle _ (leastI_mem ns n)
        rcases List.mem_cons.mp hm with h3 | h3
        · have := h1.1; omega
        · have := h1.2 m h3; omega
      rw [e2]
      exact fini p hr
    · exact p.elim
  · exact p.elim
theorem k_max : CallOk g (rMaxE g.K) bMax := by
  intro W F ι h H σv ds vs Q hr rv p
  unfold bMax at p
  split at p
  · obtain ⟨v, rfl, r⟩ := one1 rv
    split at p
    · rename_i n ns e
      obtain ⟨a, rfl, q⟩ := intsL hr e r
      refine ⟨a, n :: ns, rfl, q, by simp, fun m hm hle => ?_⟩
      have e2 : m = mostI n ns := by
        have h1 := mostI_le ns n
        have h2 := hle _ (mostI_mem ns n)
        rcases List.mem_cons.mp hm with h3 | h3
        · have := h1.1; omega
        · have := h1.2 m h3; omega
      rw [e2]
      exact fini p hr
    · exact p.elim
  · exact p.elim
theorem c_min (hK : X.K = g.K) (hc : X.calm = true) : CallR X (.builtin "min") (rMinE g.K) := by rw [← hK]; exact cr_minE hc
theorem c_max (hK : X.K = g.K) (hc : X.calm = true) : CallR X (.builtin "max") (rMaxE g.K) := by rw [← hK]; exact cr_maxE hc
def bList (mu : Bool) (ds : List D) (h : AH) : Rv D := match ds with
  | [d] => match getS h d with | some xs => mkL mu xs h | none => .stuck
  | _ => .stuck
theorem k_list (t : TiOk g) (mu : Bool) : CallOk g (fun xs H Q => ∃ p ys, xs = [.ref p] ∧ (SqL g.K H p ys ∨ SqT g.K H p ys) ∧ ∀ l, H l = none → Q (.ref l) (upd H l (.lst ys))) (bList mu) := by
  intro W F ι h H σv ds vs Q hr rv p
  unfold bList at p
  split at p
  · obtain ⟨v, rfl, r⟩ := one1 rv
    split at p
    · rename_i xs e
      obtain ⟨a, ws, rfl, q1, q2⟩ := getS_ok hr e r
      exact ⟨a, ws, rfl, q1, mkL_ok t hr q2 p⟩
    · exact p.elim
  · exact p.elim
theorem c_list (hK : X.K = g.K) : CallR X (.type "list") (fun xs H Q => ∃ p ys, xs = [.ref p] ∧ (SqL g.K H p ys ∨ SqT g.K H p ys) ∧ ∀ l, H l = none → Q (.ref l) (upd H l (.lst ys))) := by rw [← hK]; exact call_list_of
def bTuple (ds : List D) (h : AH) : Rv D := match ds with
  | [.tup xs] => .ok (.tup xs) h
  | [d] => match getL h d with | some xs => .ok (.tup xs) h | none => .stuck
  | _ => .stuck
theorem k_tuple (t : TiOk g) : CallOk g (fun xs H Q => ∃ p ys, xs = [.ref p] ∧ ((SqL g.K H p ys ∧ ∀ l, H l = none → Q (.ref l) (upd H l (.tup ys))) ∨ (SqT g.K H p ys ∧ Q (.ref p) H))) bTuple := by
  intro W F ι h H σv ds vs Q hr rv p
  unfold bTuple at p
  split at p
  · obtain ⟨v, rfl, r⟩ := one1 rv
    obtain ⟨a, ws, rfl, q1, q2⟩ := tup_ok hr r
    exact ⟨a, ws, rfl, .inr ⟨q1, p F ι H _ .refl hr r⟩⟩
  · obtain ⟨v, rfl, r⟩ := one1 rv
    split at p
    · rename_i xs e
      obtain ⟨a, ws, rfl, q1, q2⟩ := getL_ok hr e r
      exact ⟨a, ws, rfl, .inl ⟨q1, mkT_ok t hr q2 p⟩⟩
    · exact p.elim
  · exact p.elim
theorem c_tuple (hK : X.K = g.K) : CallR X (.type "tuple") (fun xs H Q => ∃ p ys, xs = [.ref p] ∧ ((SqL g.K H p ys ∧ ∀ l, H l = none → Q (.ref l) (upd H l (.tup ys))) ∨ (SqT g.K H p ys ∧ Q (.ref p) H))) := by rw [← hK]; exact call_tuple_of
end
end DV
end
section
set_option Elab.async false
set_option linter.all false
set_option maxRecDepth 100000
set_option maxHeartbeats 2000000
namespace DV
open PySem L2 PyProof.Rows PySem.Spec LamX SrtO

/-! ### sorting by putting in -/
section
variable {α β : Type}
def insB (lt : α → α → Bool) (x : α) : List α → List α
  | [] => [x]
  | y :: r => if lt y x = true then y :: insB lt x r else x :: y :: r
def isortB (lt : α → α → Bool) : List α → List α
  | [] => []
  | x :: r => insB lt x (isortB lt r)
variable {lt : α → α → Bool}
theorem insB_perm (x : α) : ∀ l : List α, (insB lt x l).Perm (x :: l)
  | [] => .refl _
  | y :: r => by
    unfold insB
    split
    · exact ((insB_perm x r).cons y).trans (List.Perm.swap x y r)
    · exact .refl _
theorem isortB_perm : ∀ l : List α, (isortB lt l).Perm l
  | [] => .refl _
  | x :: r => (insB_perm x _).trans ((isortB_perm r).cons x)
theorem insB_srtd (O : Swo lt) (x : α) : ∀ l : List α, Srtd lt l → Srtd lt (insB lt x l)
  | [], _ => srtd_one x
  | y :: r, h => by
    unfold insB
    by_cases e : lt y x = true
    · rw [if_pos e]
      refine List.pairwise_cons.mpr ⟨fun z hz => ?_, insB_srtd O x r (List.pairwise_cons.mp h).2⟩
      rcases List.mem_cons.mp ((insB_perm x r).mem_iff.mp hz) with rfl | hz
      · exact O.asym _ _ e
      · exact srtd_head h z hz
    · rw [if_neg e]
      have e' : lt y x = false := by simpa using e
      exact List.pairwise_cons.mpr ⟨O.le_all h e', h⟩
theorem isortB_srtd (O : Swo lt) : ∀ l : List α, Srtd lt (isortB lt l)
  | [] => List.Pairwise.nil
  | x :: r => insB_srtd O x _ (isortB_srtd O r)
theorem insB_cls (O : Swo lt) (x z : α) : ∀ l : List α, (insB lt x l).filter (eqv lt z) = (x :: l).filter (eqv lt z)
  | [] => rfl
  | y :: r => by
    unfold insB
    by_cases e : lt y x = true
    · rw [if_pos e]
      have ih := insB_cls O x z r
      have no : ¬ (eqv lt z x = true ∧ eqv lt z y = true) := by
        rintro ⟨h1, h2⟩
        obtain ⟨a1, a2⟩ := eqv_iff.mp h1
        obtain ⟨b1, b2⟩ := eqv_iff.mp h2
        have c := O.tr x z y a1 b2
        rw [e] at c
        cases c
      simp only [List.filter_cons] at ih ⊢
      by_cases hx : eqv lt z x = true
      · have hy : ¬ eqv lt z y = true := fun hy => no ⟨hx, hy⟩
        rw [if_pos hx] at ih
        rw [if_neg hy, if_pos hx, if_neg hy, ih]
      · rw [if_neg hx] at ih
        by_cases hy : eqv lt z y = true
        · rw [if_pos hy, if_neg hx, if_pos hy, ih]
        · rw [if_neg hy, if_neg hx, if_neg hy, ih]
    · rw [if_neg e]
theorem isortB_stb (O : Swo lt) : ∀ l : List α, Stb lt (isortB lt l) l
  | [] => Stb.refl _
  | x :: r => by
    have ih := isortB_stb O r
    refine ⟨isortB_perm _, fun z => ?_⟩
    show (insB lt x (isortB lt r)).filter (eqv lt z) = _
    rw [insB_cls O]
    simp only [List.filter_cons, ih.cls z]
theorem isortB_uniq (O : Swo lt) {out l : List α} (h1 : Srtd lt out) (h2 : Stb lt out l) : out = isortB lt l := by
  have h3 := isortB_stb O l
  exact stb_uniq O h1 (isortB_srtd O l) ⟨h2.perm.trans h3.perm.symm, fun x => (h2.cls x).trans (h3.cls x).symm⟩
theorem insB_map {lt' : β → β → Bool} {f : α → β} (x : α) : ∀ l : List α, (∀ y ∈ l, lt' (f y) (f x) = lt y x) → insB lt' (f x) (l.map f) = (insB lt x l).map f
  | [], _ => rfl
  | y :: r, h => by
    simp only [List.map_cons]
    unfold insB
    rw [h y List.mem_cons_self]
    split
    · rw [insB_map x r fun z hz => h z (List.mem_cons_of_mem _ hz)]; rfl
    · rfl
theorem isortB_map {lt' : β → β → Bool} {f : α → β} : ∀ l : List α, (∀ x ∈ l, ∀ y ∈ l, lt' (f y) (f x) = lt y x) → isortB lt' (l.map f) = (isortB lt l).map f
  | [], _ => rfl
  | x :: r, h => by
    show insB lt' (f x) (isortB lt' (r.map f)) = _
    rw [isortB_map r fun a ha b hb => h a (List.mem_cons_of_mem _ ha) b (List.mem_cons_of_mem _ hb)]
    exact insB_map x _ fun y hy => h x List.mem_cons_self y (List.mem_cons_of_mem _ ((isortB_perm r).mem_iff.mp hy))
end
def ltI (i j : Int) : Bool := decide (i < j)
abbrev PQ : Type := Addr × Int × Int
def ltQ (p q : PQ) : Bool := lexB p.2 q.2
def pQ (q : PQ) : V := .ref q.1
/-- xs sorted: zs -/
def SrtV (K : PySem.W.Frag) (H : Hp) (xs zs : List V) : Prop :=
  (∃ ns : List Int, xs = ns.map V.int ∧ zs = (isortB ltI ns).map V.int) ∨
  ∃ ps : List PQ, xs = ps.map pQ ∧ (∀ q ∈ ps, SqT K H q.1 [.int q.2.1, .int q.2.2]) ∧ zs = (isortB ltQ ps).map pQ
/-- the two ints of a pair, off the heap -/
def kOf (h : Heap) (v : Value) : Int × Int := match v with
  | .ref a => match h.get? a with
    | some o => match o.data with
      | .seq its _ => match its.toList with
        | [.int i _, .int j _] => (i, j)
        | _ => (0, 0)
      | _ => (0, 0)
    | none => (0, 0)
  | _ => (0, 0)
theorem kOf_pair {h : Heap} {v : Value} {i j : Int} (p : Srt.IsPair h v i j) : kOf h v = (i, j) := by
  obtain ⟨t, o, t1, t2, n, rfl, ho, hc, hd⟩ := p
  unfold kOf
  simp only [ho, hd]
section
variable {X : Cx} {pins : List (Addr × Obj)} {σ : L2.St} {H : Hp} {s : Shared}
theorem vals_refs : ∀ {ps : List PQ} {us : List Value}, Vals (ps.map pQ) us → us = ps.map fun q => Value.ref q.1
  | [], us, r => by cases r; rfl
  | q :: ps, us, r => by
    cases r with
    | cons a b =>
      have a : _ = Value.ref q.1 := a
      rw [a, vals_refs b]
      rfl
theorem refs_vals : ∀ (ps : List PQ), Vals (ps.map pQ) (ps.map fun q => Value.ref q.1)
  | [] => .nil
  | q :: ps => .cons rfl (refs_vals ps)
theorem vals_iv : ∀ {ns : List Int} {us : List Value}, Vals (ns.map V.int) us → IntsAre us ns ∧ us.map iv = ns := fun {ns us} r => ⟨r.ints, iv_ints r.ints⟩
theorem srt_run {xs zs : List V} {acc : List Value} (I : L2.Inv X pins σ H s) (h : SrtV X.K H xs zs) (r : Vals xs acc) :
    ∃ ltv, Swo ltv ∧ (∀ (A : Around) (h₁ : Heap) (a : Addr), 2 ≤ acc.length → h₁.get? a = some (seqObj "list" acc.toArray 0) → (∀ b o, s.heap.get? b = some o → h₁.get? b = some o) → SortableO X.prog X.w A { s with heap := h₁ } a acc ltv) ∧
      ∀ out, Srtd ltv out → Stb ltv out acc → Vals zs out := by
  rcases h with ⟨ns, rfl, rfl⟩ | ⟨ps, rfl, hp, rfl⟩
  · refine ⟨ltIv, swo_int, fun A h₁ a h2 _ _ => ints_sortable r.ints h2, fun out h1 h2 => ?_⟩
    obtain ⟨k1, k2, k3⟩ := ints_out r.ints h1 h2
    have e : out.map iv = isortB ltI ns := by
      have O : Swo ltI := ⟨fun x y h => by unfold ltI at h ⊢; have := of_decide_eq_true h; exact decide_eq_false (by omega), fun x y z h1 h2 => by
        unfold ltI at h1 h2 ⊢; have a := of_decide_eq_false h1; have b := of_decide_eq_false h2; exact decide_eq_false (by omega)⟩
      have srt : Srtd ltI (out.map iv) := k3.imp fun {a b} hab => by unfold ltI; exact decide_eq_false (by omega)
      refine isortB_uniq O srt ⟨k2, fun x => ?_⟩
      have hh : ∀ l : List Int, l.filter (eqv ltI x) = List.replicate (l.count x) x := fun l => by
        have e : eqv ltI x = fun y => y == x := by
          funext y
          unfold eqv ltI
          by_cases hxy : y = x
          · subst hxy; simp
          · have : x < y ∨ y < x := by omega
            have e2 : (y == x) = false := by simpa using hxy
            rw [e2]
            rcases this with z | z
            · simp [z]
            · simp [z]
        rw [e, List.filter_beq]
      rw [hh, hh, k2.count_eq]
    rw [← e]
    exact vals_of_ints k1
  · have eacc := vals_refs r
    subst eacc
    have pr : ∀ q ∈ ps, Srt.IsPair s.heap (Value.ref q.1) q.2.1 q.2.2 := fun q hq => by
      obtain ⟨its, rv, ⟨o, ho, hc, n, hd⟩, _⟩ := I.tuple (hp q hq)
      obtain ⟨u1, u2, rfl, ri, rj⟩ := vals2 rv
      obtain ⟨t1, rfl⟩ := ri
      obtain ⟨t2, rfl⟩ := rj
      exact ⟨q.1, o, t1, t2, n, rfl, ho, hc, hd⟩
    have ek : ∀ q ∈ ps, kOf s.heap (Value.ref q.1) = q.2 := fun q hq => kOf_pair (pr q hq)
    refine ⟨fun v u => lexB (kOf s.heap v) (kOf s.heap u), swo_lex _, fun A h₁ a h2 ha kp => ?_, fun out h1 h2 => ?_⟩
    · refine pairs_sortableO (s := { s with heap := h₁ }) (by omega) (fun v hv => ?_) fun o e c => ?_
      · obtain ⟨q, hq, rfl⟩ := List.mem_map.mp hv
        rw [ek q hq]
        exact (pr q hq).keeps fun b o e _ => kp b o e
      · have e' : some o = some (seqObj "list" (ps.map fun q => Value.ref q.1).toArray 0) := e.symm.trans ha
        cases e'
        exact absurd (Value.type.inj c) (by decide)
    · rw [isortB_uniq (swo_lex _) h1 h2, isortB_map (lt := ltQ) ps fun x hx y hy => by rw [ek x hx, ek y hy]; rfl]
      exact refs_vals _
def rSrt (K : PySem.W.Frag) : List V → Hp → VK → Prop := fun vs H Q => ∃ (a : Addr) (xs zs : List V), vs = [V.ref a] ∧ SqL K H a xs ∧ SrtV K H xs zs ∧ ∀ p, H p = none → Q (.ref p) (upd H p (.lst zs))
theorem cr_srt : CallR X (.builtin "sorted") (rSrt X.K) := by
  intro pins s σ H vs us Q I r h
  obtain ⟨a, xs, zs, rfl, hs, hx, q⟩ := h
  obtain ⟨its, rv, hl, hz⟩ := I.list hs
  rw [Vals.ref1 r]
  obtain ⟨ltv, O, hS, hout⟩ := srt_run I hx rv
  have lz : its.length ≤ sizeLine := by rw [← rv.length]; exact hz
  refine sorted_ord O hl.isList lz (fun h2 h₁ a' ha kk => hS _ h₁ a' h2 ha fun b o e => (kk b o e).2) fun out h1 h2 => ?_
  have rz := hout out h1 h2
  obtain ⟨ep, he'⟩ := PyProof.Rows.sortedAll_at s.heap its out.toArray
  have hlen : zs.length ≤ sizeLine := by rw [rz.length, h2.perm.length_eq]; exact lz
  exact ⟨.ref _, upd H (s.heap.objs.size + 1) (.lst zs), I.laid (t' := s.toks) (fun _ _ => PyProof.Rows.sortedAll_old) (Nat.le_succ _) ⟨hlen, out, ep, rz, he'⟩, rfl, q _ (I.hok.fresh (Nat.le_succ _))⟩
end
end DV
end
section
set_option Elab.async false
set_option linter.all false
set_option maxRecDepth 100000
set_option maxHeartbeats 2000000
namespace DV
open PySem L2 PyProof.Rows PySem.Spec LamX SrtO

def pairsD : List D → Option (List (Int × Int))
  | [] => some []
  | .tup [.int i, .int j] :: r => (pairsD r).map ((i, j) :: ·)
  | _ :: _ => none
def pD (q : Int × Int) : D := .tup [.int q.1, .int q.2]
theorem pairsD_eq : ∀ {ds : List D} {ns : List (Int × Int)}, pairsD ds = some ns → ds = ns.map pD
  | [], ns, e => by cases e; rfl
  | .tup [.int i, .int j] :: r, ns, e => by
    unfold pairsD at e
    cases q : pairsD r with
    | none => rw [q] at e; cases e
    | some l => rw [q] at e; cases e; rw [pairsD_eq q]; rfl
def srtD (ds : List D) : Option (List D) := match intsD ds with
  | some ns => some ((isortB ltI ns).map D.int)
  | none => (pairsD ds).map fun ps => (isortB lexB ps).map pD
section
variable {X : Cx} {g : G} {W : WX} {F : Kn} {ι : List Addr} {h : AH} {H : Hp}
theorem pairs_at (hr : HR g F ι h H) : ∀ {ns : List (Int × Int)} {vs : List V}, VRs g F ι (ns.map pD) vs → ∃ ps : List PQ, vs = ps.map pQ ∧ ns = ps.map (·.2) ∧ (∀ q ∈ ps, SqT g.K H q.1 [.int q.2.1, .int q.2.2] ∧ VR g F ι (pD q.2) (pQ q))
  | [], vs, r => by
    simp only [List.map_nil, VRs] at r
    exact ⟨[], r, rfl, by simp⟩
  | n :: ns, vs, r => by
    simp only [List.map_cons, VRs] at r
    obtain ⟨v, ws, rfl, r1, r2⟩ := r
    obtain ⟨ps, rfl, rfl, hp⟩ := pairs_at hr r2
    obtain ⟨a, us, rfl, q1, q2⟩ := tup_ok hr r1
    obtain ⟨x, y, rfl, z1, z2⟩ := two2 q2
    cases z1.int'; cases z2.int'
    refine ⟨(a, n) :: ps, rfl, rfl, fun q hq => ?_⟩
    rcases List.mem_cons.mp hq with rfl | hq
    · exact ⟨q1, r1⟩
    · exact hp q hq
theorem VRs.of_pairs : ∀ {ps : List PQ}, (∀ q ∈ ps, VR g F ι (pD q.2) (pQ q)) → VRs g F ι ((ps.map (·.2)).map pD) (ps.map pQ)
  | [], _ => by simp [VRs]
  | q :: ps, h => by
    simp only [List.map_cons, VRs]
    exact ⟨_, _, rfl, h q List.mem_cons_self, VRs.of_pairs fun x hx => h x (List.mem_cons_of_mem _ hx)⟩
theorem srtD_ok (hr : HR g F ι h H) {ds ds' : List D} {vs : List V} (e : srtD ds = some ds') (r : VRs g F ι ds vs) : ∃ zs, SrtV g.K H vs zs ∧ VRs g F ι ds' zs := by
  unfold srtD at e
  cases q : intsD ds with
  | some ns =>
    rw [q] at e
    cases e
    rw [intsD_eq q] at r
    exact ⟨_, .inl ⟨ns, VRs.ints' r, rfl⟩, VRs.ints _⟩
  | none =>
    rw [q] at e
    cases q2 : pairsD ds with
    | none => rw [q2] at e; cases e
    | some ns =>
      rw [q2] at e
      cases e
      rw [pairsD_eq q2] at r
      obtain ⟨ps, rfl, rfl, hp⟩ := pairs_at hr r
      refine ⟨_, .inr ⟨ps, rfl, fun q hq => (hp q hq).1, rfl⟩, ?_⟩
      have em : isortB lexB (ps.map (·.2)) = (isortB ltQ ps).map (·.2) := isortB_map (lt := ltQ) ps fun _ _ _ _ => rfl
      show VRs g F ι ((isortB lexB (ps.map (·.2))).map pD) _
      rw [em]
      exact VRs.of_pairs fun q hq => (hp q ((isortB_perm ps).mem_iff.mp hq)).2
def srt1 (mu : Bool) (d : D) (h : AH) : Rv D := match getL h d with
  | some ys => match srtD ys with | some xs => mkL mu xs h | none => .stuck
  | none => .stuck
def bSorted (mu : Bool) (ds : List D) (h : AH) : Rv D := match ds with
  | [d] => srt1 mu d h
  | _ => .stuck
theorem k_sorted (t : TiOk g) (mu : Bool) : CallOk g (rSrt g.K) (bSorted mu) := by
  intro W F ι h H σv ds vs Q hr rv p
  unfold bSorted at p
  split at p
  · obtain ⟨v, rfl, r⟩ := one1 rv
    unfold srt1 at p
    split at p
    · rename_i ys q
      split at p
      · rename_i xs e
        obtain ⟨a, ws, rfl, q1, q2⟩ := getL_ok hr q r
        obtain ⟨zs, s1, s2⟩ := srtD_ok hr e q2
        exact ⟨a, ws, zs, rfl, q1, s1, mkL_ok t hr s2 p⟩
      · exact p.elim
    · exact p.elim
  · exact p.elim
theorem c_sorted (hK : X.K = g.K) : CallR X (.builtin "sorted") (rSrt g.K) := by rw [← hK]; exact cr_srt
/-! ### sorted(generator) -/
def fkS (mu : Bool) (ds : List D) (h : AH) : Rv D := match srtD ds with | some xs => mkL mu xs h | none => .stuck
variable {pins : List (Addr × Obj)} {σ : L2.St} {H2 : Hp} {s5 : Shared}
theorem sorted_gx {k : Nat} {turn : (List V → Hp → Prop) → (List V → V → Hp → Prop) → (List V → Prop) → (Nat → Nat → List V → Hp → Prop) → Prop} {W' : Nat → Nat → List V → Hp → Prop} {u : Value} {fin : List V → Hp → Prop} {Q : Value → Shared → Prop} {E : Value → Shared → Prop} (hr : Room (k + 5) X.A) (I : L2.Inv X pins σ H2 s5) (L : GxLive X pins σ k turn H2 u s5)
    (ht : ∀ Ok, turn fin (fun _ _ _ => True) Ok W') (hW : ∃ m, W' 0 m [] H2) (hQ : ∀ ys H', fin ys H' → ys.length ≤ sizeLine → ∃ zs, SrtV X.K H' ys zs ∧ ∀ p s', H' p = none → L2.Inv X pins σ (upd H' p (.lst zs)) s' → Q (.ref p) s') :
    wpAny (model X.prog X.w) X.A (call (.builtin "sorted") [u]) Q E s5 := by
  refine Calls.call_function_entry kind_sorted plain_sorted entry_sorted (args_sorted1 _) ?_
  unfold Builtin.«sorted»
  refine wpAny_bind (m := checkCount "sorted" 1 1 _) (wpAny_pure ?_)
  have r2 : Room (k + 2) X.A.in1 := Room.in1 (hr.mono (by omega))
  refine wpAny_bind (collect_gx (A := X.A.in1) r2 I.ok.frames I L ht hW fun ys acc H' s' hl rv I' hq => ?_)
  obtain ⟨zs, hz, hQ⟩ := hQ ys H' hq hl
  obtain ⟨ltv, O, hS, hout⟩ := srt_run I' hz rv
  have lz : acc.length ≤ sizeLine := by rw [← rv.length]; exact hl
  refine wpAny_bind (wpAny_newList ?_ lz)
  have ho : (s'.heap.push (seqObj "list" acc.toArray 0)).get? s'.heap.objs.size = some (seqObj "list" acc.toArray 0) := Heap.get?_push_size _ rfl
  have kp : ∀ b o, s'.heap.get? b = some o → (s'.heap.push (seqObj "list" acc.toArray 0)).get? b = some o := fun b o e => Heap.get?_push_of_some _ e
  refine wpAny_bind (wpAny_holding (wpAny_call_entry slot_list_sort ⟨_, ho, rfl⟩ entry_list_sort (list_sort_ord O ho lz (fun h2 => hS _ _ _ h2 ho kp) fun out h1 h2 => ⟨_, rfl, ?_⟩) (args_list_sort _)))
  refine wpAny_pure ⟨_, rfl, ?_⟩
  have rz := hout out h1 h2
  obtain ⟨ep, he'⟩ := sortedHeap_at (n := 0) (vs := acc) (out := out.toArray) ho
  have hlen : zs.length ≤ sizeLine := by rw [rz.length, h2.perm.length_eq]; exact lz
  refine hQ s'.heap.objs.size _ (I'.hok.fresh (Nat.le_refl _)) (I'.laid (t' := s'.toks) (fun b o e => ?_) (Nat.le_refl _) ⟨hlen, out, ep, rz, he'⟩)
  have hlt : b < s'.heap.objs.size := Heap.lt_size e
  rw [sortedHeap_old (Nat.ne_of_lt hlt) (by rw [size_push']; exact Nat.lt_succ_of_lt hlt)]
  exact kp b o e
variable {mi : MI} {mg : MG} {mt : MT} {me : ME} {is vs : List Nat} {k : Nat} {p pos : Pos} {elt : Expr} {gs : List Comprehension} {scope : Scope} {gpos : Pos}
theorem em_sortedG (hK : X.K = g.K) (mu : Bool) (hr : Room (k + 6) X.A) (hg : Gl X "sorted") (hm : X.mg "sorted" = none) (hb : bootBuiltins "sorted" = some (.builtin "sorted")) (t : TiOk g) (G : GxP X g W k (.GeneratorExp elt gs scope gpos) mi vs is mg mt me)
    (he : starEach [.GeneratorExp elt gs scope gpos] X.env = (false, eval (.GeneratorExp elt gs scope gpos) X.env) :: starEach [] X.env := by rfl) :
    PE X (.Call (.Name "sorted" p) [.GeneratorExp elt gs scope gpos] [] pos) (tE g W (mGx mi vs mg mt me tkCol [] (fkS mu))) := by
  refine ⟨fun pins s σ H Q I h => ?_⟩
  refine wpAny_Call_Name_kw (ld_blt I hg hm hb ?_)
  refine PyProof.Rows.callWith_builtin1 ?_ he (by rfl)
  rw [he]
  show wpAny _ _ (spliced ((false, eval (.GeneratorExp elt gs scope gpos) X.env) :: backTo pos (starEach [] X.env))) _ _ s
  refine Calls.spliced_cons (G.run pins s σ H _ _ I (gx_in h) fun J H1 H2 u s5 hR hE hT I5 L => ?_)
  refine Calls.spliced_nil ?_
  obtain ⟨F1, ι1, W', hW', turn⟩ := gx_go (rel := fun st F ι ys => VRs g F ι st ys) G hR hE hT (fun _ _ _ _ _ _ l r => VRs.mono l _ _ r) fun _ _ => by simp [VRs]
  refine sorted_gx (fin := gFin g W F1 ι1 σ (fkS mu) (fun st F ι ys => VRs g F ι st ys) Q) hr I5 L (fun Ok => ?_) hW' fun ys H' hq hl => ?_
  · have t2 := turn Ok fun st d st' b F ι ys y h1 h2 h3 _ => by
      cases h1
      exact ⟨rfl, h2.append (VRs.one h3)⟩
    intro i m ys H hw
    rcases t2 i m ys H hw with ⟨a, b⟩ | ⟨a, Nx, b1, b2⟩
    · exact .inl ⟨a, b⟩
    · refine .inr ⟨a, Nx, b1, fun x H' hy => ?_⟩
      exact tG_mono (b2 x H' hy) fun σ2 H2 ⟨c1, c2⟩ => ⟨c1, tM_mono c2 fun b H3 c3 => by
        cases b with
        | false => exact c3
        | true =>
          simp only [if_true] at c3 ⊢
          exact tM_mono c3 fun y H4 ⟨d1, _, d3⟩ => ⟨d1, trivial, d3⟩⟩
  · obtain ⟨F, ι, h, st, lf, hr', rl, q⟩ := hq
    unfold fkS at q
    cases e : srtD st with
    | none => rw [e] at q; exact q.elim
    | some xs =>
      rw [e] at q
      obtain ⟨zs, s1, s2⟩ := srtD_ok hr' e rl
      refine ⟨zs, by rw [hK]; exact s1, fun p s' hp I' => ⟨.ref p, _, I', rfl, mkL_ok t hr' s2 (q.le lf) p hp⟩⟩
end
end DV
end
section
set_option Elab.async false
set_option linter.all false
set_option maxRecDepth 100000
set_option maxHeartbeats 2000000
namespace DV
open PySem L2 PyProof.Rows PySem.Spec

/-! ### enumerate over a tuple -/
theorem enum1_meets {v : Value} {o : Obj} {Hh : Heap → Prop} (B : Begins v o Hh) :
    Meets (Builtin.«enumerate.__new__» ⟨[.type "enumerate", v], []⟩) (fun _ R s => Hh s.heap ∧
      R (.ok (.ret (.ref (s.heap.push o).objs.size))) { s with heap := (s.heap.push o).push { cls := .type "enumerate", data := .fields #[.none, .bool false, .ref s.heap.objs.size, rawInt 0, .none, .none] } }) :=
  .of_wp fun prog w A R s h => by
    obtain ⟨hp, g, d, tk, os⟩ := s; obtain ⟨h1, h⟩ := h
    have hsub := sub_enumerate
    have q1 : ∀ {A' : Around} {E : Value → Shared → Prop} {Q : Value → Shared → Prop}, Q (.ref hp.objs.size) ⟨hp.push o, g, d, tk, os⟩ → wpAny (model prog w) A' (pyIter v) Q E ⟨hp, g, d, tk, os⟩ :=
      fun q => B.iter prog w _ _ ⟨hp, g, d, tk, os⟩ _ h1 q
    wp_walk using q1
    refine wpAny_stack_any fun st => wpAny_pure ?_
    split
    · rename_i c _ _ _ _ _
      cases (c == Value.type "enumerate")
      · wp_walk using q1
        exact ⟨_, rfl, h⟩
      · wp_walk using q1
        exact ⟨_, rfl, h⟩
    · wp_walk using q1
      exact ⟨_, rfl, h⟩
theorem enum1_call {prog : Program} {w : World} {A : Around} {E : Value → Shared → Prop} {s : Shared} {v : Value} {o : Obj} {Hh : Heap → Prop} {Q : Value → Shared → Prop} (B : Begins v o Hh) (h1 : Hh s.heap)
    (h : ∀ h', IsEnum h' (s.heap.objs.size + 1) s.heap.objs.size 0 .none → h'.get? s.heap.objs.size = some o → (∀ b o, s.heap.get? b = some o → h'.get? b = some o) → Q (.ref (s.heap.objs.size + 1)) { s with heap := h' }) :
    wpAny (model prog w) A (call (.type "enumerate") [v]) Q E s := by
  refine callType_new F.called_enumerate (by decide) (F.typeCall_enumerate_1 _) (F.newCall_enumerate_1 _) (fun obj => F.args_object_init_2 obj _) F.entry_enumerate_new (enum1_meets B) ⟨h1, ?_⟩
  have hz : (s.heap.push o).objs.size = s.heap.objs.size + 1 := Heap.size_push ..
  show _ ∧ _
  rw [hz]
  have he : IsEnum ((s.heap.push o).push { cls := .type "enumerate", data := .fields #[.none, .bool false, .ref s.heap.objs.size, rawInt 0, .none, .none] }) (s.heap.objs.size + 1) s.heap.objs.size 0 .none := by
    have := Heap.get?_push_size (s.heap.push o) (o := { cls := .type "enumerate", data := .fields #[.none, .bool false, .ref s.heap.objs.size, rawInt 0, .none, .none] }) rfl
    rw [hz] at this; exact this
  exact ⟨⟨_, he, rfl⟩, h _ he (Heap.get?_push_of_some _ (Heap.get?_push_size _ B.free)) fun b o x => Heap.get?_push_of_some _ (Heap.get?_push_of_some _ x)⟩
def IteT (K : PySem.W.Frag) (a : Addr) : It :=
  ⟨fun i H => ∃ (xs : List V) (x : V), SqT K H a xs ∧ xs[i]? = some x, fun i H v H' => ∃ T x, v = .ref T ∧ H T = none ∧ H' = upd H T (.tup [.int (i : Nat), x]) ∧ ∀ xs, SqT K H a xs → xs[i]? = some x, fun i H => ∃ xs : List V, SqT K H a xs ∧ xs.length ≤ i⟩
theorem turn_enumT {P : Program} {w : World} {K : PySem.W.Frag} {elts : List Expr} {kk : Nat} {tpos : Pos} (a e it : Addr) :
    Turn P w K (.Tuple elts kk tpos) (IteT K a) [e, it] e (fun i h => (∃ old, IsEnum h e it ((i : Nat) : Int) old) ∧ h.IsTupleIter it a i ∧ e ≠ it) where
  mem := by simp
  obj := fun i h st b hb => by
    obtain ⟨⟨old, he⟩, ⟨o, ho, hc, hd⟩, _⟩ := st
    have e' : b = e ∨ b = it := by simpa using hb
    rcases e' with z | z
    · rw [z]; exact ⟨_, he, fun v q => nomatch q⟩
    · rw [z]; exact ⟨o, ho, fun v q => by rw [hd] at q; cases q⟩
  keep := fun i h h' st k => let ⟨⟨old, he⟩, hi, hne⟩ := st; ⟨⟨old, k e (by simp) _ he⟩, hi.at fun o q => k it (by simp) o q, hne⟩
  item := by
    intro X hP hw hK hc i pins s σ H E I hf st hg
    subst hP hw hK
    obtain ⟨⟨old, he⟩, hit, hne⟩ := st
    obtain ⟨xs, x, hq, hx⟩ := hg
    obtain ⟨its, rv, p, hz⟩ := I.tuple hq
    obtain ⟨u, hu, ru⟩ := rv.get hx
    have hT : s.heap.IsTuple a its.toArray := p
    have hel : e < s.heap.objs.size := Heap.lt_size he
    have hil : it < s.heap.objs.size := by obtain ⟨_, q, _⟩ := hit; exact Heap.lt_size q
    have hae : a ≠ e := fun z => by
      obtain ⟨o, ho, hc', _⟩ := hT
      rw [z] at ho
      have he' : s.heap.get? e = some _ := he
      rw [he'] at ho
      cases ho
      exact absurd (Value.type.inj hc') (by decide)
    have hai : a ≠ it := fun z => by
      obtain ⟨o, ho, hc', _⟩ := hT
      obtain ⟨o2, ho2, hc2, _⟩ := hit
      rw [z, ho2] at ho
      cases ho
      rw [hc2] at hc'
      exact absurd (Value.type.inj hc') (by decide)
    have hef : e ∉ [it, a] := fun z => by
      rcases List.mem_cons.mp z with z | z
      · exact hne z
      · exact hae (List.mem_singleton.mp z).symm
    refine wpAny_pyNext_enum_itemD (Draws.tuple (A := X.A.in1) (I.ok.hd hc) it a hai its.toArray) he ⟨hit, hT⟩ (by have := (List.getElem?_eq_some_iff.mp hu).1; simpa using this) hne hef fun x' h' tk hx' ho hit' hT1 hsz hk => ?_
    have ex : x' = u := by
      have e1 : its.toArray[i]? = some x' := hx'
      rw [show its.toArray[i]? = its[i]? by simp, hu] at e1
      exact (Option.some.inj e1).symm
    subst ex
    refine ⟨_, rfl, wpAny_letOwnedTupleGo_enum (s := { s with heap := h', toks := tk + 1 }) ho fun h'' he' sb => ?_⟩
    have hT2 : h''.get? s.heap.objs.size = some { cls := .type "tuple", data := .seq #[.int i tk, x'] } := (sb.2 _ (Nat.ne_of_gt hel)).trans hT1
    have new : ObjOk X.prog X.w (upd H s.heap.objs.size (.tup [.int (i : Nat), x])) h'' s.heap.objs.size (.tup [.int (i : Nat), x]) :=
      ⟨by show 2 ≤ sizeLine; decide, [.int i tk, x'], .cons ⟨_, rfl⟩ (.cons ru .nil), ⟨_, hT2, rfl, _, rfl⟩⟩
    have I1 : L2.Inv X pins σ (upd H s.heap.objs.size (.tup [.int (i : Nat), x])) { s with heap := h'', toks := tk + 1 } :=
      I.turnedNew (ch := [e, it]) (fun b ob hb q => (sb.2 b (fun z => hb (by simp [z]))).trans (hk b ob (fun z => hb (by simp [z])) (fun z => hb (by simp [z])) q)) hf (Nat.le_refl _) new
    refine ⟨.ref s.heap.objs.size, _, I1, rfl, ⟨_, x, rfl, I.hok.fresh (Nat.le_refl _), rfl, fun ys hy => by rw [I.tuple_inj hy hq]; exact hx⟩, ⟨⟨x', ?_⟩, hit'.1.at fun o q => (sb.2 it (Ne.symm hne)).trans q, hne⟩, fun b hb => ?_⟩
    · have e1 : ((i + 1 : Nat) : Int) = (i : Int) + 1 := by omega
      rw [e1]; exact he'
    · have hb' : b < s.heap.objs.size := by
        have e' : b = e ∨ b = it := by simpa using hb
        rcases e' with z | z
        · rw [z]; exact hel
        · rw [z]; exact hil
      rw [upd_ne (Nat.ne_of_lt hb')]
      exact (hf b hb).1
  done := by
    intro X hP hw hK hc i pins s σ H E I hf st hg
    subst hP hw hK
    obtain ⟨⟨old, he⟩, hit, hne⟩ := st
    obtain ⟨xs, hq, hx⟩ := hg
    obtain ⟨its, rv, p, hz⟩ := I.tuple hq
    have hT : s.heap.IsTuple a its.toArray := p
    obtain ⟨f0, f1, f2, f3, f4, f5⟩ := hf it (by simp)
    have hl := rv.length
    have hT' : s.TypeIs (.ref e) "enumerate" := ⟨_, he, rfl⟩
    unfold pyNext
    refine wpAny_bind (wpAny_attempt (wpAny_callSpecial?_slot (name := Str.ofString "__next__") hT' F.slot_enumerate_next (wpAny_call_entry F.slot_enumerate_next hT' F.entry_enumerate_next ?_ (F.args_enumerate_next_1 _))))
    show wpAny _ _ (field (.ref e) 2 >>= _) _ _ _
    refine wpAny_bind (wpAny_field he rfl (x := .ref it) rfl ?_)
    refine wpAny_bind (wpAny_nextOf_tuple_end (A := X.A.in1) (I.ok.hd hc) hit hT (by simp; omega) fun h' x he' hx' => ?_)
    obtain ⟨o, ho, hc'⟩ := hx'
    refine wpAny_bind (wpAny_isInstance (T := "StopIteration") (b := true) ⟨o, ho, hc'⟩ isSubtype_stop ?_)
    exact wpAny_pure ⟨rfl, I.turned (t' := s.toks) (fun b o hb q => he' b o hb q) f0 f1 f3 f4 f5⟩
  self := fun A i s Q E st h => let ⟨⟨_, he⟩, _⟩ := st; wpAny_pyIter_enum he h
/-- enumerate of a list or a tuple -/
def iEnumA (K : PySem.W.Frag) (ta : TA) : TI := fun σ H R => ta σ H fun vs H1 => ∃ a, vs = [.ref a] ∧ ((∃ xs, SqL K H1 a xs ∧ R (Ite K a) H1) ∨ ∃ xs, SqT K H1 a xs ∧ R (IteT K a) H1)
theorem pi_enumA {X : Cx} {e : Expr} {ta : TA} {p pos tpos : Pos} {elts : List Expr} {kk : Nat} (hg : Gl X "enumerate") (hm : X.mg "enumerate" = none) (ha : PA X [e] ta) (hs : starEach [e] X.env = [(false, eval e X.env)] := by rfl) :
    PI X (.Tuple elts kk tpos) (.Call (.Name "enumerate" p) [e] [] pos) (iEnumA X.K ta) := by
  refine ⟨fun pins s σ H R I h => ?_⟩
  refine Call_ (ld_blt I hg hm boot_enumerate (PyProof.Rows.callWith_type1 (thn (ha.run pos pins s σ H _ I h) fun us s1 ⟨vs, H1, I1, r1, q1⟩ => ?_) hs rfl))
  obtain ⟨a, ex, q⟩ := q1
  subst ex
  cases r1 with
  | cons r rr =>
    cases rr
    cases r
    rcases q with ⟨xs, hq, q⟩ | ⟨xs, hq, q⟩
    · obtain ⟨its, rv, p', hz⟩ := I1.list hq
      refine call_enumerate_list p'.isList fun h' he hit hsz hk => wpAny_pyIter_enum he ?_
      have I2 : L2.Inv X pins σ H1 { s1 with heap := h' } := I1.kept (t' := s1.toks) hk
      refine ⟨s1.heap.objs.size + 1, [s1.heap.objs.size + 1, s1.heap.objs.size], _, _, H1, rfl, I2, turn_enum a (s1.heap.objs.size + 1) s1.heap.objs.size, ⟨⟨.none, he⟩, hit, Nat.succ_ne_self _⟩, fun b hb => ?_, q⟩
      have hle : s1.heap.objs.size ≤ b := by
        have e' : b = s1.heap.objs.size + 1 ∨ b = s1.heap.objs.size := by simpa using hb
        rcases e' with z | z <;> rw [z]
        · exact Nat.le_succ _
        · exact Nat.le_refl _
      exact I1.fpOk hle (I1.hok.fresh hle)
    · obtain ⟨its, rv, p', hz⟩ := I1.tuple hq
      refine enum1_call (begins_tuple a its.toArray) p' fun h' he hit hk => wpAny_pyIter_enum he ?_
      have I2 : L2.Inv X pins σ H1 { s1 with heap := h' } := I1.kept (t' := s1.toks) hk
      refine ⟨s1.heap.objs.size + 1, [s1.heap.objs.size + 1, s1.heap.objs.size], _, _, H1, rfl, I2, turn_enumT a (s1.heap.objs.size + 1) s1.heap.objs.size, ⟨⟨.none, he⟩, ⟨_, hit, rfl, rfl⟩, Nat.succ_ne_self _⟩, fun b hb => ?_, q⟩
      have hle : s1.heap.objs.size ≤ b := by
        have e' : b = s1.heap.objs.size + 1 ∨ b = s1.heap.objs.size := by simpa using hb
        rcases e' with z | z <;> rw [z]
        · exact Nat.le_succ _
        · exact Nat.le_refl _
      exact I1.fpOk hle (I1.hok.fresh hle)
end DV
end
section
set_option Elab.async false
set_option linter.all false
set_option maxRecDepth 100000
set_option maxHeartbeats 2000000
namespace DV
open PySem L2 PyProof.Rows PySem.Spec LamX

section
variable {X : Cx} {g : G} {W : WX} {F : Kn} {ι : List Addr} {h : AH} {H : Hp} {st : Stmt} {e a b o i c value : Expr} {es : List Expr} {m ma mb mo mi me mv : ME} {r : MA} {pos p tpos pos' apos : Pos}
/-! ### stores at places -/
def listAt (d : D) (h : AH) : Option (Nat × List D) := match d with
  | .ref n => match h[n]? with
    | some (some (.lst ds)) => some (n, ds)
    | _ => none
  | _ => none
theorem listAt_ok (hr : HR g F ι h H) {d : D} {v : V} {n : Nat} {ds : List D} (e : listAt d h = some (n, ds)) (rv : VR g F ι d v) : ∃ l vs, v = .ref l ∧ ι[n]? = some l ∧ h[n]? = some (some (.lst ds)) ∧ H l = some (.lst vs) ∧ VRs g F ι ds vs := by
  cases d with
  | ref k =>
    simp only [VR] at rv
    obtain ⟨l, rfl, en⟩ := rv
    simp only [listAt] at e
    split at e
    · rename_i xs eo
      cases e
      obtain ⟨b, z, q1, q2, ⟨vs, rfl, q3⟩, q4⟩ := hr.hp n _ eo
      rw [en] at q1
      cases q1
      exact ⟨l, vs, rfl, en, eo, q2, q3⟩
    · cases e
  | _ => cases e
theorem listAt_put (t : TiOk g) (hr : HR g F ι h H) {n : Nat} {l : Addr} {ds ds' : List D} {vs vs' : List V} (en : ι[n]? = some l) (eo : h[n]? = some (some (.lst ds))) (q : H l = some (.lst vs)) (rv : VRs g F ι ds' vs') :
    HR g F ι (h.set n (some (.lst ds'))) (upd H l (.lst vs')) := hr.write t eo en (by rw [q]; trivial) ⟨vs', rfl, rv⟩
def setAt (x k v : D) (h : AH) : Option AH := match listAt x h, k with
  | some (n, ds), .int z => (ixN ds.length z).map fun j => h.set n (some (.lst (ds.set j v)))
  | _, _ => none
theorem setAt_ok (t : TiOk g) (hr : HR g F ι h H) {x k d : D} {h' : AH} {u w y : V} (e : setAt x k d h = some h') (rx : VR g F ι x u) (rk : VR g F ι k w) (rd : VR g F ι d y) :
    ∃ l vs z j, u = .ref l ∧ w = .int z ∧ H l = some (.lst vs) ∧ ixN vs.length z = some j ∧ HR g F ι h' (upd H l (.lst (vs.set j y))) := by
  unfold setAt at e
  split at e
  · rename_i n ds z e1
    obtain ⟨l, vs, rfl, en, eo, q, rv⟩ := listAt_ok hr e1 rx
    cases rk.int'
    cases e2 : ixN ds.length z with
    | none => rw [e2] at e; cases e
    | some j =>
      rw [e2] at e
      cases e
      exact ⟨l, vs, z, j, rfl, rfl, q, by rw [rv.length]; exact e2, listAt_put t hr en eo q (rv.set rd)⟩
  · cases e
/-- o[i] = .. as a target -/
def gmSub (mo mi : ME) : MG := fun d σ h => bindR (mo σ h) fun x h1 => bindR (mi σ h1) fun k h2 => match setAt x k d h2 with | some h3 => .ok σ h3 | none => .stuck
theorem gm_sub (t : TiOk g) (ho : PE X o (tE g W0 mo)) (hi : PE X i (tE g W0 mi))
    (ha : ∀ v, assign (.Subscript o i pos) X.env v = (do
      let ov ← holding [v] (eval o X.env)
      let iv ← holding [v, ov] (eval i X.env)
      standAt pos
      holding [v, ov, iv] (setItem ov iv v)
      release [v, ov, iv] []) := by intro _; rfl) : PG X (.Subscript o i pos) (tG g W [] (gmSub mo mi)) := by
  refine PG_weak (pg_sub ho hi set_list ha) ?_
  rintro y σv H Q ⟨F, ι, σ, h, d, hr, lr, rd, p⟩
  unfold gmSub at p
  refine ⟨F, ι, σ, h, hr, lr, ?_⟩
  revert p
  cases mo σ h with
  | exc c h1 => exact fun p => p.elim
  | stuck => exact fun p => p.elim
  | ok x h1 =>
    intro p F1 ι1 H1 u l1 hr1 r1
    refine ⟨F1, ι1, σ, h1, hr1, lr.mono l1, ?_⟩
    have p : (match bindR (mi σ h1) fun k h2 => (match setAt x k d h2 with | some h3 => Rv.ok σ h3 | none => .stuck) with | .ok σ' h' => ∀ F' ι' H' σv', Le F ι F' ι' → HR g F' ι' h' H' → LR g F' ι' σ' σv' → SameBut [] σv σv' → Q σv' H' | _ => False) := p
    revert p
    cases mi σ h1 with
    | exc c h2 => exact fun p => p.elim
    | stuck => exact fun p => p.elim
    | ok k h2 =>
      intro p F2 ι2 H2 w l2 hr2 r2
      have p : (match (match setAt x k d h2 with | some h3 => Rv.ok σ h3 | none => .stuck) with | .ok σ' h' => ∀ F' ι' H' σv', Le F ι F' ι' → HR g F' ι' h' H' → LR g F' ι' σ' σv' → SameBut [] σv σv' → Q σv' H' | _ => False) := p
      cases e : setAt x k d h2 with
      | none => rw [e] at p; exact p.elim
      | some h3 =>
        rw [e] at p
        obtain ⟨l, vs, z, j, rfl, rfl, q1, q2, q3⟩ := setAt_ok t hr2 e (VR.mono l2 _ _ r1) r2 (VR.mono (l1.trans l2) _ _ rd)
        exact ⟨l, vs, z, j, rfl, rfl, q1, q2, p F2 ι2 _ σv (l1.trans l2) q3 (lr.mono (l1.trans l2)) .refl⟩
/-! o[i] op= e -/
theorem get_list : PGet X (fun x y H Q => ∃ p xs k v, x = .ref p ∧ y = .int k ∧ SqL X.K H p xs ∧ atI xs k = some v ∧ Q v H) := by
  intro pins s σ H x y ov iv Q I rx ry h
  obtain ⟨p, xs, k, z, rfl, rfl, hq, he, q⟩ := h
  cases rx
  obtain ⟨t, rfl⟩ := ry
  obtain ⟨its, r, pl, hz⟩ := I.list hq
  obtain ⟨j, h1, h2, h3, h4, h5⟩ := atI_get he
  obtain ⟨w, ew, rw'⟩ := r.get h2
  have hl := r.length
  have hn := line63
  have fin : EP X pins σ Q w s := ⟨z, H, I, rw', q⟩
  by_cases h0 : 0 ≤ k
  · have hj : k.toNat = j := by
      rw [seqIndex_of h0 h5] at h1
      exact Option.some.inj h1
    exact wpAny_getItem_list pl.isList h0 (by omega) (by rw [hj]; simpa using ew) fin
  · have hj : (k + (its.toArray.size : Int)).toNat = j := by
      rw [seqIndex_neg (by omega) h4] at h1
      rw [List.size_toArray, ← hl]
      exact Option.some.inj h1
    exact wpAny_getItem_list_neg pl.isList (by omega) (by rw [List.size_toArray] <;> omega) (by omega) (by rw [hj]; simpa using ew) fin
def sAugI (f : D → D → AH → Rv D) (mo mi me : ME) : MS := fun σ h => ofE σ (mo σ h) fun x h1 => ofE σ (mi σ h1) fun k h2 => match getL h2 x, k with
  | some xs, .int z => match atI xs z with
    | some y => ofE σ (me σ h2) fun e h3 => ofE σ (f y e h3) fun n h4 => match setAt x k n h4 with | some h5 => .ok (.nx σ) h5 | none => .stuck
    | none => .stuck
  | _, _ => .stuck
theorem atI_rel2 {ds : List D} {vs : List V} {z : Int} {d : D} (r : VRs g F ι ds vs) (e : atI ds z = some d) : ∃ v, atI vs z = some v ∧ VR g F ι d v := by
  unfold atI at e ⊢
  rw [r.length]
  cases q : ixN ds.length z with
  | none => rw [q] at e; cases e
  | some j =>
    rw [q] at e
    obtain ⟨v, h1, h2⟩ := r.get e
    exact ⟨v, h1, h2⟩
theorem sm_augI (t : TiOk g) (hK : X.K = g.K) {op : Operator} {ti : TIp} {f : D → D → AH → Rv D} (ho : PE X o (tE g W mo)) (hi : PE X i (tE g W mi)) (he : PE X e (tE g W me)) (hp : PIp X op ti) (hk : OpOk g ti f)
    (ha : ∀ ov iv new, augStore i ov iv new = (do holding [new, ov, iv] (setItem ov iv new); release [new, ov, iv] []; pure .next) := by intros; rfl) : PS X (.AugAssign (.Subscript o i tpos) op e pos) (tS g W (sAugI f mo mi me)) := by
  refine PS_weak (ps_augS ho hi get_list he hp set_list ha) ?_
  rintro E σv H ⟨F, ι, σ, h, hr, lr, p⟩
  unfold sAugI at p
  refine tS_bind (f := fun σ x h1 => ofE σ (mi σ h1) fun k h2 => match getL h2 x, k with
    | some xs, .int z => match atI xs z with
      | some y => ofE σ (me σ h2) fun e h3 => ofE σ (f y e h3) fun n h4 => match setAt x k n h4 with | some h5 => .ok (.nx σ) h5 | none => .stuck
      | none => .stuck
    | _, _ => .stuck) hr lr p fun F1 ι1 H1 x h1 u l1 hr1 lr1 r1 p1 => ?_
  refine tS_bind (f := fun σ k h2 => match getL h2 x, k with
    | some xs, .int z => match atI xs z with
      | some y => ofE σ (me σ h2) fun e h3 => ofE σ (f y e h3) fun n h4 => match setAt x k n h4 with | some h5 => .ok (.nx σ) h5 | none => .stuck
      | none => .stuck
    | _, _ => .stuck) hr1 lr1 p1 fun F2 ι2 H2 k h2 w l2 hr2 lr2 r2 p2 => ?_
  split at p2
  · rename_i xs z e1
    split at p2
    · rename_i y e2
      have rx2 := VR.mono l2 _ _ r1
      obtain ⟨b, vs, rfl, s1, s2⟩ := getL_ok hr2 e1 rx2
      cases r2.int'
      obtain ⟨v, e3, rv⟩ := atI_rel2 s2 e2
      refine ⟨b, vs, z, v, rfl, rfl, by rw [hK]; exact s1, e3, ?_⟩
      refine tS_bind (f := fun σ e h3 => ofE σ (f y e h3) fun n h4 => match setAt x (.int z) n h4 with | some h5 => .ok (.nx σ) h5 | none => .stuck) hr2 lr2 p2 fun F3 ι3 H3 d h3 u l3 hr3 lr3 r3 p3 => ?_
      refine hk W F3 ι3 h3 H3 σv y d v u _ hr3 (VR.mono l3 _ _ rv) r3 (ofE_post lr3 p3 fun F4 ι4 H4 n h4 w l4 hr4 lr4 r4 p4 => ?_)
      split at p4
      · rename_i h5 e5
        obtain ⟨l, vs', z', j, q1, q2, q3, q4, q5⟩ := setAt_ok t hr4 e5 (VR.mono (l3.trans l4) _ _ rx2) (by simp [VR] : VR g F4 ι4 (.int z) (.int z)) r4
        exact ⟨l, vs', z', j, q1, q2, q3, q4, nxt p4 q5 lr4⟩
      · exact p4.elim
    · exact p2.elim
  · exact p2.elim
/-! ### a method of a list by values -/
def mBM (ty : AH → D → Bool) (f : D → List D → AH → Rv D) (mo : ME) (r : MA) : ME := fun σ h => bindR (mo σ h) fun x h1 => if ty h1 x = true then bindR (r σ h1) fun xs h2 => f x xs h2 else .stuck
def MetOk (g : G) (rm : V → List V → Hp → VK → Prop) (f : D → List D → AH → Rv D) : Prop :=
  ∀ (W : WX) (F : Kn) (ι : List Addr) (h : AH) (H : Hp) (σv : L2.St) (x : D) (ds : List D) (u : V) (vs : List V) (Q : VK), HR g F ι h H → VR g F ι x u → VRs g F ι ds vs → Post g W F ι σv (VR g) (f x ds h) Q → rm u vs H Q
def TyOk (g : G) (T : String) (ty : AH → D → Bool) : Prop := ∀ (F : Kn) (ι : List Addr) (h : AH) (H : Hp) (x : D) (u : V), HR g F ι h H → VR g F ι x u → ty h x = true → tyV g.K T u H
theorem em_bm {T id : String} {name : Str} {rm : V → List V → Hp → VK → Prop} {f : D → List D → AH → Rv D} {ty : AH → D → Bool} {cpos : Pos} (hK : X.K = g.K) (pa : PlainAttrs T) (slot : Slot T name id) (hty : typeOf (.builtin id) = pure (.type "method_descriptor")) (hm : MtR X id rm) (hk : MetOk g rm f) (ht : TyOk g T ty)
    (ho : PE X o (tE g W mo)) (ha : PA X (e :: es) (tA g W r)) (hbase : attributeBase o name X.env (eval o X.env) = eval o X.env := by rfl)
    (hfew : ((backTo cpos (starEach (e :: es) X.env)).all (fun x => !x.1) && (backToKw cpos (keywordEach [] X.env)).all (fun x => x.1.isSome)
      && decide ((e :: es).length + ([] : List Keyword).length + (if ([] : List Keyword).isEmpty then 0 else 1) < 30)) = true := by rfl)
    (hline : (apos.endLine == cpos.line) = true := by rfl) (hs : starEach (e :: es) X.env = (false, eval e X.env) :: starEach es X.env := by rfl) (hplain : (backTo cpos (starEach es X.env)).any (·.1) = false := by rfl) :
    PE X (.Call (.Attribute o name apos) (e :: es) [] cpos) (tE g W (mBM ty f mo r)) := by
  refine PE_weak (pe_bm pa slot hty hm ho ha hbase hfew hline hs hplain) ?_
  rintro σv H Q ⟨F, ι, σ, h, hr, lr, p⟩
  refine tM_bind (f := fun σ x h1 => if ty h1 x = true then bindR (r σ h1) fun xs h2 => f x xs h2 else .stuck) hr lr p fun F1 ι1 H1 x h1 v l hr1 lr1 r1 p1 => ?_
  split at p1
  · rename_i ex
    refine ⟨by rw [hK]; exact ht F1 ι1 h1 H1 x v hr1 r1 ex, ?_⟩
    exact tM_bind (f := fun _ xs h2 => f x xs h2) hr1 lr1 p1 fun F2 ι2 H2 xs h2 vs l2 hr2 lr2 r2 p2 => hk W F2 ι2 h2 H2 σv x xs v vs Q hr2 (VR.mono l2 _ _ r1) r2 p2
  · exact p1.elim
def isLst (h : AH) (d : D) : Bool := (getL h d).isSome
theorem ty_list : TyOk g "list" isLst := by
  intro F ι h H x u hr rv e
  unfold isLst at e
  cases q : getL h x with
  | none => rw [q] at e; cases e
  | some ds =>
    obtain ⟨a, vs, rfl, s1, s2⟩ := getL_ok hr q rv
    exact .inl ⟨rfl, vs, s1⟩
def mtAppend (x : D) (ds : List D) (h : AH) : Rv D := match listAt x h, ds with
  | some (n, xs), [d] => if xs.length < sizeLine then .ok .non (h.set n (some (.lst (xs ++ [d])))) else .stuck
  | _, _ => .stuck
theorem k_append (t : TiOk g) : MetOk g rAppend mtAppend := by
  intro W F ι h H σv x ds u vs Q hr rx rv p
  unfold mtAppend at p
  split at p
  · rename_i n xs d e1
    obtain ⟨l, ws, rfl, en, eo, q, rw'⟩ := listAt_ok hr e1 rx
    obtain ⟨v, rfl, r1⟩ := one1 rv
    split at p
    · rename_i hz
      refine ⟨l, ws, v, rfl, rfl, q, by rw [rw'.length]; exact hz, ?_⟩
      exact p F ι _ .non .refl (listAt_put t hr en eo q (rw'.append (VRs.one r1))) (by simp [VR])
    · exact p.elim
  · exact p.elim
theorem em_append (t : TiOk g) (hK : X.K = g.K) {cpos : Pos} (ho : PE X o (tE g W mo)) (ha : PA X [e] (tA g W r)) (hbase : attributeBase o "append" X.env (eval o X.env) = eval o X.env := by rfl)
    (hfew : ((backTo cpos (starEach [e] X.env)).all (fun x => !x.1) && (backToKw cpos (keywordEach [] X.env)).all (fun x => x.1.isSome)
      && decide ([e].length + ([] : List Keyword).length + (if ([] : List Keyword).isEmpty then 0 else 1) < 30)) = true := by rfl)
    (hline : (apos.endLine == cpos.line) = true := by rfl) (hs : starEach [e] X.env = (false, eval e X.env) :: starEach [] X.env := by rfl) (hplain : (backTo cpos (starEach [] X.env)).any (·.1) = false := by rfl) :
    PE X (.Call (.Attribute o "append" apos) [e] [] cpos) (tE g W (mBM isLst mtAppend mo r)) :=
  em_bm hK PySem.F.plainAttrs_list PySem.F.slot_list_append PySem.F.type_list_append mt_append (k_append t) ty_list ho ha hbase hfew hline hs hplain
/-! ### op= -/
def dIAdd (a b : D) (h : AH) : Rv D := match a, b with
  | .int i, .int j => .ok (.int (i + j)) h
  | .str x, .str y => okIf (x.length + y.length ≤ sizeLine) (.ok (.str (x ++ y)) h)
  | a, b => match listAt a h, getLs h b with
    | some (n, xs), some ys => okIf (xs.length + ys.length ≤ sizeLine) (.ok a (h.set n (some (.lst (xs ++ ys)))))
    | _, _ => .stuck
def rIAdd : R2 := fun x y H Q => rI0 (fun i j => .int (i + j)) x y H Q ∨ (∃ i j, x = .str i ∧ y = .str j ∧ i.length + j.length ≤ sizeLine ∧ Q (.str (i ++ j)) H) ∨ rExt2 x y H Q
theorem op_iadd : OpR X (inplaceOp .Add) rIAdd := iop_add.or (iop_add_str.or iop_ext)
theorem ok_iadd (t : TiOk g) : OpOk g rIAdd dIAdd := by
  intro W F ι h H σv a b v u Q hr ra rb p
  have ext : dIAdd a b h = (match listAt a h, getLs h b with
    | some (n, xs), some ys => okIf (xs.length + ys.length ≤ sizeLine) (.ok a (h.set n (some (.lst (xs ++ ys)))))
    | _, _ => .stuck) → rIAdd v u H Q := fun e => by
    rw [e] at p
    split at p
    · rename_i n xs ys e1 e2
      obtain ⟨l, vs, rfl, en, eo, q1, q2⟩ := listAt_ok hr e1 ra
      obtain ⟨m, ws, rfl, q3, q4⟩ := getL_lst hr e2 rb
      obtain ⟨hz, p⟩ := okIf_post p
      exact .inr (.inr ⟨l, m, vs, ws, rfl, rfl, q1, q3, by rw [q2.length, q4.length]; exact hz, p F ι _ _ .refl (listAt_put t hr en eo q1 (q2.append q4)) ra⟩)
    · exact p.elim
  unfold dIAdd at p ext
  split at p
  · cases ra.int'; cases rb.int'
    exact .inl ⟨_, _, rfl, rfl, fini p hr⟩
  · cases ra.str'; cases rb.str'
    obtain ⟨hz, p⟩ := okIf_post p
    exact .inr (.inl ⟨_, _, rfl, rfl, hz, fins p hr⟩)
  · rename_i n1 n2
    refine ext ?_
    split
    · exact (n1 _ _ rfl rfl).elim
    · exact (n2 _ _ rfl rfl).elim
    · rfl
end
end DV
end
section
set_option Elab.async false
set_option linter.all false
set_option maxRecDepth 100000
set_option maxHeartbeats 2000000
namespace DV
open PySem L2 PyProof.Rows PySem.Spec LamX RZ

section
variable {X : Cx} {g : G} {W : WX} {F : Kn} {ι : List Addr} {h : AH} {H : Hp} {e e2 : Expr} {r : MA} {p pos tpos : Pos} {elts : List Expr} {kk : Nat}
/-! ### enumerate -/
def itEn (d : D) : IT := fun i h => match getS h d with
  | some ds => match ds[i]? with | some y => .go (.tup [.int i, y]) | none => .stop
  | none => .bad
def enIt (d : D) (h : AH) : Rv IT := match getS h d with | some _ => .ok (itEn d) h | none => .stuck
def miEnum (r : MA) : MI := fun σ h => bindR (r σ h) fun xs h1 => match xs with | [x] => enIt x h1 | _ => .stuck
theorem new_pair (t : TiOk g) {F' : Kn} {ι' : List Addr} {d1 d2 : D} {v1 v2 : V} {T : Addr} (hr : HR g F' ι' h H) (hT : H T = none) (r1 : VR g F' ι' d1 v1) (r2 : VR g F' ι' d2 v2) :
    ∃ F2, Le F' ι' F2 ι' ∧ HR g F2 ι' h (upd H T (.tup [v1, v2])) ∧ VR g F2 ι' (.tup [d1, d2]) (.ref T) := by
  obtain ⟨hr2, l2⟩ := hr.newF t hT (.tup [v1, v2])
  refine ⟨_, l2, hr2, ?_⟩
  simp only [VR, VRs]
  exact ⟨T, _, rfl, .inl add_same, v1, _, rfl, VR.mono l2 _ _ r1, v2, _, rfl, VR.mono l2 _ _ r2, rfl⟩
theorem jr_enL (t : TiOk g) {d : D} {a : Addr} (rv : VR g F ι d (.ref a)) (hd : ∀ h, getS h d = getL h d) : JR g F ι (itEn d) (Ite g.K a) := by
  intro F' ι' i h H l hr
  unfold itEn
  rw [hd]
  cases e : getL h d with
  | none => trivial
  | some ds =>
    obtain ⟨b, vs, z, hs, q2⟩ := getL_ok hr e (VR.monoF l _ _ rv)
    cases z
    dsimp only
    cases e : ds[i]? with
    | none => exact ⟨vs, hs, by rw [q2.length]; exact List.getElem?_eq_none_iff.mp e⟩
    | some y =>
      obtain ⟨v, z1, z2⟩ := q2.get e
      refine ⟨⟨vs, v, hs, z1⟩, fun x H' hy => ?_⟩
      obtain ⟨T, w, rfl, hT, rfl, hw⟩ := hy
      have z := hw vs hs
      rw [z1] at z
      cases z
      exact new_pair t hr hT (by simp [VR]) z2
theorem jr_enT (t : TiOk g) {ds : List D} {a : Addr} (rv : VR g F ι (.tup ds) (.ref a)) : JR g F ι (itEn (.tup ds)) (IteT g.K a) := by
  intro F' ι' i h H l hr
  show match (match ds[i]? with | some y => Stp.go (.tup [.int i, y]) | none => .stop) with | .stop => _ | .go d => _ | .bad => True
  obtain ⟨b, vs, z, hs, q2⟩ := tup_ok hr (VR.monoF l _ _ rv)
  cases z
  cases e : ds[i]? with
  | none => exact ⟨vs, hs, by rw [q2.length]; exact List.getElem?_eq_none_iff.mp e⟩
  | some y =>
    obtain ⟨v, z1, z2⟩ := q2.get e
    refine ⟨⟨vs, v, hs, z1⟩, fun x H' hy => ?_⟩
    obtain ⟨T, w, rfl, hT, rfl, hw⟩ := hy
    have z := hw vs hs
    rw [z1] at z
    cases z
    exact new_pair t hr hT (by simp [VR]) z2
theorem im_enum (t : TiOk g) (hK : X.K = g.K) (hg : Gl X "enumerate") (hm : X.mg "enumerate" = none) (ha : PA X [e] (tA g W r)) (hs : starEach [e] X.env = [(false, eval e X.env)] := by rfl) :
    PI X (.Tuple elts kk tpos) (.Call (.Name "enumerate" p) [e] [] pos) (tI g W (miEnum r)) := by
  refine PI_weak (pi_enumA hg hm ha hs) ?_
  rintro σv H R ⟨F, ι, σ, h, hr, lr, p⟩
  refine tM_bind (f := fun _ xs h1 => match xs with | [x] => enIt x h1 | _ => .stuck) hr lr p fun F1 ι1 H1 xs h1 vs l hr1 lr1 r1 p1 => ?_
  split at p1
  · rename_i x
    obtain ⟨v, rfl, rx⟩ := one1 r1
    unfold enIt at p1
    rw [hK]
    have big : (∀ h, getS h x = getL h x) → ∃ a, [v] = [V.ref a] ∧ ((∃ xs, SqL g.K H1 a xs ∧ R (Ite g.K a) H1) ∨ ∃ xs, SqT g.K H1 a xs ∧ R (IteT g.K a) H1) := fun hd => by
      rw [hd] at p1
      split at p1
      · rename_i ds e1
        obtain ⟨a, vs, rfl, q1, q2⟩ := getL_ok hr1 e1 rx
        exact ⟨a, rfl, .inl ⟨vs, q1, p1 F1 ι1 H1 _ .refl hr1 (jr_enL t rx hd)⟩⟩
      · exact p1.elim
    cases x with
    | tup ds =>
      obtain ⟨a, vs, rfl, q1, q2⟩ := tup_ok hr1 rx
      exact ⟨a, rfl, .inr ⟨vs, q1, p1 F1 ι1 H1 _ .refl hr1 (jr_enT t rx)⟩⟩
    | _ => exact big fun _ => rfl
  · exact p1.elim
/-! ### zip of two lists or two tuples -/
def itZp (d e : D) : IT := fun i h => match getS h d, getS h e with
  | some xs, some ys => match xs[i]?, ys[i]? with | some x, some y => .go (.tup [x, y]) | _, _ => .stop
  | _, _ => .bad
def zpIt (d e : D) (h : AH) : Rv IT := match d, e with
  | .tup _, .tup _ => .ok (itZp d e) h
  | .tup _, _ => .stuck
  | _, .tup _ => .stuck
  | d, e => match getL h d, getL h e with | some _, some _ => .ok (itZp d e) h | _, _ => .stuck
def miZip (r : MA) : MI := fun σ h => bindR (r σ h) fun xs h1 => match xs with | [x, y] => zpIt x y h1 | _ => .stuck
theorem jr_zpL (t : TiOk g) {d d' : D} {a b : Addr} (rv : VR g F ι d (.ref a)) (rv' : VR g F ι d' (.ref b)) (hd : ∀ h, getS h d = getL h d) (hd' : ∀ h, getS h d' = getL h d') : JR g F ι (itZp d d') (Itz g.K a b) := by
  intro F' ι' i h H l hr
  unfold itZp
  rw [hd, hd']
  cases e : getL h d with
  | none => trivial
  | some xs =>
    cases e' : getL h d' with
    | none => trivial
    | some ys =>
      obtain ⟨c, vs, z, hs, q2⟩ := getL_ok hr e (VR.monoF l _ _ rv)
      cases z
      obtain ⟨c, ws, z, hs', q2'⟩ := getL_ok hr e' (VR.monoF l _ _ rv')
      cases z
      dsimp only
      cases f : xs[i]? with
      | none => exact ⟨vs, ws, hs, hs', .inl (by rw [q2.length]; exact List.getElem?_eq_none_iff.mp f)⟩
      | some x =>
        cases f' : ys[i]? with
        | none => exact ⟨vs, ws, hs, hs', .inr (by rw [q2'.length]; exact List.getElem?_eq_none_iff.mp f')⟩
        | some y =>
          obtain ⟨v, z1, z2⟩ := q2.get f
          obtain ⟨w, z3, z4⟩ := q2'.get f'
          refine ⟨⟨vs, ws, v, w, hs, hs', z1, z3⟩, fun x H' hy => ?_⟩
          obtain ⟨T, v', w', rfl, hT, rfl, hv, hw⟩ := hy
          have z := hv vs hs
          rw [z1] at z
          cases z
          have z := hw ws hs'
          rw [z3] at z
          cases z
          exact new_pair t hr hT z2 z4
theorem jr_zpT (t : TiOk g) {xs ys : List D} {a b : Addr} (rv : VR g F ι (.tup xs) (.ref a)) (rv' : VR g F ι (.tup ys) (.ref b)) : JR g F ι (itZp (.tup xs) (.tup ys)) (ItzT g.K a b) := by
  intro F' ι' i h H l hr
  show match (match xs[i]?, ys[i]? with | some x, some y => Stp.go (.tup [x, y]) | _, _ => .stop) with | .stop => _ | .go d => _ | .bad => True
  obtain ⟨c, vs, z, hs, q2⟩ := tup_ok hr (VR.monoF l _ _ rv)
  cases z
  obtain ⟨c, ws, z, hs', q2'⟩ := tup_ok hr (VR.monoF l _ _ rv')
  cases z
  cases f : xs[i]? with
  | none => exact ⟨vs, ws, hs, hs', .inl (by rw [q2.length]; exact List.getElem?_eq_none_iff.mp f)⟩
  | some x =>
    cases f' : ys[i]? with
    | none => exact ⟨vs, ws, hs, hs', .inr (by rw [q2'.length]; exact List.getElem?_eq_none_iff.mp f')⟩
    | some y =>
      obtain ⟨v, z1, z2⟩ := q2.get f
      obtain ⟨w, z3, z4⟩ := q2'.get f'
      refine ⟨⟨vs, ws, v, w, hs, hs', z1, z3⟩, fun x H' hy => ?_⟩
      obtain ⟨T, v', w', rfl, hT, rfl, hv, hw⟩ := hy
      have z := hv vs hs
      rw [z1] at z
      cases z
      have z := hw ws hs'
      rw [z3] at z
      cases z
      exact new_pair t hr hT z2 z4
theorem im_zip (t : TiOk g) (hK : X.K = g.K) (hg : Gl X "zip") (hm : X.mg "zip" = none) (ha : PA X [e, e2] (tA g W r)) (hs : starEach [e, e2] X.env = (false, eval e X.env) :: starEach [e2] X.env := by rfl) (hpl : (backTo pos (starEach [e2] X.env)).any (·.1) = false := by rfl) :
    PI X (.Tuple elts kk tpos) (.Call (.Name "zip" p) [e, e2] [] pos) (tI g W (miZip r)) := by
  refine PI_weak (pi_zipA hg hm ha hs hpl) ?_
  rintro σv H R ⟨F, ι, σ, h, hr, lr, p⟩
  refine tM_bind (f := fun _ xs h1 => match xs with | [x, y] => zpIt x y h1 | _ => .stuck) hr lr p fun F1 ι1 H1 xs h1 vs l hr1 lr1 r1 p1 => ?_
  split at p1
  · rename_i x y
    obtain ⟨v, u, rfl, rx, ry⟩ := two2 r1
    rw [hK]
    have big : (∀ h, getS h x = getL h x) → (∀ h, getS h y = getL h y) → zpIt x y h1 = (match getL h1 x, getL h1 y with | some _, some _ => Rv.ok (itZp x y) h1 | _, _ => .stuck) →
        ∃ a b xs ys, [v, u] = [V.ref a, V.ref b] ∧ ((SqL g.K H1 a xs ∧ SqL g.K H1 b ys ∧ R (Itz g.K a b) H1) ∨ (SqT g.K H1 a xs ∧ SqT g.K H1 b ys ∧ R (ItzT g.K a b) H1)) := fun hx hy hz => by
      rw [hz] at p1
      split at p1
      · rename_i xs ys e1 e2
        obtain ⟨a, vs, rfl, q1, q2⟩ := getL_ok hr1 e1 rx
        obtain ⟨b, ws, rfl, q3, q4⟩ := getL_ok hr1 e2 ry
        exact ⟨a, b, vs, ws, rfl, .inl ⟨q1, q3, p1 F1 ι1 H1 _ .refl hr1 (jr_zpL t rx ry hx hy)⟩⟩
      · exact p1.elim
    cases x with
    | tup xs =>
      cases y with
      | tup ys =>
        obtain ⟨a, vs, rfl, q1, q2⟩ := tup_ok hr1 rx
        obtain ⟨b, ws, rfl, q3, q4⟩ := tup_ok hr1 ry
        exact ⟨a, b, vs, ws, rfl, .inr ⟨q1, q3, p1 F1 ι1 H1 _ .refl hr1 (jr_zpT t rx ry)⟩⟩
      | _ => exact p1.elim
    | _ => cases y with
      | tup ys => exact p1.elim
      | _ => exact big (fun _ => rfl) (fun _ => rfl) rfl
  · exact p1.elim
end
/-! ### the tables are kept -/
theorem tabs_ti {g : G} {T : List (Addr × Str)} (h : g.Ti = Tabs T) : TiOk g := by
  refine ⟨fun H a o ht hw => ?_⟩
  rw [h] at ht ⊢
  intro q hq
  obtain ⟨ps, h1, h2, h3⟩ := ht q hq
  have ne : ∀ b u, H b = some u → ¬ Wr (some u) → b ≠ a := fun b u e n z => by
    rw [z] at e
    rcases hw with hw | hw
    · rw [hw] at e; cases e
    · rw [e] at hw; exact n hw
  refine ⟨ps, by rw [upd_ne (ne _ _ h1 fun z => z)]; exact h1, h2, fun pos cv hc => ?_⟩
  obtain ⟨c, e1, e2⟩ := h3 pos cv hc
  exact ⟨c, e1, by rw [upd_ne (ne _ _ e2 fun z => z)]; exact e2⟩
end DV
end
section
set_option Elab.async false
set_option linter.all false
set_option maxRecDepth 100000
set_option maxHeartbeats 2000000
namespace DV
open PySem L2 PyProof.Rows PySem.Spec LamX

/-! ### what a law's module has -/
structure Md where
  fa : List He.Fa
  fn : List He.DefD
  /-- the defs that hold generator expressions or lambdas, their code objects' names -/
  tl : List (He.Defn × Str)
  cs : List Str
  xs : List Str
def Md.tf (M : Md) : List He.Defn := M.tl.map (·.1)
def Md.ex (M : Md) (K : PySem.W.Frag) : Bool := decide ((M.tf.map fun p => (He.cT K p).2).Nodup)
def Md.T (M : Md) (K : PySem.W.Frag) : List (Addr × Str) := M.tl.map fun q => ((He.cT K q.1).2, q.2)
def Md.g (M : Md) (K : PySem.W.Frag) : G := { K := K, cls := fun i => He.ga K (M.cs.getD i Str.empty), exc := fun i => He.ga K (M.xs.getD i Str.empty), Cl := fun _ _ _ _ _ => False, Ti := Tabs (M.T K) }
theorem Md.ti (M : Md) (K : PySem.W.Frag) : TiOk (M.g K) := tabs_ti rfl
structure EV (M : Md) (w : World) (K : PySem.W.Frag) (mg : Str → Option Value) (base h : Heap) : Prop where
  c : He.SaysX M.fa M.fn [] M.tf M.ex w h K
  X : K.In h
  G : h.Ns mainGlobals mg
  TB : ∀ p ∈ M.tf.map (He.cT K), TabB base mg p.1 p.2
section
variable {M : Md} {w : World} {K : PySem.W.Frag} {mg : Str → Option Value} {base h : Heap}
theorem EV.fact (E : EV M w K mg base h) (i : Nat) {f : He.Fa} (e : M.fa[i]? = some f := by rfl) : f.ok K = true := E.c.t.d.fact i e
theorem EV.glo (E : EV M w K mg base h) (i : Nat) {x : Str} (e : M.fa[i]? = some (.glo x) := by rfl) : mg x = some (.ref (He.ga K x)) := He.glo_ok E.X E.G (E.fact i e)
theorem EV.free (E : EV M w K mg base h) (i : Nat) {x : Str} (e : M.fa[i]? = some (.free x) := by rfl) : mg x = none := He.free_ok E.X E.G (E.fact i e)
theorem EV.int (E : EV M w K mg base h) (i : Nat) {x : Str} {k : Int} (e : M.fa[i]? = some (.int x k) := by rfl) : ∃ t, mg x = some (.int k t) := He.int_ok E.X E.G (E.fact i e)
theorem EV.cls (E : EV M w K mg base h) (i : Nat) {x : Str} (e : M.fa[i]? = some (.cls x) := by rfl) : Cls K (He.ga K x) := He.cls_ok (E.fact i e)
theorem EV.noat (E : EV M w K mg base h) (i : Nat) {x f : Str} (e : M.fa[i]? = some (.noat x f) := by rfl) : NoAttr K (He.ga K x) f := He.noat_ok (E.fact i e)
theorem EV.meth (E : EV M w K mg base h) (i : Nat) {x m : Str} (e : M.fa[i]? = some (.meth x m) := by rfl) : Meth K (He.ga K x) m (He.ma K (He.ga K x) m) := He.meth_ok (E.fact i e)
theorem EV.mkr (E : EV M w K mg base h) (i : Nat) {x : Str} (e : M.fa[i]? = some (.mkr x) := by rfl) : Mk K (He.ga K x) (He.ma K (He.ga K x) "__init__") := He.mkr_ok (E.fact i e)
theorem EV.keep (E : EV M w K mg base h) (i : Nat) {x : Str} (e : M.fa[i]? = some (.keep x) := by rfl) : PySem.W.keepIn K (.ref (He.ga K x)) = true := He.keep_ok (E.fact i e)
theorem EV.exc (E : EV M w K mg base h) (i : Nat) {x : Str} (e : M.fa[i]? = some (.exc x) := by rfl) : PySem.W.excIn K (He.ga K x) He.veBase "ValueError.__new__" = true ∧ PySem.W.keepIn K (.ref (He.ga K x)) = true ∧ PySem.W.subIn K (.ref (He.ga K x)) (.type "BaseException") = some true ∧ PySem.W.typeIn K (.ref (He.ga K x)) = some (.type "type") := He.exc_ok (E.fact i e)
/-- a def keeps its promise -/
def Ok (M : Md) (P : Program) (w : World) (K : PySem.W.Frag) (mg : Str → Option Value) (base : Heap) (k : Nat) (d : He.DefD) (ps : List Str) (Fm : FM) : Prop :=
  ∃ fd, FunD K d.name d.qual d.params d.body d.scope (d.dvs K) (d.kws K) (He.fAd K d.at_) fd ∧ FnOk P w K mg base (L2.CX P w) k (He.fAd K d.at_) fd ps (spF (M.g K) ps.length Fm)
theorem EV.ok (E : EV M w K mg base h) {P : Program} (i : Nat) {d : He.DefD} {N ps : List Str} {k : Nat} {ms : MS} (e : M.fn[i]? = some d) (S : FnScope N ps d.scope)
    (hbody : ∀ (cdv : Value) (A : Around) (outer : List Env) (s : Shared) (H : Hp) (E : XK), cdv = .ref (He.codeOf K d.at_) → Room k (cxOf (L2.CX P w) P w K mg base N d.qual d.scope (He.fAd K d.at_) cdv A outer s H E).A →
      Takes (cxOf (L2.CX P w) P w K mg base N d.qual d.scope (He.fAd K d.at_) cdv A outer s H E) (WF E) → PassesOwn (model P w) (cxOf (L2.CX P w) P w K mg base N d.qual d.scope (He.fAd K d.at_) cdv A outer s H E).A (cxOf (L2.CX P w) P w K mg base N d.qual d.scope (He.fAd K d.at_) cdv A outer s H E).env (cxOf (L2.CX P w) P w K mg base N d.qual d.scope (He.fAd K d.at_) cdv A outer s H E).xe →
      PSs (cxOf (L2.CX P w) P w K mg base N d.qual d.scope (He.fAd K d.at_) cdv A outer s H E) d.body (tS (M.g K) (WF E) ms)) :
    Ok M P w K mg base (k + 1) d ps (runF N.length ms) := by
  obtain ⟨fd, F⟩ := E.c.t.d.def_ i e
  exact ⟨fd, F, fm_of F S hbody⟩
/-- the code object and the table of a def that holds generator expressions -/
theorem EV.tab (E : EV M w K mg base h) (i : Nat) {q : He.Defn × Str} (e : M.tl[i]? = some q) : TabB base mg (He.codeOf K q.1) (He.tabOf K (He.codeOf K q.1)) ∧ (He.tabOf K (He.codeOf K q.1), q.2) ∈ M.T K ∧ ∀ p ∈ M.T K, p.1 = He.tabOf K (He.codeOf K q.1) → p.2 = q.2 := by
  have hq : q ∈ M.tl := List.mem_of_getElem? e
  refine ⟨E.TB (He.cT K q.1) (List.mem_map.mpr ⟨q.1, List.mem_map.mpr ⟨q, hq, rfl⟩, rfl⟩), List.mem_map.mpr ⟨q, hq, rfl⟩, fun p hp hpe => ?_⟩
  obtain ⟨q', hq', rfl⟩ := List.mem_map.mp hp
  have nd : (M.tf.map fun p => (He.cT K p).2).Nodup := of_decide_eq_true E.c.more
  have nd2 : (M.tl.map fun q => (He.cT K q.1).2).Nodup := by
    have e : (M.tf.map fun p => (He.cT K p).2) = M.tl.map fun q => (He.cT K q.1).2 := by unfold Md.tf; rw [List.map_map]; rfl
    rw [← e]; exact nd
  have inj : ∀ (l : List (He.Defn × Str)), (l.map fun q => (He.cT K q.1).2).Nodup → ∀ a ∈ l, ∀ b ∈ l, (He.cT K a.1).2 = (He.cT K b.1).2 → a = b := by
    intro l
    induction l with
    | nil => intro _ a ha; cases ha
    | cons x l ih =>
      intro hn a ha b hb hab
      obtain ⟨n1, n2⟩ := List.nodup_cons.mp hn
      rcases List.mem_cons.mp ha with rfl | ha' <;> rcases List.mem_cons.mp hb with rfl | hb'
      · rfl
      · exact (n1 (List.mem_map.mpr ⟨b, hb', hab.symm⟩)).elim
      · exact (n1 (List.mem_map.mpr ⟨a, ha', hab⟩)).elim
      · exact ih n2 a ha' b hb' hab
  rw [inj M.tl nd2 q' hq' q hq hpe]
/-- the law's end -/
theorem EV.law {l : PySem.W.OpenLaw} {n k : Nat} {d : He.DefD} {Fm : FM} {x : Str} {fa : Addr} (c : He.SaysX M.fa M.fn [] M.tf M.ex w h K) (X : K.In h) (G : h.Ns mainGlobals mg) (hfa : mg d.name = some (.ref fa)) (hd : He.fAd K d.at_ = He.ga K d.name) (hg : mg d.name = some (.ref (He.ga K d.name)))
    (hdf : ∀ K, d.dvs K = []) (hkw : ∀ K, d.kws K = []) (hps : ∀ (kV doc pm : Value) (an : Option Addr) (cdv ct : Value) (us : List Value), us.length = [x].length → bindArgs (PySem.W.fnOf d.name d.qual d.params d.body d.scope .none kV doc pm an cdv ct) ⟨us, []⟩ = pure ([x].zip us))
    (i : Nat) (hi : M.fn[i]? = some d) (ok : ∀ base : Heap, EV M w K mg base h → Ok M l.prog w K mg base k d [x] Fm) (pl : Plain n Fm) : LawAtS l w K (L2.CX l.prog w) k n x mg fa h := by
  have e : fa = He.ga K d.name := by
    rw [hg] at hfa
    cases hfa
    rfl
  subst e
  obtain ⟨fd, F⟩ := c.t.d.def_ i hi
  have F0 := F
  rw [hdf, hkw] at F0
  have b := FunD.bindsA (ps := [x]) F0 hps
  refine ⟨fd, M.tf.map (He.cT K), spF (M.g K) 1 Fm, fun p hp => ?_, fun p hp => ?_, fun p hp => ?_, fun s u => b s [u] rfl, fun H a ns h1 h2 h3 h4 => spF_law pl h1 h2 ?_ h4, fun base hb hns TB => ?_⟩
  · obtain ⟨q, hq, rfl⟩ := List.mem_map.mp hp
    exact c.empty q hq
  · obtain ⟨q, hq, rfl⟩ := List.mem_map.mp hp
    exact c.out q hq
  · obtain ⟨q, hq, rfl⟩ := List.mem_map.mp hp
    exact PySem.W.codeHd_of_K X (c.hd q hq)
  · intro q hq
    obtain ⟨z, hz, rfl⟩ := List.mem_map.mp hq
    exact TabS.nil (h3 (He.cT K z.1) (List.mem_map.mpr ⟨z.1, List.mem_map.mpr ⟨z, hz, rfl⟩, rfl⟩))
  · obtain ⟨fd', F', O⟩ := ok base ⟨c, X, G, TB⟩
    have ef : fd' = fd := by
      obtain ⟨_, _, _, _, _, _, _, _, _, _, _, l1, _⟩ := F.ex
      obtain ⟨_, _, _, _, _, _, _, _, _, _, _, l2, _⟩ := F'.ex
      rw [l1] at l2
      have z := congrArg Obj.data (Option.some.inj l2)
      injection z with z
      exact z.symm
    subst ef
    rw [hd] at O
    exact O
end
end DV
namespace DV
open PySem L2
theorem units65 {k : Nat} {A : Around} (r : Room k A) : A.units + 65 < cLine := by have := r.un; omega
def dMulI : D → D → AH → Rv D := dInt CMul fun i j => .int (i * j)
end DV
end
section
set_option Elab.async false
set_option linter.all false
set_option maxRecDepth 100000
set_option maxHeartbeats 2000000
namespace DV
open PySem L2 PyProof.Rows PySem.Spec LamX

/-! ### lambdas as values -/
/-- the function object o stands at f -/
def LamO (f : Addr) (o : Obj) : HO := .ext fun h => h.get? f = some o
theorem lamO_nt (f : Addr) (o : Obj) : ∀ ps, LamO f o ≠ HO.tbl ps := fun ps z => by unfold LamO at z; cases z
theorem codeO_nt (c : Addr) (q : Str) : ∀ ps, CodeO c q ≠ HO.tbl ps := fun ps => codeO_ne ps
theorem lamO_ok {P : Program} {w : World} {H : Hp} {h : Heap} {f : Addr} {o : Obj} (e : h.get? f = some o) : ObjOk P w H h f (LamO f o) := ⟨e, ⟨o, e⟩, fun h1 h2 a st => st _ a⟩
section
variable {X : Cx} {pins : List (Addr × Obj)} {σ : L2.St} {H : Hp} {s : Shared}
/-- the lambda is made, its function object known from now on -/
theorem lam_mk {T : List (Addr × Str)} {c P : Addr} {params : Arguments} {body : Expr} {scope : Scope} {pos : Pos} {E : Value → Shared → Prop} {Q : Value → Shared → Prop} (I : L2.Inv X pins σ H s) (TB : TabB X.base X.mg c P) (hcode : X.env.code = .ref c)
    (hm : (P, X.env.qual ++ "<lambda>") ∈ T) (hu : ∀ p ∈ T, p.1 = P → p.2 = X.env.qual ++ "<lambda>") (hT : Tabs T H) (hdef : defaultsOf params X.env = ([], [])) (hfree : ∀ y ∈ scope.names, y.2 = .free → ∃ c, X.env.cells.lookup y.1 = some c)
    (h : ∀ (f c' : Addr) (pm ctv : Value) (H1 : Hp) (s' : Shared), L2.Inv X pins σ (upd H1 f (LamO f (PySem.W.kla_obj "<lambda>" (X.env.qual ++ "<lambda>") params body scope (cloFrom X.env.cells scope.names []) pm c' ctv))) s' → ExtN H H1 → Tabs T H1 → H1 f = none →
      H1 c' = some (CodeO c' (X.env.qual ++ "<lambda>")) → Q (.ref f) s') :
    wpAny (model X.prog X.w) X.A (eval (.Lambda params body scope pos) X.env) Q E s := by
  obtain ⟨ps, hP, ht, ha⟩ := hT _ hm
  refine PySem.W.kla_eval hdef ?_
  have bP : s.heap.BuiltinsAt X.mg P := TB.bm.keeps I.bk
  have hP' : s.heap.get? P = some { cls := .none, data := .fields ps } := I.hok P _ hP
  have fin : ∀ (c' : Addr) (ctv : Value) (H1 : Hp) (h1 : Heap) (tk : Nat), L2.Inv X pins σ H1 { s with heap := h1, toks := tk } → ExtN H H1 → Tabs T H1 → H1 c' = some (CodeO c' (X.env.qual ++ "<lambda>")) →
      Q (.ref h1.objs.size) { s with heap := h1.push (PySem.W.kla_obj "<lambda>" (X.env.qual ++ "<lambda>") params body scope (cloFrom X.env.cells scope.names []) ((X.mg "__name__").getD .none) c' ctv), toks := tk } := by
    intro c' ctv H1 h1 tk I1 hE hT1 hc'
    refine h h1.objs.size c' ((X.mg "__name__").getD .none) ctv H1 _ (I1.laid (t' := tk) (fun b o e => Heap.get?_push_of_some _ e) (Nat.le_refl _) (lamO_ok (Heap.get?_push_size _ rfl))) hE hT1 (I1.hok.fresh (Nat.le_refl _)) hc'
  cases hc : codeAmong pos ps.toList with
  | none =>
    refine PySem.W.kla_makeFunction (mg := X.mg) (c := c) (P := P) (ps := ps) (closure_ok hfree) I.ok.glob (I.mod.glob.keeps I.bk) hcode (TB.code.keeps I.bk) hP' ht hc TB.gP bP fun c' ctv h' tk hx hge hlt hrec htb => ?_
    obtain ⟨c2, oc, vs, t, e2, hoc, hd, hv⟩ := hrec
    cases e2
    have nC : H c' = none := I.hok.fresh hge
    have I1 := inv_table (t' := tk) (more := #[rawInt pos.line, rawInt pos.col, .ref c']) (h' := h') I hP (fun b o hb e => hx b o hb e) htb hge ⟨oc, vs, t, hoc, hd, hv⟩
    have hE : ExtN H (upd (upd H P (.tbl (ps ++ #[rawInt pos.line, rawInt pos.col, .ref c']))) c' (CodeO c' (X.env.qual ++ "<lambda>"))) := fun b o e n => by
      rw [upd_ne (ne_of_none e nC), upd_ne (fun z => n ps (Option.some.inj (e.symm.trans (by rw [z]; exact hP))))]
      exact e
    have eL : (ps ++ #[rawInt pos.line, rawInt pos.col, .ref c']).toList = ps.toList ++ [rawInt pos.line, rawInt pos.col, .ref c'] := by simp
    refine fin c' ctv _ h' tk I1 hE (fun p hp => ?_) upd_same
    by_cases hb : p.1 = P
    · rw [hu p hp hb, hb]
      refine ⟨_, by rw [upd_ne (ne_of_none hP nC), upd_same], by rw [eL]; exact PySem.TriplesOk_snoc _ _ _ _ ht, fun p' cv hcv => ?_⟩
      rw [eL] at hcv
      rcases among_app _ ht hcv with z | z
      · obtain ⟨c0, e1, e2⟩ := ha p' cv z
        exact ⟨c0, e1, hE _ _ e2 codeO_ne⟩
      · exact ⟨c', z, upd_same⟩
    · obtain ⟨ps', a1, a2, a3⟩ := hT p hp
      refine ⟨ps', by rw [upd_ne (ne_of_none a1 nC), upd_ne hb]; exact a1, a2, fun p' cv hcv => ?_⟩
      obtain ⟨c0, e1, e2⟩ := a3 p' cv hcv
      exact ⟨c0, e1, hE _ _ e2 codeO_ne⟩
  | some cv =>
    obtain ⟨c', e, hco⟩ := ha pos cv hc
    subst e
    refine PySem.W.kla_makeFunctionHit (mg := X.mg) (c := c) (P := P) (ps := ps) (closure_ok hfree) I.ok.glob (I.mod.glob.keeps I.bk) hcode (TB.code.keeps I.bk) hP' ht hc bP fun ctv h' tk hx hsz => ?_
    exact fin c' ctv H h' tk (I.kept (t' := tk) hx) (ExtN.refl H) hT hco
end
section
variable {g : G} {F : Kn} {ι : List Addr} {h : AH} {H : Hp}
/-- what stands is known from now on -/
theorem HR.learn (r : HR g F ι h H) {a : Addr} {φ : Heap → Prop} (e : H a = some (.ext φ)) : ∃ F', HR g F' ι h H ∧ Le F ι F' ι ∧ F' a = some (.ext φ) := by
  cases q : F a with
  | some u =>
    refine ⟨F, r, .refl, ?_⟩
    rcases r.fr a u q with ⟨z, _⟩ | ⟨ws, ob, rfl, z⟩
    · rw [e] at z
      rw [q, ← z]
    · rw [e] at z; cases z
  | none =>
    have l : Le F ι (F.add a (.ext φ)) ι := Le.add q
    refine ⟨F.add a (.ext φ), ⟨fun b u z => ?_, fun n o z => ?_, r.inj, r.len, r.ti, fun p hp => ?_, r.pt⟩, l, add_same⟩
    · by_cases hb : b = a
      · subst hb
        rw [add_same] at z
        cases z
        exact .inl ⟨e, fun ps z => by cases z⟩
      · rw [add_ne hb] at z
        exact r.fr b u z
    · obtain ⟨b, x, e1, e2, e3, e4⟩ := r.hp n o z
      have hb : b ≠ a := by
        rintro rfl
        rw [e] at e2
        cases e2
        cases o with
        | lst ds => obtain ⟨vs, z, _⟩ := e3; cases z
        | dct ds => obtain ⟨vs, z, _⟩ := e3; cases z
        | lkd ds => obtain ⟨ob, vs, z, _⟩ := e3; cases z
        | ins c ds => obtain ⟨dx, vs, z, _⟩ := e3; cases z
      exact ⟨b, x, e1, e2, e3.mono l, by rw [add_ne hb]; exact e4⟩
    · obtain ⟨p1, p2, p3⟩ := r.pv p hp
      have hb : p.1 ≠ a := by
        intro z
        obtain ⟨xs, hx⟩ := r.pt p hp
        rw [z, e, hx] at p1
        cases p1
      exact ⟨p1, by rw [add_ne hb]; exact p2, p3⟩
/-! closures: a layer's G with them -/
abbrev LamT : Type := Arguments × Expr × Scope
def G.cl (g : G) (X : Cx) (tab : List LamT) : G := { g with Cl := fun k a o c u => ∃ (e : LamT) (pm ctv : Value), tab[k]? = some e ∧ o = LamO a (PySem.W.kla_obj "<lambda>" (X.env.qual ++ "<lambda>") e.1 e.2.1 e.2.2 (cloFrom X.env.cells e.2.2.names []) pm c ctv) ∧ u = CodeO c (X.env.qual ++ "<lambda>") }
mutual
def nCl : D → Bool
  | .tup ds => nCls ds
  | .lst ds => nCls ds
  | .dct kvs => nClk kvs
  | .obj _ fs => nClf fs
  | .clo _ => false
  | _ => true
def nCls : List D → Bool
  | [] => true
  | d :: ds => nCl d && nCls ds
def nClk : List (Key × D) → Bool
  | [] => true
  | (_, d) :: ds => nCl d && nClk ds
def nClf : List (Str × D) → Bool
  | [] => true
  | (_, d) :: ds => nCl d && nClf ds
end
def nClO : O → Bool
  | .lst ds => nCls ds
  | .dct ds => nClk ds
  | .lkd ds => nClk ds
  | .ins _ fs => nClf fs
def nClH : AH → Bool
  | [] => true
  | some o :: r => nClO o && nClH r
  | none :: r => nClH r
variable {X : Cx} {tab : List LamT}
mutual
theorem VR.toCl (hn : ∀ k a o c u, ¬ g.Cl k a o c u) : ∀ (d : D) (v : V), VR g F ι d v → VR (g.cl X tab) F ι d v
  | .non, v, h => by simpa only [VR] using h
  | .bl b, v, h => by simpa only [VR] using h
  | .int i, v, h => by simpa only [VR] using h
  | .str x, v, h => by simpa only [VR] using h
  | .tup ds, v, h => by
    simp only [VR] at h ⊢
    obtain ⟨a, vs, e, t, r⟩ := h
    exact ⟨a, vs, e, t, VRs.toCl hn ds vs r⟩
  | .lst ds, v, h => by
    simp only [VR] at h ⊢
    obtain ⟨a, vs, e, t, r⟩ := h
    exact ⟨a, vs, e, t, VRs.toCl hn ds vs r⟩
  | .dct kvs, v, h => by
    simp only [VR] at h ⊢
    obtain ⟨a, vs, e, t, r⟩ := h
    exact ⟨a, vs, e, t, VRk.toCl hn kvs vs r⟩
  | .obj c fs, v, h => by
    simp only [VR] at h ⊢
    obtain ⟨a, dx, vs, e, t, r⟩ := h
    exact ⟨a, dx, vs, e, t, VRf.toCl hn fs vs r⟩
  | .ref n, v, h => by simpa only [VR] using h
  | .clo k, v, h => by
    simp only [VR] at h
    obtain ⟨a, o, c, u, e, t, t2, q⟩ := h
    exact (hn _ _ _ _ _ q).elim
  | .scr ns, v, h => by
    simp only [VR] at h ⊢
    exact h
theorem VRs.toCl (hn : ∀ k a o c u, ¬ g.Cl k a o c u) : ∀ (d : List D) (v : List V), VRs g F ι d v → VRs (g.cl X tab) F ι d v
  | [], v, h => by simpa only [VRs] using h
  | d :: ds, v, h => by
    simp only [VRs] at h ⊢
    obtain ⟨x, ws, e, r, rs⟩ := h
    exact ⟨x, ws, e, VR.toCl hn d x r, VRs.toCl hn ds ws rs⟩
theorem VRk.toCl (hn : ∀ k a o c u, ¬ g.Cl k a o c u) : ∀ (d : List (Key × D)) (v : List (Key × V)), VRk g F ι d v → VRk (g.cl X tab) F ι d v
  | [], v, h => by simpa only [VRk] using h
  | (k, d) :: ds, v, h => by
    simp only [VRk] at h ⊢
    obtain ⟨x, ws, e, r, rs⟩ := h
    exact ⟨x, ws, e, VR.toCl hn d x r, VRk.toCl hn ds ws rs⟩
theorem VRf.toCl (hn : ∀ k a o c u, ¬ g.Cl k a o c u) : ∀ (d : List (Str × D)) (v : List (Str × V)), VRf g F ι d v → VRf (g.cl X tab) F ι d v
  | [], v, h => by simpa only [VRf] using h
  | (k, d) :: ds, v, h => by
    simp only [VRf] at h ⊢
    obtain ⟨x, ws, e, r, rs⟩ := h
    exact ⟨x, ws, e, VR.toCl hn d x r, VRf.toCl hn ds ws rs⟩
end
mutual
theorem VR.ofCl : ∀ (d : D) (v : V), nCl d = true → VR (g.cl X tab) F ι d v → VR g F ι d v
  | .non, v, _, h => by simpa only [VR] using h
  | .bl b, v, _, h => by simpa only [VR] using h
  | .int i, v, _, h => by simpa only [VR] using h
  | .str x, v, _, h => by simpa only [VR] using h
  | .tup ds, v, n, h => by
    simp only [VR] at h ⊢
    simp only [nCl] at n
    obtain ⟨a, vs, e, t, r⟩ := h
    exact ⟨a, vs, e, t, VRs.ofCl ds vs n r⟩
  | .lst ds, v, n, h => by
    simp only [VR] at h ⊢
    simp only [nCl] at n
    obtain ⟨a, vs, e, t, r⟩ := h
    exact ⟨a, vs, e, t, VRs.ofCl ds vs n r⟩
  | .dct kvs, v, n, h => by
    simp only [VR] at h ⊢
    simp only [nCl] at n
    obtain ⟨a, vs, e, t, r⟩ := h
    exact ⟨a, vs, e, t, VRk.ofCl kvs vs n r⟩
  | .obj c fs, v, n, h => by
    simp only [VR] at h ⊢
    simp only [nCl] at n
    obtain ⟨a, dx, vs, e, t, r⟩ := h
    exact ⟨a, dx, vs, e, t, VRf.ofCl fs vs n r⟩
  | .ref n, v, _, h => by simpa only [VR] using h
  | .clo k, v, n, h => by simp [nCl] at n
  | .scr ns, v, _, h => by
    simp only [VR] at h ⊢
    exact h
theorem VRs.ofCl : ∀ (d : List D) (v : List V), nCls d = true → VRs (g.cl X tab) F ι d v → VRs g F ι d v
  | [], v, _, h => by simpa only [VRs] using h
  | d :: ds, v, n, h => by
    simp only [VRs] at h ⊢
    simp only [nCls, Bool.and_eq_true] at n
    obtain ⟨x, ws, e, r, rs⟩ := h
    exact ⟨x, ws, e, VR.ofCl d x n.1 r, VRs.ofCl ds ws n.2 rs⟩
theorem VRk.ofCl : ∀ (d : List (Key × D)) (v : List (Key × V)), nClk d = true → VRk (g.cl X tab) F ι d v → VRk g F ι d v
  | [], v, _, h => by simpa only [VRk] using h
  | (k, d) :: ds, v, n, h => by
    simp only [VRk] at h ⊢
    simp only [nClk, Bool.and_eq_true] at n
    obtain ⟨x, ws, e, r, rs⟩ := h
    exact ⟨x, ws, e, VR.ofCl d x n.1 r, VRk.ofCl ds ws n.2 rs⟩
theorem VRf.ofCl : ∀ (d : List (Str × D)) (v : List (Str × V)), nClf d = true → VRf (g.cl X tab) F ι d v → VRf g F ι d v
  | [], v, _, h => by simpa only [VRf] using h
  | (k, d) :: ds, v, n, h => by
    simp only [VRf] at h ⊢
    simp only [nClf, Bool.and_eq_true] at n
    obtain ⟨x, ws, e, r, rs⟩ := h
    exact ⟨x, ws, e, VR.ofCl d x n.1 r, VRf.ofCl ds ws n.2 rs⟩
end
theorem OR.toCl (hn : ∀ k a o c u, ¬ g.Cl k a o c u) : ∀ {o : O} {x : HO}, OR g F ι o x → OR (g.cl X tab) F ι o x
  | .lst ds, x, ⟨vs, e, r⟩ => ⟨vs, e, VRs.toCl hn _ _ r⟩
  | .dct ds, x, ⟨vs, e, r⟩ => ⟨vs, e, VRk.toCl hn _ _ r⟩
  | .lkd ds, x, ⟨ob, vs, e, r⟩ => ⟨ob, vs, e, VRk.toCl hn _ _ r⟩
  | .ins c ds, x, ⟨dx, vs, e, r⟩ => ⟨dx, vs, e, VRf.toCl hn _ _ r⟩
theorem OR.ofCl : ∀ {o : O} {x : HO}, nClO o = true → OR (g.cl X tab) F ι o x → OR g F ι o x
  | .lst ds, x, n, ⟨vs, e, r⟩ => ⟨vs, e, VRs.ofCl _ _ n r⟩
  | .dct ds, x, n, ⟨vs, e, r⟩ => ⟨vs, e, VRk.ofCl _ _ n r⟩
  | .lkd ds, x, n, ⟨ob, vs, e, r⟩ => ⟨ob, vs, e, VRk.ofCl _ _ n r⟩
  | .ins c ds, x, n, ⟨dx, vs, e, r⟩ => ⟨dx, vs, e, VRf.ofCl _ _ n r⟩
theorem nClH_at : ∀ {h : AH} {n : Nat} {o : O}, nClH h = true → h[n]? = some (some o) → nClO o = true
  | [], n, o, _, e => by simp at e
  | x :: r, 0, o, c, e => by
    simp at e
    subst e
    simp only [nClH, Bool.and_eq_true] at c
    exact c.1
  | none :: r, n + 1, o, c, e => by
    simp only [nClH] at c
    exact nClH_at (h := r) (n := n) c (by simpa using e)
  | some x :: r, n + 1, o, c, e => by
    simp only [nClH, Bool.and_eq_true] at c
    exact nClH_at (h := r) (n := n) c.2 (by simpa using e)
theorem HR.toCl (hn : ∀ k a o c u, ¬ g.Cl k a o c u) (r : HR g F ι h H) : HR (g.cl X tab) F ι h H :=
  ⟨r.fr, fun n o z => by
    obtain ⟨a, x, e1, e2, e3, e4⟩ := r.hp n o z
    exact ⟨a, x, e1, e2, e3.toCl hn, e4⟩, r.inj, r.len, r.ti, r.pv, r.pt⟩
theorem HR.ofCl (c : nClH h = true) (r : HR (g.cl X tab) F ι h H) : HR g F ι h H :=
  ⟨r.fr, fun n o z => by
    obtain ⟨a, x, e1, e2, e3, e4⟩ := r.hp n o z
    exact ⟨a, x, e1, e2, e3.ofCl (nClH_at c z), e4⟩, r.inj, r.len, r.ti, r.pv, r.pt⟩
/-- a def called where closures may stand about: none goes in -/
def gdF (Fm : FM) : FM := fun ds h => if nCls ds = true ∧ nClH h = true then Fm ds h else .stuck
theorem fn_cl {P : Program} {w : World} {K : PySem.W.Frag} {mg : Str → Option Value} {base : Heap} {CX : CXT} {k n : Nat} {f : Addr} {fd : FuncData} {ps : List Str} {Fm : FM} (hn : ∀ k a o c u, ¬ g.Cl k a o c u) (O : FnOk P w K mg base CX k f fd ps (spF g n Fm)) :
    FnOk P w K mg base CX k f fd ps (spF (g.cl X tab) n (gdF Fm)) := by
  refine O.imp fun vs H Q E hs => ?_
  obtain ⟨hl, F, ι, ds, h, hr, rv, p⟩ := hs
  unfold gdF at p
  split at p
  · rename_i c
    refine ⟨hl, F, ι, ds, h, hr.ofCl c.2, VRs.ofCl _ _ c.1 rv, ?_⟩
    revert p
    cases Fm ds h with
    | ok d h' => exact fun p F' ι' H' v l hr' r => p F' ι' H' v l (hr'.toCl hn) (VR.toCl hn _ _ r)
    | exc c h' => exact fun p F' ι' H' l hr' => p F' ι' H' l (hr'.toCl hn)
    | stuck => exact fun p => p
  · exact p.elim
theorem ti_cl (t : TiOk g) : TiOk (g.cl X tab) := ⟨t.upd⟩
end
section
variable {X : Cx} {g : G} {W : WX}
/-- a lambda in the frame of X -/
theorem em_lam {T : List (Addr × Str)} {tab : List LamT} {c P : Addr} {params : Arguments} {body : Expr} {scope : Scope} {pos : Pos} (k : Nat) (hTi : g.Ti = Tabs T) (t : TiOk g) (TB : TabB X.base X.mg c P) (hcode : X.env.code = .ref c)
    (hm : (P, X.env.qual ++ "<lambda>") ∈ T) (hu : ∀ p ∈ T, p.1 = P → p.2 = X.env.qual ++ "<lambda>") (hk : tab[k]? = some (params, body, scope)) (L : LamS X.env.scope scope) (hdef : defaultsOf params X.env = ([], [])) :
    PE X (.Lambda params body scope pos) (tE (g.cl X tab) W (mC (.clo k))) := by
  refine ⟨fun pins s σv H Q I h => ?_⟩
  obtain ⟨F, ι, σ, h, hr, lr, p⟩ := h
  have hT : Tabs T H := by
    have := hr.ti
    have this : g.Ti H := this
    rw [hTi] at this
    exact this
  refine lam_mk I TB hcode hm hu hT hdef (L.has I.ok) fun f c' pm ctv H1 s' I1 hE hT1 hn hc' => ?_
  have hr1 : HR (g.cl X tab) F ι h H1 := hr.ext hE (by show g.Ti H1; rw [hTi]; exact hT1)
  obtain ⟨F1, hr2, l1, hF1⟩ := hr1.learn hc'
  obtain ⟨hr3, l2⟩ := hr2.newF (ti_cl t) hn (LamO f (PySem.W.kla_obj "<lambda>" (X.env.qual ++ "<lambda>") params body scope (cloFrom X.env.cells scope.names []) pm c' ctv)) (lamO_nt _ _)
  refine ⟨.ref f, _, I1, rfl, p _ ι _ _ (l1.trans l2) hr3 ?_⟩
  simp only [VR]
  exact ⟨f, _, c', _, rfl, add_same, l2.fr _ _ hF1, (params, body, scope), pm, ctv, hk, rfl, rfl⟩
end
end DV
end
section
set_option Elab.async false
set_option linter.all false
set_option maxRecDepth 100000
set_option maxHeartbeats 2000000
namespace DV
open PySem L2 PyProof.Rows PySem.Spec LamX

/-! ### lambdas called -/
section
variable {X : Cx} {pins : List (Addr × Obj)} {σ : L2.St} {H HZ : Hp} {s s1 : Shared}
theorem lam_start3 {fs : List Addr} {A : Around} {outer : List Env} {E : XK} {scope : Scope} {f c' : Addr} {h₁ : Heap} {tk : Nat} (I : Inv X pins σ H s) (L : LamS X.env.scope scope) (e0 : Env0 X.prog X.w X.K X.mg X.base A outer s1 HZ) (hd : A.handled = none)
    (un : Un fs [] H HZ s.heap s1.heap) (hns : h₁.Ns s1.heap.objs.size fun y => ([] : List (Str × Value)).reverse.lookup y) (kp : ∀ b o, s1.heap.get? b = some o → h₁.get? b = some o) :
    Inv (lamCx X A outer s1 HZ E scope f c') [] σ HZ { s1 with heap := h₁, toks := tk } := by
  have hfree := L.has I.ok
  have cm : ∀ {y c}, (cloFrom X.env.cells scope.names []).lookup y = some c → X.env.cells.lookup y = some c := fun {y c} e => by
    rcases cloFrom_mem (PySem.mem_of_lookup e) with hm | ⟨h1, h2⟩
    · cases hm
    · obtain ⟨c1, hc⟩ := hfree _ h1 rfl
      have hc : X.env.cells.lookup y = some c1 := hc
      have e2 : c = c1 := by
        rw [h2, hc] <;> rfl
      rw [e2]
      exact hc
  have look : ∀ {y}, scope.names.lookup y = some .free → ∃ c, (cloFrom X.env.cells scope.names []).lookup y = some c := fun {y} hl => by
    have hy : (y, NameKind.free) ∈ scope.names := PySem.mem_of_lookup hl
    exact mem_lookup (cloFrom_has (cells := X.env.cells) (acc := []) hy)
  have cellK : ∀ {c : Addr} {v : Option Value}, H c = none → s.heap.IsCell c v → h₁.IsCell c v := fun {c v} n ⟨o, ho, hd⟩ => by
    obtain ⟨sl, q⟩ := un.any ho n (by simp)
    exact ⟨_, kp _ _ q, hd⟩
  have noA : ∀ b : Addr, b ∉ (lamCx X A outer s1 HZ E scope f c').ex := fun b z => absurd (show b ∈ ([] : List Addr) from z) (by simp)
  refine ⟨⟨e0.mod, L.kind, rfl, rfl, Nat.le_refl _, fun y z c e1 e2 => I.ok.inj y z c (cm e1) (cm e2), fun y hy => ?_, fun y c z _ => ?_, fun _ => hd, Around.frames_deeper e0.frames, .inr ⟨rfl, rfl⟩, fun b z => absurd z (noA b), e0.bs, e0.bsz, fun b _ _ => noA b,
      fun b z => absurd z (noA b), e0.funs, e0.frf⟩,
    rfl, e0.bare, Un.kept kp, ⟨_, hns, fun i y v e1 e2 e3 => ?_⟩, fun y c e => ?_, e0.hok.fresh (Nat.le_refl _), fun y c e => ?_, fun q hq => absurd (show q ∈ ([] : List (Addr × Obj)) ++ [] from hq) (by simp), e0.hok.kept kp, I.len⟩
  · have hy : scope.names.lookup y = some .cell ∨ scope.names.lookup y = some .free := hy
    rcases hy with hy | hy
    · exact absurd rfl (L.own _ (PySem.mem_of_lookup hy)).2
    · exact look hy
  · have z : false = true := z
    cases z
  · have e3 : Vis scope y := e3
    rcases e3 with k | k | k
    · exact absurd rfl (L.own _ (PySem.mem_of_lookup k)).1
    · exact absurd rfl (L.own _ (PySem.mem_of_lookup k)).2
    · obtain ⟨m, hn, hl⟩ := I.loc
      have hvis : Vis X.env.scope y := (L.free _ (PySem.mem_of_lookup k) rfl).elim (fun k => .inr (.inl k)) (fun k => .inr (.inr k))
      obtain ⟨w', r, q⟩ := hl i y v e1 e2 hvis
      obtain ⟨c2, h2⟩ := look k
      refine ⟨w', r, .inr ⟨.inr k, c2, h2, ?_⟩⟩
      have c1 := cm h2
      rcases q with ⟨k', _⟩ | ⟨_, c3, e', z⟩
      · have k' : X.env.scope.names.lookup y = some .local := k'
        rcases L.free _ (PySem.mem_of_lookup k) rfl with k2 | k2 <;> rw [show X.env.scope.names.lookup y = _ from k2] at k' <;> cases k'
      · rw [c1] at e'
        cases e'
        exact cellK (I.freeC y _ c1) z
  · obtain ⟨w', z⟩ := I.cell y c (cm e)
    exact ⟨w', cellK (I.freeC y c (cm e)) z⟩
  · obtain ⟨v, o, ho, hd⟩ := I.cell y c (cm e)
    exact un.free c o ho (I.freeC y c (cm e)) (by simp)
/-- x(), in the def that got the lambda; the lambda's own context is X, the def was entered at s over the frames stk -/
theorem pe_actL {stk : List Env} {CXg : CXT} {Eg : XK} {Ng : List Str} {qg : Str} {sg : Scope} {g f c' : Addr} {cdg pm ctv : Value} {params : Arguments} {body : Expr} {scope : Scope} {k i : Nat} {a : Str} {pn : List (Addr × Obj)} {xe : Value → Shared → Prop} {W : WX} {E : XK} {tb : TE} {p1 p2 : Pos}
    (I : Inv X pins σ H s) (L : LamS X.env.scope scope)
    (hbind : bindArgs (PySem.W.kla_fn "<lambda>" (X.env.qual ++ "<lambda>") params body scope (cloFrom X.env.cells scope.names []) pm (.ref c') ctv) ⟨[], []⟩ = pure [])
    (tk : Takes ((cxOf CXg X.prog X.w X.K X.mg X.base Ng qg sg g cdg X.A stk s H Eg).tr pn xe) W) (hW : ∀ cls d σ' H', E cls d H' → W cls d σ' H') (hr : Room (k + 1) (X.A.deeper (envOfC qg sg s.heap.objs.size g cdg)))
    (hbody : ∀ (A : Around) (outer : List Env) (s : Shared) (H : Hp), Room k (A.deeper (lamEnv X scope s.heap.objs.size f c')) → PE (lamCx X A outer s H E scope f c') body tb)
    (hN : Ng[i]? = some a) (hv : Vis sg a) (hd : (a == ("__debug__" : Str)) = false := by decide) (hcd : (a == ("__classdict__" : Str)) = false := by decide) :
    PE ((cxOf CXg X.prog X.w X.K X.mg X.base Ng qg sg g cdg X.A stk s H Eg).tr pn xe) (.Call (.Name a p1) [] [] p2)
      (fun σZ HZ Q => σZ[i]? = some (some (.ref f)) ∧ HZ c' = some (CodeO c' (X.env.qual ++ "<lambda>")) ∧ HZ f = some (LamO f (PySem.W.kla_obj "<lambda>" (X.env.qual ++ "<lambda>") params body scope (cloFrom X.env.cells scope.names []) pm c' ctv)) ∧ tb σ HZ Q) := by
  refine ⟨fun pinsZ sZ σZ HZ Q IZ h => ?_⟩
  obtain ⟨hs, hc, hlo, ht⟩ := h
  refine wpAny_Call_Name_kw (thn ((pe_var (pos := p1) (i := i) hN hv hd hcd).run pinsZ sZ σZ HZ (fun v H1 => v = .ref f ∧ H1 = HZ) IZ ⟨.ref f, hs, rfl, rfl⟩) fun u s1 ⟨v, H1, I1, r1, q1⟩ => ?_)
  obtain ⟨ev, eH⟩ := q1
  subst ev
  rw [eH] at I1
  obtain rfl : u = Value.ref f := r1
  have of1 : s1.heap.get? f = some (PySem.W.kla_obj "<lambda>" (X.env.qual ++ "<lambda>") params body scope (cloFrom X.env.cells scope.names []) pm c' ctv) := (I1.hok f _ hlo).1
  refine PySem.W.callWith_F0 ⟨_, _, _, _, of1⟩ ?_
  have un : Un (frs stk) [] H HZ s.heap s1.heap := I1.base
  obtain ⟨⟨oc, vs, t, hoc, hdc, hvc⟩, _, _⟩ := I1.hok c' _ hc
  have rc : codeAny (model X.prog X.w) (X.A.deeper (envOfC qg sg s.heap.objs.size g cdg)) (.call (.ref f) ⟨[], []⟩) (CR (L2.CX X.prog X.w) (envOfC qg sg s.heap.objs.size g cdg :: stk) X.prog X.w HZ s1 Q E) s1 := by
    refine PySem.W.kla_callFunE hr.depth of1 rfl L.co L.gen rfl ⟨c', oc, vs, t, rfl, hoc, hdc, hvc⟩ ?_
    rw [hbind]
    refine wpAny_pure (wpAny_newFunctionEnv (fun y hy => (L.own y hy).2) (fun y hy => absurd hy (by simp)) (fun h₁ hns hsb => ⟨I1.nolimit.fresh _ hsb, ?_⟩) L.kind)
    show codeAny _ _ (.expr body (lamEnv X scope s1.heap.objs.size f c')) _ _
    have kp : ∀ b o, s1.heap.get? b = some o → h₁.get? b = some o := fun b o e => hsb.extBut b o (Nat.ne_of_lt (Heap.lt_size e)) (Heap.get?_push_of_some _ e)
    have J : Inv (lamCx X (X.A.deeper (envOfC qg sg s.heap.objs.size g cdg)) (envOfC qg sg s.heap.objs.size g cdg :: stk) s1 HZ E scope f c') [] σ HZ { s1 with heap := h₁, toks := s1.toks + ([] : List (Str × Value)).length } :=
      lam_start3 I L I1.env0 hr.hd un hns kp
    refine PySem.W.kla_codeExpr (wpAny_mono ((hbody _ _ s1 HZ (hr.deeper _)).run [] _ _ HZ Q J ht) (fun v s' hq => ?_) fun e s' hq => hq)
    obtain ⟨w', H', J', rv, q⟩ := hq
    exact ⟨w', H', J'.os, J'.bare, J'.base, J'.hok, rv, q⟩
  have hx : Passes (L2.CX X.prog X.w) ((cxOf CXg X.prog X.w X.K X.mg X.base Ng qg sg g cdg X.A stk s H Eg).tr pn xe) E := passes_call tk hW
  refine wpAny_call (codeAny_mono rc fun r s' hq => ?_)
  cases r with
  | error e => exact hx pinsZ σZ HZ s1 e s' I1 hq
  | ok fl =>
    cases fl with
    | ret u => exact I1.after hq
    | next => exact False.elim hq
    | brk => exact False.elim hq
    | cont => exact False.elim hq
end
section
variable {X : Cx}
theorem lc_coreI {pins : List (Addr × Obj)} {s : Shared} {σ : L2.St} {H : Hp} {Q : VK} {elt tg iter : Expr} {ifs : List Expr} {scope : Scope} {own : List (Str × Nat)} {pos pos' : Pos} {wi : TI} {g : TG} {tt : TT} {te : TE} {use : Option (Value → Sem Unit)} {Qf : Value → Shared → Prop}
    (hc : X.calm = true) (hN : X.N.Nodup) (I : Inv X pins σ H s) (hi : PI X tg iter wi) (ok : BlkOk X.N X.env.scope scope own)
    (hg : ∀ (s : Shared) (H : Hp) (C : Addr) (cl : List (Str × Addr)) (fp : List Addr), PG (X.blk s H scope (compEnvC scope cl C X.env) fp) tg g) (ht : ∀ (s : Shared) (H : Hp) (C : Addr) (cl : List (Str × Addr)) (fp : List Addr), (∀ pins' σ' H' s', Inv (X.blk s H scope (compEnvC scope cl C X.env) fp) pins' σ' H' s' → Inv X pins σ H' s') → PTs (X.blk s H scope (compEnvC scope cl C X.env) fp) ifs (fun σ2 H Q => wipe σ2 (own.map (·.2)) = wipe σ (own.map (·.2)) ∧ tt σ2 H Q))
    (he : ∀ (s : Shared) (H : Hp) (C : Addr) (cl : List (Str × Addr)) (fp : List Addr), PE (X.blk s H scope (compEnvC scope cl C X.env) fp) elt te) (hs : ∀ x, foldedSetIterable iter X.env x = pure x)
    (h : tLc wi g tt te (own.map (·.2)) σ H Q)
    (hRR : ∀ D C s' m H', Inv X pins σ H' s' → Q (.ref D) H' → s'.heap.Ns C m → FpOk X pins H' C → compPost (model X.prog X.w) X.A X.xe use Qf (.ref D) C (.ok .next) s') :
    wpAny (model X.prog X.w) X.A (comprehension (.ListComp elt [⟨tg, iter, ifs, 0⟩] scope pos) scope X.env pos' (newList []) false (eval iter X.env) use) Qf X.xe s := by
  have hfree : ∀ y ∈ scope.names, y.2 = .free → ∃ c, X.env.cells.lookup y.1 = some c := fun y hy e => by
    rcases ok.free y hy e with k | k
    · exact I.ok.has _ (.inl k)
    · exact I.ok.has _ (.inr k)
  refine wpAny_comprehension_free (use := use) rfl hs (closure_ok hfree) ok.kind (fun y hy e => by rw [ok.uniq y hy, e])
    (thn (hi.run pins s σ H _ I h) fun xv s1 hx => thn hx fun itv s2 h2 => ?_)
  obtain ⟨it, fp, tn, J, H2, e, I2, T, st2, f2, q⟩ := h2
  subst e
  refine wpAny_newObj_type (newEnv_comp ?_) (by show 0 ≤ sizeLine; decide)
  generalize hD : s2.heap.objs.size = D
  have hDn : H2 D = none := I2.hok.fresh (Nat.le_of_eq hD)
  obtain ⟨W, ⟨m0, w0⟩, turn⟩ := q D hDn
  -- the new list
  generalize hs3 : ({ s2 with heap := s2.heap.push { cls := .type "list", data := .seq ([] : List Value).toArray } } : Shared) = s3
  have I3 : Inv X pins σ (upd H2 D (.lst [])) s3 := by
    rw [← hs3]
    refine I2.laid (t' := s2.toks) (fun b o e => Heap.get?_push_of_some _ e) (Nat.le_of_eq hD) ⟨Nat.zero_le _, [], 0, .nil, ?_⟩
    rw [← hD]
    exact Heap.get?_push_size _ rfl
  have h3 : s3.heap = s2.heap.push { cls := .type "list", data := .seq ([] : List Value).toArray } := by rw [← hs3]
  have sz : ∀ b ∈ fp, b < s2.heap.objs.size := fun b hb => by
    obtain ⟨o, e, _⟩ := T.obj _ _ st2 b hb
    exact Heap.lt_size e
  have f3 : ∀ b ∈ fp, FpOk X pins (upd H2 D (.lst [])) b ∧ b < s3.heap.objs.size := fun b hb => by
    have hlt := sz b hb
    refine ⟨⟨?_, (f2 b hb).2⟩, by rw [h3, Heap.size_push]; exact Nat.lt_succ_of_lt hlt⟩
    rw [upd_ne (by rw [← hD]; exact Nat.ne_of_lt hlt)]
    exact (f2 b hb).1
  have st3 : tn 0 s3.heap := T.keep _ _ _ st2 fun b _ o e => by rw [h3]; exact Heap.get?_push_of_some _ e
  have I4 := block_start I3 ok hN f3
  have pg := hg s3 (upd H2 D (.lst [])) s3.heap.objs.size (cellsFrom (s3.heap.objs.size + 1) scope.names (cloFrom X.env.cells scope.names [])) fp
  have pt := ht s3 (upd H2 D (.lst [])) s3.heap.objs.size (cellsFrom (s3.heap.objs.size + 1) scope.names (cloFrom X.env.cells scope.names [])) fp (fun _ _ _ _ I6 => I3.call' (ch := fp) I6.os I6.base I6.hok I6.bare fun b hb => ⟨(f3 b hb).1.2.2.2.1, (f3 b hb).1.2.1, (f3 b hb).1.2.2.2.2.1, (f3 b hb).1.2.2.2.2.2⟩)
  have pe := he s3 (upd H2 D (.lst [])) s3.heap.objs.size (cellsFrom (s3.heap.objs.size + 1) scope.names (cloFrom X.env.cells scope.names [])) fp
  show codeAny _ _ (.compStart (.ListComp elt [⟨tg, iter, ifs, 0⟩] scope pos) 0 (.ref it) (.ref D) (compEnvC scope (cellsFrom (s3.heap.objs.size + 1) scope.names (cloFrom X.env.cells scope.names [])) s3.heap.objs.size X.env)) (compPost (model X.prog X.w) X.A X.xe use Qf (.ref D) s3.heap.objs.size) { s3 with heap := pushCells (s3.heap.push { cls := .type "dict", data := .dict #[] }) scope.names }
  have nfp : ∀ b ∈ fp, (upd H2 D (.lst [])) b = none := fun b hb => (f3 b hb).1.1
  generalize hce : compEnvC scope (cellsFrom (s3.heap.objs.size + 1) scope.names (cloFrom X.env.cells scope.names [])) s3.heap.objs.size X.env = ce at I4 pg pt pe ⊢
  have cL : ce.locals = s3.heap.objs.size := by subst hce; rfl
  generalize hH3 : upd H2 D (.lst []) = H3 at I3 I4 pg pt pe w0 nfp f3
  generalize hs4 : ({ s3 with heap := pushCells (s3.heap.push { cls := .type "dict", data := .dict #[] }) scope.names } : Shared) = s4 at I4 ⊢
  have st4 : tn 0 s4.heap := T.keep _ _ _ st3 fun b _ o e => by rw [← hs4]; exact pushCells_keeps _ _ _ _ (Heap.get?_push_of_some _ e)
  have stat : ∀ {σ' : L2.St} {H' : Hp} {s' : Shared}, Inv (X.blk s3 H3 scope ce fp) [] σ' H' s' → (∀ b ∈ fp, H' b = none) → ∀ b ∈ fp, FpOk (X.blk s3 H3 scope ce fp) [] H' b := fun {σ' H' s'} I' hn b hb =>
    ⟨hn b hb, (I'.ok.exf b hb).1, I'.ok.exfs b hb, .inl hb, fun x c e => (I'.ok.exf b hb).2 x c e, fun p hp => absurd (show p ∈ ([] : List (Addr × Obj)) ++ [] from hp) (by simp)⟩
  have loop : codeAny (model X.prog X.w) X.A (.compLoop (.ListComp elt [⟨tg, iter, ifs, 0⟩] scope pos) 0 (.ref it) (.ref D) ce) (compPost (model X.prog X.w) X.A X.xe use Qf (.ref D) s3.heap.objs.size) s4 := by
    refine compLoop_any (fun n s' => ∃ i H', Inv (X.blk s3 H3 scope ce fp) [] (wipe σ (own.map (·.2))) H' s' ∧ tn i s'.heap ∧ (∀ b ∈ fp, H' b = none) ∧ W i n H') ?_ m0 ⟨0, H3, I4, st4, nfp, w0⟩
    rintro n s5 ⟨i, H5, I5, st5, n5, w5⟩
    rcases turn i n H5 w5 with ⟨stop, qq⟩ | ⟨go, Nx, hNx, step⟩
    · have td := T.done (X.blk s3 H3 scope ce fp) rfl rfl rfl hc i [] s5 _ H5 (fun _ _ => False) I5 (stat I5 n5) st5 stop
      refine thnF td fun r s6 ⟨hr, I6⟩ => ?_
      subst hr
      -- back in the def's context
      have I7 : Inv X pins σ H5 s6 := I3.call' (ch := fp) I6.os I6.base I6.hok I6.bare fun b hb => ⟨(f3 b hb).1.2.2.2.1, (f3 b hb).1.2.1, (f3 b hb).1.2.2.2.2.1, (f3 b hb).1.2.2.2.2.2⟩
      have nC : H5 s3.heap.objs.size = none := by
        have z : H5 ce.locals = none := I6.free
        rw [cL] at z
        exact z
      obtain ⟨m, hn, _⟩ := I6.loc
      have hn : s6.heap.Ns ce.locals m := hn
      rw [cL] at hn
      exact hRR D s3.heap.objs.size s6 m H5 I7 qq hn (I3.fpOk (Nat.le_refl _) nC)
    · have ti := T.item (X.blk s3 H3 scope ce fp) rfl rfl rfl hc i [] s5 _ H5 (fun _ _ => False) I5 (stat I5 n5) st5 go
      refine thnF ti fun r s6 ⟨u, hr, h6⟩ => ?_
      subst hr
      refine thnF h6 fun _ s7 ⟨x, H7, I7, r7, y7, st7, n7⟩ => ?_
      have I7' := I7.pinned (stat I7 n7) (T.obj _ _ st7)
      refine thnF (pg.run _ s7 _ H7 x u _ I7' r7 (step x H7 y7)) fun _ s8 ⟨σ8, H8, I8, hw8, q8⟩ => ?_
      refine thnF (pt.run _ s8 σ8 H8 _ I8 ⟨hw8, q8⟩) fun b s9 ⟨H9, I9, q9⟩ => ?_
      -- the turn's end
      have fin : ∀ {s' : Shared} {H' : Hp}, Inv (X.blk s3 H3 scope ce fp) ([] ++ pinsAt fp s7.heap) σ8 H' s' → Nx H' → ∃ m, m < n ∧ ∃ i H', Inv (X.blk s3 H3 scope ce fp) [] (wipe σ (own.map (·.2))) H' s' ∧ tn i s'.heap ∧ (∀ b ∈ fp, H' b = none) ∧ W i m H' := fun {s' H'} I' nx => by
        obtain ⟨m', hm, w'⟩ := hNx H' nx
        have pin' : ∀ b ∈ fp, ∀ o, s7.heap.get? b = some o → s'.heap.get? b = some o ∧ H' b = none := fun b hb o e =>
          let z := I'.pin (b, o) (List.mem_append_right _ (List.mem_append_right _ (mem_pinsAt hb e)))
          ⟨z.1, z.2.1⟩
        have hl : (wipe σ (own.map (·.2))).length = σ8.length := by rw [← hw8, wipe_length]
        refine ⟨m', hm, i + 1, H', (I'.unpinned (pins := [])).weak hl (fun j v e => ?_), T.keep _ _ _ st7 fun b hb o e => (pin' b hb o e).1, fun b hb => ?_, w'⟩
        · rw [← hw8] at e
          exact (wipe_some e).1
        · obtain ⟨o, e, _⟩ := T.obj _ _ st7 b hb
          exact (pin' b hb o e).2
      cases b with
      | false =>
        simp only [Bool.false_eq_true, if_false] at q9 ⊢
        exact fin I9 q9
      | true =>
        simp only [if_true] at q9 ⊢
        refine thnF (pe.run _ s9 σ8 H9 _ I9 q9) fun z s10 ⟨yv, H10, I10, r10, acc, hD10, hz10, nx⟩ => ?_
        exact app_ok (X := X.blk s3 H3 scope ce fp) I10 hD10 hz10 r10 fun s11 I11 => fin I11 nx
  exact codeAny_compStart_list loop (T.self X.A 0 _ _ _ st4 loop)

variable {pins : List (Addr × Obj)} {σ : L2.St} {g : G} {tab : List LamT} {lm : Nat → ME}
/-- the lambdas of a frame keep their mirrors -/
def LamsOk (X : Cx) (g : G) (tab : List LamT) (k0 : Nat) (lm : Nat → ME) : Prop := ∀ (k : Nat) (e : LamT), tab[k]? = some e → LamS X.env.scope e.2.2 ∧ (∀ (q : Str) (cl : List (Str × Addr)) (pm cv ctv : Value), bindArgs (PySem.W.kla_fn "<lambda>" q e.1 e.2.1 e.2.2 cl pm cv ctv) ⟨[], []⟩ = pure []) ∧
  ∀ (A : Around) (outer : List Env) (s : Shared) (H : Hp) (E : XK) (f c' : Addr), Room k0 (A.deeper (lamEnv X e.2.2 s.heap.objs.size f c')) → PE (lamCx X A outer s H E e.2.2 f c') e.2.1 (tE (g.cl X tab) (WF E) (lm k))
def tToldL (X : Cx) (g : G) (tab : List LamT) (lm : Nat → ME) (σ : L2.St) (vs : List Nat) (j : Nat) (CS : Addr) (ret : Str) : TE := fun σ2 H Q => wipe σ2 vs = wipe σ vs ∧ ∃ (k : Nat) (f c' : Addr) (e : LamT) (pm ctv : Value), σ2[j]? = some (some (.ref f)) ∧
  H f = some (LamO f (PySem.W.kla_obj "<lambda>" (X.env.qual ++ "<lambda>") e.1 e.2.1 e.2.2 (cloFrom X.env.cells e.2.2.names []) pm c' ctv)) ∧ H c' = some (CodeO c' (X.env.qual ++ "<lambda>")) ∧ tab[k]? = some e ∧
  tE (g.cl X tab) (WF fun cls _ H' => ∃ b, PySem.W.exmOne X.K cls (.ref CS) = some b ∧ (b = true → Q (.str ret) H') ∧ (b = false → False)) (lm k) (wipe σ vs) H Q
/-- told(f), f a lambda of the frame of X, asked in a block of X -/
theorem pe_told {s0 : Shared} {H0 : Hp} {sc : Scope} {cenv : Env} {fp : List Addr} {x a : Str} {gA : Addr} {k0 j : Nat} {pg : Arguments} {bg : List Stmt} {sg : Scope} {dV kV doc pm0 cdv ct oc : Value} {an od : Option Addr} {osl : Array (Option Value)} {Ng : List Str} {v : Str} {CS : Addr} {ret : Str} {p p' pos : Pos} {vs : List Nat}
    (back : ∀ pins' σ' H' s', Inv (X.blk s0 H0 sc cenv fp) pins' σ' H' s' → Inv X pins σ H' s') (LM : LamsOk X g tab k0 lm)
    (hg : Gl (X.blk s0 H0 sc cenv fp) x) (hm : X.mg x = some (.ref gA)) (hk : PySem.W.keepIn X.K (.ref gA) = true)
    (lk : X.K.lookup gA = some ⟨oc, od, .func (PySem.W.fnOf x x pg bg sg dV kV doc pm0 an cdv ct), osl⟩) (hcg : PySem.W.codeIn X.K cdv x = true) (hb : L2.Binds X.K (PySem.W.fnOf x x pg bg sg dV kV doc pm0 an cdv ct) [a] []) (Sg : FnScope Ng [a] sg) (hNg : Ng[0]? = some a) (hva : Vis sg a)
    (hG : GivesTo (X.blk s0 H0 sc cenv fp) Ng x sg gA cdv bg a (X.env.qual ++ "<lambda>") (TTold X.K CS ret)) (hr : Room (k0 + 2) X.A)
    (hN : X.N[j]? = some v) (hv : Vis cenv.scope v)
    (hdb : (x == ("__debug__" : Str)) = false := by decide) (hd : (a == ("__debug__" : Str)) = false := by decide) (hcd : (a == ("__classdict__" : Str)) = false := by decide) (hd2 : (v == ("__debug__" : Str)) = false := by decide) (hcd2 : (v == ("__classdict__" : Str)) = false := by decide) :
    PE (X.blk s0 H0 sc cenv fp) (.Call (.Name x p) [.Name v p'] [] pos) (tToldL X g tab lm σ vs j CS ret) := by
  refine ⟨fun pins' s1 σ2 H Q I h => ?_⟩
  obtain ⟨hw, k, f, c', e, pm, ctv, hs, hF, hC, hk2, ht⟩ := h
  obtain ⟨L, hbind, hbody⟩ := LM k e hk2
  refine wpAny_Call_Name_kw (ld_glob I hg hm ?_ hdb)
  refine PySem.W.callWith_K (h₀ := X.base) I.ok.mod.kin hk ?_ (by rfl) (by rfl)
  show wpAny _ _ (spliced ((false, eval (.Name v p') (X.blk s0 H0 sc cenv fp).env) :: backTo pos (starEach [] (X.blk s0 H0 sc cenv fp).env))) _ _ s1
  refine Calls.spliced_cons (thn ((pe_var (X := X.blk s0 H0 sc cenv fp) (pos := p') (i := j) hN hv hd2 hcd2).run pins' s1 σ2 H (fun v H1 => v = .ref f ∧ H1 = H) I ⟨.ref f, hs, rfl, rfl⟩) fun u s2 ⟨v2, H1, I1, r1, q1⟩ => ?_)
  obtain ⟨ev, eH⟩ := q1
  subst ev
  rw [eH] at I1
  obtain rfl : u = Value.ref f := r1
  refine Calls.spliced_nil ⟨I1.kIn, ?_⟩
  have IX : Inv X pins σ H s2 := back _ _ _ _ I1
  have IW : Inv X pins (wipe σ vs) H s2 := IX.weak (by rw [wipe_length]) fun j v e => (wipe_some e).1
  have rc : codeAny (model X.prog X.w) X.A (.call (.ref gA) ⟨[.ref f], []⟩) (CR C8.CX0 (X.blk s0 H0 sc cenv fp).stack X.prog X.w H s2 Q C8.E0) s2 := by
    refine run_ofS (N := Ng) (ps := [a]) (us := [.ref f]) (vs := [.ref f]) lk hcg Sg hr I1.env0 (hb s2 [.ref f] I1.kIn rfl) (.cons rfl .nil) rfl fun hr' => ?_
    obtain ⟨t', ht', hq'⟩ := hG f c' s2 H Q (fun E HZ Q' => HZ f = some (LamO f (PySem.W.kla_obj "<lambda>" (X.env.qual ++ "<lambda>") e.1 e.2.1 e.2.2 (cloFrom X.env.cells e.2.2.names []) pm c' ctv)) ∧ tE (g.cl X tab) (WF E) (lm k) (wipe σ vs) HZ Q')
      (fun W pn xe E p1 p2 tk hW => pe_actL (stk := (X.blk s0 H0 sc cenv fp).stack) (i := 0) IW L (hbind _ _ _ _ _) tk hW hr' (fun A outer s H hr2 => hbody A outer s H E f c' hr2) hNg hva hd hcd) hC ⟨hF, ht⟩
    exact ⟨t', ht'.nox, hq'⟩
  refine wpAny_call (codeAny_mono rc fun r s2 hq => ?_)
  cases r with
  | error e => exact (show False from hq).elim
  | ok fl =>
    cases fl with
    | ret u => exact I1.after hq
    | next => exact False.elim hq
    | brk => exact False.elim hq
    | cont => exact False.elim hq
def mToldL (j : Nat) (vs : List Nat) (lm : Nat → ME) (c0 : Nat) : MT := fun σ h => match σ[j]? with
  | some (some (.clo k)) => match lm k (wipeA σ vs) h with
    | .exc c h' => if c = c0 then .ok false h' else .stuck
    | _ => .stuck
  | _ => .stuck
theorem told_weak {vs : List Nat} {j c0 : Nat} {ret : Str} (hex : PySem.W.exmOne X.K (.ref (g.exc c0)) (.ref (g.exc c0)) = some true) {σ2 : L2.St} {H : Hp} {Q : Bool → Hp → Prop} (hw : wipe σ2 vs = wipe σ vs) (h : tT (g.cl X tab) W0 (mToldL j vs lm c0) σ2 H Q) :
    tToldL X g tab lm σ vs j (g.exc c0) ret σ2 H fun x H1 => x = .str ret ∧ Q false H1 := by
  obtain ⟨F, ι, σa, h, hr, lr, p⟩ := h
  refine ⟨hw, ?_⟩
  unfold mToldL at p
  split at p
  · rename_i k hk
    obtain ⟨v, ev, rv⟩ := lr.2 j _ hk
    simp only [VR] at rv
    obtain ⟨f, o, c', u, e1, e2, e3, e, pm, ctv, e4, e5, e6⟩ := rv
    subst e1 e5 e6
    have hF : H f = some (LamO f (PySem.W.kla_obj "<lambda>" (X.env.qual ++ "<lambda>") e.1 e.2.1 e.2.2 (cloFrom X.env.cells e.2.2.names []) pm c' ctv)) := by
      rcases hr.fr f _ e2 with ⟨z, _⟩ | ⟨ws, ob, z, _⟩
      · exact z
      · unfold LamO at z; cases z
    have hC : H c' = some (CodeO c' (X.env.qual ++ "<lambda>")) := by
      rcases hr.fr c' _ e3 with ⟨z, _⟩ | ⟨ws, ob, z, _⟩
      · exact z
      · unfold CodeO at z; cases z
    refine ⟨k, f, c', e, pm, ctv, ev, hF, hC, e4, F, ι, wipeA σa vs, h, hr, by rw [← hw]; exact lr.wipe vs, ?_⟩
    revert p
    cases lm k (wipeA σa vs) h with
    | ok d h' => exact fun p => p.elim
    | stuck => exact fun p => p.elim
    | exc c h' =>
      dsimp only
      intro p F' ι' H' l hr'
      by_cases hc : c = c0
      · rw [if_pos hc] at p
        subst hc
        exact ⟨true, hex, fun _ => ⟨rfl, p F' ι' H' false l hr' rfl⟩, fun z => by cases z⟩
      · rw [if_neg hc] at p
        exact p.elim
  · exact p.elim
theorem pts_told {s0 : Shared} {H0 : Hp} {sc : Scope} {cenv : Env} {fp : List Addr} {e : Expr} {vs : List Nat} {j c0 jj : Nat} {ret : Str} {pc pos2 : Pos} (hex : PySem.W.exmOne X.K (.ref (g.exc c0)) (.ref (g.exc c0)) = some true)
    (h : PE (X.blk s0 H0 sc cenv fp) e (tToldL X g tab lm σ vs j (g.exc c0) ret)) (hm : behindInMarks .NotEq (.Constant (.str ret) jj pc) = false) :
    PTs (X.blk s0 H0 sc cenv fp) [.Compare e [.NotEq] [.Constant (.str ret) jj pc] pos2] (fun σ2 H Q => wipe σ2 vs = wipe σ vs ∧ tT (g.cl X tab) W0 (mToldL j vs lm c0) σ2 H Q) := by
  refine ⟨fun pins' s1 σ2 H Q I hq => (pts_one (pt_cmpR op_ne h pe_str hm)).run pins' s1 σ2 H Q I ?_⟩
  obtain ⟨hw, hq⟩ := hq
  have z := told_weak (ret := ret) hex hw hq
  refine ⟨hw, ?_⟩
  obtain ⟨_, k, f, c', e, pm, ctv, z1, z2, z3, z4, F, ι, σa, h, hr, lr, p⟩ := z
  refine ⟨k, f, c', e, pm, ctv, z1, z2, z3, z4, F, ι, σa, h, hr, lr, ?_⟩
  have up : ∀ x H1, (x = V.str ret ∧ Q false H1) → (fun x H1 => (fun σ H Q => Q (V.str ret) H : TE) σ2 H1 fun y H2 => rNe x y H2 fun z H' => ∃ k, z = .bl k ∧ Q k H') x H1 := by
    rintro x H1 ⟨rfl, q⟩
    exact ⟨rfl, false, by simp, q⟩
  revert p
  cases lm k σa h with
  | ok d h' => exact fun p F' ι' H' v l hr' r => up _ _ (p F' ι' H' v l hr' r)
  | stuck => exact fun p => p
  | exc c h' =>
    intro p F' ι' H' l hr'
    obtain ⟨b, e1, e2, e3⟩ := p F' ι' H' l hr'
    exact ⟨b, e1, fun hb => up _ _ (e2 hb), e3⟩
theorem em_lcI {W : WX} {elt tg iter : Expr} {ifs : List Expr} {scope : Scope} {own : List (Str × Nat)} {pos : Pos} {is vs : List Nat} {mi : MI} {mg : MG} {mt : MT} {me : ME} (t : TiOk g) (mu : Bool) (hc : X.calm = true) (hN : X.N.Nodup) (hi : PI X tg iter (tI g W mi)) (ok : BlkOk X.N X.env.scope scope own) (hvs : own.map (·.2) = vs) (hsub : ∀ i ∈ is, i ∈ vs)
    (hg : ∀ (s : Shared) (H : Hp) (C : Addr) (cl : List (Str × Addr)) (fp : List Addr), PG (X.blk s H scope (compEnvC scope cl C X.env) fp) tg (tG g W0 is mg))
    (ht : ∀ (pins : List (Addr × Obj)) (σ : L2.St) (s : Shared) (H : Hp) (C : Addr) (cl : List (Str × Addr)) (fp : List Addr), (∀ pins' σ' H' s', Inv (X.blk s H scope (compEnvC scope cl C X.env) fp) pins' σ' H' s' → Inv X pins σ H' s') → PTs (X.blk s H scope (compEnvC scope cl C X.env) fp) ifs (fun σ2 H Q => wipe σ2 vs = wipe σ vs ∧ tT g W0 mt σ2 H Q))
    (he : ∀ (s : Shared) (H : Hp) (C : Addr) (cl : List (Str × Addr)) (fp : List Addr), PE (X.blk s H scope (compEnvC scope cl C X.env) fp) elt (tE g W0 me)) (hs : ∀ x, foldedSetIterable iter X.env x = pure x := by intro _; rfl) :
    PE X (.ListComp elt [⟨tg, iter, ifs, 0⟩] scope pos) (tE g W (mLc mu mi vs mg mt me)) := by
  subst hvs
  refine ⟨fun pins s σ H Q I h => ?_⟩
  rw [eval_ListComp]
  refine lc_coreI hc hN I hi ok hg (ht pins σ) he hs (lc_weak t hsub _ _ _ h) fun D C s' m H' I' q hn f => ⟨m, hn, fun h'' sb => ?_⟩
  obtain ⟨f0, f1, f2, f3, f4, f5⟩ := f
  exact ⟨.ref D, H', I'.turned (t' := s'.toks) (fun b o hb e => (sb.2 b hb).trans e) f0 f1 f3 f4 f5, rfl, q⟩
end
end DV
end
section
set_option Elab.async false
set_option linter.all false
set_option maxRecDepth 100000
set_option maxHeartbeats 2000000
namespace DV
open PySem L2 PyProof.Rows PySem.Spec LamX

/-! ### a def whose frame makes lambdas -/
def clS (ms : MS) : MS := fun σ h => match ms σ h with
  | .ok (.rt d) h' => if nCl d = true ∧ nClH h' = true then .ok (.rt d) h' else .stuck
  | _ => .stuck
section
variable {X X' : Cx} {g : DV.G} {W : WX} {tab : List LamT}
theorem LR.toCl {F : Kn} {ι : List Addr} {σ : AS} {σv : L2.St} (hn : ∀ k a o c u, ¬ g.Cl k a o c u) (lr : LR g F ι σ σv) : LR (g.cl X tab) F ι σ σv :=
  ⟨lr.1, fun i d e => let ⟨v, e', q⟩ := lr.2 i d e; ⟨v, e', VR.toCl hn _ _ q⟩⟩
theorem sm_cl {b : List Stmt} {ms : MS} (hn : ∀ k a o c u, ¬ g.Cl k a o c u) (h : PSs X' b (tS (g.cl X tab) W ms)) : PSs X' b (tS g W (clS ms)) := by
  refine ⟨fun pins s σ H D I hq => h.run pins s σ H D I ?_⟩
  obtain ⟨F, ι, σa, h0, hr, lr, p⟩ := hq
  refine ⟨F, ι, σa, h0, hr.toCl hn, lr.toCl hn, ?_⟩
  unfold clS at p
  revert p
  cases ms σa h0 with
  | exc c σ h' => exact fun p => p.elim
  | stuck => exact fun p => p.elim
  | ok f h' =>
    cases f with
    | nx σ => exact fun p => p.elim
    | bk σ => exact fun p => p.elim
    | ct σ => exact fun p => p.elim
    | rt d =>
      dsimp only
      intro p F' ι' H' l hr'
      split at p
      · rename_i c
        exact fun v rv => p F' ι' H' l (hr'.ofCl c.2) v (VR.ofCl _ _ c.1 rv)
      · exact p.elim
theorem sm_clX {b : List Stmt} {ms : MS} (hn : ∀ k a o c u, ¬ g.Cl k a o c u) (h : PSs X b (tS (g.cl X tab) W ms)) : PSs X b (tS g W (clS ms)) := sm_cl hn h
/-- the lambdas of a frame, one by one -/
def LamOne (X : Cx) (g : G) (tab : List LamT) (k0 : Nat) (e : LamT) (m : ME) : Prop := LamS X.env.scope e.2.2 ∧ (∀ (q : Str) (cl : List (Str × Addr)) (pm cv ctv : Value), bindArgs (PySem.W.kla_fn "<lambda>" q e.1 e.2.1 e.2.2 cl pm cv ctv) ⟨[], []⟩ = pure []) ∧
  ∀ (A : Around) (outer : List Env) (s : Shared) (H : Hp) (E : XK) (f c' : Addr), Room k0 (lamCx X A outer s H E e.2.2 f c').A → Takes (lamCx X A outer s H E e.2.2 f c') (WF E) → PE (lamCx X A outer s H E e.2.2 f c') e.2.1 (tE (g.cl X tab) (WF E) m)
def LamsL (X : Cx) (g : G) (tab : List LamT) (k0 : Nat) : List LamT → List ME → Prop
  | [], _ => True
  | e :: es, ms => ∃ m ms', ms = m :: ms' ∧ LamOne X g tab k0 e m ∧ LamsL X g tab k0 es ms'
theorem LamsL.cons {k0 : Nat} {e : LamT} {es : List LamT} {m : ME} {ms : List ME} (a : LamOne X g tab k0 e m) (b : LamsL X g tab k0 es ms) : LamsL X g tab k0 (e :: es) (m :: ms) := ⟨m, ms, rfl, a, b⟩
theorem LamsL.nil {k0 : Nat} {ms : List ME} : LamsL X g tab k0 [] ms := trivial
theorem LamsL.at {k0 : Nat} : ∀ {es : List LamT} {ms : List ME}, LamsL X g tab k0 es ms → ∀ (k : Nat) (e : LamT), es[k]? = some e → LamOne X g tab k0 e (ms.getD k mStuck)
  | [], _, _, k, e, h => by simp at h
  | e0 :: es, _, ⟨m, ms', rfl, a, b⟩, 0, e, h => by
    simp at h
    subst h
    exact a
  | e0 :: es, _, ⟨m, ms', rfl, a, b⟩, k + 1, e, h => LamsL.at (es := es) b k e (by simpa using h)
theorem LamsL.ok {k0 : Nat} {ms : List ME} (h : LamsL X g tab k0 tab ms) : LamsOk X g tab k0 fun k => ms.getD k mStuck := fun k e hk => by
  obtain ⟨a, b, c⟩ := h.at k e hk
  exact ⟨a, b, fun A outer s H E f c' hr => c A outer s H E f c' hr (takes_of rfl rfl rfl rfl)⟩
theorem EV.exm {M : Md} {w : World} {K : PySem.W.Frag} {mg : Str → Option Value} {base h : Heap} (E : EV M w K mg base h) (i : Nat) {x y : Str} {b : Bool} (e : M.fa[i]? = some (.exm x y b) := by rfl) : PySem.W.exmOne K (.ref (He.ga K x)) (.ref (He.ga K y)) = some b := He.exm_ok (E.fact i e)
theorem pts_toldE {M : Md} {w : World} {h : Heap} {pins : List (Addr × Obj)} {σ : L2.St} {s0 : Shared} {H0 : Hp} {sc : Scope} {cenv : Env} {fp : List Addr} {x a v e ret : Str} {k0 j c0 jj jr : Nat} {pg : Arguments} {bg : List Stmt} {sg : Scope} {Ng : List Str} {lm : Nat → ME} {vs : List Nat} {p p' pos pc pos2 p1 p2 p3 p4 p5 p6 p7 p8 : Pos}
    (E : EV M w X.K X.mg X.base h) (i : Nat) (hi : M.fn[i]? = some ⟨(x, none), x, x, pg, bg, sg, [], []⟩)
    (hbg : bg = [.Try [.Return (some (.Call (.Name a p1) [] [] p2)) p3] [.ExceptHandler (some (.Name e p4)) none [.Return (some (.Constant (.str ret) jr p5)) p6] p7] [] [] p8])
    (hps : ∀ (kV doc pm : Value) (an : Option Addr) (cdv ct : Value) (us : List Value), us.length = [a].length → bindArgs (PySem.W.fnOf x x pg bg sg .none kV doc pm an cdv ct) ⟨us, []⟩ = pure ([a].zip us))
    (hm : X.mg x = some (.ref (He.fAd X.K (x, none)))) (Sg : FnScope Ng [a] sg) (hNg : Ng[0]? = some a) (hva : Vis sg a) (hge : sg.names.lookup e = some .globalImplicit) (hme : X.mg e = some (.ref (g.exc c0)))
    (hex : PySem.W.exmOne X.K (.ref (g.exc c0)) (.ref (g.exc c0)) = some true) (h0 : ∀ f : Addr, (L2.start Ng [V.ref f])[0]? = some (some (V.ref f)))
    (back : ∀ pins' σ' H' s', Inv (X.blk s0 H0 sc cenv fp) pins' σ' H' s' → Inv X pins σ H' s') (LM : LamsOk X g tab k0 lm) (hr : Room (k0 + 2) X.A)
    (hg : Gl (X.blk s0 H0 sc cenv fp) x) (hN : X.N[j]? = some v) (hv : Vis cenv.scope v) (hm2 : behindInMarks .NotEq (.Constant (.str ret) jj pc) = false)
    (hde : (e == ("__debug__" : Str)) = false := by decide) (hdb : (x == ("__debug__" : Str)) = false := by decide) (hd : (a == ("__debug__" : Str)) = false := by decide) (hcd : (a == ("__classdict__" : Str)) = false := by decide) (hd2 : (v == ("__debug__" : Str)) = false := by decide) (hcd2 : (v == ("__classdict__" : Str)) = false := by decide) :
    PTs (X.blk s0 H0 sc cenv fp) [.Compare (.Call (.Name x p) [.Name v p'] [] pos) [.NotEq] [.Constant (.str ret) jj pc] pos2] (fun σ2 H Q => wipe σ2 vs = wipe σ vs ∧ tT (g.cl X tab) W0 (mToldL j vs lm c0) σ2 H Q) := by
  obtain ⟨fd, F⟩ := E.c.t.d.def_ i hi
  have F0 : FunD X.K x x pg bg sg [] [] (He.fAd X.K (x, none)) fd := F
  have b := FunD.bindsA (ps := [a]) F0 hps
  obtain ⟨oc, od, dV, kV, doc, pm, an, cdv, ct, osl, rfl, lk, hcd', _, _⟩ := F0.ex
  subst hbg
  refine pts_told hex (pe_told back LM hg hm F0.kp lk hcd' (fun s us _ hl => by rw [List.append_nil] at hl ⊢; exact b s us hl) Sg hNg hva ?_ hr hN hv hdb hd hcd hd2 hcd2) hm2
  exact told_gives (X := X.blk s0 H0 sc cenv fp) hge hme hde h0
end
/-- lambdas in a list in a statement -/
def lamL (s : Stmt) : List Expr := match s with
  | .Assign _ (.List es _) _ => es
  | .Assign _ (.BinOp _ _ (.List es _) _) _ => es
  | _ => []
def lamAt (b : List Stmt) (i j : Nat) : LamT := match (lamL (b.getD i (.Pass ⟨0, 0, 0, 0⟩))).getD j (.List [] ⟨0, 0, 0, 0⟩) with
  | .Lambda p e s _ => (p, e, s)
  | e => (⟨[], [], none, [], [], none, []⟩, e, ⟨.function, [], false, false, []⟩)
end DV
end
section
set_option Elab.async false
set_option linter.all false
set_option maxRecDepth 100000
set_option maxHeartbeats 2000000
namespace DV
open PySem PySem.Calls PyProof.Rows PySem.Spec PySem.W

/-! ### list(zip(a, b)), the heap's side -/
theorem zip_no_len : typeLookup (.type "zip") "__len__" = pure none := by rw [typeLookup_type, builtinLookup_eq_fast]; kernel_rfl
theorem zip_no_hint : typeLookup (.type "zip") "__length_hint__" = pure none := by rw [typeLookup_type, builtinLookup_eq_fast]; kernel_rfl
/-- the zip's state, at turn i -/
def ZSt (h : Heap) (z TI TO i1 i2 l1 l2 S : Addr) (xs ys : Array Value) (i : Nat) : Prop :=
  IsPair h TI (.ref i1) (.ref i2) ∧ h.IsListIter i1 l1 i ∧ h.IsListIter i2 l2 i ∧ h.IsList l1 xs ∧ h.IsList l2 ys ∧
    ((IsZip h z TI TO .none ∧ ∃ a b, IsPair h TO a b) ∨ ∃ T f oT, IsZipHeld h z TI TO T f ∧ h.get? T = some oT ∧ T ≠ z ∧ T ≠ i1 ∧ T ≠ i2 ∧ T ≠ S)
structure ZOut (xs ys : Array Value) (lo : Addr) (h : Heap) (as : List Addr) : Prop where
  rise : as.Pairwise (· < ·)
  above : ∀ a ∈ as, lo < a
  pairs : ∀ (j : Nat) (a : Addr), as[j]? = some a → ∃ x y, xs[j]? = some x ∧ ys[j]? = some y ∧ h.get? a = some { cls := .type "tuple", data := .seq #[x, y] }
theorem ZOut.there {xs ys : Array Value} {lo : Addr} {h : Heap} {as : List Addr} (g : ZOut xs ys lo h as) {a : Addr} (ha : a ∈ as) : a < h.objs.size := by
  obtain ⟨j, hj⟩ := List.mem_iff_getElem?.mp ha
  obtain ⟨_, _, _, _, e⟩ := g.pairs j a hj
  exact Heap.lt_size e
theorem ZSt.keep {h h' : Heap} {z TI TO i1 i2 l1 l2 S : Addr} {xs ys : Array Value} {i : Nat} (st : ZSt h z TI TO i1 i2 l1 l2 S xs ys i) (hS : ∀ b ∈ [z, TI, TO, i1, i2, l1, l2], b ≠ S) (k : ∀ b o, b ≠ S → h.get? b = some o → h'.get? b = some o) : ZSt h' z TI TO i1 i2 l1 l2 S xs ys i := by
  obtain ⟨hTI, h1, h2, hl1, hl2, hz⟩ := st
  refine ⟨k _ _ (hS TI (by simp)) hTI, h1.at fun o e => k _ o (hS i1 (by simp)) e, h2.at fun o e => k _ o (hS i2 (by simp)) e, hl1.at fun o e => k _ o (hS l1 (by simp)) e, hl2.at fun o e => k _ o (hS l2 (by simp)) e, ?_⟩
  rcases hz with ⟨hz, a, b, hTO⟩ | ⟨T, f, oT, hz, hT, r1, r2, r3, r4⟩
  · exact .inl ⟨k _ _ (hS z (by simp)) hz, a, b, k _ _ (hS TO (by simp)) hTO⟩
  · exact .inr ⟨T, f, oT, k _ _ (hS z (by simp)) hz, k _ _ r4 hT, r1, r2, r3, r4⟩
section
variable {prog : Program} {w : World} {A : Around} {E : Value → Shared → Prop} {s : Shared} {z TI TO i1 i2 l1 l2 S : Addr} {xs ys : Array Value} {i : Nat}
theorem zl_item {x y : Value} {Q : Option Value → Shared → Prop} (D : ZipApart z TI TO i1 i2 l1 l2) (st : ZSt s.heap z TI TO i1 i2 l1 l2 S xs ys i) (ex : xs[i]? = some x) (ey : ys[i]? = some y) (hS : S < s.heap.objs.size)
    (hQ : ∀ h', ZSt h' z TI TO i1 i2 l1 l2 S xs ys (i + 1) → IsPair h' s.heap.objs.size x y → (∀ c o, c ∉ [z, TO, i1, i2] → s.heap.get? c = some o → h'.get? c = some o) → Q (some (.ref s.heap.objs.size)) { s with heap := h' }) :
    wpAny (model prog w) A (pyNext (.ref z)) Q E s := by
  obtain ⟨hTI, h1, h2, hl1, hl2, hz⟩ := st
  have lt : ∀ {c o}, s.heap.get? c = some o → s.heap.objs.size ≠ c := fun e => Nat.ne_of_gt (Heap.lt_size e)
  have n1 : s.heap.objs.size ≠ i1 := let ⟨_, e, _⟩ := h1; lt e
  have n2 : s.heap.objs.size ≠ i2 := let ⟨_, e, _⟩ := h2; lt e
  rcases hz with ⟨hz, a, b, hTO⟩ | ⟨T, f, oT, hz, hT, r1, r2, r3, r4⟩
  · refine wpAny_pyNext_zip_item D hz hTI hTO h1 h2 hl1 hl2 ex ey fun h' a1 a2 a3 a4 a5 a6 hk => ?_
    exact hQ h' ⟨hk _ _ D.TIz D.TITO D.TIi1 D.TIi2 hTI, a3, a4, hl1.at fun o e => hk _ o D.l1z D.l1TO D.l1i1 D.l1i2 e, hl2.at fun o e => hk _ o D.l2z D.l2TO D.l2i1 D.l2i2 e,
        .inr ⟨s.heap.objs.size, false, _, a1, a5, lt hz, n1, n2, Nat.ne_of_gt hS⟩⟩ a5 fun c o hc e => hk c o (fun x => hc (by simp [x])) (fun x => hc (by simp [x])) (fun x => hc (by simp [x])) (fun x => hc (by simp [x])) e
  · refine wpAny_pyNext_zip_item_held D hz hT hTI h1 h2 hl1 hl2 ex ey fun h' a1 a3 a4 a5 a6 hk => ?_
    exact hQ h' ⟨hk _ _ D.TIz D.TIi1 D.TIi2 hTI, a3, a4, hl1.at fun o e => hk _ o D.l1z D.l1i1 D.l1i2 e, hl2.at fun o e => hk _ o D.l2z D.l2i1 D.l2i2 e,
        .inr ⟨T, true, oT, a1, hk _ _ r1 r2 r3 hT, r1, r2, r3, r4⟩⟩ a5 fun c o hc e => hk c o (fun x => hc (by simp [x])) (fun x => hc (by simp [x])) (fun x => hc (by simp [x])) e
theorem zl_done {Q : Option Value → Shared → Prop} (hh : A.handled = none) (D : ZipApart z TI TO i1 i2 l1 l2) (st : ZSt s.heap z TI TO i1 i2 l1 l2 S xs ys i) (he : xs[i]? = none ∨ ys[i]? = none)
    (hQ : ∀ h', (∀ c o, c ∉ [z, TO, i1, i2] → s.heap.get? c = some o → h'.get? c = some o) → Q none { s with heap := h' }) : wpAny (model prog w) A (pyNext (.ref z)) Q E s := by
  obtain ⟨hTI, h1, h2, hl1, hl2, hz⟩ := st
  rcases hz with ⟨hz, a, b, hTO⟩ | ⟨T, f, oT, hz, hT, r1, r2, r3, r4⟩
  · exact wpAny_pyNext_zip_end hh D hz hTI hTO h1 h2 hl1 hl2 he fun h' hk => hQ h' fun c o hc e => hk c o (fun x => hc (by simp [x])) (fun x => hc (by simp [x])) (fun x => hc (by simp [x])) (fun x => hc (by simp [x])) e
  · exact wpAny_pyNext_zip_end_held hh D hz hT hTI h1 h2 hl1 hl2 he fun h' hk => hQ h' fun c o hc e => hk c o (fun x => hc (by simp [x])) (fun x => hc (by simp [x])) (fun x => hc (by simp [x])) e
end
section
variable {prog : Program} {w : World} {A : Around} {s : Shared} {R : Result → Shared → Prop} {z TI TO i1 i2 l1 l2 S : Addr} {xs ys : Array Value}
theorem zl_loop (hh : A.handled = none) (D : ZipApart z TI TO i1 i2 l1 l2) (hlt : ∀ b ∈ [z, TI, TO, i1, i2, l1, l2], b < S) (hn : xs.size ≤ sizeLine) (res : Value) {h₁ : Heap}
    (hR : ∀ h' tk acc c as, (∀ b o, b ≠ S → b ∉ [z, TO, i1, i2] → h₁.get? b = some o → h'.get? b = some o) → h'.get? S = some { cls := .type "list", dict := none, data := .seq acc c, slots := #[] } → as.length = min xs.size ys.size → ZOut xs ys S h' as →
      acc.toList = as.map Value.ref → R (.ok (.ret res)) { s with heap := h', toks := tk }) :
    ∀ (k i : Nat) (h : Heap) (tk c : Nat) (acc : Array Value) (as : List Addr), min xs.size ys.size - i = k → i ≤ min xs.size ys.size → ZSt h z TI TO i1 i2 l1 l2 S xs ys i → (∀ b o, b ≠ S → b ∉ [z, TO, i1, i2] → h₁.get? b = some o → h.get? b = some o) →
      h.get? S = some { cls := .type "list", dict := none, data := .seq acc c, slots := #[] } → acc.toList = as.map Value.ref → as.length = i → ZOut xs ys S h as →
      codeAny (model prog w) A (.builtin "list.extend.loop" ⟨[.ref S, .ref z, res], []⟩) R { s with heap := h, toks := tk } := by
  have hSn : S ∉ [z, TO, i1, i2] := fun hm => by
    have : S < S := hlt S (by simp at hm ⊢; rcases hm with e | e | e | e <;> simp [e])
    exact Nat.lt_irrefl _ this
  have nin : ∀ b, S < b → b ∉ [z, TO, i1, i2] := fun b hb hm => by
    have : b < S := hlt b (by simp at hm ⊢; rcases hm with e | e | e | e <;> simp [e])
    exact Nat.lt_irrefl _ (Nat.lt_trans hb this)
  have hSne : ∀ b ∈ [z, TI, TO, i1, i2, l1, l2], b ≠ S := fun b hb => Nat.ne_of_lt (hlt b hb)
  intro k
  induction k with
  | zero =>
    intro i h tk c acc as hk hi hst hkeep hS hacc hal hG
    have hin : i = min xs.size ys.size := by omega
    have he : xs[i]? = none ∨ ys[i]? = none := by
      rcases Nat.le_total xs.size ys.size with q | q
      · exact .inl (Array.getElem?_eq_none (by omega))
      · exact .inr (Array.getElem?_eq_none (by omega))
    refine codeAny_builtin PySem.F.entry_extend_loop ?_
    rw [Around.under_plainId PySem.F.plain_extend_loop _]
    show wpAny _ A.in1 (pyNext (.ref z) >>= _) _ _ _
    refine wpAny_bind (zl_done (s := { s with heap := h, toks := tk }) (A := A.in1) hh D hst he fun h' hk' => ?_)
    refine wpAny_pure (hR h' tk acc c as (fun b o h1 h2 e => hk' b o h2 (hkeep b o h1 h2 e)) (hk' S _ hSn hS) (by omega) ⟨hG.rise, hG.above, fun j a hj => ?_⟩ hacc)
    obtain ⟨x, y, e1, e2, e3⟩ := hG.pairs j a hj
    exact ⟨x, y, e1, e2, hk' a _ (nin a (hG.above a (List.mem_of_getElem? hj))) e3⟩
  | succ k ih =>
    intro i h tk c acc as hk hi hst hkeep hS hacc hal hG
    have hlt1 : i < xs.size := by omega
    have hlt2 : i < ys.size := by omega
    have ex := Array.getElem?_eq_getElem hlt1
    have ey := Array.getElem?_eq_getElem hlt2
    have hsz : acc.size = i := by rw [← Array.length_toList, hacc, List.length_map, hal]
    refine codeAny_builtin PySem.F.entry_extend_loop ?_
    rw [Around.under_plainId PySem.F.plain_extend_loop _]
    show wpAny _ A.in1 (pyNext (.ref z) >>= _) _ _ _
    refine wpAny_bind (zl_item (s := { s with heap := h, toks := tk }) D hst ex ey (Heap.lt_size hS) fun h' hst' ht hkp => ?_)
    dsimp only at ht hkp ⊢
    have hS' := hkp S _ hSn hS
    have up : ∀ b o, b ≠ S → h'.get? b = some o → (h'.update S (Obj.mapSeq (·.push (Value.ref h.objs.size)))).get? b = some o := fun b o hb e => (Heap.get?_update_other _ _ (Ne.symm hb)).trans e
    have hSl : S < h.objs.size := Heap.lt_size hS
    show wpAny _ A.in1 (updateSeq S (·.push (Value.ref h.objs.size)) >>= _) _ _ _
    refine wpAny_bind ?_
    refine wpAny_updateSeq hS' rfl (wpAny_pure ⟨plainId_quiet PySem.F.plain_extend_loop _, ih (i + 1) _ tk _ (acc.push (Value.ref h.objs.size)) (as ++ [h.objs.size]) (by omega) (by omega) (hst'.keep hSne up)
      (fun b o h1 h2 e => up b o h1 (hkp b o h2 (hkeep b o h1 h2 e))) (Heap.get?_update_self _ hS' rfl) (by rw [Array.toList_push, hacc, List.map_append]; rfl) (by rw [List.length_append, hal]; rfl) ⟨?_, ?_, ?_⟩⟩) (by rw [hsz]; omega) (by show (acc.push (Value.ref h.objs.size)).size ≤ sizeLine + 1; rw [Array.size_push, hsz]; omega)
    · refine List.pairwise_append.mpr ⟨hG.rise, List.pairwise_singleton _ _, fun a ha b hb => ?_⟩
      rw [List.mem_singleton.mp hb]
      exact hG.there ha
    · intro a ha
      rcases List.mem_append.mp ha with ha | ha
      · exact hG.above a ha
      · rw [List.mem_singleton.mp ha]; exact hSl
    · intro j b hj
      rcases Nat.lt_trichotomy j as.length with h1 | h1 | h1
      · rw [List.getElem?_append_left h1] at hj
        obtain ⟨x, y, e1, e2, e3⟩ := hG.pairs j b hj
        have hb := hG.above b (List.mem_of_getElem? hj)
        exact ⟨x, y, e1, e2, up b _ (Nat.ne_of_gt hb) (hkp b _ (nin b hb) e3)⟩
      · subst h1
        have hb : h.objs.size = b := by simpa using hj
        subst hb
        exact ⟨_, _, by rw [hal]; exact ex, by rw [hal]; exact ey, up _ _ (Nat.ne_of_gt hSl) ht⟩
      · have hnone : (as ++ [h.objs.size])[j]? = none := List.getElem?_eq_none (by rw [List.length_append, List.length_singleton]; omega)
        rw [hnone] at hj; cases hj
end
section
variable {prog : Program} {w : World} {A : Around} {E : Value → Shared → Prop} {s : Shared} {l1 l2 : Addr} {xs ys : Array Value}
theorem zl_call {z TI TO i1 i2 : Addr} {Q : Value → Shared → Prop} (hh : A.handled = none) (D : ZipApart z TI TO i1 i2 l1 l2) (hz : IsZip s.heap z TI TO .none) (hTI : IsPair s.heap TI (.ref i1) (.ref i2)) (hTO : ∃ a b, IsPair s.heap TO a b) (h1 : s.heap.IsListIter i1 l1 0) (h2 : s.heap.IsListIter i2 l2 0)
    (hl1 : s.heap.IsList l1 xs) (hl2 : s.heap.IsList l2 ys) (hn : xs.size ≤ sizeLine)
    (hQ : ∀ h' tk acc c as, (∀ b o, b ∉ [z, TO, i1, i2] → s.heap.get? b = some o → h'.get? b = some o) → h'.get? s.heap.objs.size = some { cls := .type "list", dict := none, data := .seq acc c, slots := #[] } → as.length = min xs.size ys.size → ZOut xs ys s.heap.objs.size h' as →
      acc.toList = as.map Value.ref → Q (.ref s.heap.objs.size) { s with heap := h', toks := tk }) :
    wpAny (model prog w) A (call (.type "list") [.ref z]) Q E s := by
  have hlt : ∀ b ∈ [z, TI, TO, i1, i2, l1, l2], b < s.heap.objs.size := fun b hb => by
    simp at hb
    obtain ⟨a, b', hTO⟩ := hTO
    rcases hb with e | e | e | e | e | e | e <;> subst e
    · exact Heap.lt_size hz
    · exact Heap.lt_size hTI
    · exact Heap.lt_size hTO
    · obtain ⟨_, e, _⟩ := h1; exact Heap.lt_size e
    · obtain ⟨_, e, _⟩ := h2; exact Heap.lt_size e
    · obtain ⟨_, e, _⟩ := hl1; exact Heap.lt_size e
    · obtain ⟨_, e, _⟩ := hl2; exact Heap.lt_size e
  have hSz : s.heap.objs.size ≠ z := Nat.ne_of_gt (hlt z (by simp))
  refine callType_codes (Q₁ := fun obj s₁ => obj = .ref s.heap.objs.size ∧ s₁ = { s with heap := s.heap.push { cls := .type "list", data := .seq #[] } }) PySem.F.called_list (PySem.F.typeCall_list_1 _) PySem.F.entry_list_init
    (code_list_new _ ⟨rfl, rfl⟩) fun obj s₁ h₁ => ?_
  obtain ⟨rfl, rfl⟩ := h₁
  have hS : (s.heap.push { cls := .type "list", data := .seq #[] }).get? s.heap.objs.size = some { cls := .type "list", data := .seq #[] } := Heap.get?_push_size _ rfl
  refine ⟨⟨_, hS, rfl⟩, PySem.F.args_list_init_2 _ _, ?_⟩
  show wpAny _ A.in1.in1 (do let old ← Builtin.List.listItems (.ref s.heap.objs.size); Builtin.List.listUpdate (.ref s.heap.objs.size) (fun _ => #[]); letGo old.toList.reverse; Builtin.List.listExtendWith (.ref s.heap.objs.size) (.ref z) .none) _ _ _
  refine wpAny_bind ?_
  unfold Builtin.List.listItems
  refine wpAny_bind (wpAny_seqItems hS rfl (wpAny_pure ?_))
  show wpAny _ A.in1.in1 (updateSeq s.heap.objs.size (fun _ => #[]) >>= fun _ => letGo (#[] : Array Value).toList.reverse >>= fun _ => Builtin.List.listExtendWith (.ref s.heap.objs.size) (.ref z) .none) _ _ _
  refine wpAny_bind (wpAny_updateSeq hS rfl ?_)
  have hS2 := Heap.get?_update_self (Obj.mapSeq (fun _ => (#[] : Array Value))) hS rfl
  refine wpAny_bind (wpAny_letGo ?_)
  unfold Builtin.List.listExtendWith
  have up : ∀ (h : Heap) (f : Obj → Obj), (∀ b o, s.heap.get? b = some o → h.get? b = some o) → ∀ b o, s.heap.get? b = some o → (h.update s.heap.objs.size f).get? b = some o := fun h f q b o e =>
    (Heap.get?_update_other _ _ (Ne.symm (Nat.ne_of_lt (Heap.lt_size e)))).trans (q b o e)
  have k1 : ∀ b o, s.heap.get? b = some o → (s.heap.push { cls := .type "list", data := .seq #[] }).get? b = some o := fun b o e => Heap.get?_push_of_some _ e
  have k2 := up _ (Obj.mapSeq (fun _ => (#[] : Array Value))) k1
  have ty : ∀ {h : Heap} {tk : Nat}, (∀ b o, s.heap.get? b = some o → h.get? b = some o) → Shared.TypeIs { s with heap := h } (.ref z) "zip" := fun {h tk} q => ⟨_, q _ _ hz, rfl⟩
  refine wpAny_bind (wpAny_typeOf (ty (tk := 0) k2) ?_)
  have h1' : Builtin.List.listSameRef (.ref s.heap.objs.size) (.ref z) = false := by simp [Builtin.List.listSameRef, hSz]
  have h2' : (Value.type "zip" == Value.type "list") = false := by decide
  have h3' : (Value.type "zip" == Value.type "tuple") = false := by decide
  simp only [h1', h2', h3', Bool.or_false, Bool.false_eq_true, if_false]
  refine wpAny_bind (wpAny_pyIter_zip (s := { s with heap := _ }) (k2 _ _ hz) ?_)
  refine wpAny_bind (wpAny_holding ?_)
  unfold Builtin.List.listLengthHint
  refine wpAny_bind (wpAny_specialOf (ty (tk := 0) k2) zip_no_len ?_)
  show wpAny _ A.in1.in1 (specialOf (Value.ref z) (Str.ofString "__length_hint__") >>= _) _ _ _
  refine wpAny_bind (wpAny_specialOf (ty (tk := 0) k2) zip_no_hint ?_)
  refine wpAny_pure ?_
  show wpAny _ A.in1.in1 (rule "list.extend.makes-room" >>= fun _ => Builtin.List.listTouch (.ref s.heap.objs.size) >>= fun _ =>
    again (.builtin "list.extend.loop" ⟨[.ref s.heap.objs.size, .ref z, .none], []⟩)) _ _ _
  refine wpAny_bind (wpAny_rule ?_)
  refine wpAny_bind ?_
  show wpAny _ A.in1.in1 (updateSeq s.heap.objs.size (·.push .none) >>= fun _ => updateSeq s.heap.objs.size (·.pop)) _ _ _
  refine wpAny_bind (wpAny_updateSeq hS2 rfl ?_)
  have hS3 := Heap.get?_update_self (Obj.mapSeq (·.push Value.none)) hS2 rfl
  refine wpAny_updateSeq (hz := by seq_fits) hS3 rfl ?_
  have hS4 := Heap.get?_update_self (Obj.mapSeq (·.pop)) hS3 rfl
  have k4 := up _ (Obj.mapSeq (·.pop)) (up _ (Obj.mapSeq (·.push Value.none)) k2)
  refine wpAny_pure ⟨plainId_quiet PySem.F.plain_extend_loop _, ?_⟩
  have st0 : ZSt s.heap z TI TO i1 i2 l1 l2 s.heap.objs.size xs ys 0 := ⟨hTI, h1, h2, hl1, hl2, .inl ⟨hz, hTO⟩⟩
  refine zl_loop (s := s) (h₁ := s.heap) (A := A.in1) hh D hlt hn .none (fun h' tk acc c as hk hS' hl hG hacc => ?_) (min xs.size ys.size) 0 _ s.toks _ #[] [] (Nat.sub_zero _) (Nat.zero_le _)
    (st0.keep (fun b hb => Nat.ne_of_lt (hlt b hb)) fun b o _ e => k4 b o e) (fun b o _ _ e => k4 b o e) hS4 rfl rfl ⟨List.Pairwise.nil, (fun _ ha => nomatch ha), (fun j a hj => by simp at hj)⟩
  exact ⟨rfl, hQ h' tk acc c as (fun b o hb e => hk b o (Nat.ne_of_lt (Heap.lt_size e)) hb e) hS' hl hG hacc⟩
end
end DV
end
section
set_option Elab.async false
set_option linter.all false
set_option maxRecDepth 100000
set_option maxHeartbeats 2000000
namespace DV
open PySem L2 PyProof.Rows PySem.Spec

/-! ### list(zip(a, b)) -/
def updL (H : Hp) : List (Addr × HO) → Hp
  | [] => H
  | (a, o) :: r => updL (upd H a o) r
theorem updL_ne {a : Addr} : ∀ {l : List (Addr × HO)} {H : Hp}, (∀ q ∈ l, q.1 ≠ a) → updL H l a = H a
  | [], H, _ => rfl
  | (b, o) :: r, H, h => by
    show updL (upd H b o) r a = H a
    rw [updL_ne fun q hq => h q (List.mem_cons_of_mem _ hq), upd_ne (Ne.symm (h (b, o) List.mem_cons_self))]
section
variable {X : Cx} {pins : List (Addr × Obj)} {σ : L2.St} {H : Hp} {s : Shared}
theorem inv_know {a : Addr} {o : HO} (I : L2.Inv X pins σ H s) (hf : FpOk X pins H a) (new : ObjOk X.prog X.w (upd H a o) s.heap a o) : L2.Inv X pins σ (upd H a o) s := by
  have hn := hf.1
  refine I.step (h' := s.heap) (g' := s.gens) (d' := s.drawn) (t' := s.toks) (ch := [a]) (fun b hb => ?_) (fun b o _ _ _ e _ => e) (fun b o _ _ _ e _ => ⟨o.slots, e⟩)
    (fun b o hc e n => ?_) (fun b o _ e => ⟨o, e⟩) (fun b xs e => ?_) (fun b o u e => ?_) (fun b ps e => ⟨#[], ?_⟩) (fun m hm => hm) (fun b u e => ?_) I.bare
  · rw [List.mem_singleton.mp hb]
    exact ⟨hf.2.2.2.1, hf.2.1, hf.2.2.2.2.1, hf.2.2.2.2.2⟩
  · rw [upd_ne (fun z => hc (by simp [z]))]; exact n
  · rw [upd_ne (ne_of_none e hn)]; exact e
  · rw [upd_ne (ne_of_none e hn)]; exact e
  · rw [upd_ne (ne_of_none e hn), e]; simp
  · by_cases hb : b = a
    · subst hb
      rw [upd_same] at e
      cases e
      exact new
    · rw [upd_ne hb] at e
      exact (I.hok b u e).stay (fun c v hc q => q) (fun c q => by rw [upd_ne (ne_of_none q hn)]; exact q) fun c xs q => by rw [upd_ne (ne_of_none q hn)]; exact q
theorem inv_knowL : ∀ {l : List (Addr × HO)} {H : Hp}, L2.Inv X pins σ H s → (l.map (·.1)).Nodup → (∀ q ∈ l, FpOk X pins H q.1) → (∀ q ∈ l, ∀ H', ObjOk X.prog X.w H' s.heap q.1 q.2) → L2.Inv X pins σ (updL H l) s
  | [], H, I, _, _, _ => I
  | (a, o) :: r, H, I, nd, hf, new => by
    obtain ⟨n1, n2⟩ := List.nodup_cons.mp nd
    refine inv_knowL (l := r) (inv_know I (hf _ List.mem_cons_self) (new _ List.mem_cons_self _)) n2 (fun q hq => ⟨?_, (hf q (List.mem_cons_of_mem _ hq)).2⟩) fun q hq => new q (List.mem_cons_of_mem _ hq)
    rw [upd_ne (fun z => n1 (List.mem_map.mpr ⟨q, hq, z⟩))]
    exact (hf q (List.mem_cons_of_mem _ hq)).1
def zipO (as : List Addr) (xs ys : List V) : List (Addr × HO) := as.zip ((xs.zip ys).map fun p => HO.tup [p.1, p.2])
def tLz (K : PySem.W.Frag) (ta : TA) : TE := fun σ H Q => ta σ H fun vs H1 => ∃ a b xs ys, vs = [.ref a, .ref b] ∧ SqL K H1 a xs ∧ SqL K H1 b ys ∧
  ∀ (as : List Addr) (S : Addr), as.length = min xs.length ys.length → as.Nodup → (∀ T ∈ as, H1 T = none) → S ∉ as → H1 S = none → Q (.ref S) (upd (updL H1 (zipO as xs ys)) S (.lst (as.map V.ref)))
theorem pe_lzip {e e2 : Expr} {ta : TA} {p p2 pos pos2 : Pos} (hc : X.calm = true) (hg : Gl X "list") (hm : X.mg "list" = none) (hg2 : Gl X "zip") (hm2 : X.mg "zip" = none) (ha : PA X [e, e2] ta)
    (hs : starEach [e, e2] X.env = (false, eval e X.env) :: starEach [e2] X.env := by rfl) (hpl : (backTo pos (starEach [e2] X.env)).any (·.1) = false := by rfl) :
    PE X (.Call (.Name "list" p2) [.Call (.Name "zip" p) [e, e2] [] pos] [] pos2) (tLz X.K ta) := by
  refine ⟨fun pins s σ H Q I h => ?_⟩
  refine Call_ (ld_blt I hg hm boot_list (PyProof.Rows.callWith_type1 (Calls.spliced_cons ?_) (by rfl) (by rfl)))
  refine Call_ (ld_blt I hg2 hm2 PyProof.Rows.boot_zip (PyProof.Rows.callWith_type1 (thn (ha.run pos pins s σ H _ I h) fun us s1 ⟨vs, H1, I1, r1, q1⟩ => ?_) hs hpl))
  obtain ⟨a, b, xs, ys, ex, hqx, hqy, q⟩ := q1
  subst ex
  cases r1 with
  | cons r rr =>
    cases rr with
    | cons r' rr =>
      cases rr
      cases r
      cases r'
      obtain ⟨its, rv, p1, hz1⟩ := I1.list hqx
      obtain ⟨its2, rv2, p2, _⟩ := I1.list hqy
      refine call_zip_2 p1.isList p2.isList fun h' hz hTI hTO h1 h2 hsz hk => ?_
      have I2 : L2.Inv X pins σ H1 { s1 with heap := h' } := I1.kept (t' := s1.toks) hk
      refine Calls.spliced_nil ?_
      refine zl_call (s := { s1 with heap := h' }) (xs := its.toArray) (ys := its2.toArray) (I1.ok.hd hc) (PySem.W.ktu_apart s1.heap.objs.size a b p1.lt p2.lt) hz hTI ⟨_, _, hTO⟩ h1 h2 (p1.isList.at fun o e => hk _ o e) (p2.isList.at fun o e => hk _ o e) (by have := rv.length; simp; omega) fun h3 tk acc c as hk3 hS hl hG hacc => ?_
      dsimp only at hk3 hS hG ⊢
      have k3 : ∀ c o, s1.heap.get? c = some o → h3.get? c = some o := fun c o e => hk3 c o (fun hm => by
        have hlt := Heap.lt_size e
        simp at hm
        rcases hm with z | z | z | z <;> rw [z] at hlt <;> first | exact absurd hlt (Nat.not_lt.mpr (Nat.le_add_right _ _)) | exact absurd hlt (Nat.lt_irrefl _)) (hk c o e)
      have I3 : L2.Inv X pins σ H1 { s1 with heap := h3, toks := tk } := I1.kept (t' := tk) k3
      have fp : ∀ b, s1.heap.objs.size ≤ b → FpOk X pins H1 b := fun b hb => I1.fpOk hb (I1.hok.fresh hb)
      have hnd : as.Nodup := hG.rise.imp fun h => Nat.ne_of_lt h
      have habove : ∀ T ∈ as, s1.heap.objs.size ≤ T := fun T hT => Nat.le_trans (by rw [hsz]; exact Nat.le_add_right _ _) (Nat.le_of_lt (hG.above T hT))
      have hSs : s1.heap.objs.size ≤ h'.objs.size := by rw [hsz]; exact Nat.le_add_right _ _
      have lx := rv.length
      have ly := rv2.length
      have hl' : as.length = min xs.length ys.length := by rw [hl]; simp; omega
      have hkeys : (zipO as xs ys).map (·.1) = as := by
        unfold zipO
        rw [List.map_fst_zip]
        simp
        omega
      have hin : ∀ q ∈ zipO as xs ys, q.1 ∈ as := fun q hq => by
        rw [← hkeys]
        exact List.mem_map.mpr ⟨q, hq, rfl⟩
      have I4 : L2.Inv X pins σ (updL H1 (zipO as xs ys)) { s1 with heap := h3, toks := tk } := by
        refine inv_knowL I3 (by rw [hkeys]; exact hnd) (fun q hq => fp _ (habove _ (hin q hq))) fun q hq H' => ?_
        obtain ⟨j, hj⟩ := List.mem_iff_getElem?.mp hq
        unfold zipO at hj
        obtain ⟨qa, qo⟩ := q
        obtain ⟨j1, j2⟩ := List.getElem?_zip_eq_some.mp hj
        rw [List.getElem?_map] at j2
        cases hp : (xs.zip ys)[j]? with
        | none => rw [hp] at j2; cases j2
        | some pr =>
          rw [hp] at j2
          cases j2
          obtain ⟨j3, j4⟩ := List.getElem?_zip_eq_some.mp hp
          obtain ⟨x, y, e1, e2, e3⟩ := hG.pairs j qa j1
          obtain ⟨u, z1, z2⟩ := rv.get j3
          obtain ⟨u2, z3, z4⟩ := rv2.get j4
          have : x = u := by simp at e1; rw [z1] at e1; cases e1; rfl
          subst this
          have : y = u2 := by simp at e2; rw [z3] at e2; cases e2; rfl
          subst this
          exact ⟨by show 2 ≤ sizeLine; decide, [x, y], .cons z2 (.cons z4 .nil), ⟨_, e3, rfl, _, rfl⟩⟩
      have nS : h'.objs.size ∉ as := fun hm => Nat.lt_irrefl _ (hG.above _ hm)
      have I5 : L2.Inv X pins σ (upd (updL H1 (zipO as xs ys)) h'.objs.size (.lst (as.map V.ref))) { s1 with heap := h3, toks := tk } := by
        refine inv_know I4 ⟨?_, (fp _ hSs).2⟩ ⟨?_, acc.toList, c, ?_, ?_⟩
        · rw [updL_ne fun q hq z => nS (by rw [← z]; exact hin q hq)]
          exact I1.hok.fresh hSs
        · rw [List.length_map, hl']; omega
        · rw [hacc]
          clear hl hG hacc hl' hkeys hin I4 hnd habove nS
          induction as with
          | nil => exact .nil
          | cons a as ih => exact .cons rfl ih
        · simpa using hS
      exact ⟨.ref h'.objs.size, _, I5, rfl, q as _ hl' hnd (fun T hT => I1.hok.fresh (habove T hT)) nS (I1.hok.fresh hSs)⟩
end
/-! the plain side -/
def zipD : List D → List D → List D
  | x :: xs, y :: ys => .tup [x, y] :: zipD xs ys
  | _, _ => []
def lzD (mu : Bool) (d e : D) (h : AH) : Rv D := match d, e with
  | .tup _, _ => .stuck
  | _, .tup _ => .stuck
  | d, e => match getL h d, getL h e with | some xs, some ys => mkL mu (zipD xs ys) h | _, _ => .stuck
def mLz (mu : Bool) (r : MA) : ME := fun σ h => bindR (r σ h) fun xs h1 => match xs with | [x, y] => lzD mu x y h1 | _ => .stuck

section
variable {X : Cx} {g : G} {W : WX} {r : MA} {e e2 : Expr} {p p2 pos pos2 : Pos}
theorem HR.pairs (t : TiOk g) {h : AH} {ι : List Addr} : ∀ {xs ys : List D} {vs ws : List V} {as : List Addr} {F : Kn} {H : Hp}, HR g F ι h H → VRs g F ι xs vs → VRs g F ι ys ws → as.length = min vs.length ws.length → as.Nodup → (∀ T ∈ as, H T = none) →
    ∃ F', Le F ι F' ι ∧ HR g F' ι h (updL H (zipO as vs ws)) ∧ VRs g F' ι (zipD xs ys) (as.map V.ref)
  | [], ys, vs, ws, as, F, H, hr, r1, r2, hl, nd, hn => by
    simp only [VRs] at r1
    subst r1
    have : as = [] := List.eq_nil_of_length_eq_zero (by simpa using hl)
    subst this
    exact ⟨F, .refl, hr, by simp [zipD, VRs]⟩
  | x :: xs, [], vs, ws, as, F, H, hr, r1, r2, hl, nd, hn => by
    simp only [VRs] at r2
    subst r2
    have : as = [] := List.eq_nil_of_length_eq_zero (by simpa using hl)
    subst this
    exact ⟨F, .refl, hr, by simp [zipD, VRs]⟩
  | x :: xs, y :: ys, vs, ws, as, F, H, hr, r1, r2, hl, nd, hn => by
    simp only [VRs] at r1 r2
    obtain ⟨v, vs, rfl, rx, rxs⟩ := r1
    obtain ⟨w, ws, rfl, ry, rys⟩ := r2
    cases as with
    | nil => simp at hl
    | cons a as =>
      obtain ⟨n1, n2⟩ := List.nodup_cons.mp nd
      obtain ⟨F2, l2, hr2, rp⟩ := new_pair t hr (hn a List.mem_cons_self) rx ry
      obtain ⟨F3, l3, hr3, r3⟩ := HR.pairs t hr2 (VRs.mono l2 _ _ rxs) (VRs.mono l2 _ _ rys) (as := as) (by simp at hl ⊢; omega) n2 (fun T hT => by
        rw [upd_ne (fun z => n1 (by rw [← z]; exact hT))]
        exact hn T (List.mem_cons_of_mem _ hT))
      refine ⟨F3, l2.trans l3, hr3, ?_⟩
      simp only [zipD, VRs, List.map_cons]
      exact ⟨_, _, rfl, VR.mono l3 _ _ rp, r3⟩
theorem em_lzip (t : TiOk g) (mu : Bool) (hK : X.K = g.K) (hc : X.calm = true) (hg : Gl X "list") (hm : X.mg "list" = none) (hg2 : Gl X "zip") (hm2 : X.mg "zip" = none) (ha : PA X [e, e2] (tA g W r))
    (hs : starEach [e, e2] X.env = (false, eval e X.env) :: starEach [e2] X.env := by rfl) (hpl : (backTo pos (starEach [e2] X.env)).any (·.1) = false := by rfl) :
    PE X (.Call (.Name "list" p2) [.Call (.Name "zip" p) [e, e2] [] pos] [] pos2) (tE g W (mLz mu r)) := by
  refine PE_weak (pe_lzip hc hg hm hg2 hm2 ha hs hpl) ?_
  rintro σv H Q ⟨F, ι, σ, h, hr, lr, p⟩
  refine tM_bind (f := fun _ xs h1 => match xs with | [x, y] => lzD mu x y h1 | _ => .stuck) hr lr p fun F1 ι1 H1 xs h1 vs l hr1 lr1 r1 p1 => ?_
  split at p1
  · rename_i x y
    obtain ⟨v, u, rfl, rx, ry⟩ := two2 r1
    rw [hK]
    have big : lzD mu x y h1 = (match getL h1 x, getL h1 y with | some xs, some ys => mkL mu (zipD xs ys) h1 | _, _ => .stuck) →
        ∃ a b xs ys, [v, u] = [V.ref a, V.ref b] ∧ SqL g.K H1 a xs ∧ SqL g.K H1 b ys ∧
          ∀ (as : List Addr) (S : Addr), as.length = min xs.length ys.length → as.Nodup → (∀ T ∈ as, H1 T = none) → S ∉ as → H1 S = none → Q (.ref S) (upd (updL H1 (zipO as xs ys)) S (.lst (as.map V.ref))) := fun hz => by
      rw [hz] at p1
      split at p1
      · rename_i xs ys e1 e2
        obtain ⟨a, vs, rfl, q1, q2⟩ := getL_ok hr1 e1 rx
        obtain ⟨b, ws, rfl, q3, q4⟩ := getL_ok hr1 e2 ry
        refine ⟨a, b, vs, ws, rfl, q1, q3, fun as S hl nd hn nS hS => ?_⟩
        obtain ⟨F2, l2, hr2, r2⟩ := hr1.pairs t q2 q4 hl nd hn
        refine mkL_ok t hr2 r2 (p1.le l2) S ?_
        rw [updL_ne fun q hq z => nS (by
          rw [← z]
          have := List.of_mem_zip (l₁ := as) (a := q.1) (b := q.2) hq
          exact this.1)]
        exact hS
      · exact p1.elim
    cases x with
    | tup xs => cases y <;> exact p1.elim
    | _ => cases y with
      | tup ys => exact p1.elim
      | _ => exact big rfl
  · exact p1.elim
end
end DV
end
section
set_option Elab.async false
set_option linter.all false
set_option maxRecDepth 100000
set_option maxHeartbeats 2000000
namespace DV
open PySem L2 PyProof.Rows

/-! ### a def without parameters called, what stands on the heap forgotten -/
/-- (for a def that looks at nothing but its own: its mirror is then closed) -/
def mCallN (Fm : FM) : ME := fun _ h => match Fm [] [] with
  | .ok (.bl b) _ => .ok (.bl b) (List.replicate h.length none)
  | _ => .stuck
section
variable {X : Cx} {g : G} {W : WX} {pos p : Pos} {k : Nat} {f : Addr} {fd : FuncData} {Fm : FM} {x : Str}
theorem HR.forget {F : Kn} {ι ι' : List Addr} {h h' : AH} {H : Hp} (r : HR g F ι' h' H) (hl : ι.length = h.length) : HR g F ι (List.replicate h.length none) H := by
  have no : ∀ (n : Nat) (o : O), (List.replicate h.length (none : Option O))[n]? ≠ some (some o) := fun n o z => by
    have := List.mem_of_getElem? z
    simp at this
  refine ⟨r.fr, fun n o z => (no n o z).elim, fun n m a ⟨o, z⟩ => (no n o z).elim, by simp [hl], r.ti, fun q hq => ?_, r.pt⟩
  obtain ⟨p1, p2, _⟩ := r.pv q hq
  exact ⟨p1, p2, fun n o z => (no n o z).elim⟩
theorem HR.empty {F : Kn} {ι : List Addr} {h : AH} {H : Hp} (r : HR g F ι h H) : HR g F [] [] H := by
  refine ⟨r.fr, fun n o z => by simp at z, fun n m a ⟨o, z⟩ => by simp at z, rfl, r.ti, fun q hq => ?_, r.pt⟩
  obtain ⟨p1, p2, _⟩ := r.pv q hq
  exact ⟨p1, p2, fun n o z => by simp at z⟩
theorem em_callN (hK : X.K = g.K) (tk : Takes X W) (F : FnOk X.prog X.w X.K X.mg X.base (L2.CX X.prog X.w) k f fd [] (spF g 0 Fm)) (hr : Room k X.A) (hg : Gl X x) (hm : X.mg x = some (.ref f)) (hk : PySem.W.keepIn X.K (.ref f) = true)
    (hb : Binds X.K fd [] []) (hdb : (x == ("__debug__" : Str)) = false := by decide) :
    PE X (.Call (.Name x p) [] [] pos) (tE g W (mCallN Fm)) := by
  refine ⟨fun pins s σv H Q I hq => ?_⟩
  obtain ⟨F1, ι, σ, h, hr1, lr, pq⟩ := hq
  refine wpAny_Call_Name_kw (ld_glob I hg hm ?_ hdb)
  refine PySem.W.callWith_K0 I.kIn hk (run_fnSD (us := []) (vs := []) (ds := []) (E := WE W) F hr hb .nil (passAt tk σv) I .nil ?_)
  refine ⟨rfl, F1, [], [], [], hr1.empty, by simp [VRs], ?_⟩
  unfold mCallN at pq
  revert pq
  cases Fm [] [] with
  | exc c h' => exact fun pq => pq.elim
  | stuck => exact fun pq => pq.elim
  | ok d h' =>
    cases d with
    | bl b =>
      intro pq F' ι' H' v l hr' rv
      refine pq F' ι H' v ⟨⟨l.fr, [], by simp⟩, l.pr⟩ (hr'.forget hr1.len) ?_
      simpa only [VR] using rv
    | _ => exact fun pq => pq.elim
end
end DV
end
section
set_option Elab.async false
set_option linter.all false
namespace DV
open PySem

/-! ### the plain side: loops over what stands still, as folds -/
def ItIs (it : IT) (ds : List D) : Prop := ∀ (i : Nat) (h : AH), it i h = match ds[i]? with | some d => .go d | none => .stop
theorem itIs_seq (ds : List D) : ItIs (itSeq ds) ds := fun _ _ => rfl
theorem itIs_tup (ds : List D) : ItIs (itTup (.tup ds)) ds := fun _ _ => rfl
theorem itIs_lst (ds : List D) : ItIs (itOf (.lst ds)) ds := fun _ _ => rfl
def rgD (lo c : Int) (n : Nat) : List D := (List.range n).map fun (i : Nat) => D.int (lo + (i : Int) * c)
theorem itIs_rg (lo c : Int) (n : Nat) : ItIs (itRg lo c n) (rgD lo c n) := fun i h => by
  unfold itRg rgD
  rw [List.getElem?_map]
  by_cases hi : i < n
  · rw [if_pos hi, List.getElem?_range hi]; rfl
  · rw [if_neg hi, List.getElem?_eq_none (by simpa using hi)]; rfl
def enD : Nat → List D → List D
  | _, [] => []
  | i, d :: ds => .tup [.int i, d] :: enD (i + 1) ds
theorem enD_get : ∀ (ds : List D) (k i : Nat), (enD k ds)[i]? = (ds[i]?).map fun d => .tup [.int ((k + i : Nat) : Int), d]
  | [], k, i => by simp [enD]
  | d :: ds, k, 0 => by simp [enD]
  | d :: ds, k, i + 1 => by
    simp only [enD, List.getElem?_cons_succ]
    rw [enD_get ds (k + 1) i]
    congr 1
    funext d
    congr 4
    omega
theorem itIs_en {d : D} {ds : List D} (e : ∀ h, getS h d = some ds) : ItIs (itEn d) (enD 0 ds) := fun i h => by
  unfold itEn
  rw [e h, enD_get]
  dsimp only
  cases ds[i]? with
  | none => rfl
  | some x => simp
theorem zipD_get : ∀ (xs ys : List D) (i : Nat), (zipD xs ys)[i]? = match xs[i]?, ys[i]? with | some x, some y => some (.tup [x, y]) | _, _ => none
  | [], ys, i => by simp [zipD]
  | x :: xs, [], i => by
    simp only [zipD, List.getElem?_nil]
    cases (x :: xs)[i]? <;> rfl
  | x :: xs, y :: ys, 0 => by simp [zipD]
  | x :: xs, y :: ys, i + 1 => by
    simp only [zipD, List.getElem?_cons_succ]
    exact zipD_get xs ys i
theorem itIs_zp {d e : D} {xs ys : List D} (h1 : ∀ h, getS h d = some xs) (h2 : ∀ h, getS h e = some ys) : ItIs (itZp d e) (zipD xs ys) := fun i h => by
  unfold itZp
  rw [h1 h, h2 h, zipD_get]
  dsimp only
  cases xs[i]? <;> cases ys[i]? <;> rfl
def forL (mg : MG) (s : MS) : List D → AS → AH → Rs
  | [], σ, h => .ok (.nx σ) h
  | d :: ds, σ, h => match mg d σ h with
    | .ok σ1 h1 => loopS (s σ1 h1) (forL mg s ds)
    | _ => .stuck
theorem forN_eq {it : IT} {ds : List D} (hi : ItIs it ds) {mg : MG} {s : MS} : ∀ (n i : Nat) (σ : AS) (h : AH), ds.length - i < n → forN it mg s n i σ h = forL mg s (ds.drop i) σ h
  | 0, i, σ, h, hl => by omega
  | n + 1, i, σ, h, hl => by
    unfold forN
    rw [hi i h]
    by_cases hlt : i < ds.length
    · rw [List.getElem?_eq_getElem hlt, List.drop_eq_getElem_cons hlt]
      dsimp only
      unfold forL
      cases mg ds[i] σ h with
      | ok σ1 h1 =>
        dsimp only
        congr 1
        funext σ2 h2
        exact forN_eq hi n (i + 1) σ2 h2 (by omega)
      | _ => rfl
    · rw [List.getElem?_eq_none (by omega), List.drop_eq_nil_of_le (by omega)]
      rfl
def compL (mg : MG) (mt : MT) (me : ME) : List D → AS → List D → AH → Rv (List D)
  | [], _, acc, h => .ok acc h
  | d :: ds, σ, acc, h => match mg d σ h with
    | .ok σ1 h1 => bindR (noX (mt σ1 h1)) fun k h2 => if k = true then bindR (noX (me σ1 h2)) fun y h3 => if acc.length < sizeLine then compL mg mt me ds σ (acc ++ [y]) h3 else .stuck
        else compL mg mt me ds σ acc h2
    | _ => .stuck
theorem compN_eq {it : IT} {ds : List D} (hi : ItIs it ds) {mg : MG} {mt : MT} {me : ME} : ∀ (n i : Nat) (σ : AS) (acc : List D) (h : AH), ds.length - i < n → compN it mg mt me n i σ acc h = compL mg mt me (ds.drop i) σ acc h
  | 0, i, σ, acc, h, hl => by omega
  | n + 1, i, σ, acc, h, hl => by
    unfold compN
    rw [hi i h]
    by_cases hlt : i < ds.length
    · rw [List.getElem?_eq_getElem hlt, List.drop_eq_getElem_cons hlt]
      dsimp only
      unfold compL
      cases mg ds[i] σ h with
      | ok σ1 h1 =>
        dsimp only
        congr 1
        funext k h2
        split
        · congr 1
          funext y h3
          split
          · exact compN_eq hi n (i + 1) σ _ h3 (by omega)
          · rfl
        · exact compN_eq hi n (i + 1) σ _ h2 (by omega)
      | _ => rfl
    · rw [List.getElem?_eq_none (by omega), List.drop_eq_nil_of_le (by omega)]
      rfl
def gxL {S : Type} (mg : MG) (mt : MT) (me : ME) (tk : S → D → Option (S × Bool)) : List D → AS → S → AH → Rv S
  | [], _, st, h => .ok st h
  | d :: ds, σ, st, h => match mg d σ h with
    | .ok σ1 h1 => bindR (noX (mt σ1 h1)) fun k h2 => if k = true then bindR (noX (me σ1 h2)) fun y h3 => match tk st y with
        | none => .stuck
        | some (st', true) => gxL mg mt me tk ds σ st' h3
        | some (st', false) => .ok st' h3
        else gxL mg mt me tk ds σ st h2
    | _ => .stuck
theorem gxN_eq {S : Type} {it : IT} {ds : List D} (hi : ItIs it ds) {mg : MG} {mt : MT} {me : ME} {tk : S → D → Option (S × Bool)} : ∀ (n i : Nat) (σ : AS) (st : S) (h : AH), ds.length - i < n → gxN it mg mt me tk n i σ st h = gxL mg mt me tk (ds.drop i) σ st h
  | 0, i, σ, st, h, hl => by omega
  | n + 1, i, σ, st, h, hl => by
    unfold gxN
    rw [hi i h]
    by_cases hlt : i < ds.length
    · rw [List.getElem?_eq_getElem hlt, List.drop_eq_getElem_cons hlt]
      dsimp only
      unfold gxL
      cases mg ds[i] σ h with
      | ok σ1 h1 =>
        dsimp only
        congr 1
        funext k h2
        split
        · congr 1
          funext y h3
          cases tk st y with
          | none => rfl
          | some p =>
            obtain ⟨st', b⟩ := p
            cases b with
            | true => exact gxN_eq hi n (i + 1) σ _ h3 (by omega)
            | false => rfl
        · exact gxN_eq hi n (i + 1) σ _ h2 (by omega)
      | _ => rfl
    · rw [List.getElem?_eq_none (by omega), List.drop_eq_nil_of_le (by omega)]
      rfl
end DV
end
section
set_option Elab.async false
set_option linter.all false
set_option maxRecDepth 100000
namespace DV
open PySem L2
theorem getS_ref {h : AH} {n : Nat} {ds : List D} (e : h[n]? = some (some (.lst ds))) : getS h (.ref n) = some ds := by
  simp only [getS, getL, e]
theorem dEq_int (a b : Int) (h : AH) : dEq (.int a) (.int b) h = .ok (.bl (decide (a = b))) h := by
  by_cases q : a = b <;> simp [dEq, dEqB, toP, PyData.eqv, q]
theorem dNe_int (a b : Int) (h : AH) : dNe (.int a) (.int b) h = .ok (.bl (!decide (a = b))) h := by
  by_cases q : a = b <;> simp [dNe, dEqB, toP, PyData.eqv, q]
theorem dGt_int (a b : Int) (h : AH) : dGt (.int a) (.int b) h = .ok (.bl (decide (b < a))) h := by simp [dGt, dInt, okIf]
theorem dLt_int (a b : Int) (h : AH) : dLt (.int a) (.int b) h = .ok (.bl (decide (a < b))) h := by simp [dLt, dInt, okIf]
theorem dLe_int (a b : Int) (h : AH) : dLe (.int a) (.int b) h = .ok (.bl (decide (a ≤ b))) h := by simp [dLe, dInt, okIf]
theorem dGe_int (a b : Int) (h : AH) : dGe (.int a) (.int b) h = .ok (.bl (decide (b ≤ a))) h := by simp [dGe, dInt, okIf]
theorem dMinus_int (a b : Int) (h : AH) : dMinus (.int a) (.int b) h = .ok (.int (a - b)) h := by simp [dMinus, dInt, okIf]
theorem dPlus_int (mu : Bool) (a b : Int) (h : AH) : dPlus mu (.int a) (.int b) h = .ok (.int (a + b)) h := by simp [dPlus]
theorem dMod_int {a b : Int} (q : 0 < b) (h : AH) : dMod (.int a) (.int b) h = .ok (.int (a % b)) h := by simp [dMod, dInt, q, okIf]
theorem dDiv_int {a b : Int} (q : 0 < b) (q2 : b < 1073741824) (h : AH) : dDiv (.int a) (.int b) h = .ok (.int (a / b)) h := by simp [dDiv, dInt, CDiv, q, q2, okIf]
theorem dMul_int {mu : Bool} {a b : Int} (q : CMul a b) (h : AH) : dMul mu (.int a) (.int b) h = .ok (.int (a * b)) h := by simp [dMul, q, okIf]
theorem mLc_eq {mu : Bool} {mi : MI} {vs : List Nat} {mg : MG} {mt : MT} {me : ME} {σ : AS} {h h1 : AH} {it : IT} {ds : List D} (hi : mi σ h = .ok it h1) (is : ItIs it ds) (hl : ds.length < bigN) : mLc mu mi vs mg mt me σ h = bindR (compL mg mt me ds (wipeA σ vs) [] h1) (mkL mu) := by
  unfold mLc
  rw [hi]
  show bindR (compN it mg mt me bigN 0 (wipeA σ vs) [] h1) (mkL mu) = _
  rw [compN_eq is bigN 0 _ _ _ (by omega), List.drop_zero]
theorem sFor_eq {mi : MI} {mg : MG} {s : MS} {σ : AS} {h h1 : AH} {it : IT} {ds : List D} (hi : mi σ h = .ok it h1) (is : ItIs it ds) (hl : ds.length < bigN) : sFor mi mg s σ h = forL mg s ds σ h1 := by
  unfold sFor
  rw [hi]
  show forN it mg s bigN 0 σ h1 = _
  rw [forN_eq is bigN 0 _ _ (by omega), List.drop_zero]
theorem mGx_eq {S : Type} {mi : MI} {vs : List Nat} {mg : MG} {mt : MT} {me : ME} {tk : S → D → Option (S × Bool)} {st : S} {fk : S → AH → Rv D} {σ : AS} {h h1 : AH} {it : IT} {ds : List D} (hi : mi σ h = .ok it h1) (is : ItIs it ds) (hl : ds.length < sizeLine) :
    mGx mi vs mg mt me tk st fk σ h = bindR (gxL mg mt me tk ds (wipeA σ vs) st h1) fk := by
  unfold mGx
  rw [hi]
  show bindR (gxN it mg mt me tk sizeLine 0 (wipeA σ vs) st h1) fk = _
  rw [gxN_eq is sizeLine 0 _ _ _ (by omega), List.drop_zero]
end DV
end
section
set_option Elab.async false
set_option linter.all false
set_option maxRecDepth 100000
namespace DV
open PySem L2
/-! ### the plain side: one step of each form, for simp -/
theorem bindR_cg {α β : Type} {r r' : Rv α} {f : α → AH → Rv β} (e : r = r') : bindR r f = bindR r' f := by rw [e]
theorem ofE_cg {α : Type} {σ : AS} {r r' : Rv α} {f : α → AH → Rs} (e : r = r') : ofE σ r f = ofE σ r' f := by rw [e]
theorem seqS_cg {r r' : Rs} {f : AS → AH → Rs} (e : r = r') : seqS r f = seqS r' f := by rw [e]
theorem loopS_cg {r r' : Rs} {f : AS → AH → Rs} (e : r = r') : loopS r f = loopS r' f := by rw [e]
@[simp] theorem bindR_okS {α β : Type} {a : α} {h : AH} {f : α → AH → Rv β} : bindR (.ok a h) f = f a h := rfl
@[simp] theorem bindR_excS {α β : Type} {c : Nat} {h : AH} {f : α → AH → Rv β} : bindR (.exc c h) f = .exc c h := rfl
@[simp] theorem ofE_ok {α : Type} {σ : AS} {a : α} {h : AH} {f : α → AH → Rs} : ofE σ (.ok a h) f = f a h := rfl
@[simp] theorem ofE_exc {α : Type} {σ : AS} {c : Nat} {h : AH} {f : α → AH → Rs} : ofE σ (.exc c h) f = .exc c σ h := rfl
@[simp] theorem seqS_nx {σ : AS} {h : AH} {f : AS → AH → Rs} : seqS (.ok (.nx σ) h) f = f σ h := rfl
@[simp] theorem seqS_rt {d : D} {h : AH} {f : AS → AH → Rs} : seqS (.ok (.rt d) h) f = .ok (.rt d) h := rfl
@[simp] theorem seqS_exc {σ : AS} {h : AH} {c : Nat} {f : AS → AH → Rs} : seqS (.exc c σ h) f = .exc c σ h := rfl
@[simp] theorem loopS_nx {σ : AS} {h : AH} {f : AS → AH → Rs} : loopS (.ok (.nx σ) h) f = f σ h := rfl
@[simp] theorem loopS_ct {σ : AS} {h : AH} {f : AS → AH → Rs} : loopS (.ok (.ct σ) h) f = f σ h := rfl
@[simp] theorem loopS_bk {σ : AS} {h : AH} {f : AS → AH → Rs} : loopS (.ok (.bk σ) h) f = .ok (.nx σ) h := rfl
@[simp] theorem loopS_rt {d : D} {h : AH} {f : AS → AH → Rs} : loopS (.ok (.rt d) h) f = .ok (.rt d) h := rfl
@[simp] theorem loopS_exc {σ : AS} {h : AH} {c : Nat} {f : AS → AH → Rs} : loopS (.exc c σ h) f = .exc c σ h := rfl
variable {σ : AS} {h : AH} {ma mb mc m mo mi me : ME} {t t1 t2 : MT} {s s1 s2 : MS} {r : MA} {Fm : FM} {f f' : D → D → AH → Rv D} {mu : Bool}
@[simp] theorem sSeq_d : sSeq s1 s2 σ h = seqS (s1 σ h) s2 := rfl
@[simp] theorem sIf_d : sIf t s1 s2 σ h = ofE σ (t σ h) fun k h1 => if k = true then s1 σ h1 else s2 σ h1 := rfl
@[simp] theorem sAsg_d {mg : MG} : sAsg m mg σ h = ofE σ (m σ h) fun d h1 => ofG (mg d σ h1) := rfl
@[simp] theorem sRet_d : sRet m σ h = ofE σ (m σ h) fun d h1 => .ok (.rt d) h1 := rfl
@[simp] theorem sNext_d : sNext σ h = .ok (.nx σ) h := rfl
@[simp] theorem sRaise_d {c : Nat} : sRaise c σ h = .exc c σ h := rfl
@[simp] theorem sPar_d {is : List Nat} : sPar is r σ h = ofE σ (r σ h) (parS is σ) := rfl
@[simp] theorem sExpr_d : sExpr m σ h = ofE σ (m σ h) fun _ h1 => .ok (.nx σ) h1 := rfl
@[simp] theorem sAug_d {i : Nat} : sAug f i m σ h = match σ[i]? with | some (some x) => ofE σ (m σ h) (augS f i x σ) | _ => .stuck := rfl
@[simp] theorem augS_d {i : Nat} {x y : D} : augS f i x σ y h = ofE σ (f x y h) fun z h2 => .ok (.nx (σ.set i (some z))) h2 := rfl
@[simp] theorem sFldP_d {cs : List Nat} {fn : Str} : sFldP cs fn mo m σ h = ofE σ (m σ h) (fldS cs fn mo σ) := rfl
@[simp] theorem fldS_d {cs : List Nat} {fn : Str} {d : D} : fldS cs fn mo σ d h = ofE σ (mo σ h) fun x h2 => match putI cs fn x d h2 with | some h3 => .ok (.nx σ) h3 | none => .stuck := rfl
@[simp] theorem ofG_ok {σ1 : AS} : ofG (.ok σ1 h) = .ok (.nx σ1) h := rfl
@[simp] theorem gmName_d {i : Nat} {d : D} : gmName i d σ h = .ok (σ.set i (some d)) h := rfl
@[simp] theorem gmTup_d {n : Nat} {rg : MGs} {ds : List D} : gmTup n rg (.tup ds) σ h = if ds.length = n then rg ds σ h else .stuck := rfl
@[simp] theorem gmNil_d : gmNil [] σ h = .ok σ h := rfl
@[simp] theorem gmCons_d {mg : MG} {rg : MGs} {d : D} {ds : List D} : gmCons mg rg (d :: ds) σ h = match mg d σ h with | .ok σ1 h1 => rg ds σ1 h1 | _ => .stuck := rfl
@[simp] theorem mVar_d {i : Nat} : mVar i σ h = match σ[i]? with | some (some d) => .ok d h | _ => .stuck := rfl
@[simp] theorem mC_d {d : D} : mC d σ h = .ok d h := rfl
@[simp] theorem mOp_d : mOp f ma mb σ h = bindR (ma σ h) fun x h1 => bindR (mb σ h1) fun y h2 => f x y h2 := rfl
@[simp] theorem mTB_d : mTB m σ h = bindR (m σ h) asB := rfl
@[simp] theorem asB_d {b : Bool} : asB (.bl b) h = .ok b h := rfl
@[simp] theorem mTru_d : mTru m σ h = bindR (m σ h) truD := rfl
@[simp] theorem truD_b {b : Bool} : truD (.bl b) h = .ok b h := rfl
@[simp] theorem mAnd_d : mAnd t1 t2 σ h = bindR (t1 σ h) fun k h1 => if k = true then t2 σ h1 else .ok false h1 := rfl
@[simp] theorem mOr_d : mOr t1 t2 σ h = bindR (t1 σ h) fun k h1 => if k = true then .ok true h1 else t2 σ h1 := rfl
@[simp] theorem mNot_d : mNot t σ h = bindR (t σ h) fun k h1 => .ok (!k) h1 := rfl
@[simp] theorem mNotV_d : mNotV m σ h = bindR (m σ h) fun x h1 => bindR (truD x h1) fun k h2 => .ok (.bl (!k)) h2 := rfl
@[simp] theorem mIf_d : mIf t ma mb σ h = bindR (t σ h) fun k h1 => if k = true then ma σ h1 else mb σ h1 := rfl
@[simp] theorem mNeg_d : mNeg m σ h = bindR (m σ h) fun x h1 => match x with | .int i => .ok (.int (-i)) h1 | _ => .stuck := rfl
@[simp] theorem mNil_d : mNil σ h = .ok [] h := rfl
@[simp] theorem mCons_d : mCons m r σ h = bindR (m σ h) fun x h1 => bindR (r σ h1) fun xs h2 => .ok (x :: xs) h2 := rfl
@[simp] theorem mTup_d : mTup r σ h = bindR (r σ h) fun xs h1 => okIf (xs.length ≤ sizeLine) (.ok (.tup xs) h1) := rfl
@[simp] theorem mLst_d : mLst mu r σ h = bindR (r σ h) fun xs h1 => okIf (xs.length ≤ sizeLine) (mkL mu xs h1) := rfl
@[simp] theorem mFld_d {cs : List Nat} {fn : Str} : mFld cs fn m σ h = bindR (m σ h) (fldD cs fn) := rfl
@[simp] theorem mCall_d : mCall Fm r σ h = bindR (r σ h) Fm := rfl
@[simp] theorem mCB_d {fb : List D → AH → Rv D} : mCB fb r σ h = bindR (r σ h) fb := rfl
@[simp] theorem mMeth_d {c : Nat} {mn : Str} : mMeth c mn Fm mo r σ h = bindR (mo σ h) fun x h1 => if rcvD c mn x h1 = true then bindR (r σ h1) fun xs h2 => Fm (x :: xs) h2 else .stuck := rfl
@[simp] theorem mMake_d {c : Nat} : mMake c Fm r σ h = bindR (r σ h) (initD c Fm) := rfl
@[simp] theorem mFrz_d : mFrz m σ h = bindR (m σ h) frzD := rfl
@[simp] theorem mChain_d : mChain f f' ma mb mc σ h = bindR (ma σ h) fun x h1 => bindR (mb σ h1) fun y h2 => bindR (f x y h2) fun z h3 => bindR (asB z h3) fun k h4 => if k = true then bindR (mc σ h4) fun w h5 => f' y w h5 else .ok (.bl false) h4 := rfl
@[simp] theorem mYes_d : mYes σ h = .ok true h := rfl
@[simp] theorem mPN_d : mPN σ h = .ok none h := rfl
@[simp] theorem mPS_d : mPS m σ h = bindR (m σ h) fun x h1 => match x with | .int i => .ok (some i) h1 | _ => .stuck := rfl
@[simp] theorem mSl_d {ml mh : MO} : mSl mu m ml mh σ h = bindR (m σ h) fun x h1 => bindR (ml σ h1) fun lo h2 => bindR (mh σ h2) fun hi h3 => slD mu x lo hi h3 := rfl
@[simp] theorem miLT_d : miLT m σ h = bindR (m σ h) itLT := rfl
@[simp] theorem miEnum_d : miEnum r σ h = bindR (r σ h) fun xs h1 => match xs with | [x] => enIt x h1 | _ => .stuck := rfl
@[simp] theorem miZip_d : miZip r σ h = bindR (r σ h) fun xs h1 => match xs with | [x, y] => zpIt x y h1 | _ => .stuck := rfl
@[simp] theorem miCall_d {fb : List D → AH → Rv IT} : miCall fb r σ h = bindR (r σ h) fb := rfl
@[simp] theorem noX_ok {α : Type} {a : α} : noX (.ok a h) = .ok a h := rfl
@[simp] theorem okIf_d {p : Prop} [Decidable p] {v : Rv D} : okIf p v = if p then v else .stuck := rfl
@[simp] theorem forL_nil {mg : MG} : forL mg s [] σ h = .ok (.nx σ) h := rfl
@[simp] theorem mkL_f {ds : List D} : mkL false ds h = .ok (.lst ds) h := rfl
@[simp] theorem mkL_t {ds : List D} : mkL true ds h = .ok (.ref h.length) (h ++ [some (.lst ds)]) := rfl

theorem runF_rt {n : Nat} {ms : MS} {ds : List D} {d : D} {h' : AH} (e : ms (startA n ds) h = .ok (.rt d) h') : runF n ms ds h = .ok d h' := by unfold runF; rw [e]
theorem seq_nx {σ1 : AS} {h1 : AH} (e : s1 σ h = .ok (.nx σ1) h1) : sSeq s1 s2 σ h = s2 σ1 h1 := by rw [sSeq_d, e]; rfl
theorem seq_rt {d : D} {h1 : AH} (e : s1 σ h = .ok (.rt d) h1) : sSeq s1 s2 σ h = .ok (.rt d) h1 := by rw [sSeq_d, e]; rfl
theorem asg_nx {i : Nat} {d : D} {h1 : AH} (e : m σ h = .ok d h1) : sAsg m (gmName i) σ h = .ok (.nx (σ.set i (some d))) h1 := by rw [sAsg_d, e]; rfl
theorem ret_rt {d : D} {h1 : AH} (e : m σ h = .ok d h1) : sRet m σ h = .ok (.rt d) h1 := by rw [sRet_d, e]; rfl
theorem if_no {h1 : AH} (e : t σ h = .ok false h1) : sIf t s1 sNext σ h = .ok (.nx σ) h1 := by rw [sIf_d, e]; rfl
end DV
end
section
set_option Elab.async false
set_option linter.all false
set_option maxRecDepth 100000
namespace DV
open PySem L2
/-! == and in over lists of ints and of pairs -/
theorem eqvAll_refl : ∀ {xs : List PyData}, (∀ x ∈ xs, PyData.eqv x x = true) → PyData.eqvAll xs xs = true
  | [], _ => by simp only [PyData.eqvAll]
  | x :: xs, h => by
    simp only [PyData.eqvAll, h x (by simp), Bool.true_and]
    exact eqvAll_refl fun y hy => h y (by simp [hy])
theorem allS_map {α β : Type} {f : α → Option β} {g : α → β} (e : ∀ x, f x = some (g x)) : ∀ xs : List α, allS (xs.map f) = some (xs.map g)
  | [] => rfl
  | x :: xs => by simp only [List.map_cons, e, allS, allS_map e xs, Option.map]
theorem toP_ints (n : Nat) (h : AH) (xs : List Int) : toP (n + 2) h (.lst (xs.map D.int)) = some (.list (xs.map PyData.int)) := by
  have : allS ((xs.map D.int).map (toP (n + 1) h)) = some (xs.map PyData.int) := by
    rw [List.map_map]
    exact allS_map (fun x => rfl) xs
  simp only [toP, getL] at this ⊢
  rw [this]
  rfl
theorem toP_prs (n : Nat) (h : AH) (xs : List (Int × Int)) : toP (n + 3) h (.lst (xs.map pD)) = some (.list (xs.map fun p => PyData.tuple [.int p.1, .int p.2])) := by
  have : allS ((xs.map pD).map (toP (n + 2) h)) = some (xs.map fun p => PyData.tuple [.int p.1, .int p.2]) := by
    rw [List.map_map]
    exact allS_map (fun x => rfl) xs
  simp only [toP, getL] at this ⊢
  rw [this]
  rfl
theorem dNe_ints (xs : List Int) (h : AH) : dNe (.lst (xs.map D.int)) (.lst (xs.map D.int)) h = .ok (.bl false) h := by
  unfold dNe dEqB
  rw [show (20 : Nat) = 18 + 2 from rfl, toP_ints]
  have : PyData.eqvAll (xs.map PyData.int) (xs.map PyData.int) = true := eqvAll_refl fun x hx => by
    obtain ⟨i, _, rfl⟩ := List.mem_map.mp hx
    simp [PyData.eqv]
  simp [PyData.eqv, this]
theorem dNe_prs (xs : List (Int × Int)) (h : AH) : dNe (.lst (xs.map pD)) (.lst (xs.map pD)) h = .ok (.bl false) h := by
  unfold dNe dEqB
  rw [show (20 : Nat) = 17 + 3 from rfl, toP_prs]
  have : PyData.eqvAll (xs.map fun p => PyData.tuple [.int p.1, .int p.2]) (xs.map fun p => PyData.tuple [.int p.1, .int p.2]) = true := eqvAll_refl fun x hx => by
    obtain ⟨i, _, rfl⟩ := List.mem_map.mp hx
    simp [PyData.eqv, PyData.eqvAll]
  simp [PyData.eqv, this]
theorem dNe_ints_nil (xs : List Int) (h : AH) : dNe (.lst (xs.map D.int)) (.lst []) h = .ok (.bl (!xs.isEmpty)) h := by
  unfold dNe dEqB
  rw [show (20 : Nat) = 18 + 2 from rfl, toP_ints, show D.lst [] = .lst (([] : List Int).map D.int) from rfl, toP_ints]
  cases xs with
  | nil => simp [PyData.eqv, PyData.eqvAll]
  | cons x xs => simp [PyData.eqv, PyData.eqvAll]
theorem dIn_ints (k : Int) (xs : List Int) (h : AH) : dIn (.int k) (.lst (xs.map D.int)) h = .ok (.bl (decide (k ∈ xs))) h := by
  unfold dIn dInB
  rw [show (20 : Nat) = 18 + 2 from rfl, toP_ints]
  have e : toP (18 + 2) h (.int k) = some (.int k) := rfl
  rw [e]
  simp only [List.any_map]
  have : (xs.any ((fun z => PyData.eqv z (.int k)) ∘ PyData.int)) = decide (k ∈ xs) := by
    rw [Bool.eq_iff_iff]
    simp [PyData.eqv]
  rw [this]
theorem dNe_tup_int4 (a b c d : Int) (h : AH) : dNe (.tup [.int a, .int b, .int c, .int d]) (.tup [.int a, .int b, .int c, .int d]) h = .ok (.bl false) h := by
  simp [dNe, dEqB, toP, allS, PyData.eqv, PyData.eqvAll]
end DV
end
section
set_option Elab.async false
set_option linter.all false
set_option maxRecDepth 100000
namespace DV
open PySem L2
/-! a comprehension's walk over plain items that leaves the heap as it is -/
theorem compL_filter {α : Type} {enc out : α → D} {P : α → Bool} {mg : MG} {mt : MT} {me : ME} {σ : AS} {h : AH} : ∀ (ds : List α), (∀ x ∈ ds, ∃ σ', mg (enc x) σ h = .ok σ' h ∧ mt σ' h = .ok (P x) h ∧ (P x = true → me σ' h = .ok (out x) h)) →
    ∀ acc : List D, acc.length + ds.length ≤ 1000 → compL mg mt me (ds.map enc) σ acc h = .ok (acc ++ (ds.filter P).map out) h
  | [], _, acc, _ => by simp [compL]
  | x :: ds, hs, acc, hl => by
    obtain ⟨σ', e1, e2, e3⟩ := hs x (by simp)
    simp only [List.length_cons] at hl
    have s1 : acc.length < sizeLine := by rw [sizeLine_eq]; omega
    rw [List.map_cons, compL, e1]
    dsimp only
    rw [e2]
    by_cases q : P x = true
    · have ih := compL_filter ds (fun y hy => hs y (by simp [hy])) (acc ++ [out x]) (by simp; omega)
      rw [List.filter_cons, if_pos q, q]
      simp only [noX_ok, bindR_okS, if_true, e3 q, s1, ih, List.map_cons, List.append_assoc, List.cons_append, List.nil_append]
    · have ih := compL_filter ds (fun y hy => hs y (by simp [hy])) acc (by omega)
      rw [List.filter_cons, if_neg q]
      have q' : P x = false := by simpa using q
      rw [q']
      simp only [noX_ok, bindR_okS, Bool.false_eq_true, if_false, ih]
theorem compL_map {α : Type} {enc out : α → D} {mg : MG} {mt : MT} {me : ME} {σ : AS} {h : AH} (ds : List α) (hs : ∀ x ∈ ds, ∃ σ', mg (enc x) σ h = .ok σ' h ∧ mt σ' h = .ok true h ∧ me σ' h = .ok (out x) h) (acc : List D) (hl : acc.length + ds.length ≤ 1000) :
    compL mg mt me (ds.map enc) σ acc h = .ok (acc ++ ds.map out) h := by
  have := compL_filter (P := fun _ => true) ds (fun x hx => by obtain ⟨σ', a, b, c⟩ := hs x hx; exact ⟨σ', a, b, fun _ => c⟩) acc hl
  rwa [List.filter_eq_self.mpr (fun _ _ => rfl)] at this
end DV
end
section
set_option Elab.async false
set_option linter.all false
set_option maxRecDepth 100000
set_option maxHeartbeats 0
namespace K11
open PySem PySem.Spec PyProof.Rows L2 DV LamX
def top (i : Nat) : Stmt := PySem.Challenge.pw_auctionstack_k11_fees_on_prices.main.body.getD i (.Pass ⟨0, 0, 0, 0⟩)
def meth (i j : Nat) : Stmt := match top i with
  | .ClassDef _ _ _ b _ _ _ _ _ _ _ => b.getD j (.Pass ⟨0, 0, 0, 0⟩)
  | _ => .Pass ⟨0, 0, 0, 0⟩
def dF (i : Nat) (x : Str) (dfl : List He.Dv := []) : He.DefD := ⟨(x, none), x, x, defArgs (top i), defBody (top i), defScope (top i), dfl, []⟩
def dM (i j : Nat) (C x q : Str) (dfl : List He.Dv := []) : He.DefD := ⟨(C, some x), x, q, defArgs (meth i j), defBody (meth i j), defScope (meth i j), dfl, []⟩
def M : Md where
  fa := [.glo "split_whole", .glo "shared_cost", .glo "resale_right", .glo "fee_gap", .glo "_law_dice", .glo "_law_roll", .glo "_law_rounds", .glo "_law_told", .glo "_law_sum", .glo "_law_bands", .glo "_law_half", .glo "_law_plain", .glo "law", .glo "Fees", .cls "Fees", .mkr "Fees", .meth "Fees" "__init__", .meth "Fees" "fee_of", .meth "Fees" "duty_of", .meth "Fees" "buyer_pays", .meth "Fees" "seller_gets", .meth "Fees" "price_for", .meth "Fees" "share_of", .meth "Fees" "band_parts", .glo "AuctionFault", .exc "AuctionFault", .keep "AuctionFault", .glo "FeeError", .exc "FeeError", .keep "FeeError", .exm "FeeError" "FeeError" true, .noat "Fees" "bands", .noat "Fees" "least", .noat "Fees" "duty", .int "MOST_BANDS" 10, .free "abs", .free "any", .free "enumerate", .free "int", .free "len", .free "list", .free "max", .free "min", .free "range", .free "sorted", .free "sum", .free "tuple", .free "zip"]
  fn := [dM 5 0 "Fees" "__init__" "Fees.__init__" [.int 0, .int 0], dM 5 1 "Fees" "fee_of" "Fees.fee_of", dM 5 2 "Fees" "duty_of" "Fees.duty_of", dM 5 3 "Fees" "buyer_pays" "Fees.buyer_pays", dM 5 4 "Fees" "seller_gets" "Fees.seller_gets", dM 5 5 "Fees" "price_for" "Fees.price_for", dM 5 6 "Fees" "share_of" "Fees.share_of", dM 5 7 "Fees" "band_parts" "Fees.band_parts", dF 6 "split_whole", dF 7 "shared_cost", dF 8 "resale_right", dF 9 "fee_gap", dF 11 "_law_dice", dF 12 "_law_roll", dF 13 "_law_rounds", dF 14 "_law_told", dF 15 "_law_sum", dF 16 "_law_bands", dF 17 "_law_half", dF 18 "_law_plain", dF 19 "law"]
  tl := [(("Fees", some "__init__"), ("Fees.__init__" : Str) ++ ".<locals>." ++ "<genexpr>"), (("shared_cost", none), ("shared_cost" : Str) ++ ".<locals>." ++ "<genexpr>"), (("resale_right", none), ("resale_right" : Str) ++ ".<locals>." ++ "<genexpr>"), (("_law_plain", none), ("_law_plain" : Str) ++ ".<locals>." ++ "<lambda>")]
  cs := ["Fees"]
  xs := ["AuctionFault", "FeeError"]
def m_fees_init : MS := sSeq (sIf (mOr (mNot (mTB (mChain dLe dLe (mC (.int 1)) (mCB bLen (mCons (mVar 1) (mNil))) (mC (.int 10))))) (mTB (mOp dNe (mOp ixD (mOp ixD (mVar 1) (mC (.int 0))) (mC (.int 0))) (mC (.int 0))))) (sRaise 1) (sNext)) (sSeq (sIf (mTru (mGx (miZip (mCons (mVar 1) (mCons (mSl false (mVar 1) (mPS (mC (.int 1))) (mPN)) (mNil)))) [4, 5] (gmTup 2 (gmCons (gmName 4) (gmCons (gmName 5) (gmNil)))) (mYes) (mOp dLe (mOp ixD (mVar 5) (mC (.int 0))) (mOp ixD (mVar 4) (mC (.int 0)))) tkAny false fkB)) (sRaise 1) (sNext)) (sSeq (sIf (mOr (mTru (mGx (miLT (mVar 1)) [6, 7] (gmTup 2 (gmCons (gmName 6) (gmCons (gmName 7) (gmNil)))) (mYes) (mNotV (mChain dLe dLe (mC (.int 0)) (mVar 7) (mC (.int 1000)))) tkAny false fkB)) (mOr (mTB (mOp dLt (mVar 2) (mC (.int 0)))) (mNot (mTB (mChain dLe dLe (mC (.int 0)) (mVar 3) (mC (.int 1000))))))) (sRaise 1) (sNext)) (sSeq (sFldP [0] "bands" (mVar 0) (mGx (miLT (mVar 1)) [8] (gmName 8) (mYes) (mCB bTuple (mCons (mVar 8) (mNil))) tkCol [] fkT)) (sSeq (sFldP [0] "least" (mVar 0) (mVar 2)) (sFldP [0] "duty" (mVar 0) (mVar 3))))))
def f_fees_init : FM := runF ([Str.ofString "self", Str.ofString "bands", Str.ofString "least", Str.ofString "duty", Str.ofString "one", Str.ofString "two", Str.ofString "first", Str.ofString "share", Str.ofString "band"] : List Str).length m_fees_init
theorem ok_fees_init {P : Program} {w : World} {K : PySem.W.Frag} {mg : Str → Option Value} {base h : Heap} (E : EV M w K mg base h) : Ok M P w K mg base 7 (dM 5 0 "Fees" "__init__" "Fees.__init__" [.int 0, .int 0]) ["self", "bands", "least", "duty"] f_fees_init := by
  have t := M.ti K
  have q0 : ∀ c ∈ [0], AttrOk (M.g K).K ((M.g K).cls c) "duty" := by
    intro c hc
    simp only [List.mem_cons, List.not_mem_nil, or_false] at hc
    rcases hc with rfl
    · exact ⟨E.cls 14, E.noat 33⟩
  have q1 : ∀ c ∈ [0], AttrOk (M.g K).K ((M.g K).cls c) "least" := by
    intro c hc
    simp only [List.mem_cons, List.not_mem_nil, or_false] at hc
    rcases hc with rfl
    · exact ⟨E.cls 14, E.noat 32⟩
  have q2 : mg "tuple" = none := E.free 46
  obtain ⟨TB, hmT, huT⟩ := E.tab 0 (q := (("Fees", some "__init__"), ("Fees.__init__" : Str) ++ ".<locals>." ++ "<genexpr>")) rfl
  have q4 : ∀ c ∈ [0], AttrOk (M.g K).K ((M.g K).cls c) "bands" := by
    intro c hc
    simp only [List.mem_cons, List.not_mem_nil, or_false] at hc
    rcases hc with rfl
    · exact ⟨E.cls 14, E.noat 31⟩
  have q5 : mg "any" = none := E.free 36
  have q6 := E.exc 28 (x := "FeeError")
  have q7 : mg "FeeError" = some (.ref ((M.g K).exc 1)) := E.glo 27
  have q8 : mg "zip" = none := E.free 47
  have q9 : mg "len" = none := E.free 39
  obtain ⟨t_MOST_BANDS, q10⟩ := E.int 34 (x := "MOST_BANDS") (k := 10)
  have S : FnScope [Str.ofString "self", Str.ofString "bands", Str.ofString "least", Str.ofString "duty", Str.ofString "one", Str.ofString "two", Str.ofString "first", Str.ofString "share", Str.ofString "band"] ["self", "bands", "least", "duty"] (dM 5 0 "Fees" "__init__" "Fees.__init__" [.int 0, .int 0]).scope := C8.fnScope_by (by kernel_rfl)
  have nd := S.nd
  unfold f_fees_init
  refine E.ok (d := dM 5 0 "Fees" "__init__" "Fees.__init__" [.int 0, .int 0]) (N := [Str.ofString "self", Str.ofString "bands", Str.ofString "least", Str.ofString "duty", Str.ofString "one", Str.ofString "two", Str.ofString "first", Str.ofString "share", Str.ofString "band"]) (ps := ["self", "bands", "least", "duty"]) (k := 6) (ms := m_fees_init) 0 (by kernel_rfl) S fun cdv A outer s H E' hcd hr tk po => ?_
  unfold m_fees_init
  exact (sm_cons (sm_if (em_pw (em_or (em_not (em_tchain op_le op_le ok_le ok_le em_int (em_callB (c_len rfl) k_len rfl q9 boot_len (am_cons (em_var rfl (vis_by (by kernel_rfl))) am_nil)) (em_glob (v := .int 10) rfl q10 ⟨_, rfl⟩ (fun _ _ => by simp [VR])) rfl)) (em_or1 (em_tcmp (op_neK rfl (hr.units)) ok_ne (em_ixS rfl (em_ixS rfl (em_var rfl (vis_by (by kernel_rfl))) em_int (fun _ _ => rfl)) em_int (fun _ _ => rfl)) em_int rfl)))) (sm_one (sm_raise (ci := 1) rfl tk PySem.F.excBase_ValueError q6.1 q7 q6.2.1 (raises_own q6.2.2.1 q6.2.2.2) rfl)) sm_nil) (sm_cons (sm_if (em_tru rfl (em_any (k := 0) (hr.mono (by decide)) rfl q5 (gxp_of (k := 0) (g := M.g K) rfl hr.depth TB hcd hmT huT nd (blkOk_by (own := [("one", 4), ("two", 5)]) (by kernel_rfl)) rfl (by decide) (by decide +kernel) rfl (by kernel_rfl) (im_zip t rfl rfl q8 (am_cons (em_var rfl (vis_by (by kernel_rfl))) (am_cons (em_sl t false rfl (em_var rfl (vis_by (by kernel_rfl))) (om_some em_int) om_none) am_nil))) (fun _ _ _ _ _ _ _ => (gm_tup (n := 2) rfl rfl (gm_cons (gm_name nd rfl (loc_by (by kernel_rfl)) (by first | exact .inl rfl | exact .inr rfl)) (gm_cons (gm_name nd rfl (loc_by (by kernel_rfl)) (by first | exact .inl rfl | exact .inr rfl)) gm_nil)) rfl)) (fun _ _ _ _ _ _ _ hg_ => ts_nil) (fun _ _ _ _ _ _ _ hg_ => (em_cmp op_le ok_le (em_ixS rfl (em_var rfl (vis_by (by kernel_rfl))) em_int (fun _ _ => rfl)) (em_ixS rfl (em_var rfl (vis_by (by kernel_rfl))) em_int (fun _ _ => rfl)) rfl)))) (fun _ => rfl)) (sm_one (sm_raise (ci := 1) rfl tk PySem.F.excBase_ValueError q6.1 q7 q6.2.1 (raises_own q6.2.2.1 q6.2.2.2) rfl)) sm_nil) (sm_cons (sm_if (em_pw (em_or (em_tru rfl (em_any (k := 0) (hr.mono (by decide)) rfl q5 (gxp_of (k := 0) (g := M.g K) rfl hr.depth TB hcd hmT huT nd (blkOk_by (own := [("first", 6), ("share", 7)]) (by kernel_rfl)) rfl (by decide) (by decide +kernel) rfl (by kernel_rfl) (im_LT rfl (em_var rfl (vis_by (by kernel_rfl)))) (fun _ _ _ _ _ _ _ => (gm_tup (n := 2) rfl rfl (gm_cons (gm_name nd rfl (loc_by (by kernel_rfl)) (by first | exact .inl rfl | exact .inr rfl)) (gm_cons (gm_name nd rfl (loc_by (by kernel_rfl)) (by first | exact .inl rfl | exact .inr rfl)) gm_nil)) rfl)) (fun _ _ _ _ _ _ _ hg_ => ts_nil) (fun _ _ _ _ _ _ _ hg_ => (em_notV rfl (em_chain op_le op_le ok_le ok_le em_int (em_var rfl (vis_by (by kernel_rfl))) em_int rfl))))) (fun _ => rfl)) (em_or (em_tcmp op_lt ok_lt (em_var rfl (vis_by (by kernel_rfl))) em_int rfl) (em_or1 (em_not (em_tchain op_le op_le ok_le ok_le em_int (em_var rfl (vis_by (by kernel_rfl))) em_int rfl)))))) (sm_one (sm_raise (ci := 1) rfl tk PySem.F.excBase_ValueError q6.1 q7 q6.2.1 (raises_own q6.2.2.1 q6.2.2.2) rfl)) sm_nil) (sm_cons (sm_fld [0] t rfl q4 (em_var rfl (vis_by (by kernel_rfl))) (em_tupG (k := 0) (hr.mono (by decide)) rfl q2 boot_tuple t (gxp_of (k := 0) (g := M.g K) rfl hr.depth TB hcd hmT huT nd (blkOk_by (own := [("band", 8)]) (by kernel_rfl)) rfl (by decide) (by decide +kernel) rfl (by kernel_rfl) (im_LT rfl (em_var rfl (vis_by (by kernel_rfl)))) (fun _ _ _ _ _ _ _ => (gm_name nd rfl (loc_by (by kernel_rfl)) (by first | exact .inl rfl | exact .inr rfl))) (fun _ _ _ _ _ _ _ hg_ => ts_nil) (fun _ _ _ _ _ _ _ hg_ => (em_callTy (c_tuple rfl) (k_tuple t) rfl q2 boot_tuple (am_cons (em_var rfl (vis_by (by kernel_rfl))) am_nil)))))) (sm_cons (sm_fld [0] t rfl q1 (em_var rfl (vis_by (by kernel_rfl))) (em_var rfl (vis_by (by kernel_rfl)))) (sm_one (sm_fld [0] t rfl q0 (em_var rfl (vis_by (by kernel_rfl))) (em_var rfl (vis_by (by kernel_rfl))))))))))
def m_fees_fee_of : MS := sSeq (sIf (mTB (mOp dLt (mVar 1) (mC (.int 0)))) (sRaise 1) (sNext)) (sSeq (sAsg (mC (.int 0)) (gmName 2)) (sSeq (sFor (miEnum (mCons (mFld [0] "bands" (mVar 0)) (mNil))) (gmTup 2 (gmCons (gmName 3) (gmCons (gmTup 2 (gmCons (gmName 4) (gmCons (gmName 5) (gmNil)))) (gmNil)))) (sSeq (sAsg (mIf (mTB (mOp dLt (mOp (dPlus false) (mVar 3) (mC (.int 1))) (mCB bLen (mCons (mFld [0] "bands" (mVar 0)) (mNil))))) (mOp ixD (mOp ixD (mFld [0] "bands" (mVar 0)) (mOp (dPlus false) (mVar 3) (mC (.int 1)))) (mC (.int 0))) (mVar 1)) (gmName 6)) (sAug dIAdd 2 (mOp (dMul false) (mCB bMax2 (mCons (mC (.int 0)) (mCons (mOp (dMinus) (mCB bMin2 (mCons (mVar 1) (mCons (mVar 6) (mNil)))) (mVar 4)) (mNil)))) (mVar 5))))) (sRet (mCB bMax2 (mCons (mFld [0] "least" (mVar 0)) (mCons (mOp (dDiv) (mVar 2) (mC (.int 1000))) (mNil)))))))
def f_fees_fee_of : FM := runF ([Str.ofString "self", Str.ofString "price", Str.ofString "whole", Str.ofString "place", Str.ofString "first", Str.ofString "share", Str.ofString "end"] : List Str).length m_fees_fee_of
theorem ok_fees_fee_of {P : Program} {w : World} {K : PySem.W.Frag} {mg : Str → Option Value} {base h : Heap} (E : EV M w K mg base h) : Ok M P w K mg base 1 (dM 5 1 "Fees" "fee_of" "Fees.fee_of") ["self", "price"] f_fees_fee_of := by
  have t := M.ti K
  have q0 : ∀ c ∈ [0], AttrOk (M.g K).K ((M.g K).cls c) "least" := by
    intro c hc
    simp only [List.mem_cons, List.not_mem_nil, or_false] at hc
    rcases hc with rfl
    · exact ⟨E.cls 14, E.noat 32⟩
  have q1 : mg "max" = none := E.free 41
  have q2 : ∀ c ∈ [0], AttrOk (M.g K).K ((M.g K).cls c) "bands" := by
    intro c hc
    simp only [List.mem_cons, List.not_mem_nil, or_false] at hc
    rcases hc with rfl
    · exact ⟨E.cls 14, E.noat 31⟩
  have q3 : mg "enumerate" = none := E.free 37
  have q4 : mg "min" = none := E.free 42
  have q5 : mg "len" = none := E.free 39
  have q6 := E.exc 28 (x := "FeeError")
  have q7 : mg "FeeError" = some (.ref ((M.g K).exc 1)) := E.glo 27
  have S : FnScope [Str.ofString "self", Str.ofString "price", Str.ofString "whole", Str.ofString "place", Str.ofString "first", Str.ofString "share", Str.ofString "end"] ["self", "price"] (dM 5 1 "Fees" "fee_of" "Fees.fee_of").scope := C8.fnScope_by (by kernel_rfl)
  have nd := S.nd
  unfold f_fees_fee_of
  refine E.ok (d := dM 5 1 "Fees" "fee_of" "Fees.fee_of") (N := [Str.ofString "self", Str.ofString "price", Str.ofString "whole", Str.ofString "place", Str.ofString "first", Str.ofString "share", Str.ofString "end"]) (ps := ["self", "price"]) (k := 0) (ms := m_fees_fee_of) 1 (by kernel_rfl) S fun cdv A outer s H E' hcd hr tk po => ?_
  unfold m_fees_fee_of
  exact (sm_cons (sm_if (em_tcmp op_lt ok_lt (em_var rfl (vis_by (by kernel_rfl))) em_int rfl) (sm_one (sm_raise (ci := 1) rfl tk PySem.F.excBase_ValueError q6.1 q7 q6.2.1 (raises_own q6.2.2.1 q6.2.2.2) rfl)) sm_nil) (sm_cons (sm_set nd rfl (loc_by (by kernel_rfl)) em_int (.inl rfl)) (sm_cons (sm_for po rfl (im_enum t rfl rfl q3 (am_cons (em_fld [0] rfl q2 (em_var rfl (vis_by (by kernel_rfl))) rfl) am_nil)) (gm_tup (n := 2) rfl rfl (gm_cons (gm_name nd rfl (loc_by (by kernel_rfl)) (by first | exact .inl rfl | exact .inr rfl)) (gm_cons (gm_tup (n := 2) rfl rfl (gm_cons (gm_name nd rfl (loc_by (by kernel_rfl)) (by first | exact .inl rfl | exact .inr rfl)) (gm_cons (gm_name nd rfl (loc_by (by kernel_rfl)) (by first | exact .inl rfl | exact .inr rfl)) gm_nil)) rfl) gm_nil)) rfl) (sm_cons (sm_set nd rfl (loc_by (by kernel_rfl)) (em_ifE (em_tcmp op_lt ok_lt (em_op op_plus (ok_plus t false) (em_var rfl (vis_by (by kernel_rfl))) em_int) (em_callB (c_len rfl) k_len rfl q5 boot_len (am_cons (em_fld [0] rfl q2 (em_var rfl (vis_by (by kernel_rfl))) rfl) am_nil)) rfl) (em_ixS rfl (em_ixS rfl (em_fld [0] rfl q2 (em_var rfl (vis_by (by kernel_rfl))) rfl) (em_op op_plus (ok_plus t false) (em_var rfl (vis_by (by kernel_rfl))) em_int) (fun _ _ => rfl)) em_int (fun _ _ => rfl)) (em_var rfl (vis_by (by kernel_rfl)))) (.inl rfl)) (sm_one (sm_aug nd rfl (loc_by (by kernel_rfl)) (em_op op_times (ok_mul t false) (em_callB (call_max2 rfl) k_max2 rfl q1 boot_max (am_cons em_int (am_cons (em_op op_sub ok_minus (em_callB (call_min2 rfl) k_min2 rfl q4 boot_min (am_cons (em_var rfl (vis_by (by kernel_rfl))) (am_cons (em_var rfl (vis_by (by kernel_rfl))) am_nil))) (em_var rfl (vis_by (by kernel_rfl)))) am_nil))) (em_var rfl (vis_by (by kernel_rfl)))) op_iadd (ok_iadd t) (.inl rfl))))) (sm_one (sm_ret (em_callB (call_max2 rfl) k_max2 rfl q1 boot_max (am_cons (em_fld [0] rfl q0 (em_var rfl (vis_by (by kernel_rfl))) rfl) (am_cons (em_op op_fdiv ok_div (em_var rfl (vis_by (by kernel_rfl))) em_int) am_nil))))))))
def m_fees_duty_of : MS := sRet (mOp (dDiv) (mOp (dPlus false) (mOp (dMul false) (mOp (dMul false) (mC (.int 2)) (mMeth 0 "fee_of" (fun xs => f_fees_fee_of (xs ++ [])) (mVar 0) (mCons (mVar 1) (mNil)))) (mFld [0] "duty" (mVar 0))) (mC (.int 1000))) (mC (.int 2000)))
def f_fees_duty_of : FM := runF ([Str.ofString "self", Str.ofString "price"] : List Str).length m_fees_duty_of
theorem ok_fees_duty_of {P : Program} {w : World} {K : PySem.W.Frag} {mg : Str → Option Value} {base h : Heap} (E : EV M w K mg base h) : Ok M P w K mg base 2 (dM 5 2 "Fees" "duty_of" "Fees.duty_of") ["self", "price"] f_fees_duty_of := by
  have t := M.ti K
  obtain ⟨fd_fees_fee_of, F_fees_fee_of, q0⟩ := ok_fees_fee_of E (P := P)
  have q1 : Binds K fd_fees_fee_of ["self", "price"] [] := F_fees_fee_of.bindsN fun _ _ _ _ _ _ us hl => match us, hl with | [_, _], _ => rfl
  have q2 : ∀ c ∈ [0], AttrOk (M.g K).K ((M.g K).cls c) "duty" := by
    intro c hc
    simp only [List.mem_cons, List.not_mem_nil, or_false] at hc
    rcases hc with rfl
    · exact ⟨E.cls 14, E.noat 33⟩
  have S : FnScope [Str.ofString "self", Str.ofString "price"] ["self", "price"] (dM 5 2 "Fees" "duty_of" "Fees.duty_of").scope := C8.fnScope_by (by kernel_rfl)
  have nd := S.nd
  unfold f_fees_duty_of
  refine E.ok (d := dM 5 2 "Fees" "duty_of" "Fees.duty_of") (N := [Str.ofString "self", Str.ofString "price"]) (ps := ["self", "price"]) (k := 1) (ms := m_fees_duty_of) 2 (by kernel_rfl) S fun cdv A outer s H E' hcd hr tk po => ?_
  unfold m_fees_duty_of
  exact (sm_one (sm_ret (em_op op_fdiv ok_div (em_op op_plus (ok_plus t false) (em_op op_times (ok_mul t false) (em_op op_times (ok_mul t false) em_int (em_meth (ci := 0) rfl tk (em_var rfl (vis_by (by kernel_rfl))) (E.cls 14) (E.meth 17) q0 (hr.mono (by decide)) q1 .nil (fun _ _ => by simp [VRs]) rfl (len_cons (fun _ _ _ _ => len_nil)) (am_cons (em_var rfl (vis_by (by kernel_rfl))) am_nil))) (em_fld [0] rfl q2 (em_var rfl (vis_by (by kernel_rfl))) rfl)) em_int) em_int)))
def m_fees_buyer_pays : MS := sRet (mOp (dPlus false) (mOp (dPlus false) (mVar 1) (mMeth 0 "fee_of" (fun xs => f_fees_fee_of (xs ++ [])) (mVar 0) (mCons (mVar 1) (mNil)))) (mMeth 0 "duty_of" (fun xs => f_fees_duty_of (xs ++ [])) (mVar 0) (mCons (mVar 1) (mNil))))
def f_fees_buyer_pays : FM := runF ([Str.ofString "self", Str.ofString "price"] : List Str).length m_fees_buyer_pays
theorem ok_fees_buyer_pays {P : Program} {w : World} {K : PySem.W.Frag} {mg : Str → Option Value} {base h : Heap} (E : EV M w K mg base h) : Ok M P w K mg base 3 (dM 5 3 "Fees" "buyer_pays" "Fees.buyer_pays") ["self", "price"] f_fees_buyer_pays := by
  have t := M.ti K
  obtain ⟨fd_fees_fee_of, F_fees_fee_of, q0⟩ := ok_fees_fee_of E (P := P)
  have q1 : Binds K fd_fees_fee_of ["self", "price"] [] := F_fees_fee_of.bindsN fun _ _ _ _ _ _ us hl => match us, hl with | [_, _], _ => rfl
  obtain ⟨fd_fees_duty_of, F_fees_duty_of, q2⟩ := ok_fees_duty_of E (P := P)
  have q3 : Binds K fd_fees_duty_of ["self", "price"] [] := F_fees_duty_of.bindsN fun _ _ _ _ _ _ us hl => match us, hl with | [_, _], _ => rfl
  have S : FnScope [Str.ofString "self", Str.ofString "price"] ["self", "price"] (dM 5 3 "Fees" "buyer_pays" "Fees.buyer_pays").scope := C8.fnScope_by (by kernel_rfl)
  have nd := S.nd
  unfold f_fees_buyer_pays
  refine E.ok (d := dM 5 3 "Fees" "buyer_pays" "Fees.buyer_pays") (N := [Str.ofString "self", Str.ofString "price"]) (ps := ["self", "price"]) (k := 2) (ms := m_fees_buyer_pays) 3 (by kernel_rfl) S fun cdv A outer s H E' hcd hr tk po => ?_
  unfold m_fees_buyer_pays
  exact (sm_one (sm_ret (em_op op_plus (ok_plus t false) (em_op op_plus (ok_plus t false) (em_var rfl (vis_by (by kernel_rfl))) (em_meth (ci := 0) rfl tk (em_var rfl (vis_by (by kernel_rfl))) (E.cls 14) (E.meth 17) q0 (hr.mono (by decide)) q1 .nil (fun _ _ => by simp [VRs]) rfl (len_cons (fun _ _ _ _ => len_nil)) (am_cons (em_var rfl (vis_by (by kernel_rfl))) am_nil))) (em_meth (ci := 0) rfl tk (em_var rfl (vis_by (by kernel_rfl))) (E.cls 14) (E.meth 18) q2 (hr.mono (by decide)) q3 .nil (fun _ _ => by simp [VRs]) rfl (len_cons (fun _ _ _ _ => len_nil)) (am_cons (em_var rfl (vis_by (by kernel_rfl))) am_nil)))))
def m_fees_seller_gets : MS := sRet (mOp (dMinus) (mOp (dMinus) (mVar 1) (mMeth 0 "fee_of" (fun xs => f_fees_fee_of (xs ++ [])) (mVar 0) (mCons (mVar 1) (mNil)))) (mMeth 0 "duty_of" (fun xs => f_fees_duty_of (xs ++ [])) (mVar 0) (mCons (mVar 1) (mNil))))
def f_fees_seller_gets : FM := runF ([Str.ofString "self", Str.ofString "price"] : List Str).length m_fees_seller_gets
theorem ok_fees_seller_gets {P : Program} {w : World} {K : PySem.W.Frag} {mg : Str → Option Value} {base h : Heap} (E : EV M w K mg base h) : Ok M P w K mg base 3 (dM 5 4 "Fees" "seller_gets" "Fees.seller_gets") ["self", "price"] f_fees_seller_gets := by
  have t := M.ti K
  obtain ⟨fd_fees_fee_of, F_fees_fee_of, q0⟩ := ok_fees_fee_of E (P := P)
  have q1 : Binds K fd_fees_fee_of ["self", "price"] [] := F_fees_fee_of.bindsN fun _ _ _ _ _ _ us hl => match us, hl with | [_, _], _ => rfl
  obtain ⟨fd_fees_duty_of, F_fees_duty_of, q2⟩ := ok_fees_duty_of E (P := P)
  have q3 : Binds K fd_fees_duty_of ["self", "price"] [] := F_fees_duty_of.bindsN fun _ _ _ _ _ _ us hl => match us, hl with | [_, _], _ => rfl
  have S : FnScope [Str.ofString "self", Str.ofString "price"] ["self", "price"] (dM 5 4 "Fees" "seller_gets" "Fees.seller_gets").scope := C8.fnScope_by (by kernel_rfl)
  have nd := S.nd
  unfold f_fees_seller_gets
  refine E.ok (d := dM 5 4 "Fees" "seller_gets" "Fees.seller_gets") (N := [Str.ofString "self", Str.ofString "price"]) (ps := ["self", "price"]) (k := 2) (ms := m_fees_seller_gets) 4 (by kernel_rfl) S fun cdv A outer s H E' hcd hr tk po => ?_
  unfold m_fees_seller_gets
  exact (sm_one (sm_ret (em_op op_sub ok_minus (em_op op_sub ok_minus (em_var rfl (vis_by (by kernel_rfl))) (em_meth (ci := 0) rfl tk (em_var rfl (vis_by (by kernel_rfl))) (E.cls 14) (E.meth 17) q0 (hr.mono (by decide)) q1 .nil (fun _ _ => by simp [VRs]) rfl (len_cons (fun _ _ _ _ => len_nil)) (am_cons (em_var rfl (vis_by (by kernel_rfl))) am_nil))) (em_meth (ci := 0) rfl tk (em_var rfl (vis_by (by kernel_rfl))) (E.cls 14) (E.meth 18) q2 (hr.mono (by decide)) q3 .nil (fun _ _ => by simp [VRs]) rfl (len_cons (fun _ _ _ _ => len_nil)) (am_cons (em_var rfl (vis_by (by kernel_rfl))) am_nil)))))
def m_fees_price_for : MS := sSeq (sIf (mTB (mOp dLt (mVar 1) (mC (.int 0)))) (sRaise 1) (sNext)) (sSeq (sIf (mTB (mOp dGt (mMeth 0 "buyer_pays" (fun xs => f_fees_buyer_pays (xs ++ [])) (mVar 0) (mCons (mC (.int 0)) (mNil))) (mVar 1))) (sRet (mC .non)) (sNext)) (sSeq (sPar [2, 3] (mCons (mC (.int 0)) (mCons (mVar 1) (mNil)))) (sSeq (sWhile (mTB (mOp dLt (mVar 2) (mVar 3))) (sSeq (sAsg (mOp (dDiv) (mOp (dPlus false) (mOp (dPlus false) (mVar 2) (mVar 3)) (mC (.int 1))) (mC (.int 2))) (gmName 4)) (sIf (mTB (mOp dLe (mMeth 0 "buyer_pays" (fun xs => f_fees_buyer_pays (xs ++ [])) (mVar 0) (mCons (mVar 4) (mNil))) (mVar 1))) (sAsg (mVar 4) (gmName 2)) (sAsg (mOp (dMinus) (mVar 4) (mC (.int 1))) (gmName 3))))) (sRet (mVar 2)))))
def f_fees_price_for : FM := runF ([Str.ofString "self", Str.ofString "sum_paid", Str.ofString "low", Str.ofString "high", Str.ofString "middle"] : List Str).length m_fees_price_for
theorem ok_fees_price_for {P : Program} {w : World} {K : PySem.W.Frag} {mg : Str → Option Value} {base h : Heap} (E : EV M w K mg base h) : Ok M P w K mg base 4 (dM 5 5 "Fees" "price_for" "Fees.price_for") ["self", "sum_paid"] f_fees_price_for := by
  have t := M.ti K
  obtain ⟨fd_fees_buyer_pays, F_fees_buyer_pays, q0⟩ := ok_fees_buyer_pays E (P := P)
  have q1 : Binds K fd_fees_buyer_pays ["self", "price"] [] := F_fees_buyer_pays.bindsN fun _ _ _ _ _ _ us hl => match us, hl with | [_, _], _ => rfl
  have q2 := E.exc 28 (x := "FeeError")
  have q3 : mg "FeeError" = some (.ref ((M.g K).exc 1)) := E.glo 27
  have S : FnScope [Str.ofString "self", Str.ofString "sum_paid", Str.ofString "low", Str.ofString "high", Str.ofString "middle"] ["self", "sum_paid"] (dM 5 5 "Fees" "price_for" "Fees.price_for").scope := C8.fnScope_by (by kernel_rfl)
  have nd := S.nd
  unfold f_fees_price_for
  refine E.ok (d := dM 5 5 "Fees" "price_for" "Fees.price_for") (N := [Str.ofString "self", Str.ofString "sum_paid", Str.ofString "low", Str.ofString "high", Str.ofString "middle"]) (ps := ["self", "sum_paid"]) (k := 3) (ms := m_fees_price_for) 5 (by kernel_rfl) S fun cdv A outer s H E' hcd hr tk po => ?_
  unfold m_fees_price_for
  exact (sm_cons (sm_if (em_tcmp op_lt ok_lt (em_var rfl (vis_by (by kernel_rfl))) em_int rfl) (sm_one (sm_raise (ci := 1) rfl tk PySem.F.excBase_ValueError q2.1 q3 q2.2.1 (raises_own q2.2.2.1 q2.2.2.2) rfl)) sm_nil) (sm_cons (sm_if (em_tcmp op_gt ok_gt (em_meth (ci := 0) rfl tk (em_var rfl (vis_by (by kernel_rfl))) (E.cls 14) (E.meth 19) q0 (hr.mono (by decide)) q1 .nil (fun _ _ => by simp [VRs]) rfl (len_cons (fun _ _ _ _ => len_nil)) (am_cons em_int am_nil)) (em_var rfl (vis_by (by kernel_rfl))) rfl) (sm_one (sm_ret em_non)) sm_nil) (sm_cons (sm_par rfl nd rfl rfl (by decide) rfl rfl (am_cons em_int (am_cons (em_var rfl (vis_by (by kernel_rfl))) am_nil)) rfl) (sm_cons (sm_while po (em_tcmp op_lt ok_lt (em_var rfl (vis_by (by kernel_rfl))) (em_var rfl (vis_by (by kernel_rfl))) rfl) (sm_cons (sm_set nd rfl (loc_by (by kernel_rfl)) (em_op op_fdiv ok_div (em_op op_plus (ok_plus t false) (em_op op_plus (ok_plus t false) (em_var rfl (vis_by (by kernel_rfl))) (em_var rfl (vis_by (by kernel_rfl)))) em_int) em_int) (.inl rfl)) (sm_one (sm_if (em_tcmp op_le ok_le (em_meth (ci := 0) rfl tk (em_var rfl (vis_by (by kernel_rfl))) (E.cls 14) (E.meth 19) q0 (hr.mono (by decide)) q1 .nil (fun _ _ => by simp [VRs]) rfl (len_cons (fun _ _ _ _ => len_nil)) (am_cons (em_var rfl (vis_by (by kernel_rfl))) am_nil)) (em_var rfl (vis_by (by kernel_rfl))) rfl) (sm_one (sm_set nd rfl (loc_by (by kernel_rfl)) (em_var rfl (vis_by (by kernel_rfl))) (.inl rfl))) (sm_one (sm_set nd rfl (loc_by (by kernel_rfl)) (em_op op_sub ok_minus (em_var rfl (vis_by (by kernel_rfl))) em_int) (.inl rfl))))))) (sm_one (sm_ret (em_var rfl (vis_by (by kernel_rfl)))))))))
def m_fees_share_of : MS := sSeq (sIf (mTB (mOp dLt (mVar 1) (mC (.int 1)))) (sRaise 1) (sNext)) (sRet (mOp (dDiv) (mOp (dMul false) (mC (.int 1000)) (mMeth 0 "fee_of" (fun xs => f_fees_fee_of (xs ++ [])) (mVar 0) (mCons (mVar 1) (mNil)))) (mVar 1)))
def f_fees_share_of : FM := runF ([Str.ofString "self", Str.ofString "price"] : List Str).length m_fees_share_of
theorem ok_fees_share_of {P : Program} {w : World} {K : PySem.W.Frag} {mg : Str → Option Value} {base h : Heap} (E : EV M w K mg base h) : Ok M P w K mg base 2 (dM 5 6 "Fees" "share_of" "Fees.share_of") ["self", "price"] f_fees_share_of := by
  have t := M.ti K
  obtain ⟨fd_fees_fee_of, F_fees_fee_of, q0⟩ := ok_fees_fee_of E (P := P)
  have q1 : Binds K fd_fees_fee_of ["self", "price"] [] := F_fees_fee_of.bindsN fun _ _ _ _ _ _ us hl => match us, hl with | [_, _], _ => rfl
  have q2 := E.exc 28 (x := "FeeError")
  have q3 : mg "FeeError" = some (.ref ((M.g K).exc 1)) := E.glo 27
  have S : FnScope [Str.ofString "self", Str.ofString "price"] ["self", "price"] (dM 5 6 "Fees" "share_of" "Fees.share_of").scope := C8.fnScope_by (by kernel_rfl)
  have nd := S.nd
  unfold f_fees_share_of
  refine E.ok (d := dM 5 6 "Fees" "share_of" "Fees.share_of") (N := [Str.ofString "self", Str.ofString "price"]) (ps := ["self", "price"]) (k := 1) (ms := m_fees_share_of) 6 (by kernel_rfl) S fun cdv A outer s H E' hcd hr tk po => ?_
  unfold m_fees_share_of
  exact (sm_cons (sm_if (em_tcmp op_lt ok_lt (em_var rfl (vis_by (by kernel_rfl))) em_int rfl) (sm_one (sm_raise (ci := 1) rfl tk PySem.F.excBase_ValueError q2.1 q3 q2.2.1 (raises_own q2.2.2.1 q2.2.2.2) rfl)) sm_nil) (sm_one (sm_ret (em_op op_fdiv ok_div (em_op op_times (ok_mul t false) em_int (em_meth (ci := 0) rfl tk (em_var rfl (vis_by (by kernel_rfl))) (E.cls 14) (E.meth 17) q0 (hr.mono (by decide)) q1 .nil (fun _ _ => by simp [VRs]) rfl (len_cons (fun _ _ _ _ => len_nil)) (am_cons (em_var rfl (vis_by (by kernel_rfl))) am_nil))) (em_var rfl (vis_by (by kernel_rfl)))))))
def m_fees_band_parts : MS := sSeq (sIf (mTB (mOp dLt (mVar 1) (mC (.int 0)))) (sRaise 1) (sNext)) (sSeq (sAsg (mLst true (mNil)) (gmName 2)) (sSeq (sFor (miEnum (mCons (mFld [0] "bands" (mVar 0)) (mNil))) (gmTup 2 (gmCons (gmName 3) (gmCons (gmTup 2 (gmCons (gmName 4) (gmCons (gmName 5) (gmNil)))) (gmNil)))) (sSeq (sAsg (mIf (mTB (mOp dLt (mOp (dPlus false) (mVar 3) (mC (.int 1))) (mCB bLen (mCons (mFld [0] "bands" (mVar 0)) (mNil))))) (mOp ixD (mOp ixD (mFld [0] "bands" (mVar 0)) (mOp (dPlus false) (mVar 3) (mC (.int 1)))) (mC (.int 0))) (mVar 1)) (gmName 6)) (sSeq (sAsg (mCB bMax2 (mCons (mC (.int 0)) (mCons (mOp (dMinus) (mCB bMin2 (mCons (mVar 1) (mCons (mVar 6) (mNil)))) (mVar 4)) (mNil)))) (gmName 7)) (sAug dIAdd 2 (mIf (mTB (mOp dGt (mVar 7) (mC (.int 0)))) (mLst false (mCons (mTup (mCons (mVar 7) (mCons (mVar 5) (mNil)))) (mNil))) (mLst false (mNil))))))) (sRet (mCB bTuple (mCons (mVar 2) (mNil))))))
def f_fees_band_parts : FM := runF ([Str.ofString "self", Str.ofString "price", Str.ofString "found", Str.ofString "place", Str.ofString "first", Str.ofString "share", Str.ofString "end", Str.ofString "part"] : List Str).length m_fees_band_parts
theorem ok_fees_band_parts {P : Program} {w : World} {K : PySem.W.Frag} {mg : Str → Option Value} {base h : Heap} (E : EV M w K mg base h) : Ok M P w K mg base 1 (dM 5 7 "Fees" "band_parts" "Fees.band_parts") ["self", "price"] f_fees_band_parts := by
  have t := M.ti K
  have q0 : mg "tuple" = none := E.free 46
  have q1 : ∀ c ∈ [0], AttrOk (M.g K).K ((M.g K).cls c) "bands" := by
    intro c hc
    simp only [List.mem_cons, List.not_mem_nil, or_false] at hc
    rcases hc with rfl
    · exact ⟨E.cls 14, E.noat 31⟩
  have q2 : mg "enumerate" = none := E.free 37
  have q3 : mg "min" = none := E.free 42
  have q4 : mg "max" = none := E.free 41
  have q5 : mg "len" = none := E.free 39
  have q6 := E.exc 28 (x := "FeeError")
  have q7 : mg "FeeError" = some (.ref ((M.g K).exc 1)) := E.glo 27
  have S : FnScope [Str.ofString "self", Str.ofString "price", Str.ofString "found", Str.ofString "place", Str.ofString "first", Str.ofString "share", Str.ofString "end", Str.ofString "part"] ["self", "price"] (dM 5 7 "Fees" "band_parts" "Fees.band_parts").scope := C8.fnScope_by (by kernel_rfl)
  have nd := S.nd
  unfold f_fees_band_parts
  refine E.ok (d := dM 5 7 "Fees" "band_parts" "Fees.band_parts") (N := [Str.ofString "self", Str.ofString "price", Str.ofString "found", Str.ofString "place", Str.ofString "first", Str.ofString "share", Str.ofString "end", Str.ofString "part"]) (ps := ["self", "price"]) (k := 0) (ms := m_fees_band_parts) 7 (by kernel_rfl) S fun cdv A outer s H E' hcd hr tk po => ?_
  unfold m_fees_band_parts
  exact (sm_cons (sm_if (em_tcmp op_lt ok_lt (em_var rfl (vis_by (by kernel_rfl))) em_int rfl) (sm_one (sm_raise (ci := 1) rfl tk PySem.F.excBase_ValueError q6.1 q7 q6.2.1 (raises_own q6.2.2.1 q6.2.2.2) rfl)) sm_nil) (sm_cons (sm_set nd rfl (loc_by (by kernel_rfl)) (em_lst t true am_nil) (.inl rfl)) (sm_cons (sm_for po rfl (im_enum t rfl rfl q2 (am_cons (em_fld [0] rfl q1 (em_var rfl (vis_by (by kernel_rfl))) rfl) am_nil)) (gm_tup (n := 2) rfl rfl (gm_cons (gm_name nd rfl (loc_by (by kernel_rfl)) (by first | exact .inl rfl | exact .inr rfl)) (gm_cons (gm_tup (n := 2) rfl rfl (gm_cons (gm_name nd rfl (loc_by (by kernel_rfl)) (by first | exact .inl rfl | exact .inr rfl)) (gm_cons (gm_name nd rfl (loc_by (by kernel_rfl)) (by first | exact .inl rfl | exact .inr rfl)) gm_nil)) rfl) gm_nil)) rfl) (sm_cons (sm_set nd rfl (loc_by (by kernel_rfl)) (em_ifE (em_tcmp op_lt ok_lt (em_op op_plus (ok_plus t false) (em_var rfl (vis_by (by kernel_rfl))) em_int) (em_callB (c_len rfl) k_len rfl q5 boot_len (am_cons (em_fld [0] rfl q1 (em_var rfl (vis_by (by kernel_rfl))) rfl) am_nil)) rfl) (em_ixS rfl (em_ixS rfl (em_fld [0] rfl q1 (em_var rfl (vis_by (by kernel_rfl))) rfl) (em_op op_plus (ok_plus t false) (em_var rfl (vis_by (by kernel_rfl))) em_int) (fun _ _ => rfl)) em_int (fun _ _ => rfl)) (em_var rfl (vis_by (by kernel_rfl)))) (.inl rfl)) (sm_cons (sm_set nd rfl (loc_by (by kernel_rfl)) (em_callB (call_max2 rfl) k_max2 rfl q4 boot_max (am_cons em_int (am_cons (em_op op_sub ok_minus (em_callB (call_min2 rfl) k_min2 rfl q3 boot_min (am_cons (em_var rfl (vis_by (by kernel_rfl))) (am_cons (em_var rfl (vis_by (by kernel_rfl))) am_nil))) (em_var rfl (vis_by (by kernel_rfl)))) am_nil))) (.inl rfl)) (sm_one (sm_aug nd rfl (loc_by (by kernel_rfl)) (em_ifE (em_tcmp op_gt ok_gt (em_var rfl (vis_by (by kernel_rfl))) em_int rfl) (em_lst t false (am_cons (em_tup t (am_cons (em_var rfl (vis_by (by kernel_rfl))) (am_cons (em_var rfl (vis_by (by kernel_rfl))) am_nil))) am_nil)) (em_lst t false am_nil)) op_iadd (ok_iadd t) (.inl rfl)))))) (sm_one (sm_ret (em_callTy (c_tuple rfl) (k_tuple t) rfl q0 boot_tuple (am_cons (em_var rfl (vis_by (by kernel_rfl))) am_nil)))))))
def m_split_whole : MS := sSeq (sPar [3, 4] (mCons (mMeth 0 "buyer_pays" (fun xs => f_fees_buyer_pays (xs ++ [])) (mVar 1) (mCons (mVar 0) (mNil))) (mCons (mMeth 0 "seller_gets" (fun xs => f_fees_seller_gets (xs ++ [])) (mVar 2) (mCons (mVar 0) (mNil))) (mNil)))) (sSeq (sAsg (mOp (dPlus false) (mMeth 0 "duty_of" (fun xs => f_fees_duty_of (xs ++ [])) (mVar 1) (mCons (mVar 0) (mNil))) (mMeth 0 "duty_of" (fun xs => f_fees_duty_of (xs ++ [])) (mVar 2) (mCons (mVar 0) (mNil)))) (gmName 5)) (sRet (mTup (mCons (mVar 3) (mCons (mVar 4) (mCons (mOp (dMinus) (mOp (dMinus) (mVar 3) (mVar 4)) (mVar 5)) (mCons (mVar 5) (mNil))))))))
def f_split_whole : FM := runF ([Str.ofString "price", Str.ofString "buyer", Str.ofString "seller", Str.ofString "pays", Str.ofString "gets", Str.ofString "duty"] : List Str).length m_split_whole
theorem ok_split_whole {P : Program} {w : World} {K : PySem.W.Frag} {mg : Str → Option Value} {base h : Heap} (E : EV M w K mg base h) : Ok M P w K mg base 4 (dF 6 "split_whole") ["price", "buyer", "seller"] f_split_whole := by
  have t := M.ti K
  obtain ⟨fd_fees_duty_of, F_fees_duty_of, q0⟩ := ok_fees_duty_of E (P := P)
  have q1 : Binds K fd_fees_duty_of ["self", "price"] [] := F_fees_duty_of.bindsN fun _ _ _ _ _ _ us hl => match us, hl with | [_, _], _ => rfl
  obtain ⟨fd_fees_buyer_pays, F_fees_buyer_pays, q2⟩ := ok_fees_buyer_pays E (P := P)
  have q3 : Binds K fd_fees_buyer_pays ["self", "price"] [] := F_fees_buyer_pays.bindsN fun _ _ _ _ _ _ us hl => match us, hl with | [_, _], _ => rfl
  obtain ⟨fd_fees_seller_gets, F_fees_seller_gets, q4⟩ := ok_fees_seller_gets E (P := P)
  have q5 : Binds K fd_fees_seller_gets ["self", "price"] [] := F_fees_seller_gets.bindsN fun _ _ _ _ _ _ us hl => match us, hl with | [_, _], _ => rfl
  have S : FnScope [Str.ofString "price", Str.ofString "buyer", Str.ofString "seller", Str.ofString "pays", Str.ofString "gets", Str.ofString "duty"] ["price", "buyer", "seller"] (dF 6 "split_whole").scope := C8.fnScope_by (by kernel_rfl)
  have nd := S.nd
  unfold f_split_whole
  refine E.ok (d := dF 6 "split_whole") (N := [Str.ofString "price", Str.ofString "buyer", Str.ofString "seller", Str.ofString "pays", Str.ofString "gets", Str.ofString "duty"]) (ps := ["price", "buyer", "seller"]) (k := 3) (ms := m_split_whole) 8 (by kernel_rfl) S fun cdv A outer s H E' hcd hr tk po => ?_
  unfold m_split_whole
  exact (sm_cons (sm_par rfl nd rfl rfl (by decide) rfl rfl (am_cons (em_meth (ci := 0) rfl tk (em_var rfl (vis_by (by kernel_rfl))) (E.cls 14) (E.meth 19) q2 (hr.mono (by decide)) q3 .nil (fun _ _ => by simp [VRs]) rfl (len_cons (fun _ _ _ _ => len_nil)) (am_cons (em_var rfl (vis_by (by kernel_rfl))) am_nil)) (am_cons (em_meth (ci := 0) rfl tk (em_var rfl (vis_by (by kernel_rfl))) (E.cls 14) (E.meth 20) q4 (hr.mono (by decide)) q5 .nil (fun _ _ => by simp [VRs]) rfl (len_cons (fun _ _ _ _ => len_nil)) (am_cons (em_var rfl (vis_by (by kernel_rfl))) am_nil)) am_nil)) rfl) (sm_cons (sm_set nd rfl (loc_by (by kernel_rfl)) (em_op op_plus (ok_plus t false) (em_meth (ci := 0) rfl tk (em_var rfl (vis_by (by kernel_rfl))) (E.cls 14) (E.meth 18) q0 (hr.mono (by decide)) q1 .nil (fun _ _ => by simp [VRs]) rfl (len_cons (fun _ _ _ _ => len_nil)) (am_cons (em_var rfl (vis_by (by kernel_rfl))) am_nil)) (em_meth (ci := 0) rfl tk (em_var rfl (vis_by (by kernel_rfl))) (E.cls 14) (E.meth 18) q0 (hr.mono (by decide)) q1 .nil (fun _ _ => by simp [VRs]) rfl (len_cons (fun _ _ _ _ => len_nil)) (am_cons (em_var rfl (vis_by (by kernel_rfl))) am_nil))) (.inl rfl)) (sm_one (sm_ret (em_tup t (am_cons (em_var rfl (vis_by (by kernel_rfl))) (am_cons (em_var rfl (vis_by (by kernel_rfl))) (am_cons (em_op op_sub ok_minus (em_op op_sub ok_minus (em_var rfl (vis_by (by kernel_rfl))) (em_var rfl (vis_by (by kernel_rfl)))) (em_var rfl (vis_by (by kernel_rfl)))) (am_cons (em_var rfl (vis_by (by kernel_rfl))) am_nil)))))))))
def m_shared_cost : MS := sSeq (sIf (mOr (mTB (mOp dLt (mVar 0) (mC (.int 0)))) (mOr (mTB (mOp dEq (mCB bLen (mCons (mVar 1) (mNil))) (mC (.int 0)))) (mTB (mOp dLt (mCB bMin (mCons (mVar 1) (mNil))) (mC (.int 0)))))) (sRaise 1) (sNext)) (sSeq (sAsg (mIf (mTB (mOp dGt (mCB bSum (mCons (mVar 1) (mNil))) (mC (.int 0)))) (mCB (bList false) (mCons (mVar 1) (mNil))) (mOp (dMul false) (mLst false (mCons (mC (.int 1)) (mNil))) (mCB bLen (mCons (mVar 1) (mNil))))) (gmName 2)) (sSeq (sAsg (mLc true (miLT (mVar 2)) [7] (gmName 7) (mYes) (mOp (dDiv) (mOp (dMul false) (mVar 0) (mVar 7)) (mCB bSum (mCons (mVar 2) (mNil))))) (gmName 3)) (sSeq (sAsg (mGx (miEnum (mCons (mVar 2) (mNil))) [6, 7] (gmTup 2 (gmCons (gmName 6) (gmCons (gmName 7) (gmNil)))) (mYes) (mTup (mCons (mOp (dMinus) (mC (.int 0)) (mVar 7)) (mCons (mVar 6) (mNil)))) tkCol [] (fkS false)) (gmName 4)) (sSeq (sFor (miLT (mSl false (mVar 4) (mPN) (mPS (mOp (dMinus) (mVar 0) (mCB bSum (mCons (mVar 3) (mNil))))))) (gmTup 2 (gmCons (gmName 5) (gmCons (gmName 6) (gmNil)))) (sAugI dIAdd (mVar 3) (mVar 6) (mC (.int 1)))) (sRet (mCB bTuple (mCons (mVar 3) (mNil))))))))
def f_shared_cost : FM := runF ([Str.ofString "cost", Str.ofString "prices", Str.ofString "weights", Str.ofString "found", Str.ofString "order", Str.ofString "less", Str.ofString "place", Str.ofString "weight"] : List Str).length m_shared_cost
theorem ok_shared_cost {P : Program} {w : World} {K : PySem.W.Frag} {mg : Str → Option Value} {base h : Heap} (E : EV M w K mg base h) : Ok M P w K mg base 7 (dF 7 "shared_cost") ["cost", "prices"] f_shared_cost := by
  have t := M.ti K
  have q0 : mg "tuple" = none := E.free 46
  have q1 : mg "sum" = none := E.free 45
  have q2 : mg "enumerate" = none := E.free 37
  obtain ⟨TB, hmT, huT⟩ := E.tab 1 (q := (("shared_cost", none), ("shared_cost" : Str) ++ ".<locals>." ++ "<genexpr>")) rfl
  have q4 : mg "sorted" = none := E.free 44
  have q5 : mg "list" = none := E.free 40
  have q6 : mg "len" = none := E.free 39
  have q7 : mg "min" = none := E.free 42
  have q8 := E.exc 28 (x := "FeeError")
  have q9 : mg "FeeError" = some (.ref ((M.g K).exc 1)) := E.glo 27
  have S : FnScope [Str.ofString "cost", Str.ofString "prices", Str.ofString "weights", Str.ofString "found", Str.ofString "order", Str.ofString "less", Str.ofString "place", Str.ofString "weight"] ["cost", "prices"] (dF 7 "shared_cost").scope := C8.fnScope_by (by kernel_rfl)
  have nd := S.nd
  unfold f_shared_cost
  refine E.ok (d := dF 7 "shared_cost") (N := [Str.ofString "cost", Str.ofString "prices", Str.ofString "weights", Str.ofString "found", Str.ofString "order", Str.ofString "less", Str.ofString "place", Str.ofString "weight"]) (ps := ["cost", "prices"]) (k := 6) (ms := m_shared_cost) 9 (by kernel_rfl) S fun cdv A outer s H E' hcd hr tk po => ?_
  unfold m_shared_cost
  exact (sm_cons (sm_if (em_pw (em_or (em_tcmp op_lt ok_lt (em_var rfl (vis_by (by kernel_rfl))) em_int rfl) (em_or (em_tcmp (op_eqK rfl (hr.units)) ok_eq (em_callB (c_len rfl) k_len rfl q6 boot_len (am_cons (em_var rfl (vis_by (by kernel_rfl))) am_nil)) em_int rfl) (em_or1 (em_tcmp op_lt ok_lt (em_callB (c_min rfl rfl) k_min rfl q7 boot_min (am_cons (em_var rfl (vis_by (by kernel_rfl))) am_nil)) em_int rfl))))) (sm_one (sm_raise (ci := 1) rfl tk PySem.F.excBase_ValueError q8.1 q9 q8.2.1 (raises_own q8.2.2.1 q8.2.2.2) rfl)) sm_nil) (sm_cons (sm_set nd rfl (loc_by (by kernel_rfl)) (em_ifE (em_tcmp op_gt ok_gt (em_callB (c_sum rfl rfl) k_sum rfl q1 boot_sum (am_cons (em_var rfl (vis_by (by kernel_rfl))) am_nil)) em_int rfl) (em_callTy (c_list rfl) (k_list t false) rfl q5 boot_list (am_cons (em_var rfl (vis_by (by kernel_rfl))) am_nil)) (em_op op_times (ok_mul t false) (em_lst t false (am_cons em_int am_nil)) (em_callB (c_len rfl) k_len rfl q6 boot_len (am_cons (em_var rfl (vis_by (by kernel_rfl))) am_nil)))) (.inl rfl)) (sm_cons (sm_setLc t true rfl nd rfl rfl (sw_true rfl rfl rfl rfl) (im_LT rfl (em_var rfl (vis_by (by kernel_rfl)))) (blkOk_by (own := [("weight", 7)]) (by kernel_rfl)) rfl (by decide) (fun _ _ _ _ _ => (gm_name nd rfl (loc_by (by kernel_rfl)) (by first | exact .inl rfl | exact .inr rfl))) (fun _ _ _ _ _ => ts_nil) (fun _ _ _ _ _ => (em_op op_fdiv ok_div (em_op op_times (ok_mul t false) (em_var rfl (vis_by (by kernel_rfl))) (em_var rfl (vis_by (by kernel_rfl)))) (em_callB (c_sum rfl rfl) k_sum rfl q1 boot_sum (am_cons (em_var rfl (vis_by (by kernel_rfl))) am_nil))))) (sm_cons (sm_set nd rfl (loc_by (by kernel_rfl)) (em_sortedG (k := 0) rfl false (hr.mono (by decide)) rfl q4 boot_sorted t (gxp_of (k := 0) (g := M.g K) rfl hr.depth TB hcd hmT huT nd (blkOk_by (own := [("place", 6), ("weight", 7)]) (by kernel_rfl)) rfl (by decide) (by decide +kernel) rfl (by kernel_rfl) (im_enum t rfl rfl q2 (am_cons (em_var rfl (vis_by (by kernel_rfl))) am_nil)) (fun _ _ _ _ _ _ _ => (gm_tup (n := 2) rfl rfl (gm_cons (gm_name nd rfl (loc_by (by kernel_rfl)) (by first | exact .inl rfl | exact .inr rfl)) (gm_cons (gm_name nd rfl (loc_by (by kernel_rfl)) (by first | exact .inl rfl | exact .inr rfl)) gm_nil)) rfl)) (fun _ _ _ _ _ _ _ hg_ => ts_nil) (fun _ _ _ _ _ _ _ hg_ => (em_tup t (am_cons (em_op op_sub ok_minus em_int (em_var rfl (vis_by (by kernel_rfl)))) (am_cons (em_var rfl (vis_by (by kernel_rfl))) am_nil)))))) (.inl rfl)) (sm_cons (sm_for po rfl (im_LT rfl (em_sl t false rfl (em_var rfl (vis_by (by kernel_rfl))) om_none (om_some (em_op op_sub ok_minus (em_var rfl (vis_by (by kernel_rfl))) (em_callB (c_sum rfl rfl) k_sum rfl q1 boot_sum (am_cons (em_var rfl (vis_by (by kernel_rfl))) am_nil)))))) (gm_tup (n := 2) rfl rfl (gm_cons (gm_name nd rfl (loc_by (by kernel_rfl)) (by first | exact .inl rfl | exact .inr rfl)) (gm_cons (gm_name nd rfl (loc_by (by kernel_rfl)) (by first | exact .inl rfl | exact .inr rfl)) gm_nil)) rfl) (sm_one (sm_augI t rfl (em_var rfl (vis_by (by kernel_rfl))) (em_var rfl (vis_by (by kernel_rfl))) em_int op_iadd (ok_iadd t)))) (sm_one (sm_ret (em_callTy (c_tuple rfl) (k_tuple t) rfl q0 boot_tuple (am_cons (em_var rfl (vis_by (by kernel_rfl))) am_nil)))))))))
def m_resale_right : MS := sSeq (sIf (mOr (mTB (mOp dLt (mVar 0) (mC (.int 0)))) (mOr (mTB (mOp dLt (mVar 2) (mC (.int 0)))) (mOr (mTB (mOp dEq (mCB bLen (mCons (mVar 1) (mNil))) (mC (.int 0)))) (mTB (mOp dNe (mOp ixD (mOp ixD (mVar 1) (mC (.int 0))) (mC (.int 0))) (mC (.int 0))))))) (sRaise 1) (sNext)) (sSeq (sIf (mTru (mGx (miZip (mCons (mVar 1) (mCons (mSl false (mVar 1) (mPS (mC (.int 1))) (mPN)) (mNil)))) [8, 9] (gmTup 2 (gmCons (gmName 8) (gmCons (gmName 9) (gmNil)))) (mYes) (mOp dLe (mOp ixD (mVar 9) (mC (.int 0))) (mOp ixD (mVar 8) (mC (.int 0)))) tkAny false fkB)) (sRaise 1) (sNext)) (sSeq (sAsg (mC (.int 0)) (gmName 3)) (sSeq (sFor (miEnum (mCons (mVar 1) (mNil))) (gmTup 2 (gmCons (gmName 4) (gmCons (gmTup 2 (gmCons (gmName 5) (gmCons (gmName 6) (gmNil)))) (gmNil)))) (sSeq (sAsg (mIf (mTB (mOp dLt (mOp (dPlus false) (mVar 4) (mC (.int 1))) (mCB bLen (mCons (mVar 1) (mNil))))) (mOp ixD (mOp ixD (mVar 1) (mOp (dPlus false) (mVar 4) (mC (.int 1)))) (mC (.int 0))) (mVar 0)) (gmName 7)) (sAug dIAdd 3 (mOp (dMul false) (mCB bMax2 (mCons (mC (.int 0)) (mCons (mOp (dMinus) (mCB bMin2 (mCons (mVar 0) (mCons (mVar 7) (mNil)))) (mVar 5)) (mNil)))) (mVar 6))))) (sRet (mCB bMin2 (mCons (mVar 2) (mCons (mOp (dDiv) (mVar 3) (mC (.int 10000))) (mNil))))))))
def f_resale_right : FM := runF ([Str.ofString "price", Str.ofString "rows", Str.ofString "most", Str.ofString "whole", Str.ofString "place", Str.ofString "first", Str.ofString "share", Str.ofString "end", Str.ofString "one", Str.ofString "two"] : List Str).length m_resale_right
theorem ok_resale_right {P : Program} {w : World} {K : PySem.W.Frag} {mg : Str → Option Value} {base h : Heap} (E : EV M w K mg base h) : Ok M P w K mg base 5 (dF 8 "resale_right") ["price", "rows", "most"] f_resale_right := by
  have t := M.ti K
  have q0 : mg "min" = none := E.free 42
  have q1 : mg "enumerate" = none := E.free 37
  have q2 : mg "max" = none := E.free 41
  have q3 : mg "len" = none := E.free 39
  have q4 : mg "zip" = none := E.free 47
  obtain ⟨TB, hmT, huT⟩ := E.tab 2 (q := (("resale_right", none), ("resale_right" : Str) ++ ".<locals>." ++ "<genexpr>")) rfl
  have q6 : mg "any" = none := E.free 36
  have q7 := E.exc 28 (x := "FeeError")
  have q8 : mg "FeeError" = some (.ref ((M.g K).exc 1)) := E.glo 27
  have S : FnScope [Str.ofString "price", Str.ofString "rows", Str.ofString "most", Str.ofString "whole", Str.ofString "place", Str.ofString "first", Str.ofString "share", Str.ofString "end", Str.ofString "one", Str.ofString "two"] ["price", "rows", "most"] (dF 8 "resale_right").scope := C8.fnScope_by (by kernel_rfl)
  have nd := S.nd
  unfold f_resale_right
  refine E.ok (d := dF 8 "resale_right") (N := [Str.ofString "price", Str.ofString "rows", Str.ofString "most", Str.ofString "whole", Str.ofString "place", Str.ofString "first", Str.ofString "share", Str.ofString "end", Str.ofString "one", Str.ofString "two"]) (ps := ["price", "rows", "most"]) (k := 4) (ms := m_resale_right) 10 (by kernel_rfl) S fun cdv A outer s H E' hcd hr tk po => ?_
  unfold m_resale_right
  exact (sm_cons (sm_if (em_pw (em_or (em_tcmp op_lt ok_lt (em_var rfl (vis_by (by kernel_rfl))) em_int rfl) (em_or (em_tcmp op_lt ok_lt (em_var rfl (vis_by (by kernel_rfl))) em_int rfl) (em_or (em_tcmp (op_eqK rfl (hr.units)) ok_eq (em_callB (c_len rfl) k_len rfl q3 boot_len (am_cons (em_var rfl (vis_by (by kernel_rfl))) am_nil)) em_int rfl) (em_or1 (em_tcmp (op_neK rfl (hr.units)) ok_ne (em_ixS rfl (em_ixS rfl (em_var rfl (vis_by (by kernel_rfl))) em_int (fun _ _ => rfl)) em_int (fun _ _ => rfl)) em_int rfl)))))) (sm_one (sm_raise (ci := 1) rfl tk PySem.F.excBase_ValueError q7.1 q8 q7.2.1 (raises_own q7.2.2.1 q7.2.2.2) rfl)) sm_nil) (sm_cons (sm_if (em_tru rfl (em_any (k := 0) (hr.mono (by decide)) rfl q6 (gxp_of (k := 0) (g := M.g K) rfl hr.depth TB hcd hmT huT nd (blkOk_by (own := [("one", 8), ("two", 9)]) (by kernel_rfl)) rfl (by decide) (by decide +kernel) rfl (by kernel_rfl) (im_zip t rfl rfl q4 (am_cons (em_var rfl (vis_by (by kernel_rfl))) (am_cons (em_sl t false rfl (em_var rfl (vis_by (by kernel_rfl))) (om_some em_int) om_none) am_nil))) (fun _ _ _ _ _ _ _ => (gm_tup (n := 2) rfl rfl (gm_cons (gm_name nd rfl (loc_by (by kernel_rfl)) (by first | exact .inl rfl | exact .inr rfl)) (gm_cons (gm_name nd rfl (loc_by (by kernel_rfl)) (by first | exact .inl rfl | exact .inr rfl)) gm_nil)) rfl)) (fun _ _ _ _ _ _ _ hg_ => ts_nil) (fun _ _ _ _ _ _ _ hg_ => (em_cmp op_le ok_le (em_ixS rfl (em_var rfl (vis_by (by kernel_rfl))) em_int (fun _ _ => rfl)) (em_ixS rfl (em_var rfl (vis_by (by kernel_rfl))) em_int (fun _ _ => rfl)) rfl)))) (fun _ => rfl)) (sm_one (sm_raise (ci := 1) rfl tk PySem.F.excBase_ValueError q7.1 q8 q7.2.1 (raises_own q7.2.2.1 q7.2.2.2) rfl)) sm_nil) (sm_cons (sm_set nd rfl (loc_by (by kernel_rfl)) em_int (.inl rfl)) (sm_cons (sm_for po rfl (im_enum t rfl rfl q1 (am_cons (em_var rfl (vis_by (by kernel_rfl))) am_nil)) (gm_tup (n := 2) rfl rfl (gm_cons (gm_name nd rfl (loc_by (by kernel_rfl)) (by first | exact .inl rfl | exact .inr rfl)) (gm_cons (gm_tup (n := 2) rfl rfl (gm_cons (gm_name nd rfl (loc_by (by kernel_rfl)) (by first | exact .inl rfl | exact .inr rfl)) (gm_cons (gm_name nd rfl (loc_by (by kernel_rfl)) (by first | exact .inl rfl | exact .inr rfl)) gm_nil)) rfl) gm_nil)) rfl) (sm_cons (sm_set nd rfl (loc_by (by kernel_rfl)) (em_ifE (em_tcmp op_lt ok_lt (em_op op_plus (ok_plus t false) (em_var rfl (vis_by (by kernel_rfl))) em_int) (em_callB (c_len rfl) k_len rfl q3 boot_len (am_cons (em_var rfl (vis_by (by kernel_rfl))) am_nil)) rfl) (em_ixS rfl (em_ixS rfl (em_var rfl (vis_by (by kernel_rfl))) (em_op op_plus (ok_plus t false) (em_var rfl (vis_by (by kernel_rfl))) em_int) (fun _ _ => rfl)) em_int (fun _ _ => rfl)) (em_var rfl (vis_by (by kernel_rfl)))) (.inl rfl)) (sm_one (sm_aug nd rfl (loc_by (by kernel_rfl)) (em_op op_times (ok_mul t false) (em_callB (call_max2 rfl) k_max2 rfl q2 boot_max (am_cons em_int (am_cons (em_op op_sub ok_minus (em_callB (call_min2 rfl) k_min2 rfl q0 boot_min (am_cons (em_var rfl (vis_by (by kernel_rfl))) (am_cons (em_var rfl (vis_by (by kernel_rfl))) am_nil))) (em_var rfl (vis_by (by kernel_rfl)))) am_nil))) (em_var rfl (vis_by (by kernel_rfl)))) op_iadd (ok_iadd t) (.inl rfl))))) (sm_one (sm_ret (em_callB (call_min2 rfl) k_min2 rfl q0 boot_min (am_cons (em_var rfl (vis_by (by kernel_rfl))) (am_cons (em_op op_fdiv ok_div (em_var rfl (vis_by (by kernel_rfl))) em_int) am_nil)))))))))
def m_fee_gap : MS := sSeq (sFor (miLT (mVar 2)) (gmName 3) (sIf (mTB (mOp dLt (mMeth 0 "buyer_pays" (fun xs => f_fees_buyer_pays (xs ++ [])) (mVar 0) (mCons (mVar 3) (mNil))) (mMeth 0 "buyer_pays" (fun xs => f_fees_buyer_pays (xs ++ [])) (mVar 1) (mCons (mVar 3) (mNil))))) (sRet (mVar 3)) (sNext))) (sRet (mC .non))
def f_fee_gap : FM := runF ([Str.ofString "one", Str.ofString "other", Str.ofString "prices", Str.ofString "price"] : List Str).length m_fee_gap
theorem ok_fee_gap {P : Program} {w : World} {K : PySem.W.Frag} {mg : Str → Option Value} {base h : Heap} (E : EV M w K mg base h) : Ok M P w K mg base 4 (dF 9 "fee_gap") ["one", "other", "prices"] f_fee_gap := by
  have t := M.ti K
  obtain ⟨fd_fees_buyer_pays, F_fees_buyer_pays, q0⟩ := ok_fees_buyer_pays E (P := P)
  have q1 : Binds K fd_fees_buyer_pays ["self", "price"] [] := F_fees_buyer_pays.bindsN fun _ _ _ _ _ _ us hl => match us, hl with | [_, _], _ => rfl
  have S : FnScope [Str.ofString "one", Str.ofString "other", Str.ofString "prices", Str.ofString "price"] ["one", "other", "prices"] (dF 9 "fee_gap").scope := C8.fnScope_by (by kernel_rfl)
  have nd := S.nd
  unfold f_fee_gap
  refine E.ok (d := dF 9 "fee_gap") (N := [Str.ofString "one", Str.ofString "other", Str.ofString "prices", Str.ofString "price"]) (ps := ["one", "other", "prices"]) (k := 3) (ms := m_fee_gap) 11 (by kernel_rfl) S fun cdv A outer s H E' hcd hr tk po => ?_
  unfold m_fee_gap
  exact (sm_cons (sm_for po rfl (im_LT rfl (em_var rfl (vis_by (by kernel_rfl)))) (gm_name nd rfl (loc_by (by kernel_rfl)) (by first | exact .inl rfl | exact .inr rfl)) (sm_one (sm_if (em_tcmp op_lt ok_lt (em_meth (ci := 0) rfl tk (em_var rfl (vis_by (by kernel_rfl))) (E.cls 14) (E.meth 19) q0 (hr.mono (by decide)) q1 .nil (fun _ _ => by simp [VRs]) rfl (len_cons (fun _ _ _ _ => len_nil)) (am_cons (em_var rfl (vis_by (by kernel_rfl))) am_nil)) (em_meth (ci := 0) rfl tk (em_var rfl (vis_by (by kernel_rfl))) (E.cls 14) (E.meth 19) q0 (hr.mono (by decide)) q1 .nil (fun _ _ => by simp [VRs]) rfl (len_cons (fun _ _ _ _ => len_nil)) (am_cons (em_var rfl (vis_by (by kernel_rfl))) am_nil)) rfl) (sm_one (sm_ret (em_var rfl (vis_by (by kernel_rfl))))) sm_nil))) (sm_one (sm_ret em_non)))
def m_law_dice : MS := sSeq (sIf (mTB (mChain dLt dLt (mOp (dMinus) (mC (.int 0)) (mC (.int 10))) (mVar 0) (mC (.int 10)))) (sRet (mLst true (mCons (mCB bAbs (mCons (mVar 0) (mNil))) (mCons (mC (.int 0)) (mCons (mC (.int 2)) (mNil)))))) (sNext)) (sRet (mLst true (mCons (mVar 0) (mCons (mOp (dPlus false) (mC (.int 1)) (mOp (dMod) (mCB bInt (mCons (mVar 0) (mNil))) (mC (.int 1009)))) (mCons (mCB bInt (mCons (mOp dGe (mVar 0) (mOp (dPow) (mC (.int 10)) (mC (.int 18)))) (mNil))) (mNil))))))
def f_law_dice : FM := runF ([Str.ofString "cell"] : List Str).length m_law_dice
theorem ok_law_dice {P : Program} {w : World} {K : PySem.W.Frag} {mg : Str → Option Value} {base h : Heap} (E : EV M w K mg base h) : Ok M P w K mg base 1 (dF 11 "_law_dice") ["cell"] f_law_dice := by
  have t := M.ti K
  have q0 : mg "int" = none := E.free 38
  have q1 : mg "abs" = none := E.free 35
  have S : FnScope [Str.ofString "cell"] ["cell"] (dF 11 "_law_dice").scope := C8.fnScope_by (by kernel_rfl)
  have nd := S.nd
  unfold f_law_dice
  refine E.ok (d := dF 11 "_law_dice") (N := [Str.ofString "cell"]) (ps := ["cell"]) (k := 0) (ms := m_law_dice) 12 (by kernel_rfl) S fun cdv A outer s H E' hcd hr tk po => ?_
  unfold m_law_dice
  exact (sm_cons (sm_if (em_tchain op_lt op_lt ok_lt ok_lt (em_op op_sub ok_minus em_int em_int) (em_var rfl (vis_by (by kernel_rfl))) em_int rfl) (sm_one (sm_ret (em_lst t true (am_cons (em_callB call_abs k_abs rfl q1 boot_abs (am_cons (em_var rfl (vis_by (by kernel_rfl))) am_nil)) (am_cons em_int (am_cons em_int am_nil)))))) sm_nil) (sm_one (sm_ret (em_lst t true (am_cons (em_var rfl (vis_by (by kernel_rfl))) (am_cons (em_op op_plus (ok_plus t false) em_int (em_op op_mod ok_mod (em_callTy call_int1 k_int rfl q0 boot_int (am_cons (em_var rfl (vis_by (by kernel_rfl))) am_nil)) em_int)) (am_cons (em_callTy call_int1 k_int rfl q0 boot_int (am_cons (em_cmp op_ge ok_ge (em_var rfl (vis_by (by kernel_rfl))) (em_op op_pow ok_pow em_int em_int) rfl) am_nil)) am_nil)))))))
def m_law_roll : MS := sSeq (sIf (mOr (mTB (mOp dEq (mOp ixD (mVar 0) (mC (.int 2))) (mC (.int 2)))) (mAnd (mTB (mOp dEq (mOp ixD (mVar 0) (mC (.int 2))) (mC (.int 1)))) (mTB (mOp dGt (mOp ixD (mVar 0) (mC (.int 0))) (mC (.int 0)))))) (sSeq (sAsg (mOp (dMod) (mCB bInt (mCons (mOp ixD (mVar 0) (mC (.int 0))) (mNil))) (mVar 1)) (gmName 2)) (sSeq (sAsg (mOp (dDiv) (mOp ixD (mVar 0) (mC (.int 0))) (mVar 1)) (gmSub (mVar 0) (mC (.int 0)))) (sRet (mVar 2)))) (sNext)) (sSeq (sAsg (mC (.int 0)) (gmSub (mVar 0) (mC (.int 2)))) (sSeq (sIf (mTB (mOp dGt (mVar 1) (mC (.int 100000000)))) (sStuck) (sNext)) (sSeq (sAsg (mOp (dMod) (mCB bInt (mCons (mOp (dPlus false) (mOp (dPlus false) (mOp (dMul false) (mOp ixD (mVar 0) (mC (.int 0))) (mC (.int 48271))) (mOp (dMul false) (mOp ixD (mVar 0) (mC (.int 1))) (mC (.int 69621)))) (mC (.int 11))) (mNil))) (mC (.int 2147483647))) (gmSub (mVar 0) (mC (.int 0)))) (sSeq (sAsg (mOp (dPlus false) (mOp ixD (mVar 0) (mC (.int 1))) (mC (.int 1))) (gmSub (mVar 0) (mC (.int 1)))) (sRet (mOp (dMod) (mCB bInt (mCons (mOp (dDiv) (mOp ixD (mVar 0) (mC (.int 0))) (mC (.int 7))) (mNil))) (mVar 1)))))))
def f_law_roll : FM := runF ([Str.ofString "dice", Str.ofString "many", Str.ofString "found"] : List Str).length m_law_roll
theorem ok_law_roll {P : Program} {w : World} {K : PySem.W.Frag} {mg : Str → Option Value} {base h : Heap} (E : EV M w K mg base h) : Ok M P w K mg base 1 (dF 12 "_law_roll") ["dice", "many"] f_law_roll := by
  have t := M.ti K
  have q0 : mg "int" = none := E.free 38
  have S : FnScope [Str.ofString "dice", Str.ofString "many", Str.ofString "found"] ["dice", "many"] (dF 12 "_law_roll").scope := C8.fnScope_by (by kernel_rfl)
  have nd := S.nd
  unfold f_law_roll
  refine E.ok (d := dF 12 "_law_roll") (N := [Str.ofString "dice", Str.ofString "many", Str.ofString "found"]) (ps := ["dice", "many"]) (k := 0) (ms := m_law_roll) 13 (by kernel_rfl) S fun cdv A outer s H E' hcd hr tk po => ?_
  unfold m_law_roll
  exact (sm_cons (sm_if (em_pw (em_or (em_tcmp (op_eqK rfl (hr.units)) ok_eq (em_ixS rfl (em_var rfl (vis_by (by kernel_rfl))) em_int (fun _ _ => rfl)) em_int rfl) (em_or1 (em_pw (em_and (em_tcmp (op_eqK rfl (hr.units)) ok_eq (em_ixS rfl (em_var rfl (vis_by (by kernel_rfl))) em_int (fun _ _ => rfl)) em_int rfl) (em_and1 (em_tcmp op_gt ok_gt (em_ixS rfl (em_var rfl (vis_by (by kernel_rfl))) em_int (fun _ _ => rfl)) em_int rfl))))))) (sm_cons (sm_set nd rfl (loc_by (by kernel_rfl)) (em_op op_mod ok_mod (em_callTy call_int1 k_int rfl q0 boot_int (am_cons (em_ixS rfl (em_var rfl (vis_by (by kernel_rfl))) em_int (fun _ _ => rfl)) am_nil)) (em_var rfl (vis_by (by kernel_rfl)))) (.inl rfl)) (sm_cons (sm_asg (em_op op_fdiv ok_div (em_ixS rfl (em_var rfl (vis_by (by kernel_rfl))) em_int (fun _ _ => rfl)) (em_var rfl (vis_by (by kernel_rfl)))) (gm_sub t (em_var rfl (vis_by (by kernel_rfl))) em_int)) (sm_one (sm_ret (em_var rfl (vis_by (by kernel_rfl))))))) sm_nil) (sm_cons (sm_asg em_int (gm_sub t (em_var rfl (vis_by (by kernel_rfl))) em_int)) (sm_cons (sm_if (em_tcmp op_gt ok_gt (em_var rfl (vis_by (by kernel_rfl))) em_int rfl) (sm_one sm_stuck) sm_nil) (sm_cons (sm_asg (em_op op_mod ok_mod (em_callTy call_int1 k_int rfl q0 boot_int (am_cons (em_op op_plus (ok_plus t false) (em_op op_plus (ok_plus t false) (em_op op_times (ok_mul t false) (em_ixS rfl (em_var rfl (vis_by (by kernel_rfl))) em_int (fun _ _ => rfl)) em_int) (em_op op_times (ok_mul t false) (em_ixS rfl (em_var rfl (vis_by (by kernel_rfl))) em_int (fun _ _ => rfl)) em_int)) em_int) am_nil)) em_int) (gm_sub t (em_var rfl (vis_by (by kernel_rfl))) em_int)) (sm_cons (sm_asg (em_op op_plus (ok_plus t false) (em_ixS rfl (em_var rfl (vis_by (by kernel_rfl))) em_int (fun _ _ => rfl)) em_int) (gm_sub t (em_var rfl (vis_by (by kernel_rfl))) em_int)) (sm_one (sm_ret (em_op op_mod ok_mod (em_callTy call_int1 k_int rfl q0 boot_int (am_cons (em_op op_fdiv ok_div (em_ixS rfl (em_var rfl (vis_by (by kernel_rfl))) em_int (fun _ _ => rfl)) em_int) am_nil)) (em_var rfl (vis_by (by kernel_rfl)))))))))))
def m_law_rounds : MS := sSeq (sAsg (mSl false (mVar 0) (mPN) (mPS (mVar 1))) (gmName 2)) (sSeq (sIf (mTB (mOp dEq (mVar 2) (mLst false (mNil)))) (sAsg (mLst false (mCons (mC (.int 0)) (mNil))) (gmName 2)) (sNext)) (sRet (mLc false (miLT (mVar 2)) [3] (gmName 3) (mYes) (mCall (fun xs => f_law_dice (xs ++ [])) (mCons (mVar 3) (mNil))))))
def f_law_rounds : FM := runF ([Str.ofString "script", Str.ofString "most", Str.ofString "cells", Str.ofString "cell"] : List Str).length m_law_rounds
theorem ok_law_rounds {P : Program} {w : World} {K : PySem.W.Frag} {mg : Str → Option Value} {base h : Heap} (E : EV M w K mg base h) : Ok M P w K mg base 2 (dF 13 "_law_rounds") ["script", "most"] f_law_rounds := by
  have t := M.ti K
  obtain ⟨fd_law_dice, F_law_dice, q0⟩ := ok_law_dice E (P := P)
  have q1 : Binds K fd_law_dice ["cell"] [] := F_law_dice.bindsN fun _ _ _ _ _ _ us hl => match us, hl with | [_], _ => rfl
  have q2 : mg "_law_dice" = some (.ref (He.fAd K ("_law_dice", none))) := E.glo 4
  have S : FnScope [Str.ofString "script", Str.ofString "most", Str.ofString "cells", Str.ofString "cell"] ["script", "most"] (dF 13 "_law_rounds").scope := C8.fnScope_by (by kernel_rfl)
  have nd := S.nd
  unfold f_law_rounds
  refine E.ok (d := dF 13 "_law_rounds") (N := [Str.ofString "script", Str.ofString "most", Str.ofString "cells", Str.ofString "cell"]) (ps := ["script", "most"]) (k := 1) (ms := m_law_rounds) 14 (by kernel_rfl) S fun cdv A outer s H E' hcd hr tk po => ?_
  unfold m_law_rounds
  exact (sm_cons (sm_set nd rfl (loc_by (by kernel_rfl)) (em_sl t false rfl (em_var rfl (vis_by (by kernel_rfl))) om_none (om_some (em_var rfl (vis_by (by kernel_rfl))))) (.inl rfl)) (sm_cons (sm_if (em_tcmp (op_eqK rfl (hr.units)) ok_eq (em_var rfl (vis_by (by kernel_rfl))) (em_lst t false am_nil) rfl) (sm_one (sm_set nd rfl (loc_by (by kernel_rfl)) (em_lst t false (am_cons em_int am_nil)) (.inl rfl))) sm_nil) (sm_one (sm_ret (em_lc t false rfl nd (im_LT rfl (em_var rfl (vis_by (by kernel_rfl)))) (blkOk_by (own := [("cell", 3)]) (by kernel_rfl)) rfl (by decide) (fun _ _ _ _ _ => (gm_name nd rfl (loc_by (by kernel_rfl)) (by first | exact .inl rfl | exact .inr rfl))) (fun _ _ _ _ _ => ts_nil) (fun _ _ _ _ _ => (em_call rfl LamX.takes0 q0 (hr.mono (by decide)) rfl q2 F_law_dice.kp q1 .nil (fun _ _ => by simp [VRs]) rfl (len_cons (fun _ _ _ _ => len_nil)) (am_cons (em_var rfl (vis_by (by kernel_rfl))) am_nil))))))))
def m_law_told : MS := sStuck
def f_law_told : FM := runF ([Str.ofString "what"] : List Str).length m_law_told
theorem ok_law_told {P : Program} {w : World} {K : PySem.W.Frag} {mg : Str → Option Value} {base h : Heap} (E : EV M w K mg base h) : Ok M P w K mg base 1 (dF 14 "_law_told") ["what"] f_law_told := by
  have t := M.ti K
  have S : FnScope [Str.ofString "what"] ["what"] (dF 14 "_law_told").scope := C8.fnScope_by (by kernel_rfl)
  have nd := S.nd
  unfold f_law_told
  refine E.ok (d := dF 14 "_law_told") (N := [Str.ofString "what"]) (ps := ["what"]) (k := 0) (ms := m_law_told) 15 (by kernel_rfl) S fun cdv A outer s H E' hcd hr tk po => ?_
  unfold m_law_told
  exact (sm_one sm_stuck)
def m_law_sum : MS := sRet (mCB bSum (mCons (mLc false (miCall rg1D (mCons (mVar 1) (mNil))) [2] (gmName 2) (mYes) (mOp ixD (mLc false (miLT (mVar 0)) [3, 4] (gmTup 2 (gmCons (gmName 3) (gmCons (gmName 4) (gmNil)))) (mTB (mOp dLe (mVar 3) (mVar 2))) (mVar 4)) (mNeg (mC (.int 1))))) (mNil)))
def f_law_sum : FM := runF ([Str.ofString "bands", Str.ofString "price", Str.ofString "cent", Str.ofString "first", Str.ofString "share"] : List Str).length m_law_sum
theorem ok_law_sum {P : Program} {w : World} {K : PySem.W.Frag} {mg : Str → Option Value} {base h : Heap} (E : EV M w K mg base h) : Ok M P w K mg base 1 (dF 15 "_law_sum") ["bands", "price"] f_law_sum := by
  have t := M.ti K
  have q0 : mg "range" = none := E.free 43
  have q1 : mg "sum" = none := E.free 45
  have S : FnScope [Str.ofString "bands", Str.ofString "price", Str.ofString "cent", Str.ofString "first", Str.ofString "share"] ["bands", "price"] (dF 15 "_law_sum").scope := C8.fnScope_by (by kernel_rfl)
  have nd := S.nd
  unfold f_law_sum
  refine E.ok (d := dF 15 "_law_sum") (N := [Str.ofString "bands", Str.ofString "price", Str.ofString "cent", Str.ofString "first", Str.ofString "share"]) (ps := ["bands", "price"]) (k := 0) (ms := m_law_sum) 16 (by kernel_rfl) S fun cdv A outer s H E' hcd hr tk po => ?_
  unfold m_law_sum
  exact (sm_one (sm_ret (em_callB (c_sum rfl rfl) k_sum rfl q1 boot_sum (am_cons (em_lc t false rfl nd (im_rg1 rfl q0 (am_cons (em_var rfl (vis_by (by kernel_rfl))) am_nil)) (blkOk_by (own := [("cent", 2)]) (by kernel_rfl)) rfl (by decide) (fun _ _ _ _ _ => (gm_name nd rfl (loc_by (by kernel_rfl)) (by first | exact .inl rfl | exact .inr rfl))) (fun _ _ _ _ _ => ts_nil) (fun _ _ _ _ _ => (em_ixS rfl (em_lc t false rfl nd (im_LT rfl (em_var rfl (vis_by (by kernel_rfl)))) (blkOk_by (own := [("first", 3), ("share", 4)]) (by kernel_rfl)) rfl (by decide) (fun _ _ _ _ _ => (gm_tup (n := 2) rfl rfl (gm_cons (gm_name nd rfl (loc_by (by kernel_rfl)) (by first | exact .inl rfl | exact .inr rfl)) (gm_cons (gm_name nd rfl (loc_by (by kernel_rfl)) (by first | exact .inl rfl | exact .inr rfl)) gm_nil)) rfl)) (fun _ _ _ _ _ => (ts_one (em_tcmp op_le ok_le (em_var rfl (vis_by (by kernel_rfl))) (em_var rfl (vis_by (by kernel_rfl))) rfl))) (fun _ _ _ _ _ => (em_var rfl (vis_by (by kernel_rfl))))) (em_neg em_int) (fun _ _ => rfl)))) am_nil))))
def m_law_bands : MS := sSeq (sPar [2, 3] (mCons (mLst false (mNil)) (mCons (mC (.int 0)) (mNil)))) (sSeq (sFor (miCall rg1D (mCons (mOp (dPlus false) (mC (.int 1)) (mCall (fun xs => f_law_roll (xs ++ [])) (mCons (mVar 0) (mCons (mC (.int 3)) (mNil))))) (mNil))) (gmName 4) (sSeq (sAsg (mOp (dPlus false) (mVar 2) (mLst false (mCons (mTup (mCons (mVar 3) (mCons (mCall (fun xs => f_law_roll (xs ++ [])) (mCons (mVar 0) (mCons (mOp (dPlus false) (mVar 1) (mC (.int 1))) (mNil)))) (mNil)))) (mNil)))) (gmName 2)) (sAsg (mOp (dPlus false) (mOp (dPlus false) (mVar 3) (mC (.int 1))) (mCall (fun xs => f_law_roll (xs ++ [])) (mCons (mVar 0) (mCons (mC (.int 60)) (mNil))))) (gmName 3)))) (sRet (mVar 2)))
def f_law_bands : FM := runF ([Str.ofString "dice", Str.ofString "most", Str.ofString "rows", Str.ofString "first", Str.ofString "k"] : List Str).length m_law_bands
theorem ok_law_bands {P : Program} {w : World} {K : PySem.W.Frag} {mg : Str → Option Value} {base h : Heap} (E : EV M w K mg base h) : Ok M P w K mg base 2 (dF 16 "_law_bands") ["dice", "most"] f_law_bands := by
  have t := M.ti K
  obtain ⟨fd_law_roll, F_law_roll, q0⟩ := ok_law_roll E (P := P)
  have q1 : Binds K fd_law_roll ["dice", "many"] [] := F_law_roll.bindsN fun _ _ _ _ _ _ us hl => match us, hl with | [_, _], _ => rfl
  have q2 : mg "_law_roll" = some (.ref (He.fAd K ("_law_roll", none))) := E.glo 5
  have q3 : mg "range" = none := E.free 43
  have S : FnScope [Str.ofString "dice", Str.ofString "most", Str.ofString "rows", Str.ofString "first", Str.ofString "k"] ["dice", "most"] (dF 16 "_law_bands").scope := C8.fnScope_by (by kernel_rfl)
  have nd := S.nd
  unfold f_law_bands
  refine E.ok (d := dF 16 "_law_bands") (N := [Str.ofString "dice", Str.ofString "most", Str.ofString "rows", Str.ofString "first", Str.ofString "k"]) (ps := ["dice", "most"]) (k := 1) (ms := m_law_bands) 17 (by kernel_rfl) S fun cdv A outer s H E' hcd hr tk po => ?_
  unfold m_law_bands
  exact (sm_cons (sm_par rfl nd rfl rfl (by decide) rfl rfl (am_cons (em_lst t false am_nil) (am_cons em_int am_nil)) rfl) (sm_cons (sm_for po rfl (im_rg1 rfl q3 (am_cons (em_op op_plus (ok_plus t false) em_int (em_call rfl tk q0 (hr.mono (by decide)) rfl q2 F_law_roll.kp q1 .nil (fun _ _ => by simp [VRs]) rfl (len_cons (len_cons (fun _ _ _ _ => len_nil))) (am_cons (em_var rfl (vis_by (by kernel_rfl))) (am_cons em_int am_nil)))) am_nil)) (gm_name nd rfl (loc_by (by kernel_rfl)) (by first | exact .inl rfl | exact .inr rfl)) (sm_cons (sm_set nd rfl (loc_by (by kernel_rfl)) (em_op op_plus (ok_plus t false) (em_var rfl (vis_by (by kernel_rfl))) (em_lst t false (am_cons (em_tup t (am_cons (em_var rfl (vis_by (by kernel_rfl))) (am_cons (em_call rfl tk q0 (hr.mono (by decide)) rfl q2 F_law_roll.kp q1 .nil (fun _ _ => by simp [VRs]) rfl (len_cons (len_cons (fun _ _ _ _ => len_nil))) (am_cons (em_var rfl (vis_by (by kernel_rfl))) (am_cons (em_op op_plus (ok_plus t false) (em_var rfl (vis_by (by kernel_rfl))) em_int) am_nil))) am_nil))) am_nil))) (.inl rfl)) (sm_one (sm_set nd rfl (loc_by (by kernel_rfl)) (em_op op_plus (ok_plus t false) (em_op op_plus (ok_plus t false) (em_var rfl (vis_by (by kernel_rfl))) em_int) (em_call rfl tk q0 (hr.mono (by decide)) rfl q2 F_law_roll.kp q1 .nil (fun _ _ => by simp [VRs]) rfl (len_cons (len_cons (fun _ _ _ _ => len_nil))) (am_cons (em_var rfl (vis_by (by kernel_rfl))) (am_cons em_int am_nil)))) (.inl rfl))))) (sm_one (sm_ret (em_var rfl (vis_by (by kernel_rfl)))))))
def m_law_half : MS := sRet (mOp (dPlus false) (mOp (dDiv) (mVar 0) (mVar 1)) (mCB bInt (mCons (mOp dGe (mOp (dMul false) (mC (.int 2)) (mOp (dMod) (mVar 0) (mVar 1))) (mVar 1)) (mNil))))
def f_law_half : FM := runF ([Str.ofString "number", Str.ofString "below"] : List Str).length m_law_half
theorem ok_law_half {P : Program} {w : World} {K : PySem.W.Frag} {mg : Str → Option Value} {base h : Heap} (E : EV M w K mg base h) : Ok M P w K mg base 1 (dF 17 "_law_half") ["number", "below"] f_law_half := by
  have t := M.ti K
  have q0 : mg "int" = none := E.free 38
  have S : FnScope [Str.ofString "number", Str.ofString "below"] ["number", "below"] (dF 17 "_law_half").scope := C8.fnScope_by (by kernel_rfl)
  have nd := S.nd
  unfold f_law_half
  refine E.ok (d := dF 17 "_law_half") (N := [Str.ofString "number", Str.ofString "below"]) (ps := ["number", "below"]) (k := 0) (ms := m_law_half) 18 (by kernel_rfl) S fun cdv A outer s H E' hcd hr tk po => ?_
  unfold m_law_half
  exact (sm_one (sm_ret (em_op op_plus (ok_plus t false) (em_op op_fdiv ok_div (em_var rfl (vis_by (by kernel_rfl))) (em_var rfl (vis_by (by kernel_rfl)))) (em_callTy call_int1 k_int rfl q0 boot_int (am_cons (em_cmp op_ge ok_ge (em_op op_times (ok_mul t false) em_int (em_op op_mod ok_mod (em_var rfl (vis_by (by kernel_rfl))) (em_var rfl (vis_by (by kernel_rfl))))) (em_var rfl (vis_by (by kernel_rfl))) rfl) am_nil)))))
def tab_law_plain : List LamT := [lamAt (dF 18 "_law_plain").body 5 0, lamAt (dF 18 "_law_plain").body 5 1, lamAt (dF 18 "_law_plain").body 5 2, lamAt (dF 18 "_law_plain").body 5 3, lamAt (dF 18 "_law_plain").body 5 4, lamAt (dF 18 "_law_plain").body 6 0, lamAt (dF 18 "_law_plain").body 6 1, lamAt (dF 18 "_law_plain").body 6 2, lamAt (dF 18 "_law_plain").body 6 3, lamAt (dF 18 "_law_plain").body 7 0, lamAt (dF 18 "_law_plain").body 7 1, lamAt (dF 18 "_law_plain").body 7 2, lamAt (dF 18 "_law_plain").body 7 3, lamAt (dF 18 "_law_plain").body 7 4, lamAt (dF 18 "_law_plain").body 8 0, lamAt (dF 18 "_law_plain").body 8 1, lamAt (dF 18 "_law_plain").body 8 2, lamAt (dF 18 "_law_plain").body 8 3, lamAt (dF 18 "_law_plain").body 9 0, lamAt (dF 18 "_law_plain").body 9 1, lamAt (dF 18 "_law_plain").body 9 2, lamAt (dF 18 "_law_plain").body 9 3, lamAt (dF 18 "_law_plain").body 10 0, lamAt (dF 18 "_law_plain").body 10 1, lamAt (dF 18 "_law_plain").body 10 2]
def lms_law_plain : List ME := [mFrz (mMake 0 (fun xs => gdF f_fees_init (xs ++ [.int 0, .int 0])) (mCons (mTup (mNil)) (mNil))), mFrz (mMake 0 (fun xs => gdF f_fees_init (xs ++ [.int 0, .int 0])) (mCons (mTup (mCons (mTup (mCons (mC (.int 1)) (mCons (mC (.int 1)) (mNil)))) (mNil))) (mNil))), mFrz (mMake 0 (fun xs => gdF f_fees_init (xs ++ [.int 0, .int 0])) (mCons (mTup (mCons (mTup (mCons (mC (.int 0)) (mCons (mC (.int 1)) (mNil)))) (mCons (mTup (mCons (mC (.int 0)) (mCons (mC (.int 1)) (mNil)))) (mNil)))) (mNil))), mFrz (mMake 0 (fun xs => gdF f_fees_init (xs ++ [.int 0, .int 0])) (mCons (mTup (mCons (mTup (mCons (mC (.int 0)) (mCons (mC (.int 1001)) (mNil)))) (mNil))) (mNil))), mFrz (mMake 0 (fun xs => gdF f_fees_init (xs ++ [.int 0, .int 0])) (mCons (mTup (mCons (mTup (mCons (mC (.int 0)) (mCons (mNeg (mC (.int 1))) (mNil)))) (mNil))) (mNil))), mFrz (mMake 0 (fun xs => gdF f_fees_init (xs ++ [.int 0])) (mCons (mTup (mCons (mTup (mCons (mC (.int 0)) (mCons (mC (.int 1)) (mNil)))) (mNil))) (mCons (mNeg (mC (.int 1))) (mNil)))), mFrz (mMake 0 (fun xs => gdF f_fees_init (xs ++ [])) (mCons (mTup (mCons (mTup (mCons (mC (.int 0)) (mCons (mC (.int 1)) (mNil)))) (mNil))) (mCons (mC (.int 0)) (mCons (mC (.int 1001)) (mNil))))), mFrz (mMake 0 (fun xs => gdF f_fees_init (xs ++ [.int 0, .int 0])) (mCons (mCB bTuple (mCons (mLc false (miCall rg1D (mCons (mC (.int 11)) (mNil))) [3] (gmName 3) (mYes) (mTup (mCons (mVar 3) (mCons (mC (.int 1)) (mNil))))) (mNil))) (mNil))), mMeth 0 "fee_of" (fun xs => gdF f_fees_fee_of (xs ++ [])) (mVar 0) (mCons (mNeg (mC (.int 1))) (mNil)), mMeth 0 "duty_of" (fun xs => gdF f_fees_duty_of (xs ++ [])) (mVar 0) (mCons (mNeg (mC (.int 1))) (mNil)), mMeth 0 "buyer_pays" (fun xs => gdF f_fees_buyer_pays (xs ++ [])) (mVar 0) (mCons (mNeg (mC (.int 1))) (mNil)), mMeth 0 "seller_gets" (fun xs => gdF f_fees_seller_gets (xs ++ [])) (mVar 0) (mCons (mNeg (mC (.int 1))) (mNil)), mMeth 0 "price_for" (fun xs => gdF f_fees_price_for (xs ++ [])) (mVar 0) (mCons (mNeg (mC (.int 1))) (mNil)), mMeth 0 "share_of" (fun xs => gdF f_fees_share_of (xs ++ [])) (mVar 0) (mCons (mC (.int 0)) (mNil)), mMeth 0 "band_parts" (fun xs => gdF f_fees_band_parts (xs ++ [])) (mVar 0) (mCons (mNeg (mC (.int 1))) (mNil)), mCall (fun xs => gdF f_split_whole (xs ++ [])) (mCons (mNeg (mC (.int 1))) (mCons (mVar 0) (mCons (mVar 0) (mNil)))), mCall (fun xs => gdF f_shared_cost (xs ++ [])) (mCons (mNeg (mC (.int 1))) (mCons (mTup (mCons (mC (.int 1)) (mNil))) (mNil))), mCall (fun xs => gdF f_shared_cost (xs ++ [])) (mCons (mC (.int 1)) (mCons (mTup (mNil)) (mNil))), mCall (fun xs => gdF f_shared_cost (xs ++ [])) (mCons (mC (.int 1)) (mCons (mTup (mCons (mNeg (mC (.int 1))) (mNil))) (mNil))), mCall (fun xs => gdF f_resale_right (xs ++ [])) (mCons (mNeg (mC (.int 1))) (mCons (mTup (mCons (mTup (mCons (mC (.int 0)) (mCons (mC (.int 1)) (mNil)))) (mNil))) (mCons (mC (.int 1)) (mNil)))), mCall (fun xs => gdF f_resale_right (xs ++ [])) (mCons (mC (.int 1)) (mCons (mTup (mCons (mTup (mCons (mC (.int 0)) (mCons (mC (.int 1)) (mNil)))) (mNil))) (mCons (mNeg (mC (.int 1))) (mNil)))), mCall (fun xs => gdF f_resale_right (xs ++ [])) (mCons (mC (.int 1)) (mCons (mTup (mNil)) (mCons (mC (.int 1)) (mNil)))), mCall (fun xs => gdF f_resale_right (xs ++ [])) (mCons (mC (.int 1)) (mCons (mTup (mCons (mTup (mCons (mC (.int 1)) (mCons (mC (.int 1)) (mNil)))) (mNil))) (mCons (mC (.int 1)) (mNil)))), mCall (fun xs => gdF f_resale_right (xs ++ [])) (mCons (mC (.int 1)) (mCons (mTup (mCons (mTup (mCons (mC (.int 0)) (mCons (mC (.int 1)) (mNil)))) (mCons (mTup (mCons (mC (.int 0)) (mCons (mC (.int 1)) (mNil)))) (mNil)))) (mCons (mC (.int 1)) (mNil)))), mCall (fun xs => gdF f_fee_gap (xs ++ [])) (mCons (mVar 0) (mCons (mVar 0) (mCons (mTup (mCons (mNeg (mC (.int 1))) (mNil))) (mNil))))]
def m_law_plain : MS := clS (sSeq (sAsg (mFrz (mMake 0 (fun xs => gdF f_fees_init (xs ++ [])) (mCons (mTup (mCons (mTup (mCons (mC (.int 0)) (mCons (mC (.int 250)) (mNil)))) (mCons (mTup (mCons (mC (.int 1000)) (mCons (mC (.int 200)) (mNil)))) (mNil)))) (mCons (mC (.int 10)) (mCons (mC (.int 190)) (mNil)))))) (gmName 0)) (sSeq (sAsg (mLst false (mCons (mMeth 0 "fee_of" (fun xs => gdF f_fees_fee_of (xs ++ [])) (mVar 0) (mCons (mC (.int 1500)) (mNil))) (mCons (mMeth 0 "fee_of" (fun xs => gdF f_fees_fee_of (xs ++ [])) (mVar 0) (mCons (mC (.int 1)) (mNil))) (mCons (mMeth 0 "duty_of" (fun xs => gdF f_fees_duty_of (xs ++ [])) (mVar 0) (mCons (mC (.int 1500)) (mNil))) (mCons (mMeth 0 "buyer_pays" (fun xs => gdF f_fees_buyer_pays (xs ++ [])) (mVar 0) (mCons (mC (.int 1500)) (mNil))) (mCons (mMeth 0 "seller_gets" (fun xs => gdF f_fees_seller_gets (xs ++ [])) (mVar 0) (mCons (mC (.int 1500)) (mNil))) (mCons (mMeth 0 "price_for" (fun xs => gdF f_fees_price_for (xs ++ [])) (mVar 0) (mCons (mC (.int 2000)) (mNil))) (mCons (mMeth 0 "price_for" (fun xs => gdF f_fees_price_for (xs ++ [])) (mVar 0) (mCons (mC (.int 5)) (mNil))) (mNil))))))))) (gmName 1)) (sSeq (sAsg (mOp (dPlus false) (mVar 1) (mLst false (mCons (mMeth 0 "share_of" (fun xs => gdF f_fees_share_of (xs ++ [])) (mVar 0) (mCons (mC (.int 1500)) (mNil))) (mCons (mMeth 0 "band_parts" (fun xs => gdF f_fees_band_parts (xs ++ [])) (mVar 0) (mCons (mC (.int 1500)) (mNil))) (mCons (mCall (fun xs => gdF f_split_whole (xs ++ [])) (mCons (mC (.int 1000)) (mCons (mVar 0) (mCons (mFrz (mMake 0 (fun xs => gdF f_fees_init (xs ++ [.int 0, .int 0])) (mCons (mTup (mCons (mTup (mCons (mC (.int 0)) (mCons (mC (.int 100)) (mNil)))) (mNil))) (mNil)))) (mNil))))) (mCons (mCall (fun xs => gdF f_shared_cost (xs ++ [])) (mCons (mC (.int 10)) (mCons (mTup (mCons (mC (.int 3)) (mCons (mC (.int 3)) (mCons (mC (.int 1)) (mNil))))) (mNil)))) (mCons (mCall (fun xs => gdF f_shared_cost (xs ++ [])) (mCons (mC (.int 5)) (mCons (mTup (mCons (mC (.int 0)) (mCons (mC (.int 0)) (mNil)))) (mNil)))) (mNil)))))))) (gmName 1)) (sSeq (sAsg (mOp (dPlus false) (mVar 1) (mLst false (mCons (mCall (fun xs => gdF f_resale_right (xs ++ [])) (mCons (mC (.int 100000)) (mCons (mTup (mCons (mTup (mCons (mC (.int 0)) (mCons (mC (.int 400)) (mNil)))) (mCons (mTup (mCons (mC (.int 50000)) (mCons (mC (.int 300)) (mNil)))) (mNil)))) (mCons (mC (.int 99999)) (mNil))))) (mCons (mCall (fun xs => gdF f_fee_gap (xs ++ [])) (mCons (mFrz (mMake 0 (fun xs => gdF f_fees_init (xs ++ [.int 0])) (mCons (mTup (mCons (mTup (mCons (mC (.int 0)) (mCons (mC (.int 100)) (mNil)))) (mNil))) (mCons (mC (.int 50)) (mNil))))) (mCons (mVar 0) (mCons (mTup (mCons (mC (.int 100)) (mCons (mC (.int 300)) (mCons (mC (.int 600)) (mNil))))) (mNil))))) (mCons (mMeth 0 "band_parts" (fun xs => gdF f_fees_band_parts (xs ++ [])) (mVar 0) (mCons (mC (.int 0)) (mNil))) (mNil)))))) (gmName 1)) (sSeq (sAsg (mOp (dPlus false) (mVar 1) (mLst false (mCons (mCall (fun xs => gdF f_fee_gap (xs ++ [])) (mCons (mVar 0) (mCons (mVar 0) (mCons (mTup (mCons (mC (.int 1)) (mNil))) (mNil))))) (mCons (mMeth 0 "price_for" (fun xs => gdF f_fees_price_for (xs ++ [])) (mFrz (mMake 0 (fun xs => gdF f_fees_init (xs ++ [.int 0, .int 0])) (mCons (mTup (mCons (mTup (mCons (mC (.int 0)) (mCons (mC (.int 0)) (mNil)))) (mNil))) (mNil)))) (mCons (mC (.int 7)) (mNil))) (mNil))))) (gmName 1)) (sSeq (sAsg (mLst false (mCons (mC (.clo 0)) (mCons (mC (.clo 1)) (mCons (mC (.clo 2)) (mCons (mC (.clo 3)) (mCons (mC (.clo 4)) (mNil))))))) (gmName 2)) (sSeq (sAsg (mOp (dPlus false) (mVar 2) (mLst false (mCons (mC (.clo 5)) (mCons (mC (.clo 6)) (mCons (mC (.clo 7)) (mCons (mC (.clo 8)) (mNil))))))) (gmName 2)) (sSeq (sAsg (mOp (dPlus false) (mVar 2) (mLst false (mCons (mC (.clo 9)) (mCons (mC (.clo 10)) (mCons (mC (.clo 11)) (mCons (mC (.clo 12)) (mCons (mC (.clo 13)) (mNil)))))))) (gmName 2)) (sSeq (sAsg (mOp (dPlus false) (mVar 2) (mLst false (mCons (mC (.clo 14)) (mCons (mC (.clo 15)) (mCons (mC (.clo 16)) (mCons (mC (.clo 17)) (mNil))))))) (gmName 2)) (sSeq (sAsg (mOp (dPlus false) (mVar 2) (mLst false (mCons (mC (.clo 18)) (mCons (mC (.clo 19)) (mCons (mC (.clo 20)) (mCons (mC (.clo 21)) (mNil))))))) (gmName 2)) (sSeq (sAsg (mOp (dPlus false) (mVar 2) (mLst false (mCons (mC (.clo 22)) (mCons (mC (.clo 23)) (mCons (mC (.clo 24)) (mNil)))))) (gmName 2)) (sSeq (sIf (mOr (mTB (mOp dNe (mLc false (miLT (mVar 2)) [4] (gmName 4) (mToldL 4 [4] (fun k => lms_law_plain.getD k mStuck) 1) (mC (.int 1))) (mLst false (mNil)))) (mTB (mOp dNe (mC (.int 10)) (mC (.int 10))))) (sRet (mC (.bl false))) (sNext)) (sRet (mOp dEq (mVar 1) (mLst false (mCons (mC (.int 350)) (mCons (mC (.int 10)) (mCons (mC (.int 67)) (mCons (mC (.int 1917)) (mCons (mC (.int 1083)) (mCons (mC (.int 1568)) (mCons (mC .non) (mCons (mC (.int 233)) (mCons (mTup (mCons (mTup (mCons (mC (.int 1000)) (mCons (mC (.int 250)) (mNil)))) (mCons (mTup (mCons (mC (.int 500)) (mCons (mC (.int 200)) (mNil)))) (mNil)))) (mCons (mTup (mCons (mC (.int 1298)) (mCons (mC (.int 900)) (mCons (mC (.int 350)) (mCons (mC (.int 48)) (mNil)))))) (mCons (mTup (mCons (mC (.int 5)) (mCons (mC (.int 4)) (mCons (mC (.int 1)) (mNil))))) (mCons (mTup (mCons (mC (.int 3)) (mCons (mC (.int 2)) (mNil)))) (mCons (mC (.int 3500)) (mCons (mC (.int 300)) (mCons (mTup (mNil)) (mCons (mC .non) (mCons (mC (.int 7)) (mNil)))))))))))))))))))))))))))))))))
def f_law_plain : FM := runF ([Str.ofString "fees", Str.ofString "told", Str.ofString "bad", Str.ofString "k", Str.ofString "f"] : List Str).length m_law_plain
theorem ok_law_plain {P : Program} {w : World} {K : PySem.W.Frag} {mg : Str → Option Value} {base h : Heap} (E : EV M w K mg base h) : Ok M P w K mg base 11 (dF 18 "_law_plain") [] f_law_plain := by
  have t := M.ti K
  obtain ⟨t_MOST_BANDS, q0⟩ := E.int 34 (x := "MOST_BANDS") (k := 10)
  obtain ⟨fd_fees_init, F_fees_init, q1⟩ := ok_fees_init E (P := P)
  obtain ⟨ds_fees_init_2, hd_fees_init_2, q2⟩ := F_fees_init.binds1 (ps := ["self", "bands", "least", "duty"]) 2 0 (by simp [He.DefD.dvs, dM, dF]) (by simp [He.DefD.dvs, dM, dF]) fun _ _ _ _ _ _ _ us its h1 h2 => match us, h1, its, h2 with | [_, _], _, [_, _], _ => ⟨_, rfl, rfl⟩
  have q3 : mg "Fees" = some (.ref ((M.g K).cls 0)) := E.glo 13
  obtain ⟨ds_fees_init_3, hd_fees_init_3, q4⟩ := F_fees_init.binds1 (ps := ["self", "bands", "least", "duty"]) 3 1 (by simp [He.DefD.dvs, dM, dF]) (by simp [He.DefD.dvs, dM, dF]) fun _ _ _ _ _ _ _ us its h1 h2 => match us, h1, its, h2 with | [_, _, _], _, [_, _], _ => ⟨_, rfl, rfl⟩
  obtain ⟨ds_fees_init_4, hd_fees_init_4, q5⟩ := F_fees_init.binds1 (ps := ["self", "bands", "least", "duty"]) 4 2 (by simp [He.DefD.dvs, dM, dF]) (by simp [He.DefD.dvs, dM, dF]) fun _ _ _ _ _ _ _ us its h1 h2 => match us, h1, its, h2 with | [_, _, _, _], _, [_, _], _ => ⟨_, rfl, rfl⟩
  have q6 : mg "range" = none := E.free 43
  have q7 : mg "tuple" = none := E.free 46
  obtain ⟨fd_fees_fee_of, F_fees_fee_of, q8⟩ := ok_fees_fee_of E (P := P)
  have q9 : Binds K fd_fees_fee_of ["self", "price"] [] := F_fees_fee_of.bindsN fun _ _ _ _ _ _ us hl => match us, hl with | [_, _], _ => rfl
  obtain ⟨fd_fees_duty_of, F_fees_duty_of, q10⟩ := ok_fees_duty_of E (P := P)
  have q11 : Binds K fd_fees_duty_of ["self", "price"] [] := F_fees_duty_of.bindsN fun _ _ _ _ _ _ us hl => match us, hl with | [_, _], _ => rfl
  obtain ⟨fd_fees_buyer_pays, F_fees_buyer_pays, q12⟩ := ok_fees_buyer_pays E (P := P)
  have q13 : Binds K fd_fees_buyer_pays ["self", "price"] [] := F_fees_buyer_pays.bindsN fun _ _ _ _ _ _ us hl => match us, hl with | [_, _], _ => rfl
  obtain ⟨fd_fees_seller_gets, F_fees_seller_gets, q14⟩ := ok_fees_seller_gets E (P := P)
  have q15 : Binds K fd_fees_seller_gets ["self", "price"] [] := F_fees_seller_gets.bindsN fun _ _ _ _ _ _ us hl => match us, hl with | [_, _], _ => rfl
  obtain ⟨fd_fees_price_for, F_fees_price_for, q16⟩ := ok_fees_price_for E (P := P)
  have q17 : Binds K fd_fees_price_for ["self", "sum_paid"] [] := F_fees_price_for.bindsN fun _ _ _ _ _ _ us hl => match us, hl with | [_, _], _ => rfl
  obtain ⟨fd_fees_share_of, F_fees_share_of, q18⟩ := ok_fees_share_of E (P := P)
  have q19 : Binds K fd_fees_share_of ["self", "price"] [] := F_fees_share_of.bindsN fun _ _ _ _ _ _ us hl => match us, hl with | [_, _], _ => rfl
  obtain ⟨fd_fees_band_parts, F_fees_band_parts, q20⟩ := ok_fees_band_parts E (P := P)
  have q21 : Binds K fd_fees_band_parts ["self", "price"] [] := F_fees_band_parts.bindsN fun _ _ _ _ _ _ us hl => match us, hl with | [_, _], _ => rfl
  obtain ⟨fd_split_whole, F_split_whole, q22⟩ := ok_split_whole E (P := P)
  have q23 : Binds K fd_split_whole ["price", "buyer", "seller"] [] := F_split_whole.bindsN fun _ _ _ _ _ _ us hl => match us, hl with | [_, _, _], _ => rfl
  have q24 : mg "split_whole" = some (.ref (He.fAd K ("split_whole", none))) := E.glo 0
  obtain ⟨fd_shared_cost, F_shared_cost, q25⟩ := ok_shared_cost E (P := P)
  have q26 : Binds K fd_shared_cost ["cost", "prices"] [] := F_shared_cost.bindsN fun _ _ _ _ _ _ us hl => match us, hl with | [_, _], _ => rfl
  have q27 : mg "shared_cost" = some (.ref (He.fAd K ("shared_cost", none))) := E.glo 1
  obtain ⟨fd_resale_right, F_resale_right, q28⟩ := ok_resale_right E (P := P)
  have q29 : Binds K fd_resale_right ["price", "rows", "most"] [] := F_resale_right.bindsN fun _ _ _ _ _ _ us hl => match us, hl with | [_, _, _], _ => rfl
  have q30 : mg "resale_right" = some (.ref (He.fAd K ("resale_right", none))) := E.glo 2
  obtain ⟨fd_fee_gap, F_fee_gap, q31⟩ := ok_fee_gap E (P := P)
  have q32 : Binds K fd_fee_gap ["one", "other", "prices"] [] := F_fee_gap.bindsN fun _ _ _ _ _ _ us hl => match us, hl with | [_, _, _], _ => rfl
  have q33 : mg "fee_gap" = some (.ref (He.fAd K ("fee_gap", none))) := E.glo 3
  have q34 : mg "_law_told" = some (.ref (He.fAd K ("_law_told", none))) := E.glo 7
  have q35 : mg "FeeError" = some (.ref ((M.g K).exc 1)) := E.glo 27
  have q36 := E.exm 30 (x := "FeeError") (y := "FeeError") (b := true)
  obtain ⟨TB, hmT, huT⟩ := E.tab 3 (q := (("_law_plain", none), ("_law_plain" : Str) ++ ".<locals>." ++ "<lambda>")) rfl
  have S : FnScope [Str.ofString "fees", Str.ofString "told", Str.ofString "bad", Str.ofString "k", Str.ofString "f"] [] (dF 18 "_law_plain").scope := C8.fnScope_by (by kernel_rfl)
  have nd := S.nd
  unfold f_law_plain
  refine E.ok (d := dF 18 "_law_plain") (N := [Str.ofString "fees", Str.ofString "told", Str.ofString "bad", Str.ofString "k", Str.ofString "f"]) (ps := []) (k := 10) (ms := m_law_plain) 19 (by kernel_rfl) S fun cdv A outer s H E' hcd hr tk po => ?_
  unfold m_law_plain
  refine sm_clX (tab := tab_law_plain) (fun _ _ _ _ _ z => z) ?_
  have t : ∀ {X : Cx} {tab : List LamT}, TiOk ((M.g K).cl X tab) := fun {X tab} => ti_cl t
  have LM : LamsOk (cxOf (L2.CX P w) P w K mg base [Str.ofString "fees", Str.ofString "told", Str.ofString "bad", Str.ofString "k", Str.ofString "f"] (dF 18 "_law_plain").qual (dF 18 "_law_plain").scope (He.fAd K (dF 18 "_law_plain").at_) cdv A outer s H E') (M.g K) tab_law_plain 8 (fun k => lms_law_plain.getD k mStuck) := LamsL.ok (LamsL.cons ⟨lamS_by (by kernel_rfl), fun _ _ _ _ _ => rfl, fun A2 outer2 s2 H2 E2 f2 c2 hr2 tk2 => (em_frz (em_make (ci := 0) t rfl tk2 (E.mkr 15) (fn_cl (fun _ _ _ _ _ z => z) q1) (hr2.mono (by decide)) rfl q3 q2 hd_fees_init_2 (fun _ _ => by simp [VRs, VR, He.DefD.dvs, dM, dF, He.Dv.v]) rfl (len_cons (fun _ _ _ _ => len_nil)) (am_cons (em_tup t am_nil) am_nil)))⟩ (LamsL.cons ⟨lamS_by (by kernel_rfl), fun _ _ _ _ _ => rfl, fun A2 outer2 s2 H2 E2 f2 c2 hr2 tk2 => (em_frz (em_make (ci := 0) t rfl tk2 (E.mkr 15) (fn_cl (fun _ _ _ _ _ z => z) q1) (hr2.mono (by decide)) rfl q3 q2 hd_fees_init_2 (fun _ _ => by simp [VRs, VR, He.DefD.dvs, dM, dF, He.Dv.v]) rfl (len_cons (fun _ _ _ _ => len_nil)) (am_cons (em_tup t (am_cons (em_tup t (am_cons em_int (am_cons em_int am_nil))) am_nil)) am_nil)))⟩ (LamsL.cons ⟨lamS_by (by kernel_rfl), fun _ _ _ _ _ => rfl, fun A2 outer2 s2 H2 E2 f2 c2 hr2 tk2 => (em_frz (em_make (ci := 0) t rfl tk2 (E.mkr 15) (fn_cl (fun _ _ _ _ _ z => z) q1) (hr2.mono (by decide)) rfl q3 q2 hd_fees_init_2 (fun _ _ => by simp [VRs, VR, He.DefD.dvs, dM, dF, He.Dv.v]) rfl (len_cons (fun _ _ _ _ => len_nil)) (am_cons (em_tup t (am_cons (em_tup t (am_cons em_int (am_cons em_int am_nil))) (am_cons (em_tup t (am_cons em_int (am_cons em_int am_nil))) am_nil))) am_nil)))⟩ (LamsL.cons ⟨lamS_by (by kernel_rfl), fun _ _ _ _ _ => rfl, fun A2 outer2 s2 H2 E2 f2 c2 hr2 tk2 => (em_frz (em_make (ci := 0) t rfl tk2 (E.mkr 15) (fn_cl (fun _ _ _ _ _ z => z) q1) (hr2.mono (by decide)) rfl q3 q2 hd_fees_init_2 (fun _ _ => by simp [VRs, VR, He.DefD.dvs, dM, dF, He.Dv.v]) rfl (len_cons (fun _ _ _ _ => len_nil)) (am_cons (em_tup t (am_cons (em_tup t (am_cons em_int (am_cons em_int am_nil))) am_nil)) am_nil)))⟩ (LamsL.cons ⟨lamS_by (by kernel_rfl), fun _ _ _ _ _ => rfl, fun A2 outer2 s2 H2 E2 f2 c2 hr2 tk2 => (em_frz (em_make (ci := 0) t rfl tk2 (E.mkr 15) (fn_cl (fun _ _ _ _ _ z => z) q1) (hr2.mono (by decide)) rfl q3 q2 hd_fees_init_2 (fun _ _ => by simp [VRs, VR, He.DefD.dvs, dM, dF, He.Dv.v]) rfl (len_cons (fun _ _ _ _ => len_nil)) (am_cons (em_tup t (am_cons (em_tup t (am_cons em_int (am_cons (em_neg em_int) am_nil))) am_nil)) am_nil)))⟩ (LamsL.cons ⟨lamS_by (by kernel_rfl), fun _ _ _ _ _ => rfl, fun A2 outer2 s2 H2 E2 f2 c2 hr2 tk2 => (em_frz (em_make (ci := 0) t rfl tk2 (E.mkr 15) (fn_cl (fun _ _ _ _ _ z => z) q1) (hr2.mono (by decide)) rfl q3 q4 hd_fees_init_3 (fun _ _ => by simp [VRs, VR, He.DefD.dvs, dM, dF, He.Dv.v]) rfl (len_cons (len_cons (fun _ _ _ _ => len_nil))) (am_cons (em_tup t (am_cons (em_tup t (am_cons em_int (am_cons em_int am_nil))) am_nil)) (am_cons (em_neg em_int) am_nil))))⟩ (LamsL.cons ⟨lamS_by (by kernel_rfl), fun _ _ _ _ _ => rfl, fun A2 outer2 s2 H2 E2 f2 c2 hr2 tk2 => (em_frz (em_make (ci := 0) t rfl tk2 (E.mkr 15) (fn_cl (fun _ _ _ _ _ z => z) q1) (hr2.mono (by decide)) rfl q3 q5 hd_fees_init_4 (fun _ _ => by simp [VRs, VR, He.DefD.dvs, dM, dF, He.Dv.v]) rfl (len_cons (len_cons (len_cons (fun _ _ _ _ => len_nil)))) (am_cons (em_tup t (am_cons (em_tup t (am_cons em_int (am_cons em_int am_nil))) am_nil)) (am_cons em_int (am_cons em_int am_nil)))))⟩ (LamsL.cons ⟨lamS_by (by kernel_rfl), fun _ _ _ _ _ => rfl, fun A2 outer2 s2 H2 E2 f2 c2 hr2 tk2 => (em_frz (em_make (ci := 0) t rfl tk2 (E.mkr 15) (fn_cl (fun _ _ _ _ _ z => z) q1) (hr2.mono (by decide)) rfl q3 q2 hd_fees_init_2 (fun _ _ => by simp [VRs, VR, He.DefD.dvs, dM, dF, He.Dv.v]) rfl (len_cons (fun _ _ _ _ => len_nil)) (am_cons (em_callTy (c_tuple rfl) (k_tuple t) rfl q7 boot_tuple (am_cons (em_lc t false rfl nd (im_rg1 rfl q6 (am_cons em_int am_nil)) (blkOk_by (own := [("k", 3)]) (by kernel_rfl)) rfl (by decide) (fun _ _ _ _ _ => (gm_name nd rfl (loc_by (by kernel_rfl)) (by first | exact .inl rfl | exact .inr rfl))) (fun _ _ _ _ _ => ts_nil) (fun _ _ _ _ _ => (em_tup t (am_cons (em_var rfl (vis_by (by kernel_rfl))) (am_cons em_int am_nil))))) am_nil)) am_nil)))⟩ (LamsL.cons ⟨lamS_by (by kernel_rfl), fun _ _ _ _ _ => rfl, fun A2 outer2 s2 H2 E2 f2 c2 hr2 tk2 => (em_meth (ci := 0) rfl tk2 (em_var rfl (vis_by (by kernel_rfl))) (E.cls 14) (E.meth 17) (fn_cl (fun _ _ _ _ _ z => z) q8) (hr2.mono (by decide)) q9 .nil (fun _ _ => by simp [VRs]) rfl (len_cons (fun _ _ _ _ => len_nil)) (am_cons (em_neg em_int) am_nil))⟩ (LamsL.cons ⟨lamS_by (by kernel_rfl), fun _ _ _ _ _ => rfl, fun A2 outer2 s2 H2 E2 f2 c2 hr2 tk2 => (em_meth (ci := 0) rfl tk2 (em_var rfl (vis_by (by kernel_rfl))) (E.cls 14) (E.meth 18) (fn_cl (fun _ _ _ _ _ z => z) q10) (hr2.mono (by decide)) q11 .nil (fun _ _ => by simp [VRs]) rfl (len_cons (fun _ _ _ _ => len_nil)) (am_cons (em_neg em_int) am_nil))⟩ (LamsL.cons ⟨lamS_by (by kernel_rfl), fun _ _ _ _ _ => rfl, fun A2 outer2 s2 H2 E2 f2 c2 hr2 tk2 => (em_meth (ci := 0) rfl tk2 (em_var rfl (vis_by (by kernel_rfl))) (E.cls 14) (E.meth 19) (fn_cl (fun _ _ _ _ _ z => z) q12) (hr2.mono (by decide)) q13 .nil (fun _ _ => by simp [VRs]) rfl (len_cons (fun _ _ _ _ => len_nil)) (am_cons (em_neg em_int) am_nil))⟩ (LamsL.cons ⟨lamS_by (by kernel_rfl), fun _ _ _ _ _ => rfl, fun A2 outer2 s2 H2 E2 f2 c2 hr2 tk2 => (em_meth (ci := 0) rfl tk2 (em_var rfl (vis_by (by kernel_rfl))) (E.cls 14) (E.meth 20) (fn_cl (fun _ _ _ _ _ z => z) q14) (hr2.mono (by decide)) q15 .nil (fun _ _ => by simp [VRs]) rfl (len_cons (fun _ _ _ _ => len_nil)) (am_cons (em_neg em_int) am_nil))⟩ (LamsL.cons ⟨lamS_by (by kernel_rfl), fun _ _ _ _ _ => rfl, fun A2 outer2 s2 H2 E2 f2 c2 hr2 tk2 => (em_meth (ci := 0) rfl tk2 (em_var rfl (vis_by (by kernel_rfl))) (E.cls 14) (E.meth 21) (fn_cl (fun _ _ _ _ _ z => z) q16) (hr2.mono (by decide)) q17 .nil (fun _ _ => by simp [VRs]) rfl (len_cons (fun _ _ _ _ => len_nil)) (am_cons (em_neg em_int) am_nil))⟩ (LamsL.cons ⟨lamS_by (by kernel_rfl), fun _ _ _ _ _ => rfl, fun A2 outer2 s2 H2 E2 f2 c2 hr2 tk2 => (em_meth (ci := 0) rfl tk2 (em_var rfl (vis_by (by kernel_rfl))) (E.cls 14) (E.meth 22) (fn_cl (fun _ _ _ _ _ z => z) q18) (hr2.mono (by decide)) q19 .nil (fun _ _ => by simp [VRs]) rfl (len_cons (fun _ _ _ _ => len_nil)) (am_cons em_int am_nil))⟩ (LamsL.cons ⟨lamS_by (by kernel_rfl), fun _ _ _ _ _ => rfl, fun A2 outer2 s2 H2 E2 f2 c2 hr2 tk2 => (em_meth (ci := 0) rfl tk2 (em_var rfl (vis_by (by kernel_rfl))) (E.cls 14) (E.meth 23) (fn_cl (fun _ _ _ _ _ z => z) q20) (hr2.mono (by decide)) q21 .nil (fun _ _ => by simp [VRs]) rfl (len_cons (fun _ _ _ _ => len_nil)) (am_cons (em_neg em_int) am_nil))⟩ (LamsL.cons ⟨lamS_by (by kernel_rfl), fun _ _ _ _ _ => rfl, fun A2 outer2 s2 H2 E2 f2 c2 hr2 tk2 => (em_call rfl tk2 (fn_cl (fun _ _ _ _ _ z => z) q22) (hr2.mono (by decide)) rfl q24 F_split_whole.kp q23 .nil (fun _ _ => by simp [VRs]) rfl (len_cons (len_cons (len_cons (fun _ _ _ _ => len_nil)))) (am_cons (em_neg em_int) (am_cons (em_var rfl (vis_by (by kernel_rfl))) (am_cons (em_var rfl (vis_by (by kernel_rfl))) am_nil))))⟩ (LamsL.cons ⟨lamS_by (by kernel_rfl), fun _ _ _ _ _ => rfl, fun A2 outer2 s2 H2 E2 f2 c2 hr2 tk2 => (em_call rfl tk2 (fn_cl (fun _ _ _ _ _ z => z) q25) (hr2.mono (by decide)) rfl q27 F_shared_cost.kp q26 .nil (fun _ _ => by simp [VRs]) rfl (len_cons (len_cons (fun _ _ _ _ => len_nil))) (am_cons (em_neg em_int) (am_cons (em_tup t (am_cons em_int am_nil)) am_nil)))⟩ (LamsL.cons ⟨lamS_by (by kernel_rfl), fun _ _ _ _ _ => rfl, fun A2 outer2 s2 H2 E2 f2 c2 hr2 tk2 => (em_call rfl tk2 (fn_cl (fun _ _ _ _ _ z => z) q25) (hr2.mono (by decide)) rfl q27 F_shared_cost.kp q26 .nil (fun _ _ => by simp [VRs]) rfl (len_cons (len_cons (fun _ _ _ _ => len_nil))) (am_cons em_int (am_cons (em_tup t am_nil) am_nil)))⟩ (LamsL.cons ⟨lamS_by (by kernel_rfl), fun _ _ _ _ _ => rfl, fun A2 outer2 s2 H2 E2 f2 c2 hr2 tk2 => (em_call rfl tk2 (fn_cl (fun _ _ _ _ _ z => z) q25) (hr2.mono (by decide)) rfl q27 F_shared_cost.kp q26 .nil (fun _ _ => by simp [VRs]) rfl (len_cons (len_cons (fun _ _ _ _ => len_nil))) (am_cons em_int (am_cons (em_tup t (am_cons (em_neg em_int) am_nil)) am_nil)))⟩ (LamsL.cons ⟨lamS_by (by kernel_rfl), fun _ _ _ _ _ => rfl, fun A2 outer2 s2 H2 E2 f2 c2 hr2 tk2 => (em_call rfl tk2 (fn_cl (fun _ _ _ _ _ z => z) q28) (hr2.mono (by decide)) rfl q30 F_resale_right.kp q29 .nil (fun _ _ => by simp [VRs]) rfl (len_cons (len_cons (len_cons (fun _ _ _ _ => len_nil)))) (am_cons (em_neg em_int) (am_cons (em_tup t (am_cons (em_tup t (am_cons em_int (am_cons em_int am_nil))) am_nil)) (am_cons em_int am_nil))))⟩ (LamsL.cons ⟨lamS_by (by kernel_rfl), fun _ _ _ _ _ => rfl, fun A2 outer2 s2 H2 E2 f2 c2 hr2 tk2 => (em_call rfl tk2 (fn_cl (fun _ _ _ _ _ z => z) q28) (hr2.mono (by decide)) rfl q30 F_resale_right.kp q29 .nil (fun _ _ => by simp [VRs]) rfl (len_cons (len_cons (len_cons (fun _ _ _ _ => len_nil)))) (am_cons em_int (am_cons (em_tup t (am_cons (em_tup t (am_cons em_int (am_cons em_int am_nil))) am_nil)) (am_cons (em_neg em_int) am_nil))))⟩ (LamsL.cons ⟨lamS_by (by kernel_rfl), fun _ _ _ _ _ => rfl, fun A2 outer2 s2 H2 E2 f2 c2 hr2 tk2 => (em_call rfl tk2 (fn_cl (fun _ _ _ _ _ z => z) q28) (hr2.mono (by decide)) rfl q30 F_resale_right.kp q29 .nil (fun _ _ => by simp [VRs]) rfl (len_cons (len_cons (len_cons (fun _ _ _ _ => len_nil)))) (am_cons em_int (am_cons (em_tup t am_nil) (am_cons em_int am_nil))))⟩ (LamsL.cons ⟨lamS_by (by kernel_rfl), fun _ _ _ _ _ => rfl, fun A2 outer2 s2 H2 E2 f2 c2 hr2 tk2 => (em_call rfl tk2 (fn_cl (fun _ _ _ _ _ z => z) q28) (hr2.mono (by decide)) rfl q30 F_resale_right.kp q29 .nil (fun _ _ => by simp [VRs]) rfl (len_cons (len_cons (len_cons (fun _ _ _ _ => len_nil)))) (am_cons em_int (am_cons (em_tup t (am_cons (em_tup t (am_cons em_int (am_cons em_int am_nil))) am_nil)) (am_cons em_int am_nil))))⟩ (LamsL.cons ⟨lamS_by (by kernel_rfl), fun _ _ _ _ _ => rfl, fun A2 outer2 s2 H2 E2 f2 c2 hr2 tk2 => (em_call rfl tk2 (fn_cl (fun _ _ _ _ _ z => z) q28) (hr2.mono (by decide)) rfl q30 F_resale_right.kp q29 .nil (fun _ _ => by simp [VRs]) rfl (len_cons (len_cons (len_cons (fun _ _ _ _ => len_nil)))) (am_cons em_int (am_cons (em_tup t (am_cons (em_tup t (am_cons em_int (am_cons em_int am_nil))) (am_cons (em_tup t (am_cons em_int (am_cons em_int am_nil))) am_nil))) (am_cons em_int am_nil))))⟩ (LamsL.cons ⟨lamS_by (by kernel_rfl), fun _ _ _ _ _ => rfl, fun A2 outer2 s2 H2 E2 f2 c2 hr2 tk2 => (em_call rfl tk2 (fn_cl (fun _ _ _ _ _ z => z) q31) (hr2.mono (by decide)) rfl q33 F_fee_gap.kp q32 .nil (fun _ _ => by simp [VRs]) rfl (len_cons (len_cons (len_cons (fun _ _ _ _ => len_nil)))) (am_cons (em_var rfl (vis_by (by kernel_rfl))) (am_cons (em_var rfl (vis_by (by kernel_rfl))) (am_cons (em_tup t (am_cons (em_neg em_int) am_nil)) am_nil))))⟩ LamsL.nil)))))))))))))))))))))))))
  exact (sm_cons (sm_set nd rfl (loc_by (by kernel_rfl)) (em_frz (em_make (ci := 0) t rfl tk (E.mkr 15) (fn_cl (fun _ _ _ _ _ z => z) q1) (hr.mono (by decide)) rfl q3 q5 hd_fees_init_4 (fun _ _ => by simp [VRs, VR, He.DefD.dvs, dM, dF, He.Dv.v]) rfl (len_cons (len_cons (len_cons (fun _ _ _ _ => len_nil)))) (am_cons (em_tup t (am_cons (em_tup t (am_cons em_int (am_cons em_int am_nil))) (am_cons (em_tup t (am_cons em_int (am_cons em_int am_nil))) am_nil))) (am_cons em_int (am_cons em_int am_nil))))) (.inl rfl)) (sm_cons (sm_set nd rfl (loc_by (by kernel_rfl)) (em_lst t false (am_cons (em_meth (ci := 0) rfl tk (em_var rfl (vis_by (by kernel_rfl))) (E.cls 14) (E.meth 17) (fn_cl (fun _ _ _ _ _ z => z) q8) (hr.mono (by decide)) q9 .nil (fun _ _ => by simp [VRs]) rfl (len_cons (fun _ _ _ _ => len_nil)) (am_cons em_int am_nil)) (am_cons (em_meth (ci := 0) rfl tk (em_var rfl (vis_by (by kernel_rfl))) (E.cls 14) (E.meth 17) (fn_cl (fun _ _ _ _ _ z => z) q8) (hr.mono (by decide)) q9 .nil (fun _ _ => by simp [VRs]) rfl (len_cons (fun _ _ _ _ => len_nil)) (am_cons em_int am_nil)) (am_cons (em_meth (ci := 0) rfl tk (em_var rfl (vis_by (by kernel_rfl))) (E.cls 14) (E.meth 18) (fn_cl (fun _ _ _ _ _ z => z) q10) (hr.mono (by decide)) q11 .nil (fun _ _ => by simp [VRs]) rfl (len_cons (fun _ _ _ _ => len_nil)) (am_cons em_int am_nil)) (am_cons (em_meth (ci := 0) rfl tk (em_var rfl (vis_by (by kernel_rfl))) (E.cls 14) (E.meth 19) (fn_cl (fun _ _ _ _ _ z => z) q12) (hr.mono (by decide)) q13 .nil (fun _ _ => by simp [VRs]) rfl (len_cons (fun _ _ _ _ => len_nil)) (am_cons em_int am_nil)) (am_cons (em_meth (ci := 0) rfl tk (em_var rfl (vis_by (by kernel_rfl))) (E.cls 14) (E.meth 20) (fn_cl (fun _ _ _ _ _ z => z) q14) (hr.mono (by decide)) q15 .nil (fun _ _ => by simp [VRs]) rfl (len_cons (fun _ _ _ _ => len_nil)) (am_cons em_int am_nil)) (am_cons (em_meth (ci := 0) rfl tk (em_var rfl (vis_by (by kernel_rfl))) (E.cls 14) (E.meth 21) (fn_cl (fun _ _ _ _ _ z => z) q16) (hr.mono (by decide)) q17 .nil (fun _ _ => by simp [VRs]) rfl (len_cons (fun _ _ _ _ => len_nil)) (am_cons em_int am_nil)) (am_cons (em_meth (ci := 0) rfl tk (em_var rfl (vis_by (by kernel_rfl))) (E.cls 14) (E.meth 21) (fn_cl (fun _ _ _ _ _ z => z) q16) (hr.mono (by decide)) q17 .nil (fun _ _ => by simp [VRs]) rfl (len_cons (fun _ _ _ _ => len_nil)) (am_cons em_int am_nil)) am_nil)))))))) (.inl rfl)) (sm_cons (sm_set nd rfl (loc_by (by kernel_rfl)) (em_op op_plus (ok_plus t false) (em_var rfl (vis_by (by kernel_rfl))) (em_lst t false (am_cons (em_meth (ci := 0) rfl tk (em_var rfl (vis_by (by kernel_rfl))) (E.cls 14) (E.meth 22) (fn_cl (fun _ _ _ _ _ z => z) q18) (hr.mono (by decide)) q19 .nil (fun _ _ => by simp [VRs]) rfl (len_cons (fun _ _ _ _ => len_nil)) (am_cons em_int am_nil)) (am_cons (em_meth (ci := 0) rfl tk (em_var rfl (vis_by (by kernel_rfl))) (E.cls 14) (E.meth 23) (fn_cl (fun _ _ _ _ _ z => z) q20) (hr.mono (by decide)) q21 .nil (fun _ _ => by simp [VRs]) rfl (len_cons (fun _ _ _ _ => len_nil)) (am_cons em_int am_nil)) (am_cons (em_call rfl tk (fn_cl (fun _ _ _ _ _ z => z) q22) (hr.mono (by decide)) rfl q24 F_split_whole.kp q23 .nil (fun _ _ => by simp [VRs]) rfl (len_cons (len_cons (len_cons (fun _ _ _ _ => len_nil)))) (am_cons em_int (am_cons (em_var rfl (vis_by (by kernel_rfl))) (am_cons (em_frz (em_make (ci := 0) t rfl tk (E.mkr 15) (fn_cl (fun _ _ _ _ _ z => z) q1) (hr.mono (by decide)) rfl q3 q2 hd_fees_init_2 (fun _ _ => by simp [VRs, VR, He.DefD.dvs, dM, dF, He.Dv.v]) rfl (len_cons (fun _ _ _ _ => len_nil)) (am_cons (em_tup t (am_cons (em_tup t (am_cons em_int (am_cons em_int am_nil))) am_nil)) am_nil))) am_nil)))) (am_cons (em_call rfl tk (fn_cl (fun _ _ _ _ _ z => z) q25) (hr.mono (by decide)) rfl q27 F_shared_cost.kp q26 .nil (fun _ _ => by simp [VRs]) rfl (len_cons (len_cons (fun _ _ _ _ => len_nil))) (am_cons em_int (am_cons (em_tup t (am_cons em_int (am_cons em_int (am_cons em_int am_nil)))) am_nil))) (am_cons (em_call rfl tk (fn_cl (fun _ _ _ _ _ z => z) q25) (hr.mono (by decide)) rfl q27 F_shared_cost.kp q26 .nil (fun _ _ => by simp [VRs]) rfl (len_cons (len_cons (fun _ _ _ _ => len_nil))) (am_cons em_int (am_cons (em_tup t (am_cons em_int (am_cons em_int am_nil))) am_nil))) am_nil))))))) (.inl rfl)) (sm_cons (sm_set nd rfl (loc_by (by kernel_rfl)) (em_op op_plus (ok_plus t false) (em_var rfl (vis_by (by kernel_rfl))) (em_lst t false (am_cons (em_call rfl tk (fn_cl (fun _ _ _ _ _ z => z) q28) (hr.mono (by decide)) rfl q30 F_resale_right.kp q29 .nil (fun _ _ => by simp [VRs]) rfl (len_cons (len_cons (len_cons (fun _ _ _ _ => len_nil)))) (am_cons em_int (am_cons (em_tup t (am_cons (em_tup t (am_cons em_int (am_cons em_int am_nil))) (am_cons (em_tup t (am_cons em_int (am_cons em_int am_nil))) am_nil))) (am_cons em_int am_nil)))) (am_cons (em_call rfl tk (fn_cl (fun _ _ _ _ _ z => z) q31) (hr.mono (by decide)) rfl q33 F_fee_gap.kp q32 .nil (fun _ _ => by simp [VRs]) rfl (len_cons (len_cons (len_cons (fun _ _ _ _ => len_nil)))) (am_cons (em_frz (em_make (ci := 0) t rfl tk (E.mkr 15) (fn_cl (fun _ _ _ _ _ z => z) q1) (hr.mono (by decide)) rfl q3 q4 hd_fees_init_3 (fun _ _ => by simp [VRs, VR, He.DefD.dvs, dM, dF, He.Dv.v]) rfl (len_cons (len_cons (fun _ _ _ _ => len_nil))) (am_cons (em_tup t (am_cons (em_tup t (am_cons em_int (am_cons em_int am_nil))) am_nil)) (am_cons em_int am_nil)))) (am_cons (em_var rfl (vis_by (by kernel_rfl))) (am_cons (em_tup t (am_cons em_int (am_cons em_int (am_cons em_int am_nil)))) am_nil)))) (am_cons (em_meth (ci := 0) rfl tk (em_var rfl (vis_by (by kernel_rfl))) (E.cls 14) (E.meth 23) (fn_cl (fun _ _ _ _ _ z => z) q20) (hr.mono (by decide)) q21 .nil (fun _ _ => by simp [VRs]) rfl (len_cons (fun _ _ _ _ => len_nil)) (am_cons em_int am_nil)) am_nil))))) (.inl rfl)) (sm_cons (sm_set nd rfl (loc_by (by kernel_rfl)) (em_op op_plus (ok_plus t false) (em_var rfl (vis_by (by kernel_rfl))) (em_lst t false (am_cons (em_call rfl tk (fn_cl (fun _ _ _ _ _ z => z) q31) (hr.mono (by decide)) rfl q33 F_fee_gap.kp q32 .nil (fun _ _ => by simp [VRs]) rfl (len_cons (len_cons (len_cons (fun _ _ _ _ => len_nil)))) (am_cons (em_var rfl (vis_by (by kernel_rfl))) (am_cons (em_var rfl (vis_by (by kernel_rfl))) (am_cons (em_tup t (am_cons em_int am_nil)) am_nil)))) (am_cons (em_meth (ci := 0) rfl tk (em_frz (em_make (ci := 0) t rfl tk (E.mkr 15) (fn_cl (fun _ _ _ _ _ z => z) q1) (hr.mono (by decide)) rfl q3 q2 hd_fees_init_2 (fun _ _ => by simp [VRs, VR, He.DefD.dvs, dM, dF, He.Dv.v]) rfl (len_cons (fun _ _ _ _ => len_nil)) (am_cons (em_tup t (am_cons (em_tup t (am_cons em_int (am_cons em_int am_nil))) am_nil)) am_nil))) (E.cls 14) (E.meth 21) (fn_cl (fun _ _ _ _ _ z => z) q16) (hr.mono (by decide)) q17 .nil (fun _ _ => by simp [VRs]) rfl (len_cons (fun _ _ _ _ => len_nil)) (am_cons em_int am_nil)) am_nil)))) (.inl rfl)) (sm_cons (sm_set nd rfl (loc_by (by kernel_rfl)) (em_lst t false (am_cons (em_lam 0 rfl (M.ti K) TB hcd hmT huT (by kernel_rfl) (lamS_by (by kernel_rfl)) rfl) (am_cons (em_lam 1 rfl (M.ti K) TB hcd hmT huT (by kernel_rfl) (lamS_by (by kernel_rfl)) rfl) (am_cons (em_lam 2 rfl (M.ti K) TB hcd hmT huT (by kernel_rfl) (lamS_by (by kernel_rfl)) rfl) (am_cons (em_lam 3 rfl (M.ti K) TB hcd hmT huT (by kernel_rfl) (lamS_by (by kernel_rfl)) rfl) (am_cons (em_lam 4 rfl (M.ti K) TB hcd hmT huT (by kernel_rfl) (lamS_by (by kernel_rfl)) rfl) am_nil)))))) (.inl rfl)) (sm_cons (sm_set nd rfl (loc_by (by kernel_rfl)) (em_op op_plus (ok_plus t false) (em_var rfl (vis_by (by kernel_rfl))) (em_lst t false (am_cons (em_lam 5 rfl (M.ti K) TB hcd hmT huT (by kernel_rfl) (lamS_by (by kernel_rfl)) rfl) (am_cons (em_lam 6 rfl (M.ti K) TB hcd hmT huT (by kernel_rfl) (lamS_by (by kernel_rfl)) rfl) (am_cons (em_lam 7 rfl (M.ti K) TB hcd hmT huT (by kernel_rfl) (lamS_by (by kernel_rfl)) rfl) (am_cons (em_lam 8 rfl (M.ti K) TB hcd hmT huT (by kernel_rfl) (lamS_by (by kernel_rfl)) rfl) am_nil)))))) (.inl rfl)) (sm_cons (sm_set nd rfl (loc_by (by kernel_rfl)) (em_op op_plus (ok_plus t false) (em_var rfl (vis_by (by kernel_rfl))) (em_lst t false (am_cons (em_lam 9 rfl (M.ti K) TB hcd hmT huT (by kernel_rfl) (lamS_by (by kernel_rfl)) rfl) (am_cons (em_lam 10 rfl (M.ti K) TB hcd hmT huT (by kernel_rfl) (lamS_by (by kernel_rfl)) rfl) (am_cons (em_lam 11 rfl (M.ti K) TB hcd hmT huT (by kernel_rfl) (lamS_by (by kernel_rfl)) rfl) (am_cons (em_lam 12 rfl (M.ti K) TB hcd hmT huT (by kernel_rfl) (lamS_by (by kernel_rfl)) rfl) (am_cons (em_lam 13 rfl (M.ti K) TB hcd hmT huT (by kernel_rfl) (lamS_by (by kernel_rfl)) rfl) am_nil))))))) (.inl rfl)) (sm_cons (sm_set nd rfl (loc_by (by kernel_rfl)) (em_op op_plus (ok_plus t false) (em_var rfl (vis_by (by kernel_rfl))) (em_lst t false (am_cons (em_lam 14 rfl (M.ti K) TB hcd hmT huT (by kernel_rfl) (lamS_by (by kernel_rfl)) rfl) (am_cons (em_lam 15 rfl (M.ti K) TB hcd hmT huT (by kernel_rfl) (lamS_by (by kernel_rfl)) rfl) (am_cons (em_lam 16 rfl (M.ti K) TB hcd hmT huT (by kernel_rfl) (lamS_by (by kernel_rfl)) rfl) (am_cons (em_lam 17 rfl (M.ti K) TB hcd hmT huT (by kernel_rfl) (lamS_by (by kernel_rfl)) rfl) am_nil)))))) (.inl rfl)) (sm_cons (sm_set nd rfl (loc_by (by kernel_rfl)) (em_op op_plus (ok_plus t false) (em_var rfl (vis_by (by kernel_rfl))) (em_lst t false (am_cons (em_lam 18 rfl (M.ti K) TB hcd hmT huT (by kernel_rfl) (lamS_by (by kernel_rfl)) rfl) (am_cons (em_lam 19 rfl (M.ti K) TB hcd hmT huT (by kernel_rfl) (lamS_by (by kernel_rfl)) rfl) (am_cons (em_lam 20 rfl (M.ti K) TB hcd hmT huT (by kernel_rfl) (lamS_by (by kernel_rfl)) rfl) (am_cons (em_lam 21 rfl (M.ti K) TB hcd hmT huT (by kernel_rfl) (lamS_by (by kernel_rfl)) rfl) am_nil)))))) (.inl rfl)) (sm_cons (sm_set nd rfl (loc_by (by kernel_rfl)) (em_op op_plus (ok_plus t false) (em_var rfl (vis_by (by kernel_rfl))) (em_lst t false (am_cons (em_lam 22 rfl (M.ti K) TB hcd hmT huT (by kernel_rfl) (lamS_by (by kernel_rfl)) rfl) (am_cons (em_lam 23 rfl (M.ti K) TB hcd hmT huT (by kernel_rfl) (lamS_by (by kernel_rfl)) rfl) (am_cons (em_lam 24 rfl (M.ti K) TB hcd hmT huT (by kernel_rfl) (lamS_by (by kernel_rfl)) rfl) am_nil))))) (.inl rfl)) (sm_cons (sm_if (em_pw (em_or (em_tcmp (op_neK rfl (hr.units)) ok_ne (em_lcI t false rfl nd (im_LT rfl (em_var rfl (vis_by (by kernel_rfl)))) (blkOk_by (own := [("f", 4)]) (by kernel_rfl)) rfl (by decide) (fun _ _ _ _ _ => (gm_name nd rfl (loc_by (by kernel_rfl)) (by first | exact .inl rfl | exact .inr rfl))) (fun _ _ _ _ _ _ _ back => (pts_toldE (g := M.g K) (tab := tab_law_plain) (c0 := 1) (k0 := 8) (Ng := [Str.ofString "what"]) (a := Str.ofString "what") E 15 rfl rfl (fun _ _ _ _ _ _ us hl => match us, hl with | [_], _ => rfl) q34 (C8.fnScope_by (by kernel_rfl)) rfl (vis_by (by kernel_rfl)) (by kernel_rfl) q35 q36 (fun _ => rfl) back LM (hr.mono (by decide)) rfl rfl (vis_by (by kernel_rfl)) rfl)) (fun _ _ _ _ _ => em_int)) (em_lst t false am_nil) rfl) (em_or1 (em_tcmp (op_neK rfl (hr.units)) ok_ne (em_glob (v := .int 10) rfl q0 ⟨_, rfl⟩ (fun _ _ => by simp [VR])) em_int rfl)))) (sm_one (sm_ret em_bl)) sm_nil) (sm_one (sm_ret (em_cmp (op_eqK rfl (hr.units)) ok_eq (em_var rfl (vis_by (by kernel_rfl))) (em_lst t false (am_cons em_int (am_cons em_int (am_cons em_int (am_cons em_int (am_cons em_int (am_cons em_int (am_cons em_non (am_cons em_int (am_cons (em_tup t (am_cons (em_tup t (am_cons em_int (am_cons em_int am_nil))) (am_cons (em_tup t (am_cons em_int (am_cons em_int am_nil))) am_nil))) (am_cons (em_tup t (am_cons em_int (am_cons em_int (am_cons em_int (am_cons em_int am_nil))))) (am_cons (em_tup t (am_cons em_int (am_cons em_int (am_cons em_int am_nil)))) (am_cons (em_tup t (am_cons em_int (am_cons em_int am_nil))) (am_cons em_int (am_cons em_int (am_cons (em_tup t am_nil) (am_cons em_non (am_cons em_int am_nil)))))))))))))))))) rfl)))))))))))))))
def m_law : MS := sSeq (sFor (miLT (mCall (fun xs => f_law_rounds (xs ++ [])) (mCons (mVar 0) (mCons (mC (.int 1)) (mNil))))) (gmName 1) (sSeq (sAsg (mTup (mCons (mCall (fun xs => f_law_bands (xs ++ [])) (mCons (mVar 1) (mCons (mC (.int 1000)) (mNil)))) (mCons (mCall (fun xs => f_law_roll (xs ++ [])) (mCons (mVar 1) (mCons (mC (.int 20)) (mNil)))) (mCons (mCall (fun xs => f_law_roll (xs ++ [])) (mCons (mVar 1) (mCons (mC (.int 400)) (mNil)))) (mNil))))) (gmTup 3 (gmCons (gmName 2) (gmCons (gmName 3) (gmCons (gmName 4) (gmNil)))))) (sSeq (sAsg (mTup (mCons (mFrz (mMake 0 (fun xs => f_fees_init (xs ++ [])) (mCons (mVar 2) (mCons (mVar 3) (mCons (mVar 4) (mNil)))))) (mCons (mCall (fun xs => f_law_roll (xs ++ [])) (mCons (mVar 1) (mCons (mC (.int 180)) (mNil)))) (mCons (mCall (fun xs => f_law_roll (xs ++ [])) (mCons (mVar 1) (mCons (mC (.int 260)) (mNil)))) (mNil))))) (gmTup 3 (gmCons (gmName 5) (gmCons (gmName 6) (gmCons (gmName 7) (gmNil)))))) (sSeq (sAsg (mCB bMax2 (mCons (mVar 3) (mCons (mOp (dDiv) (mCall (fun xs => f_law_sum (xs ++ [])) (mCons (mVar 2) (mCons (mVar 6) (mNil)))) (mC (.int 1000))) (mNil)))) (gmName 8)) (sSeq (sAsg (mCall (fun xs => f_law_half (xs ++ [])) (mCons (mOp (dMul false) (mVar 8) (mVar 4)) (mCons (mC (.int 1000)) (mNil)))) (gmName 9)) (sSeq (sIf (mTB (mOp dNe (mTup (mCons (mMeth 0 "fee_of" (fun xs => f_fees_fee_of (xs ++ [])) (mVar 5) (mCons (mVar 6) (mNil))) (mCons (mMeth 0 "duty_of" (fun xs => f_fees_duty_of (xs ++ [])) (mVar 5) (mCons (mVar 6) (mNil))) (mCons (mMeth 0 "buyer_pays" (fun xs => f_fees_buyer_pays (xs ++ [])) (mVar 5) (mCons (mVar 6) (mNil))) (mCons (mMeth 0 "seller_gets" (fun xs => f_fees_seller_gets (xs ++ [])) (mVar 5) (mCons (mVar 6) (mNil))) (mNil)))))) (mTup (mCons (mVar 8) (mCons (mVar 9) (mCons (mOp (dPlus false) (mOp (dPlus false) (mVar 6) (mVar 8)) (mVar 9)) (mCons (mOp (dMinus) (mOp (dMinus) (mVar 6) (mVar 8)) (mVar 9)) (mNil)))))))) (sRet (mC (.bl false))) (sNext)) (sSeq (sAsg (mIf (mTB (mOp dLt (mVar 7) (mC (.int 60)))) (mLc false (miCall rg1D (mCons (mOp (dPlus false) (mVar 7) (mC (.int 1))) (mNil))) [27] (gmName 27) (mTB (mOp dLe (mOp (dPlus false) (mOp (dPlus false) (mVar 27) (mCB bMax2 (mCons (mVar 3) (mCons (mOp (dDiv) (mCall (fun xs => f_law_sum (xs ++ [])) (mCons (mVar 2) (mCons (mVar 27) (mNil)))) (mC (.int 1000))) (mNil))))) (mCall (fun xs => f_law_half (xs ++ [])) (mCons (mOp (dMul false) (mCB bMax2 (mCons (mVar 3) (mCons (mOp (dDiv) (mCall (fun xs => f_law_sum (xs ++ [])) (mCons (mVar 2) (mCons (mVar 27) (mNil)))) (mC (.int 1000))) (mNil)))) (mVar 4)) (mCons (mC (.int 1000)) (mNil))))) (mVar 7))) (mVar 27)) (mC .non)) (gmName 10)) (sSeq (sAsg (mMeth 0 "price_for" (fun xs => f_fees_price_for (xs ++ [])) (mVar 5) (mCons (mVar 7) (mNil))) (gmName 11)) (sSeq (sIf (mOr (mAnd (mTB (mOp dNotN (mVar 10) (mC .non))) (mTB (mOp dNe (mVar 11) (mIf (mTB (mOp dNe (mVar 10) (mLst false (mNil)))) (mOp ixD (mVar 10) (mNeg (mC (.int 1)))) (mC .non))))) (mOr (mAnd (mTB (mOp dNotN (mVar 11) (mC .non))) (mOr (mTB (mOp dGt (mMeth 0 "buyer_pays" (fun xs => f_fees_buyer_pays (xs ++ [])) (mVar 5) (mCons (mVar 11) (mNil))) (mVar 7))) (mTB (mOp dLe (mMeth 0 "buyer_pays" (fun xs => f_fees_buyer_pays (xs ++ [])) (mVar 5) (mCons (mOp (dPlus false) (mVar 11) (mC (.int 1))) (mNil))) (mVar 7))))) (mAnd (mTB (mOp dIsN (mVar 11) (mC .non))) (mTB (mOp dLe (mMeth 0 "buyer_pays" (fun xs => f_fees_buyer_pays (xs ++ [])) (mVar 5) (mCons (mC (.int 0)) (mNil))) (mVar 7)))))) (sRet (mC (.bl false))) (sNext)) (sSeq (sAsg (mOp (dPlus false) (mLc false (miLT (mVar 2)) [28, 29] (gmTup 2 (gmCons (gmName 28) (gmCons (gmName 29) (gmNil)))) (mYes) (mVar 28)) (mLst false (mCons (mCB bMax2 (mCons (mVar 6) (mCons (mOp ixD (mOp ixD (mVar 2) (mNeg (mC (.int 1)))) (mC (.int 0))) (mNil)))) (mNil)))) (gmName 12)) (sSeq (sAsg (mLc false (miEnum (mCons (mLz false (mCons (mVar 12) (mCons (mSl false (mVar 12) (mPS (mC (.int 1))) (mPN)) (mNil)))) (mNil))) [30, 31, 32] (gmTup 2 (gmCons (gmName 30) (gmCons (gmTup 2 (gmCons (gmName 31) (gmCons (gmName 32) (gmNil)))) (gmNil)))) (mTB (mOp dGt (mCB bMin2 (mCons (mVar 6) (mCons (mVar 32) (mNil)))) (mVar 31))) (mTup (mCons (mOp (dMinus) (mCB bMin2 (mCons (mVar 6) (mCons (mVar 32) (mNil)))) (mVar 31)) (mCons (mOp ixD (mOp ixD (mVar 2) (mVar 30)) (mC (.int 1))) (mNil))))) (gmName 13)) (sSeq (sIf (mOr (mTB (mOp dNe (mCB (bList false) (mCons (mMeth 0 "band_parts" (fun xs => f_fees_band_parts (xs ++ [])) (mVar 5) (mCons (mVar 6) (mNil))) (mNil))) (mVar 13))) (mAnd (mTB (mOp dGt (mVar 6) (mC (.int 0)))) (mTB (mOp dNe (mMeth 0 "share_of" (fun xs => f_fees_share_of (xs ++ [])) (mVar 5) (mCons (mVar 6) (mNil))) (mOp (dDiv) (mOp (dMul false) (mC (.int 1000)) (mVar 8)) (mVar 6)))))) (sRet (mC (.bl false))) (sNext)) (sSeq (sAsg (mFrz (mMake 0 (fun xs => f_fees_init (xs ++ [])) (mCons (mCall (fun xs => f_law_bands (xs ++ [])) (mCons (mVar 1) (mCons (mC (.int 300)) (mNil)))) (mCons (mCall (fun xs => f_law_roll (xs ++ [])) (mCons (mVar 1) (mCons (mC (.int 9)) (mNil)))) (mCons (mCall (fun xs => f_law_roll (xs ++ [])) (mCons (mVar 1) (mCons (mC (.int 300)) (mNil)))) (mNil)))))) (gmName 14)) (sSeq (sPar [15, 16, 17] (mCons (mMeth 0 "buyer_pays" (fun xs => f_fees_buyer_pays (xs ++ [])) (mVar 5) (mCons (mVar 6) (mNil))) (mCons (mMeth 0 "seller_gets" (fun xs => f_fees_seller_gets (xs ++ [])) (mVar 14) (mCons (mVar 6) (mNil))) (mCons (mOp (dPlus false) (mVar 9) (mMeth 0 "duty_of" (fun xs => f_fees_duty_of (xs ++ [])) (mVar 14) (mCons (mVar 6) (mNil)))) (mNil))))) (sSeq (sAsg (mCB (bSorted false) (mCons (mLc false (miCall rg1D (mCons (mCall (fun xs => f_law_roll (xs ++ [])) (mCons (mVar 1) (mCons (mC (.int 6)) (mNil)))) (mNil))) [30] (gmName 30) (mYes) (mCall (fun xs => f_law_roll (xs ++ [])) (mCons (mVar 1) (mCons (mC (.int 200)) (mNil))))) (mNil))) (gmName 18)) (sSeq (sAsg (mLc false (miLT (mVar 18)) [27] (gmName 27) (mTB (mOp dLt (mMeth 0 "buyer_pays" (fun xs => f_fees_buyer_pays (xs ++ [])) (mVar 5) (mCons (mVar 27) (mNil))) (mMeth 0 "buyer_pays" (fun xs => f_fees_buyer_pays (xs ++ [])) (mVar 14) (mCons (mVar 27) (mNil))))) (mVar 27)) (gmName 19)) (sSeq (sIf (mTB (mOp dNe (mCall (fun xs => f_split_whole (xs ++ [])) (mCons (mVar 6) (mCons (mVar 5) (mCons (mVar 14) (mNil))))) (mTup (mCons (mVar 15) (mCons (mVar 16) (mCons (mOp (dMinus) (mOp (dMinus) (mVar 15) (mVar 16)) (mVar 17)) (mCons (mVar 17) (mNil)))))))) (sRet (mC (.bl false))) (sNext)) (sSeq (sIf (mTB (mOp dNe (mCall (fun xs => f_fee_gap (xs ++ [])) (mCons (mVar 5) (mCons (mVar 14) (mCons (mVar 18) (mNil))))) (mIf (mTB (mOp dNe (mVar 19) (mLst false (mNil)))) (mOp ixD (mVar 19) (mC (.int 0))) (mC .non)))) (sRet (mC (.bl false))) (sNext)) (sSeq (sAsg (mTup (mCons (mCall (fun xs => f_law_roll (xs ++ [])) (mCons (mVar 1) (mCons (mC (.int 90)) (mNil)))) (mCons (mLc false (miCall rg1D (mCons (mOp (dPlus false) (mC (.int 1)) (mCall (fun xs => f_law_roll (xs ++ [])) (mCons (mVar 1) (mCons (mC (.int 4)) (mNil))))) (mNil))) [30] (gmName 30) (mYes) (mCall (fun xs => f_law_roll (xs ++ [])) (mCons (mVar 1) (mCons (mC (.int 9)) (mNil))))) (mNil)))) (gmTup 2 (gmCons (gmName 20) (gmCons (gmName 21) (gmNil))))) (sSeq (sAsg (mIf (mTB (mOp dGt (mCB bSum (mCons (mVar 21) (mNil))) (mC (.int 0)))) (mVar 21) (mOp (dMul false) (mLst false (mCons (mC (.int 1)) (mNil))) (mCB bLen (mCons (mVar 21) (mNil))))) (gmName 22)) (sSeq (sAsg (mLc false (miLT (mVar 22)) [33] (gmName 33) (mYes) (mOp (dDiv) (mOp (dMul false) (mVar 20) (mVar 33)) (mCB bSum (mCons (mVar 22) (mNil))))) (gmName 23)) (sSeq (sAsg (mSl false (mLc false (miLT (mCB (bSorted false) (mCons (mLc false (miEnum (mCons (mVar 22) (mNil))) [30, 33] (gmTup 2 (gmCons (gmName 30) (gmCons (gmName 33) (gmNil)))) (mYes) (mTup (mCons (mNeg (mVar 33)) (mCons (mVar 30) (mNil))))) (mNil)))) [34] (gmName 34) (mYes) (mOp ixD (mVar 34) (mC (.int 1)))) (mPN) (mPS (mOp (dMinus) (mVar 20) (mCB bSum (mCons (mVar 23) (mNil)))))) (gmName 24)) (sSeq (sIf (mTB (mOp dNe (mCB (bList false) (mCons (mCall (fun xs => f_shared_cost (xs ++ [])) (mCons (mVar 20) (mCons (mVar 21) (mNil)))) (mNil))) (mLc false (miEnum (mCons (mVar 23) (mNil))) [30, 29] (gmTup 2 (gmCons (gmName 30) (gmCons (gmName 29) (gmNil)))) (mYes) (mOp (dPlus false) (mVar 29) (mCB bInt (mCons (mOp dIn (mVar 30) (mVar 24)) (mNil))))))) (sRet (mC (.bl false))) (sNext)) (sSeq (sPar [25, 26] (mCons (mCall (fun xs => f_law_bands (xs ++ [])) (mCons (mVar 1) (mCons (mC (.int 10000)) (mNil)))) (mCons (mCall (fun xs => f_law_roll (xs ++ [])) (mCons (mVar 1) (mCons (mC (.int 90)) (mNil)))) (mNil)))) (sIf (mTB (mOp dNe (mCall (fun xs => f_resale_right (xs ++ [])) (mCons (mVar 6) (mCons (mVar 25) (mCons (mVar 26) (mNil))))) (mCB bMin2 (mCons (mVar 26) (mCons (mOp (dDiv) (mCall (fun xs => f_law_sum (xs ++ [])) (mCons (mVar 25) (mCons (mVar 6) (mNil)))) (mC (.int 10000))) (mNil)))))) (sRet (mC (.bl false))) (sNext)))))))))))))))))))))))))) (sRet (mCallN f_law_plain))
def f_law : FM := runF ([Str.ofString "script", Str.ofString "dice", Str.ofString "bands", Str.ofString "least", Str.ofString "duty", Str.ofString "fees", Str.ofString "price", Str.ofString "paid", Str.ofString "fee", Str.ofString "due", Str.ofString "able", Str.ofString "told", Str.ofString "edges", Str.ofString "parts", Str.ofString "other", Str.ofString "pays", Str.ofString "gets", Str.ofString "duties", Str.ofString "prices", Str.ofString "cheaper", Str.ofString "cost", Str.ofString "weights", Str.ofString "mine", Str.ofString "shares", Str.ofString "firsts", Str.ofString "rows", Str.ofString "most", Str.ofString "one", Str.ofString "first", Str.ofString "share", Str.ofString "k", Str.ofString "a", Str.ofString "b", Str.ofString "weight", Str.ofString "row"] : List Str).length m_law
theorem ok_law {P : Program} {w : World} {K : PySem.W.Frag} {mg : Str → Option Value} {base h : Heap} (E : EV M w K mg base h) : Ok M P w K mg base 12 (dF 19 "law") ["script"] f_law := by
  have t := M.ti K
  obtain ⟨fd_law_plain, F_law_plain, q0⟩ := ok_law_plain E (P := P)
  have q1 : Binds K fd_law_plain [] [] := F_law_plain.bindsN fun _ _ _ _ _ _ us hl => match us, hl with | [], _ => rfl
  have q2 : mg "_law_plain" = some (.ref (He.fAd K ("_law_plain", none))) := E.glo 11
  obtain ⟨fd_law_rounds, F_law_rounds, q3⟩ := ok_law_rounds E (P := P)
  have q4 : Binds K fd_law_rounds ["script", "most"] [] := F_law_rounds.bindsN fun _ _ _ _ _ _ us hl => match us, hl with | [_, _], _ => rfl
  have q5 : mg "_law_rounds" = some (.ref (He.fAd K ("_law_rounds", none))) := E.glo 6
  obtain ⟨fd_resale_right, F_resale_right, q6⟩ := ok_resale_right E (P := P)
  have q7 : Binds K fd_resale_right ["price", "rows", "most"] [] := F_resale_right.bindsN fun _ _ _ _ _ _ us hl => match us, hl with | [_, _, _], _ => rfl
  have q8 : mg "resale_right" = some (.ref (He.fAd K ("resale_right", none))) := E.glo 2
  obtain ⟨fd_law_sum, F_law_sum, q9⟩ := ok_law_sum E (P := P)
  have q10 : Binds K fd_law_sum ["bands", "price"] [] := F_law_sum.bindsN fun _ _ _ _ _ _ us hl => match us, hl with | [_, _], _ => rfl
  have q11 : mg "_law_sum" = some (.ref (He.fAd K ("_law_sum", none))) := E.glo 8
  have q12 : mg "min" = none := E.free 42
  obtain ⟨fd_law_bands, F_law_bands, q13⟩ := ok_law_bands E (P := P)
  have q14 : Binds K fd_law_bands ["dice", "most"] [] := F_law_bands.bindsN fun _ _ _ _ _ _ us hl => match us, hl with | [_, _], _ => rfl
  have q15 : mg "_law_bands" = some (.ref (He.fAd K ("_law_bands", none))) := E.glo 9
  obtain ⟨fd_law_roll, F_law_roll, q16⟩ := ok_law_roll E (P := P)
  have q17 : Binds K fd_law_roll ["dice", "many"] [] := F_law_roll.bindsN fun _ _ _ _ _ _ us hl => match us, hl with | [_, _], _ => rfl
  have q18 : mg "_law_roll" = some (.ref (He.fAd K ("_law_roll", none))) := E.glo 5
  obtain ⟨fd_shared_cost, F_shared_cost, q19⟩ := ok_shared_cost E (P := P)
  have q20 : Binds K fd_shared_cost ["cost", "prices"] [] := F_shared_cost.bindsN fun _ _ _ _ _ _ us hl => match us, hl with | [_, _], _ => rfl
  have q21 : mg "shared_cost" = some (.ref (He.fAd K ("shared_cost", none))) := E.glo 1
  have q22 : mg "list" = none := E.free 40
  have q23 : mg "enumerate" = none := E.free 37
  have q24 : mg "int" = none := E.free 38
  have q25 : mg "sorted" = none := E.free 44
  have q26 : mg "sum" = none := E.free 45
  have q27 : mg "len" = none := E.free 39
  have q28 : mg "range" = none := E.free 43
  obtain ⟨fd_fee_gap, F_fee_gap, q29⟩ := ok_fee_gap E (P := P)
  have q30 : Binds K fd_fee_gap ["one", "other", "prices"] [] := F_fee_gap.bindsN fun _ _ _ _ _ _ us hl => match us, hl with | [_, _, _], _ => rfl
  have q31 : mg "fee_gap" = some (.ref (He.fAd K ("fee_gap", none))) := E.glo 3
  obtain ⟨fd_split_whole, F_split_whole, q32⟩ := ok_split_whole E (P := P)
  have q33 : Binds K fd_split_whole ["price", "buyer", "seller"] [] := F_split_whole.bindsN fun _ _ _ _ _ _ us hl => match us, hl with | [_, _, _], _ => rfl
  have q34 : mg "split_whole" = some (.ref (He.fAd K ("split_whole", none))) := E.glo 0
  obtain ⟨fd_fees_buyer_pays, F_fees_buyer_pays, q35⟩ := ok_fees_buyer_pays E (P := P)
  have q36 : Binds K fd_fees_buyer_pays ["self", "price"] [] := F_fees_buyer_pays.bindsN fun _ _ _ _ _ _ us hl => match us, hl with | [_, _], _ => rfl
  obtain ⟨fd_fees_seller_gets, F_fees_seller_gets, q37⟩ := ok_fees_seller_gets E (P := P)
  have q38 : Binds K fd_fees_seller_gets ["self", "price"] [] := F_fees_seller_gets.bindsN fun _ _ _ _ _ _ us hl => match us, hl with | [_, _], _ => rfl
  obtain ⟨fd_fees_duty_of, F_fees_duty_of, q39⟩ := ok_fees_duty_of E (P := P)
  have q40 : Binds K fd_fees_duty_of ["self", "price"] [] := F_fees_duty_of.bindsN fun _ _ _ _ _ _ us hl => match us, hl with | [_, _], _ => rfl
  obtain ⟨fd_fees_init, F_fees_init, q41⟩ := ok_fees_init E (P := P)
  obtain ⟨ds_fees_init_4, hd_fees_init_4, q42⟩ := F_fees_init.binds1 (ps := ["self", "bands", "least", "duty"]) 4 2 (by simp [He.DefD.dvs, dM, dF]) (by simp [He.DefD.dvs, dM, dF]) fun _ _ _ _ _ _ _ us its h1 h2 => match us, h1, its, h2 with | [_, _, _, _], _, [_, _], _ => ⟨_, rfl, rfl⟩
  have q43 : mg "Fees" = some (.ref ((M.g K).cls 0)) := E.glo 13
  obtain ⟨fd_fees_share_of, F_fees_share_of, q44⟩ := ok_fees_share_of E (P := P)
  have q45 : Binds K fd_fees_share_of ["self", "price"] [] := F_fees_share_of.bindsN fun _ _ _ _ _ _ us hl => match us, hl with | [_, _], _ => rfl
  obtain ⟨fd_fees_band_parts, F_fees_band_parts, q46⟩ := ok_fees_band_parts E (P := P)
  have q47 : Binds K fd_fees_band_parts ["self", "price"] [] := F_fees_band_parts.bindsN fun _ _ _ _ _ _ us hl => match us, hl with | [_, _], _ => rfl
  have q48 : mg "zip" = none := E.free 47
  have q49 : mg "max" = none := E.free 41
  obtain ⟨fd_fees_price_for, F_fees_price_for, q50⟩ := ok_fees_price_for E (P := P)
  have q51 : Binds K fd_fees_price_for ["self", "sum_paid"] [] := F_fees_price_for.bindsN fun _ _ _ _ _ _ us hl => match us, hl with | [_, _], _ => rfl
  obtain ⟨fd_law_half, F_law_half, q52⟩ := ok_law_half E (P := P)
  have q53 : Binds K fd_law_half ["number", "below"] [] := F_law_half.bindsN fun _ _ _ _ _ _ us hl => match us, hl with | [_, _], _ => rfl
  have q54 : mg "_law_half" = some (.ref (He.fAd K ("_law_half", none))) := E.glo 10
  obtain ⟨fd_fees_fee_of, F_fees_fee_of, q55⟩ := ok_fees_fee_of E (P := P)
  have q56 : Binds K fd_fees_fee_of ["self", "price"] [] := F_fees_fee_of.bindsN fun _ _ _ _ _ _ us hl => match us, hl with | [_, _], _ => rfl
  have S : FnScope [Str.ofString "script", Str.ofString "dice", Str.ofString "bands", Str.ofString "least", Str.ofString "duty", Str.ofString "fees", Str.ofString "price", Str.ofString "paid", Str.ofString "fee", Str.ofString "due", Str.ofString "able", Str.ofString "told", Str.ofString "edges", Str.ofString "parts", Str.ofString "other", Str.ofString "pays", Str.ofString "gets", Str.ofString "duties", Str.ofString "prices", Str.ofString "cheaper", Str.ofString "cost", Str.ofString "weights", Str.ofString "mine", Str.ofString "shares", Str.ofString "firsts", Str.ofString "rows", Str.ofString "most", Str.ofString "one", Str.ofString "first", Str.ofString "share", Str.ofString "k", Str.ofString "a", Str.ofString "b", Str.ofString "weight", Str.ofString "row"] ["script"] (dF 19 "law").scope := C8.fnScope_by (by kernel_rfl)
  have nd := S.nd
  unfold f_law
  refine E.ok (d := dF 19 "law") (N := [Str.ofString "script", Str.ofString "dice", Str.ofString "bands", Str.ofString "least", Str.ofString "duty", Str.ofString "fees", Str.ofString "price", Str.ofString "paid", Str.ofString "fee", Str.ofString "due", Str.ofString "able", Str.ofString "told", Str.ofString "edges", Str.ofString "parts", Str.ofString "other", Str.ofString "pays", Str.ofString "gets", Str.ofString "duties", Str.ofString "prices", Str.ofString "cheaper", Str.ofString "cost", Str.ofString "weights", Str.ofString "mine", Str.ofString "shares", Str.ofString "firsts", Str.ofString "rows", Str.ofString "most", Str.ofString "one", Str.ofString "first", Str.ofString "share", Str.ofString "k", Str.ofString "a", Str.ofString "b", Str.ofString "weight", Str.ofString "row"]) (ps := ["script"]) (k := 11) (ms := m_law) 20 (by kernel_rfl) S fun cdv A outer s H E' hcd hr tk po => ?_
  unfold m_law
  exact (sm_cons (sm_for po rfl (im_LT rfl (em_call rfl tk q3 (hr.mono (by decide)) rfl q5 F_law_rounds.kp q4 .nil (fun _ _ => by simp [VRs]) rfl (len_cons (len_cons (fun _ _ _ _ => len_nil))) (am_cons (em_var rfl (vis_by (by kernel_rfl))) (am_cons em_int am_nil)))) (gm_name nd rfl (loc_by (by kernel_rfl)) (by first | exact .inl rfl | exact .inr rfl)) (sm_cons (sm_asg (em_tup t (am_cons (em_call rfl tk q13 (hr.mono (by decide)) rfl q15 F_law_bands.kp q14 .nil (fun _ _ => by simp [VRs]) rfl (len_cons (len_cons (fun _ _ _ _ => len_nil))) (am_cons (em_var rfl (vis_by (by kernel_rfl))) (am_cons em_int am_nil))) (am_cons (em_call rfl tk q16 (hr.mono (by decide)) rfl q18 F_law_roll.kp q17 .nil (fun _ _ => by simp [VRs]) rfl (len_cons (len_cons (fun _ _ _ _ => len_nil))) (am_cons (em_var rfl (vis_by (by kernel_rfl))) (am_cons em_int am_nil))) (am_cons (em_call rfl tk q16 (hr.mono (by decide)) rfl q18 F_law_roll.kp q17 .nil (fun _ _ => by simp [VRs]) rfl (len_cons (len_cons (fun _ _ _ _ => len_nil))) (am_cons (em_var rfl (vis_by (by kernel_rfl))) (am_cons em_int am_nil))) am_nil)))) (gm_tup (n := 3) rfl rfl (gm_cons (gm_name nd rfl (loc_by (by kernel_rfl)) (by first | exact .inl rfl | exact .inr rfl)) (gm_cons (gm_name nd rfl (loc_by (by kernel_rfl)) (by first | exact .inl rfl | exact .inr rfl)) (gm_cons (gm_name nd rfl (loc_by (by kernel_rfl)) (by first | exact .inl rfl | exact .inr rfl)) gm_nil))) rfl)) (sm_cons (sm_asg (em_tup t (am_cons (em_frz (em_make (ci := 0) t rfl tk (E.mkr 15) q41 (hr.mono (by decide)) rfl q43 q42 hd_fees_init_4 (fun _ _ => by simp [VRs, VR, He.DefD.dvs, dM, dF, He.Dv.v]) rfl (len_cons (len_cons (len_cons (fun _ _ _ _ => len_nil)))) (am_cons (em_var rfl (vis_by (by kernel_rfl))) (am_cons (em_var rfl (vis_by (by kernel_rfl))) (am_cons (em_var rfl (vis_by (by kernel_rfl))) am_nil))))) (am_cons (em_call rfl tk q16 (hr.mono (by decide)) rfl q18 F_law_roll.kp q17 .nil (fun _ _ => by simp [VRs]) rfl (len_cons (len_cons (fun _ _ _ _ => len_nil))) (am_cons (em_var rfl (vis_by (by kernel_rfl))) (am_cons em_int am_nil))) (am_cons (em_call rfl tk q16 (hr.mono (by decide)) rfl q18 F_law_roll.kp q17 .nil (fun _ _ => by simp [VRs]) rfl (len_cons (len_cons (fun _ _ _ _ => len_nil))) (am_cons (em_var rfl (vis_by (by kernel_rfl))) (am_cons em_int am_nil))) am_nil)))) (gm_tup (n := 3) rfl rfl (gm_cons (gm_name nd rfl (loc_by (by kernel_rfl)) (by first | exact .inl rfl | exact .inr rfl)) (gm_cons (gm_name nd rfl (loc_by (by kernel_rfl)) (by first | exact .inl rfl | exact .inr rfl)) (gm_cons (gm_name nd rfl (loc_by (by kernel_rfl)) (by first | exact .inl rfl | exact .inr rfl)) gm_nil))) rfl)) (sm_cons (sm_set nd rfl (loc_by (by kernel_rfl)) (em_callB (call_max2 rfl) k_max2 rfl q49 boot_max (am_cons (em_var rfl (vis_by (by kernel_rfl))) (am_cons (em_op op_fdiv ok_div (em_call rfl tk q9 (hr.mono (by decide)) rfl q11 F_law_sum.kp q10 .nil (fun _ _ => by simp [VRs]) rfl (len_cons (len_cons (fun _ _ _ _ => len_nil))) (am_cons (em_var rfl (vis_by (by kernel_rfl))) (am_cons (em_var rfl (vis_by (by kernel_rfl))) am_nil))) em_int) am_nil))) (.inl rfl)) (sm_cons (sm_set nd rfl (loc_by (by kernel_rfl)) (em_call rfl tk q52 (hr.mono (by decide)) rfl q54 F_law_half.kp q53 .nil (fun _ _ => by simp [VRs]) rfl (len_cons (len_cons (fun _ _ _ _ => len_nil))) (am_cons (em_op op_times (ok_mul t false) (em_var rfl (vis_by (by kernel_rfl))) (em_var rfl (vis_by (by kernel_rfl)))) (am_cons em_int am_nil))) (.inl rfl)) (sm_cons (sm_if (em_tcmp (op_neK rfl (hr.units)) ok_ne (em_tup t (am_cons (em_meth (ci := 0) rfl tk (em_var rfl (vis_by (by kernel_rfl))) (E.cls 14) (E.meth 17) q55 (hr.mono (by decide)) q56 .nil (fun _ _ => by simp [VRs]) rfl (len_cons (fun _ _ _ _ => len_nil)) (am_cons (em_var rfl (vis_by (by kernel_rfl))) am_nil)) (am_cons (em_meth (ci := 0) rfl tk (em_var rfl (vis_by (by kernel_rfl))) (E.cls 14) (E.meth 18) q39 (hr.mono (by decide)) q40 .nil (fun _ _ => by simp [VRs]) rfl (len_cons (fun _ _ _ _ => len_nil)) (am_cons (em_var rfl (vis_by (by kernel_rfl))) am_nil)) (am_cons (em_meth (ci := 0) rfl tk (em_var rfl (vis_by (by kernel_rfl))) (E.cls 14) (E.meth 19) q35 (hr.mono (by decide)) q36 .nil (fun _ _ => by simp [VRs]) rfl (len_cons (fun _ _ _ _ => len_nil)) (am_cons (em_var rfl (vis_by (by kernel_rfl))) am_nil)) (am_cons (em_meth (ci := 0) rfl tk (em_var rfl (vis_by (by kernel_rfl))) (E.cls 14) (E.meth 20) q37 (hr.mono (by decide)) q38 .nil (fun _ _ => by simp [VRs]) rfl (len_cons (fun _ _ _ _ => len_nil)) (am_cons (em_var rfl (vis_by (by kernel_rfl))) am_nil)) am_nil))))) (em_tup t (am_cons (em_var rfl (vis_by (by kernel_rfl))) (am_cons (em_var rfl (vis_by (by kernel_rfl))) (am_cons (em_op op_plus (ok_plus t false) (em_op op_plus (ok_plus t false) (em_var rfl (vis_by (by kernel_rfl))) (em_var rfl (vis_by (by kernel_rfl)))) (em_var rfl (vis_by (by kernel_rfl)))) (am_cons (em_op op_sub ok_minus (em_op op_sub ok_minus (em_var rfl (vis_by (by kernel_rfl))) (em_var rfl (vis_by (by kernel_rfl)))) (em_var rfl (vis_by (by kernel_rfl)))) am_nil))))) rfl) (sm_one (sm_ret em_bl)) sm_nil) (sm_cons (sm_set nd rfl (loc_by (by kernel_rfl)) (em_ifE (em_tcmp op_lt ok_lt (em_var rfl (vis_by (by kernel_rfl))) em_int rfl) (em_lc t false rfl nd (im_rg1 rfl q28 (am_cons (em_op op_plus (ok_plus t false) (em_var rfl (vis_by (by kernel_rfl))) em_int) am_nil)) (blkOk_by (own := [("one", 27)]) (by kernel_rfl)) rfl (by decide) (fun _ _ _ _ _ => (gm_name nd rfl (loc_by (by kernel_rfl)) (by first | exact .inl rfl | exact .inr rfl))) (fun _ _ _ _ _ => (ts_one (em_tcmp op_le ok_le (em_op op_plus (ok_plus t false) (em_op op_plus (ok_plus t false) (em_var rfl (vis_by (by kernel_rfl))) (em_callB (call_max2 rfl) k_max2 rfl q49 boot_max (am_cons (em_var rfl (vis_by (by kernel_rfl))) (am_cons (em_op op_fdiv ok_div (em_call rfl LamX.takes0 q9 (hr.mono (by decide)) rfl q11 F_law_sum.kp q10 .nil (fun _ _ => by simp [VRs]) rfl (len_cons (len_cons (fun _ _ _ _ => len_nil))) (am_cons (em_var rfl (vis_by (by kernel_rfl))) (am_cons (em_var rfl (vis_by (by kernel_rfl))) am_nil))) em_int) am_nil)))) (em_call rfl LamX.takes0 q52 (hr.mono (by decide)) rfl q54 F_law_half.kp q53 .nil (fun _ _ => by simp [VRs]) rfl (len_cons (len_cons (fun _ _ _ _ => len_nil))) (am_cons (em_op op_times (ok_mul t false) (em_callB (call_max2 rfl) k_max2 rfl q49 boot_max (am_cons (em_var rfl (vis_by (by kernel_rfl))) (am_cons (em_op op_fdiv ok_div (em_call rfl LamX.takes0 q9 (hr.mono (by decide)) rfl q11 F_law_sum.kp q10 .nil (fun _ _ => by simp [VRs]) rfl (len_cons (len_cons (fun _ _ _ _ => len_nil))) (am_cons (em_var rfl (vis_by (by kernel_rfl))) (am_cons (em_var rfl (vis_by (by kernel_rfl))) am_nil))) em_int) am_nil))) (em_var rfl (vis_by (by kernel_rfl)))) (am_cons em_int am_nil)))) (em_var rfl (vis_by (by kernel_rfl))) rfl))) (fun _ _ _ _ _ => (em_var rfl (vis_by (by kernel_rfl))))) em_non) (.inl rfl)) (sm_cons (sm_set nd rfl (loc_by (by kernel_rfl)) (em_meth (ci := 0) rfl tk (em_var rfl (vis_by (by kernel_rfl))) (E.cls 14) (E.meth 21) q50 (hr.mono (by decide)) q51 .nil (fun _ _ => by simp [VRs]) rfl (len_cons (fun _ _ _ _ => len_nil)) (am_cons (em_var rfl (vis_by (by kernel_rfl))) am_nil)) (.inl rfl)) (sm_cons (sm_if (em_pw (em_or (em_pw (em_and (em_tcmp op_notN ok_notN (em_var rfl (vis_by (by kernel_rfl))) em_non rfl) (em_and1 (em_tcmp (op_neK rfl (hr.units)) ok_ne (em_var rfl (vis_by (by kernel_rfl))) (em_ifE (em_tcmp (op_neK rfl (hr.units)) ok_ne (em_var rfl (vis_by (by kernel_rfl))) (em_lst t false am_nil) rfl) (em_ixS rfl (em_var rfl (vis_by (by kernel_rfl))) (em_neg em_int) (fun _ _ => rfl)) em_non) rfl)))) (em_or (em_pw (em_and (em_tcmp op_notN ok_notN (em_var rfl (vis_by (by kernel_rfl))) em_non rfl) (em_and1 (em_pw (em_or (em_tcmp op_gt ok_gt (em_meth (ci := 0) rfl tk (em_var rfl (vis_by (by kernel_rfl))) (E.cls 14) (E.meth 19) q35 (hr.mono (by decide)) q36 .nil (fun _ _ => by simp [VRs]) rfl (len_cons (fun _ _ _ _ => len_nil)) (am_cons (em_var rfl (vis_by (by kernel_rfl))) am_nil)) (em_var rfl (vis_by (by kernel_rfl))) rfl) (em_or1 (em_tcmp op_le ok_le (em_meth (ci := 0) rfl tk (em_var rfl (vis_by (by kernel_rfl))) (E.cls 14) (E.meth 19) q35 (hr.mono (by decide)) q36 .nil (fun _ _ => by simp [VRs]) rfl (len_cons (fun _ _ _ _ => len_nil)) (am_cons (em_op op_plus (ok_plus t false) (em_var rfl (vis_by (by kernel_rfl))) em_int) am_nil)) (em_var rfl (vis_by (by kernel_rfl))) rfl))))))) (em_or1 (em_pw (em_and (em_tcmp op_isN ok_isN (em_var rfl (vis_by (by kernel_rfl))) em_non rfl) (em_and1 (em_tcmp op_le ok_le (em_meth (ci := 0) rfl tk (em_var rfl (vis_by (by kernel_rfl))) (E.cls 14) (E.meth 19) q35 (hr.mono (by decide)) q36 .nil (fun _ _ => by simp [VRs]) rfl (len_cons (fun _ _ _ _ => len_nil)) (am_cons em_int am_nil)) (em_var rfl (vis_by (by kernel_rfl))) rfl)))))))) (sm_one (sm_ret em_bl)) sm_nil) (sm_cons (sm_set nd rfl (loc_by (by kernel_rfl)) (em_op op_plus (ok_plus t false) (em_lc t false rfl nd (im_LT rfl (em_var rfl (vis_by (by kernel_rfl)))) (blkOk_by (own := [("first", 28), ("share", 29)]) (by kernel_rfl)) rfl (by decide) (fun _ _ _ _ _ => (gm_tup (n := 2) rfl rfl (gm_cons (gm_name nd rfl (loc_by (by kernel_rfl)) (by first | exact .inl rfl | exact .inr rfl)) (gm_cons (gm_name nd rfl (loc_by (by kernel_rfl)) (by first | exact .inl rfl | exact .inr rfl)) gm_nil)) rfl)) (fun _ _ _ _ _ => ts_nil) (fun _ _ _ _ _ => (em_var rfl (vis_by (by kernel_rfl))))) (em_lst t false (am_cons (em_callB (call_max2 rfl) k_max2 rfl q49 boot_max (am_cons (em_var rfl (vis_by (by kernel_rfl))) (am_cons (em_ixS rfl (em_ixS rfl (em_var rfl (vis_by (by kernel_rfl))) (em_neg em_int) (fun _ _ => rfl)) em_int (fun _ _ => rfl)) am_nil))) am_nil))) (.inl rfl)) (sm_cons (sm_setLc t false rfl nd rfl rfl (sw_true rfl rfl rfl rfl) (im_enum t rfl rfl q23 (am_cons (em_lzip t false rfl rfl rfl q22 rfl q48 (am_cons (em_var rfl (vis_by (by kernel_rfl))) (am_cons (em_sl t false rfl (em_var rfl (vis_by (by kernel_rfl))) (om_some em_int) om_none) am_nil))) am_nil)) (blkOk_by (own := [("k", 30), ("a", 31), ("b", 32)]) (by kernel_rfl)) rfl (by decide) (fun _ _ _ _ _ => (gm_tup (n := 2) rfl rfl (gm_cons (gm_name nd rfl (loc_by (by kernel_rfl)) (by first | exact .inl rfl | exact .inr rfl)) (gm_cons (gm_tup (n := 2) rfl rfl (gm_cons (gm_name nd rfl (loc_by (by kernel_rfl)) (by first | exact .inl rfl | exact .inr rfl)) (gm_cons (gm_name nd rfl (loc_by (by kernel_rfl)) (by first | exact .inl rfl | exact .inr rfl)) gm_nil)) rfl) gm_nil)) rfl)) (fun _ _ _ _ _ => (ts_one (em_tcmp op_gt ok_gt (em_callB (call_min2 rfl) k_min2 rfl q12 boot_min (am_cons (em_var rfl (vis_by (by kernel_rfl))) (am_cons (em_var rfl (vis_by (by kernel_rfl))) am_nil))) (em_var rfl (vis_by (by kernel_rfl))) rfl))) (fun _ _ _ _ _ => (em_tup t (am_cons (em_op op_sub ok_minus (em_callB (call_min2 rfl) k_min2 rfl q12 boot_min (am_cons (em_var rfl (vis_by (by kernel_rfl))) (am_cons (em_var rfl (vis_by (by kernel_rfl))) am_nil))) (em_var rfl (vis_by (by kernel_rfl)))) (am_cons (em_ixS rfl (em_ixS rfl (em_var rfl (vis_by (by kernel_rfl))) (em_var rfl (vis_by (by kernel_rfl))) (fun _ _ => rfl)) em_int (fun _ _ => rfl)) am_nil))))) (sm_cons (sm_if (em_pw (em_or (em_tcmp (op_neK rfl (hr.units)) ok_ne (em_callTy (c_list rfl) (k_list t false) rfl q22 boot_list (am_cons (em_meth (ci := 0) rfl tk (em_var rfl (vis_by (by kernel_rfl))) (E.cls 14) (E.meth 23) q46 (hr.mono (by decide)) q47 .nil (fun _ _ => by simp [VRs]) rfl (len_cons (fun _ _ _ _ => len_nil)) (am_cons (em_var rfl (vis_by (by kernel_rfl))) am_nil)) am_nil)) (em_var rfl (vis_by (by kernel_rfl))) rfl) (em_or1 (em_pw (em_and (em_tcmp op_gt ok_gt (em_var rfl (vis_by (by kernel_rfl))) em_int rfl) (em_and1 (em_tcmp (op_neK rfl (hr.units)) ok_ne (em_meth (ci := 0) rfl tk (em_var rfl (vis_by (by kernel_rfl))) (E.cls 14) (E.meth 22) q44 (hr.mono (by decide)) q45 .nil (fun _ _ => by simp [VRs]) rfl (len_cons (fun _ _ _ _ => len_nil)) (am_cons (em_var rfl (vis_by (by kernel_rfl))) am_nil)) (em_op op_fdiv ok_div (em_op op_times (ok_mul t false) em_int (em_var rfl (vis_by (by kernel_rfl)))) (em_var rfl (vis_by (by kernel_rfl)))) rfl))))))) (sm_one (sm_ret em_bl)) sm_nil) (sm_cons (sm_set nd rfl (loc_by (by kernel_rfl)) (em_frz (em_make (ci := 0) t rfl tk (E.mkr 15) q41 (hr.mono (by decide)) rfl q43 q42 hd_fees_init_4 (fun _ _ => by simp [VRs, VR, He.DefD.dvs, dM, dF, He.Dv.v]) rfl (len_cons (len_cons (len_cons (fun _ _ _ _ => len_nil)))) (am_cons (em_call rfl tk q13 (hr.mono (by decide)) rfl q15 F_law_bands.kp q14 .nil (fun _ _ => by simp [VRs]) rfl (len_cons (len_cons (fun _ _ _ _ => len_nil))) (am_cons (em_var rfl (vis_by (by kernel_rfl))) (am_cons em_int am_nil))) (am_cons (em_call rfl tk q16 (hr.mono (by decide)) rfl q18 F_law_roll.kp q17 .nil (fun _ _ => by simp [VRs]) rfl (len_cons (len_cons (fun _ _ _ _ => len_nil))) (am_cons (em_var rfl (vis_by (by kernel_rfl))) (am_cons em_int am_nil))) (am_cons (em_call rfl tk q16 (hr.mono (by decide)) rfl q18 F_law_roll.kp q17 .nil (fun _ _ => by simp [VRs]) rfl (len_cons (len_cons (fun _ _ _ _ => len_nil))) (am_cons (em_var rfl (vis_by (by kernel_rfl))) (am_cons em_int am_nil))) am_nil))))) (.inl rfl)) (sm_cons (sm_par3 rfl nd rfl rfl rfl (by decide) (by decide) (by decide) rfl rfl rfl (am_cons (em_meth (ci := 0) rfl tk (em_var rfl (vis_by (by kernel_rfl))) (E.cls 14) (E.meth 19) q35 (hr.mono (by decide)) q36 .nil (fun _ _ => by simp [VRs]) rfl (len_cons (fun _ _ _ _ => len_nil)) (am_cons (em_var rfl (vis_by (by kernel_rfl))) am_nil)) (am_cons (em_meth (ci := 0) rfl tk (em_var rfl (vis_by (by kernel_rfl))) (E.cls 14) (E.meth 20) q37 (hr.mono (by decide)) q38 .nil (fun _ _ => by simp [VRs]) rfl (len_cons (fun _ _ _ _ => len_nil)) (am_cons (em_var rfl (vis_by (by kernel_rfl))) am_nil)) (am_cons (em_op op_plus (ok_plus t false) (em_var rfl (vis_by (by kernel_rfl))) (em_meth (ci := 0) rfl tk (em_var rfl (vis_by (by kernel_rfl))) (E.cls 14) (E.meth 18) q39 (hr.mono (by decide)) q40 .nil (fun _ _ => by simp [VRs]) rfl (len_cons (fun _ _ _ _ => len_nil)) (am_cons (em_var rfl (vis_by (by kernel_rfl))) am_nil))) am_nil))) rfl) (sm_cons (sm_set nd rfl (loc_by (by kernel_rfl)) (em_callB (c_sorted rfl) (k_sorted t false) rfl q25 boot_sorted (am_cons (em_lc t false rfl nd (im_rg1 rfl q28 (am_cons (em_call rfl tk q16 (hr.mono (by decide)) rfl q18 F_law_roll.kp q17 .nil (fun _ _ => by simp [VRs]) rfl (len_cons (len_cons (fun _ _ _ _ => len_nil))) (am_cons (em_var rfl (vis_by (by kernel_rfl))) (am_cons em_int am_nil))) am_nil)) (blkOk_by (own := [("k", 30)]) (by kernel_rfl)) rfl (by decide) (fun _ _ _ _ _ => (gm_name nd rfl (loc_by (by kernel_rfl)) (by first | exact .inl rfl | exact .inr rfl))) (fun _ _ _ _ _ => ts_nil) (fun _ _ _ _ _ => (em_call rfl LamX.takes0 q16 (hr.mono (by decide)) rfl q18 F_law_roll.kp q17 .nil (fun _ _ => by simp [VRs]) rfl (len_cons (len_cons (fun _ _ _ _ => len_nil))) (am_cons (em_var rfl (vis_by (by kernel_rfl))) (am_cons em_int am_nil))))) am_nil)) (.inl rfl)) (sm_cons (sm_setLc t false rfl nd rfl rfl (sw_true rfl rfl rfl rfl) (im_LT rfl (em_var rfl (vis_by (by kernel_rfl)))) (blkOk_by (own := [("one", 27)]) (by kernel_rfl)) rfl (by decide) (fun _ _ _ _ _ => (gm_name nd rfl (loc_by (by kernel_rfl)) (by first | exact .inl rfl | exact .inr rfl))) (fun _ _ _ _ _ => (ts_one (em_tcmp op_lt ok_lt (em_meth (ci := 0) rfl LamX.takes0 (em_var rfl (vis_by (by kernel_rfl))) (E.cls 14) (E.meth 19) q35 (hr.mono (by decide)) q36 .nil (fun _ _ => by simp [VRs]) rfl (len_cons (fun _ _ _ _ => len_nil)) (am_cons (em_var rfl (vis_by (by kernel_rfl))) am_nil)) (em_meth (ci := 0) rfl LamX.takes0 (em_var rfl (vis_by (by kernel_rfl))) (E.cls 14) (E.meth 19) q35 (hr.mono (by decide)) q36 .nil (fun _ _ => by simp [VRs]) rfl (len_cons (fun _ _ _ _ => len_nil)) (am_cons (em_var rfl (vis_by (by kernel_rfl))) am_nil)) rfl))) (fun _ _ _ _ _ => (em_var rfl (vis_by (by kernel_rfl))))) (sm_cons (sm_if (em_tcmp (op_neK rfl (hr.units)) ok_ne (em_call rfl tk q32 (hr.mono (by decide)) rfl q34 F_split_whole.kp q33 .nil (fun _ _ => by simp [VRs]) rfl (len_cons (len_cons (len_cons (fun _ _ _ _ => len_nil)))) (am_cons (em_var rfl (vis_by (by kernel_rfl))) (am_cons (em_var rfl (vis_by (by kernel_rfl))) (am_cons (em_var rfl (vis_by (by kernel_rfl))) am_nil)))) (em_tup t (am_cons (em_var rfl (vis_by (by kernel_rfl))) (am_cons (em_var rfl (vis_by (by kernel_rfl))) (am_cons (em_op op_sub ok_minus (em_op op_sub ok_minus (em_var rfl (vis_by (by kernel_rfl))) (em_var rfl (vis_by (by kernel_rfl)))) (em_var rfl (vis_by (by kernel_rfl)))) (am_cons (em_var rfl (vis_by (by kernel_rfl))) am_nil))))) rfl) (sm_one (sm_ret em_bl)) sm_nil) (sm_cons (sm_if (em_tcmp (op_neK rfl (hr.units)) ok_ne (em_call rfl tk q29 (hr.mono (by decide)) rfl q31 F_fee_gap.kp q30 .nil (fun _ _ => by simp [VRs]) rfl (len_cons (len_cons (len_cons (fun _ _ _ _ => len_nil)))) (am_cons (em_var rfl (vis_by (by kernel_rfl))) (am_cons (em_var rfl (vis_by (by kernel_rfl))) (am_cons (em_var rfl (vis_by (by kernel_rfl))) am_nil)))) (em_ifE (em_tcmp (op_neK rfl (hr.units)) ok_ne (em_var rfl (vis_by (by kernel_rfl))) (em_lst t false am_nil) rfl) (em_ixS rfl (em_var rfl (vis_by (by kernel_rfl))) em_int (fun _ _ => rfl)) em_non) rfl) (sm_one (sm_ret em_bl)) sm_nil) (sm_cons (sm_asg (em_tup t (am_cons (em_call rfl tk q16 (hr.mono (by decide)) rfl q18 F_law_roll.kp q17 .nil (fun _ _ => by simp [VRs]) rfl (len_cons (len_cons (fun _ _ _ _ => len_nil))) (am_cons (em_var rfl (vis_by (by kernel_rfl))) (am_cons em_int am_nil))) (am_cons (em_lc t false rfl nd (im_rg1 rfl q28 (am_cons (em_op op_plus (ok_plus t false) em_int (em_call rfl tk q16 (hr.mono (by decide)) rfl q18 F_law_roll.kp q17 .nil (fun _ _ => by simp [VRs]) rfl (len_cons (len_cons (fun _ _ _ _ => len_nil))) (am_cons (em_var rfl (vis_by (by kernel_rfl))) (am_cons em_int am_nil)))) am_nil)) (blkOk_by (own := [("k", 30)]) (by kernel_rfl)) rfl (by decide) (fun _ _ _ _ _ => (gm_name nd rfl (loc_by (by kernel_rfl)) (by first | exact .inl rfl | exact .inr rfl))) (fun _ _ _ _ _ => ts_nil) (fun _ _ _ _ _ => (em_call rfl LamX.takes0 q16 (hr.mono (by decide)) rfl q18 F_law_roll.kp q17 .nil (fun _ _ => by simp [VRs]) rfl (len_cons (len_cons (fun _ _ _ _ => len_nil))) (am_cons (em_var rfl (vis_by (by kernel_rfl))) (am_cons em_int am_nil))))) am_nil))) (gm_tup (n := 2) rfl rfl (gm_cons (gm_name nd rfl (loc_by (by kernel_rfl)) (by first | exact .inl rfl | exact .inr rfl)) (gm_cons (gm_name nd rfl (loc_by (by kernel_rfl)) (by first | exact .inl rfl | exact .inr rfl)) gm_nil)) rfl)) (sm_cons (sm_set nd rfl (loc_by (by kernel_rfl)) (em_ifE (em_tcmp op_gt ok_gt (em_callB (c_sum rfl rfl) k_sum rfl q26 boot_sum (am_cons (em_var rfl (vis_by (by kernel_rfl))) am_nil)) em_int rfl) (em_var rfl (vis_by (by kernel_rfl))) (em_op op_times (ok_mul t false) (em_lst t false (am_cons em_int am_nil)) (em_callB (c_len rfl) k_len rfl q27 boot_len (am_cons (em_var rfl (vis_by (by kernel_rfl))) am_nil)))) (.inl rfl)) (sm_cons (sm_setLc t false rfl nd rfl rfl (sw_true rfl rfl rfl rfl) (im_LT rfl (em_var rfl (vis_by (by kernel_rfl)))) (blkOk_by (own := [("weight", 33)]) (by kernel_rfl)) rfl (by decide) (fun _ _ _ _ _ => (gm_name nd rfl (loc_by (by kernel_rfl)) (by first | exact .inl rfl | exact .inr rfl))) (fun _ _ _ _ _ => ts_nil) (fun _ _ _ _ _ => (em_op op_fdiv ok_div (em_op op_times (ok_mul t false) (em_var rfl (vis_by (by kernel_rfl))) (em_var rfl (vis_by (by kernel_rfl)))) (em_callB (c_sum rfl rfl) k_sum rfl q26 boot_sum (am_cons (em_var rfl (vis_by (by kernel_rfl))) am_nil))))) (sm_cons (sm_set nd rfl (loc_by (by kernel_rfl)) (em_sl t false rfl (em_lc t false rfl nd (im_LT rfl (em_callB (c_sorted rfl) (k_sorted t false) rfl q25 boot_sorted (am_cons (em_lc t false rfl nd (im_enum t rfl rfl q23 (am_cons (em_var rfl (vis_by (by kernel_rfl))) am_nil)) (blkOk_by (own := [("k", 30), ("weight", 33)]) (by kernel_rfl)) rfl (by decide) (fun _ _ _ _ _ => (gm_tup (n := 2) rfl rfl (gm_cons (gm_name nd rfl (loc_by (by kernel_rfl)) (by first | exact .inl rfl | exact .inr rfl)) (gm_cons (gm_name nd rfl (loc_by (by kernel_rfl)) (by first | exact .inl rfl | exact .inr rfl)) gm_nil)) rfl)) (fun _ _ _ _ _ => ts_nil) (fun _ _ _ _ _ => (em_tup t (am_cons (em_neg (em_var rfl (vis_by (by kernel_rfl)))) (am_cons (em_var rfl (vis_by (by kernel_rfl))) am_nil))))) am_nil))) (blkOk_by (own := [("row", 34)]) (by kernel_rfl)) rfl (by decide) (fun _ _ _ _ _ => (gm_name nd rfl (loc_by (by kernel_rfl)) (by first | exact .inl rfl | exact .inr rfl))) (fun _ _ _ _ _ => ts_nil) (fun _ _ _ _ _ => (em_ixS rfl (em_var rfl (vis_by (by kernel_rfl))) em_int (fun _ _ => rfl)))) om_none (om_some (em_op op_sub ok_minus (em_var rfl (vis_by (by kernel_rfl))) (em_callB (c_sum rfl rfl) k_sum rfl q26 boot_sum (am_cons (em_var rfl (vis_by (by kernel_rfl))) am_nil))))) (.inl rfl)) (sm_cons (sm_if (em_tcmp (op_neK rfl (hr.units)) ok_ne (em_callTy (c_list rfl) (k_list t false) rfl q22 boot_list (am_cons (em_call rfl tk q19 (hr.mono (by decide)) rfl q21 F_shared_cost.kp q20 .nil (fun _ _ => by simp [VRs]) rfl (len_cons (len_cons (fun _ _ _ _ => len_nil))) (am_cons (em_var rfl (vis_by (by kernel_rfl))) (am_cons (em_var rfl (vis_by (by kernel_rfl))) am_nil))) am_nil)) (em_lc t false rfl nd (im_enum t rfl rfl q23 (am_cons (em_var rfl (vis_by (by kernel_rfl))) am_nil)) (blkOk_by (own := [("k", 30), ("share", 29)]) (by kernel_rfl)) rfl (by decide) (fun _ _ _ _ _ => (gm_tup (n := 2) rfl rfl (gm_cons (gm_name nd rfl (loc_by (by kernel_rfl)) (by first | exact .inl rfl | exact .inr rfl)) (gm_cons (gm_name nd rfl (loc_by (by kernel_rfl)) (by first | exact .inl rfl | exact .inr rfl)) gm_nil)) rfl)) (fun _ _ _ _ _ => ts_nil) (fun _ _ _ _ _ => (em_op op_plus (ok_plus t false) (em_var rfl (vis_by (by kernel_rfl))) (em_callTy call_int1 k_int rfl q24 boot_int (am_cons (em_cmp (op_inK rfl (units65 hr)) ok_in (em_var rfl (vis_by (by kernel_rfl))) (em_var rfl (vis_by (by kernel_rfl))) rfl) am_nil))))) rfl) (sm_one (sm_ret em_bl)) sm_nil) (sm_cons (sm_par rfl nd rfl rfl (by decide) rfl rfl (am_cons (em_call rfl tk q13 (hr.mono (by decide)) rfl q15 F_law_bands.kp q14 .nil (fun _ _ => by simp [VRs]) rfl (len_cons (len_cons (fun _ _ _ _ => len_nil))) (am_cons (em_var rfl (vis_by (by kernel_rfl))) (am_cons em_int am_nil))) (am_cons (em_call rfl tk q16 (hr.mono (by decide)) rfl q18 F_law_roll.kp q17 .nil (fun _ _ => by simp [VRs]) rfl (len_cons (len_cons (fun _ _ _ _ => len_nil))) (am_cons (em_var rfl (vis_by (by kernel_rfl))) (am_cons em_int am_nil))) am_nil)) rfl) (sm_one (sm_if (em_tcmp (op_neK rfl (hr.units)) ok_ne (em_call rfl tk q6 (hr.mono (by decide)) rfl q8 F_resale_right.kp q7 .nil (fun _ _ => by simp [VRs]) rfl (len_cons (len_cons (len_cons (fun _ _ _ _ => len_nil)))) (am_cons (em_var rfl (vis_by (by kernel_rfl))) (am_cons (em_var rfl (vis_by (by kernel_rfl))) (am_cons (em_var rfl (vis_by (by kernel_rfl))) am_nil)))) (em_callB (call_min2 rfl) k_min2 rfl q12 boot_min (am_cons (em_var rfl (vis_by (by kernel_rfl))) (am_cons (em_op op_fdiv ok_div (em_call rfl tk q9 (hr.mono (by decide)) rfl q11 F_law_sum.kp q10 .nil (fun _ _ => by simp [VRs]) rfl (len_cons (len_cons (fun _ _ _ _ => len_nil))) (am_cons (em_var rfl (vis_by (by kernel_rfl))) (am_cons (em_var rfl (vis_by (by kernel_rfl))) am_nil))) em_int) am_nil))) rfl) (sm_one (sm_ret em_bl)) sm_nil)))))))))))))))))))))))))) (sm_one (sm_ret (em_callN rfl tk q0 (hr.mono (by decide)) rfl q2 F_law_plain.kp q1))))
abbrev R : PySem.W.OpenRow := PySem.W.OpenLaw.row PySem.Challenge.rw_auctionstack_k11_fees_on_prices
abbrev hk : PySem.W.Hook := He.hookX 6 M.fa M.fn [] M.tf M.ex
def ob (s : PySem.W.SharedT) : He.AlX := He.obsX 6 M.fa M.fn [] M.tf M.ex (HandSHeadRun.getT s)
theorem ob_eq (s : PySem.W.SharedT) : ob s = hk.obs s.abs := He.obsX_eq (HandSHeadRun.getT_eq s)
def loose : List Str := [Str.ofString "AuctionFault", Str.ofString "FeeError", Str.ofString "MOST_BANDS", Str.ofString "Fees", Str.ofString "split_whole", Str.ofString "shared_cost", Str.ofString "resale_right", Str.ofString "fee_gap", Str.ofString "_law_dice", Str.ofString "_law_roll", Str.ofString "_law_rounds", Str.ofString "_law_told", Str.ofString "_law_sum", Str.ofString "_law_bands", Str.ofString "_law_half", Str.ofString "_law_plain"]
theorem run (w : World) : HandSHeadRun.RunEq R (PySem.W.view R.prog [19]) hk ob 3000 loose w := by
  intro os
  kernel_rfl
theorem plain_ok : ∃ h, f_law_plain [] [] = .ok (.bl true) h := by
  have e : (match f_law_plain [] [] with | .ok (.bl true) _ => true | _ => false) = true := by decide +kernel
  split at e
  · rename_i h q; exact ⟨h, q⟩
  · cases e
theorem finish (pl : Plain 63 f_law) : PySem.Challenge.rw_auctionstack_k11_fees_on_prices.Holds := by
  w_on; o_law
  refine HandSHeadRun.head_any (r := PySem.W.OpenLaw.row PySem.Challenge.rw_auctionstack_k11_fees_on_prices) (q := PySem.W.view (PySem.W.OpenLaw.row PySem.Challenge.rw_auctionstack_k11_fees_on_prices).prog [19]) (H := hk) (ob := ob) (M := 3000) (loose := loose) (d := HandSHeadRun.topDef (PySem.W.OpenLaw.row PySem.Challenge.rw_auctionstack_k11_fees_on_prices).prog 19) (kwd := []) ob_eq
    (by kernel_rfl) (fun s => by kernel_rfl) run (by kernel_rfl) (by kernel_rfl) (by kernel_rfl) (by rfl) (by first | assumption | decide +kernel) (by decide +kernel) ⟨rfl, rfl, rfl, rfl, rfl, by decide +kernel⟩ ?hw ?hc
  case hw => w_witness2
  case hc =>
    refine walk_ofX (l := PySem.Challenge.rw_auctionstack_k11_fees_on_prices) (n := 63) (k := 12) (x := "script") rfl (by decide) (by kernel_rfl) ⟨rfl, by decide, by decide⟩ ?F
    intro w mg fa h Y G hmg0
    obtain ⟨K, KX, c⟩ := Y
    have hmg : mg ("law" : PySem.Str) = some (.ref fa) := by
      have e : (HandSHeadRun.topDef (PySem.W.OpenLaw.row PySem.Challenge.rw_auctionstack_k11_fees_on_prices).prog 19).name = ("law" : PySem.Str) := by kernel_rfl
      rw [← e]
      exact hmg0
    exact ⟨K, KX, EV.law (M := M) (d := dF 19 "law") c KX G hmg rfl (He.glo_ok KX G (c.t.d.fact 12 (f := .glo "law") rfl)) (fun _ => rfl) (fun _ => rfl) (fun _ _ _ _ _ _ us hl => match us, hl with | [_], _ => rfl) 20 rfl (fun base E => ok_law E) pl⟩
end K11
-- skipped: _law_roll: self call: return int(_law_roll(dice, many // 100000000 + 1) * 100000000 + _law_roll(dice, 100000000)) % many
-- skipped: _law_told: Try: try:
end
section
set_option Elab.async false
set_option linter.all false
set_option maxRecDepth 100000
namespace K11
open PySem DV L2
theorem roll_ok {h : AH} {n : Nat} {a b m many : Int} (e : h[n]? = some (some (.lst [.int a, .int b, .int m]))) (h0 : 0 < many) (h1 : many ≤ 100000000) :
    ∃ r a' b' m', 0 ≤ r ∧ r < many ∧ f_law_roll [.ref n, .int many] h = .ok (.int r) (h.set n (some (.lst [.int a', .int b', .int m']))) := by
  have hn : n < List.length h := (List.getElem?_eq_some_iff.mp e).1
  have i0 : ∀ (x y z : Int), atI [D.int x, .int y, .int z] 0 = some (.int x) := fun _ _ _ => rfl
  have i1 : ∀ (x y z : Int), atI [D.int x, .int y, .int z] 1 = some (.int y) := fun _ _ _ => rfl
  have i2 : ∀ (x y z : Int), atI [D.int x, .int y, .int z] 2 = some (.int z) := fun _ _ _ => rfl
  have ns : ∀ v, (h.set n v)[n]? = some v := fun v => List.getElem?_set_self hn
  have x0 : ixN 3 0 = some 0 := rfl
  have x1 : ixN 3 1 = some 1 := rfl
  have x2 : ixN 3 2 = some 2 := rfl
  have m1 : ∀ x : Int, CMul x 48271 := fun x => .inr ⟨by decide, by decide⟩
  have m2 : ∀ x : Int, CMul x 69621 := fun x => .inr ⟨by decide, by decide⟩
  by_cases hc : m = 2 ∨ (m = 1 ∧ 0 < a)
  · refine ⟨a % many, a / many, b, m, Int.emod_nonneg _ (by omega), Int.emod_lt_of_pos _ h0, ?_⟩
    have hb : (if m = 2 then true else if m = 1 then decide (0 < a) else false) = true := by
      rcases hc with q | ⟨q, q2⟩
      · rw [if_pos q]
      · rw [if_neg (by omega), if_pos q]; exact decide_eq_true q2
    unfold f_law_roll runF m_law_roll
    rcases hc with q | ⟨q, q2⟩
    · subst q
      simp [startA, sSeq, sIf, mOr, mAnd, mTB, mOp, mVar, mC, bindR, ofE, seqS, ixD, getS, getL, e, asB, dEq_int, dGt_int, sAsg, mCB, mCons, mNil, bInt, gmName, ofG, gmSub, setAt, listAt, i0, i1, i2, x0, x1, x2, sRet, dMod_int h0, dDiv_int h0 (by omega : many < 1073741824), sNext]
    · subst q
      simp [startA, sSeq, sIf, mOr, mAnd, mTB, mOp, mVar, mC, bindR, ofE, seqS, ixD, getS, getL, e, asB, dEq_int, dGt_int, sAsg, mCB, mCons, mNil, bInt, gmName, ofG, gmSub, setAt, listAt, i0, i1, i2, x0, x1, x2, sRet, dMod_int h0, dDiv_int h0 (by omega : many < 1073741824), sNext, q2]
  · have h2 : ¬ m = 2 := fun z => hc (.inl z)
    refine ⟨(a * 48271 + b * 69621 + 11) % 2147483647 / 7 % many, (a * 48271 + b * 69621 + 11) % 2147483647, b + 1, 0, Int.emod_nonneg _ (by omega), Int.emod_lt_of_pos _ h0, ?_⟩
    unfold f_law_roll runF m_law_roll
    by_cases h3 : m = 1
    · have h4 : ¬ 0 < a := fun z => hc (.inr ⟨h3, z⟩)
      subst h3
      simp [startA, sSeq, sIf, mOr, mAnd, mTB, mOp, mVar, mC, bindR, ofE, seqS, ixD, getS, getL, e, asB, dEq_int, dGt_int, sAsg, mCB, mCons, mNil, bInt, gmName, ofG, gmSub, setAt, listAt, i0, i1, i2, x0, x1, x2, sRet, dMod_int h0, dMod_int (by decide : (0 : Int) < 2147483647), dDiv_int (by decide : (0 : Int) < 7) (by decide), dMul_int (m1 _), dMul_int (m2 _), dPlus_int, sNext, h4, ns, h1, Int.not_lt.mpr h1]
    · simp [startA, sSeq, sIf, mOr, mAnd, mTB, mOp, mVar, mC, bindR, ofE, seqS, ixD, getS, getL, e, asB, dEq_int, dGt_int, sAsg, mCB, mCons, mNil, bInt, gmName, ofG, gmSub, setAt, listAt, i0, i1, i2, x0, x1, x2, sRet, dMod_int h0, dMod_int (by decide : (0 : Int) < 2147483647), dDiv_int (by decide : (0 : Int) < 7) (by decide), dMul_int (m1 _), dMul_int (m2 _), dPlus_int, sNext, h2, h3, ns, h1, Int.not_lt.mpr h1]
end K11
end
section
set_option Elab.async false
set_option linter.all false
set_option maxRecDepth 100000
namespace K11
open PySem DV L2
theorem dice_ok (c : Int) (h : AH) : ∃ a b m : Int, f_law_dice [.int c] h = .ok (.ref h.length) (h ++ [some (.lst [.int a, .int b, .int m])]) := by
  have p18 : dPow (.int 10) (.int 18) = fun h => Rv.ok (.int 1000000000000000000) h := by
    funext h
    simp [dPow, dInt, okIf, CPow]
  have z3 : ∀ x : Nat, x = 3 → x ≤ sizeLine := fun x e => by rw [e, sizeLine_eq]; omega
  have s3 : 3 ≤ sizeLine := by rw [sizeLine_eq]; omega
  unfold f_law_dice runF m_law_dice
  by_cases h1 : -10 < c
  · by_cases h2 : c < 10
    · simp [startA, sSeq, sIf, mTB, mOp, mVar, mC, bindR, ofE, seqS, asB, mChain, dMinus_int, dLt_int, h1, h2, sRet, mLst, mCB, mCons, mNil, bAbs, mkL, okIf, s3]
    · simp [startA, sSeq, sIf, mTB, mOp, mVar, mC, bindR, ofE, seqS, asB, mChain, dMinus_int, dLt_int, h1, h2, sRet, mLst, mCB, mCons, mNil, bInt, mkL, okIf, sNext, dMod_int, dPlus_int, dGe_int, p18, s3]
  · simp [startA, sSeq, sIf, mTB, mOp, mVar, mC, bindR, ofE, seqS, asB, mChain, dMinus_int, dLt_int, h1, sRet, mLst, mCB, mCons, mNil, bInt, mkL, okIf, sNext, dMod_int, dPlus_int, dGe_int, p18, s3]
end K11
end
section
set_option Elab.async false
set_option linter.all false
set_option maxRecDepth 100000
namespace K11
open PySem DV L2
theorem rounds_ok (ns : List Int) : ∃ a b m : Int, f_law_rounds [.scr ns, .int 1] [] = .ok (.lst [.ref 0]) [some (.lst [.int a, .int b, .int m])] := by
  have key : ∀ c : Int, ∃ a b m : Int, ∀ v, mLc false (miLT (mVar 2)) [3] (gmName 3) (mYes) (mCall (fun xs => f_law_dice (xs ++ [])) (mCons (mVar 3) (mNil))) [v, some (.int 1), some (.lst [.int c]), none] [] = .ok (.lst [.ref 0]) [some (.lst [.int a, .int b, .int m])] := fun c => by
    obtain ⟨a, b, m, e⟩ := dice_ok c []
    refine ⟨a, b, m, fun v => ?_⟩
    have s0 : (0 : Nat) < sizeLine := by rw [sizeLine_eq]; omega
    rw [mLc_eq (ds := [.int c]) (it := itOf (.lst [.int c])) (h1 := []) (by simp [miLT, mVar, bindR, itLT, getL]) (itIs_lst _) (by simp [bigN])]
    simp [bindR, compL, wipeA, gmName, mYes, noX, mCall, mCons, mVar, mNil, e, mkL, s0]
  have cut : ∀ (d : D) (ds : List D), cutD (d :: ds) none (some 1) = [d] := fun d ds => by
    unfold cutD
    simp [HT.sIx]
  unfold f_law_rounds runF m_law_rounds
  cases ns with
  | nil =>
    obtain ⟨a, b, m, e⟩ := key 0
    refine ⟨a, b, m, ?_⟩
    have s0 : 0 ≤ sizeLine := Nat.zero_le _
    have s1 : 1 ≤ sizeLine := by rw [sizeLine_eq]; omega
    have e1 : ∀ h, dEq (.lst []) (.lst []) h = .ok (.bl true) h := fun h => by simp [dEq, dEqB, toP, getL, allS, PyData.eqv, PyData.eqvAll]
    simp [-List.append_nil, startA, sSeq, sAsg, mSl, mVar, mPN, mPS, mC, bindR, ofE, ofG, seqS, gmName, slD, getL, cutD, mkL, sIf, mTB, mOp, mLst, mCons, mNil, okIf, s0, s1, e1, asB, sRet, e]
  | cons c r =>
    obtain ⟨a, b, m, e⟩ := key c
    refine ⟨a, b, m, ?_⟩
    have s0 : 0 ≤ sizeLine := Nat.zero_le _
    have e1 : ∀ h, dEq (.lst [.int c]) (.lst []) h = .ok (.bl false) h := fun h => by simp [dEq, dEqB, toP, getL, allS, PyData.eqv, PyData.eqvAll]
    simp [-List.append_nil, startA, sSeq, sAsg, mSl, mVar, mPN, mPS, mC, bindR, ofE, ofG, seqS, gmName, slD, getL, cut, mkL, sIf, mTB, mOp, mLst, mCons, mNil, okIf, s0, e1, asB, sRet, e, sNext]
end K11
end
section
set_option Elab.async false
set_option linter.all false
set_option maxRecDepth 100000
namespace K11
/-- bands' parts together -/
def bS : List (Int × Int) → Int → Int
  | [], _ => 0
  | [a], p => max 0 (p - a.1) * a.2
  | a :: b :: r, p => max 0 (min p b.1 - a.1) * a.2 + bS (b :: r) p
def lastS : List (Int × Int) → Int → Int
  | [], _ => 0
  | [a], _ => a.2
  | a :: b :: r, c => if b.1 ≤ c then lastS (b :: r) c else a.2
abbrev Rise (rows : List (Int × Int)) : Prop := rows.Pairwise fun p q => p.1 < q.1
theorem bS_below : ∀ (rows : List (Int × Int)) (p : Int), Rise rows → (∀ a, rows.head? = some a → p ≤ a.1) → bS rows p = 0
  | [], p, _, _ => rfl
  | [a], p, _, h => by
    have := h a rfl
    unfold bS
    rw [Int.max_eq_left (by omega), Int.zero_mul]
  | a :: b :: r, p, hr, h => by
    have h1 := h a rfl
    have h2 : a.1 < b.1 := (List.pairwise_cons.mp hr).1 b (by simp)
    unfold bS
    rw [bS_below (b :: r) p (List.pairwise_cons.mp hr).2 (fun x e => by simp at e; subst e; omega), Int.max_eq_left (by omega), Int.zero_mul]
    rfl
theorem bS_step : ∀ (rows : List (Int × Int)) (p : Int), Rise rows → (∀ a, rows.head? = some a → a.1 ≤ p) → bS rows (p + 1) = bS rows p + lastS rows p
  | [], p, _, _ => rfl
  | [a], p, _, h => by
    have := h a rfl
    unfold bS lastS
    rw [Int.max_eq_right (by omega), Int.max_eq_right (by omega), show p + 1 - a.1 = (p - a.1) + 1 by omega, Int.add_mul, Int.one_mul]
  | a :: b :: r, p, hr, h => by
    have h1 := h a rfl
    have h2 : a.1 < b.1 := (List.pairwise_cons.mp hr).1 b (by simp)
    have h3 := (List.pairwise_cons.mp hr).2
    unfold bS lastS
    by_cases q : b.1 ≤ p
    · rw [if_pos q, bS_step (b :: r) p h3 (fun x e => by simp at e; subst e; exact q), Int.min_eq_right (by omega), Int.min_eq_right (by omega), Int.add_assoc]
    · rw [if_neg q, bS_below (b :: r) (p + 1) h3 (fun x e => by simp at e; subst e; omega), bS_below (b :: r) p h3 (fun x e => by simp at e; subst e; omega), Int.min_eq_left (by omega), Int.min_eq_left (by omega), Int.max_eq_right (by omega), Int.max_eq_right (by omega), show p + 1 - a.1 = (p - a.1) + 1 by omega, Int.add_mul, Int.one_mul]
      omega
theorem lastS_mem : ∀ (rows : List (Int × Int)) (p : Int), rows ≠ [] → ∃ a ∈ rows, lastS rows p = a.2
  | [], p, h => absurd rfl h
  | [a], p, _ => ⟨a, by simp, rfl⟩
  | a :: b :: r, p, _ => by
    unfold lastS
    split
    · obtain ⟨x, hx, e⟩ := lastS_mem (b :: r) p (by simp)
      exact ⟨x, by simp [List.mem_cons] at hx ⊢; exact .inr hx, e⟩
    · exact ⟨a, by simp, rfl⟩
/-- rows of bands: not none, the first from 0, rising, shares from 0 to most -/
def Bands (most : Int) (rows : List (Int × Int)) : Prop := Rise rows ∧ 1 ≤ rows.length ∧ rows.length ≤ 3 ∧ (∀ p, rows.head? = some p → p.1 = 0) ∧ ∀ p ∈ rows, 0 ≤ p.1 ∧ p.1 < 180 ∧ 0 ≤ p.2 ∧ p.2 ≤ most
theorem Bands.last {most : Int} {rows : List (Int × Int)} (h : Bands most rows) (p : Int) : 0 ≤ lastS rows p := by
  obtain ⟨x, hx, e⟩ := lastS_mem rows p (by intro e; have := h.2.1; rw [e] at this; simp at this)
  rw [e]
  exact (h.2.2.2.2 x hx).2.2.1
theorem Bands.step {most : Int} {rows : List (Int × Int)} (h : Bands most rows) {p : Int} (hp : 0 ≤ p) : bS rows (p + 1) = bS rows p + lastS rows p := bS_step rows p h.1 fun a e => by have := h.2.2.2.1 a e; omega
theorem Bands.zero {most : Int} {rows : List (Int × Int)} (h : Bands most rows) : bS rows 0 = 0 := bS_below rows 0 h.1 fun a e => by have := h.2.2.2.1 a e; omega
theorem Bands.mono {most : Int} {rows : List (Int × Int)} (h : Bands most rows) : ∀ (n : Nat) {p : Int}, 0 ≤ p → bS rows p ≤ bS rows (p + n)
  | 0, p, _ => by simp
  | n + 1, p, hp => by
    have := h.mono n hp
    have h2 := h.step (p := p + n) (by omega)
    have h3 := h.last (p + n)
    rw [show (p + ((n + 1 : Nat) : Int)) = p + n + 1 by omega, h2]
    omega
theorem Bands.mono' {most : Int} {rows : List (Int × Int)} (h : Bands most rows) {p q : Int} (hp : 0 ≤ p) (hq : p ≤ q) : bS rows p ≤ bS rows q := by
  have := h.mono (q - p).toNat hp
  rwa [show p + ((q - p).toNat : Int) = q by omega] at this
def sumI : List Int → Int
  | [] => 0
  | a :: r => a + sumI r
theorem sumI_app : ∀ (xs ys : List Int), sumI (xs ++ ys) = sumI xs + sumI ys
  | [], ys => by simp [sumI]
  | x :: xs, ys => by simp [sumI, sumI_app xs ys, Int.add_assoc]
theorem Bands.sum {most : Int} {rows : List (Int × Int)} (h : Bands most rows) : ∀ n : Nat, sumI ((List.range n).map fun (i : Nat) => lastS rows i) = bS rows n
  | 0 => by simp [sumI, h.zero]
  | n + 1 => by
    rw [List.range_succ, List.map_append, sumI_app, h.sum n]
    have := h.step (p := n) (by omega)
    simp only [List.map_cons, List.map_nil, sumI, Int.add_zero]
    rw [← this]
    rfl
def fil (c : Int) (rows : List (Int × Int)) : List Int := (rows.filter fun p => decide (p.1 ≤ c)).map (·.2)
theorem fil_none {c : Int} : ∀ {rows : List (Int × Int)}, (∀ p ∈ rows, c < p.1) → fil c rows = []
  | rows, h => by
    unfold fil
    rw [List.map_eq_nil_iff, List.filter_eq_nil_iff]
    intro a ha
    have := h a ha
    simp
    omega
theorem fil_last {c : Int} : ∀ {rows : List (Int × Int)}, Rise rows → rows ≠ [] → (∀ a, rows.head? = some a → a.1 ≤ c) → ∃ l, fil c rows = l ++ [lastS rows c]
  | [], _, h, _ => absurd rfl h
  | [a], _, _, h => by
    have := h a rfl
    exact ⟨[], by simp [fil, this, lastS]⟩
  | a :: b :: r, hr, _, h => by
    have h1 := h a rfl
    have h3 := (List.pairwise_cons.mp hr).2
    have e1 : fil c (a :: b :: r) = a.2 :: fil c (b :: r) := by simp [fil, List.filter_cons, h1]
    unfold lastS
    by_cases q : b.1 ≤ c
    · obtain ⟨l, e⟩ := fil_last h3 (by simp) (fun x e => by simp at e; subst e; exact q)
      rw [if_pos q, e1, e]
      exact ⟨a.2 :: l, rfl⟩
    · rw [if_neg q, e1, fil_none]
      · exact ⟨[], rfl⟩
      · intro p hp
        rcases List.mem_cons.mp hp with rfl | hp
        · omega
        · have := (List.pairwise_cons.mp h3).1 p hp
          omega
def half (n b : Int) : Int := n / b + if b ≤ 2 * (n % b) then 1 else 0
theorem half_1000 (n : Int) : half n 1000 = (2 * n + 1000) / 2000 := by
  unfold half
  split <;> omega
def feeV (rows : List (Int × Int)) (least p : Int) : Int := max least (bS rows p / 1000)
def dueV (rows : List (Int × Int)) (least duty p : Int) : Int := (2 * feeV rows least p * duty + 1000) / 2000
def payV (rows : List (Int × Int)) (least duty p : Int) : Int := p + feeV rows least p + dueV rows least duty p
def getV (rows : List (Int × Int)) (least duty p : Int) : Int := p - feeV rows least p - dueV rows least duty p
theorem half_due (rows : List (Int × Int)) (least duty p : Int) : half (feeV rows least p * duty) 1000 = dueV rows least duty p := by
  rw [half_1000, dueV, Int.mul_assoc]
theorem Bands.fee_mono {most least : Int} {rows : List (Int × Int)} (h : Bands most rows) {p q : Int} (hp : 0 ≤ p) (hq : p ≤ q) : feeV rows least p ≤ feeV rows least q := by
  have := h.mono' hp hq
  unfold feeV
  have : bS rows p / 1000 ≤ bS rows q / 1000 := by omega
  omega
theorem Bands.fee_pos {most least : Int} {rows : List (Int × Int)} (hl : 0 ≤ least) (p : Int) : 0 ≤ feeV rows least p := by unfold feeV; omega
theorem Bands.pay_mono {most least duty : Int} {rows : List (Int × Int)} (h : Bands most rows) (hd : 0 ≤ duty) {p q : Int} (hp : 0 ≤ p) (hq : p < q) : payV rows least duty p < payV rows least duty q := by
  have h1 := h.fee_mono (least := least) hp (Int.le_of_lt hq)
  have h2 := Int.mul_le_mul_of_nonneg_right h1 hd
  unfold payV dueV
  rw [Int.mul_assoc, Int.mul_assoc]
  have : (2 * (feeV rows least p * duty) + 1000) / 2000 ≤ (2 * (feeV rows least q * duty) + 1000) / 2000 := by omega
  omega
theorem Bands.pay_ge {most least duty : Int} {rows : List (Int × Int)} (h : Bands most rows) (hl : 0 ≤ least) (hd : 0 ≤ duty) {p : Int} : p ≤ payV rows least duty p := by
  have h1 := Bands.fee_pos (most := most) (rows := rows) hl p
  have h2 := Int.mul_nonneg h1 hd
  unfold payV dueV
  rw [Int.mul_assoc]
  omega
/-- the greatest price -/
def Best (rows : List (Int × Int)) (least duty paid p : Int) : Prop := 0 ≤ p ∧ p ≤ paid ∧ payV rows least duty p ≤ paid ∧ paid < payV rows least duty (p + 1)
end K11
end
section
set_option Elab.async false
set_option linter.all false
set_option maxRecDepth 100000
namespace K11
open PySem DV L2
theorem half_ok {n b : Int} (h0 : 0 < b) (h1 : b < 1073741824) (h : AH) : f_law_half [.int n, .int b] h = .ok (.int (half n b)) h := by
  have m2 : CMul 2 (n % b) := .inl ⟨by decide, by decide⟩
  unfold f_law_half runF m_law_half half
  simp [startA, sRet, mOp, mVar, mC, bindR, ofE, mCB, mCons, mNil, bInt, dDiv_int h0 h1, dMod_int h0, dMul_int m2, dGe_int, dPlus_int]
end K11
end
section
set_option Elab.async false
set_option linter.all false
set_option maxRecDepth 100000
namespace K11
open PySem DV L2
def rowD (p : Int × Int) : D := .tup [.int p.1, .int p.2]
/-- rows of bands: firsts rise and lie below f, shares from 0 to most -/
def Rows (most : Int) : Int → List (Int × Int) → Prop := fun f rows => (rows.Pairwise fun p q => p.1 < q.1) ∧ ∀ p ∈ rows, 0 ≤ p.1 ∧ p.1 < f ∧ 0 ≤ p.2 ∧ p.2 ≤ most
theorem Rows.snoc {most f s d : Int} {rows : List (Int × Int)} (r : Rows most f rows) (hf : 0 ≤ f) (h0 : 0 ≤ s) (h1 : s ≤ most) (hd : 0 ≤ d) : Rows most (f + 1 + d) (rows ++ [(f, s)]) := by
  refine ⟨List.pairwise_append.mpr ⟨r.1, List.pairwise_singleton _ _, fun a ha b hb => ?_⟩, fun p hp => ?_⟩
  · rw [List.mem_singleton.mp hb]; exact (r.2 a ha).2.1
  · rcases List.mem_append.mp hp with hp | hp
    · obtain ⟨a, b, c, e⟩ := r.2 p hp
      exact ⟨a, by omega, c, e⟩
    · rw [List.mem_singleton.mp hp]
      exact ⟨hf, by show f < f + 1 + d; omega, h0, h1⟩
end K11
end
section
set_option Elab.async false
set_option linter.all false
set_option maxRecDepth 100000
namespace K11
open PySem DV L2
def bandBody : MS := (sSeq (sAsg (mOp (dPlus false) (mVar 2) (mLst false (mCons (mTup (mCons (mVar 3) (mCons (mCall (fun xs => f_law_roll (xs ++ [])) (mCons (mVar 0) (mCons (mOp (dPlus false) (mVar 1) (mC (.int 1))) (mNil)))) (mNil)))) (mNil)))) (gmName 2)) (sAsg (mOp (dPlus false) (mOp (dPlus false) (mVar 3) (mC (.int 1))) (mCall (fun xs => f_law_roll (xs ++ [])) (mCons (mVar 0) (mCons (mC (.int 60)) (mNil))))) (gmName 3)))
def dce (a b m : Int) : Option O := some (.lst [.int a, .int b, .int m])
theorem band_step {h : AH} {n : Nat} {a b m most f : Int} {rows : List (Int × Int)} {k : D} (e : h[n]? = some (dce a b m)) (h0 : 0 ≤ most) (h1 : most < 100000000) (r : Rows most f rows) (hf : 0 ≤ f) (hl : rows.length < 100) :
    ∃ s d a' b' m', 0 ≤ s ∧ s ≤ most ∧ 0 ≤ d ∧ d < 60 ∧ bandBody [some (.ref n), some (.int most), some (.lst (rows.map rowD)), some (.int f), some k] h = .ok (.nx [some (.ref n), some (.int most), some (.lst ((rows ++ [(f, s)]).map rowD)), some (.int (f + 1 + d)), some k]) (h.set n (dce a' b' m')) := by
  have hn : n < List.length h := (List.getElem?_eq_some_iff.mp e).1
  obtain ⟨s, a1, b1, m1, p1, p2, p3⟩ := roll_ok (many := most + 1) e (by omega) (by omega)
  obtain ⟨d, a2, b2, m2, q1, q2, q3⟩ := roll_ok (h := h.set n (some (.lst [.int a1, .int b1, .int m1]))) (n := n) (many := 60) (List.getElem?_set_self hn) (by omega) (by omega)
  refine ⟨s, d, a2, b2, m2, p1, by omega, q1, q2, ?_⟩
  have z1 : 1 ≤ sizeLine := by rw [sizeLine_eq]; omega
  have z2 : 2 ≤ sizeLine := by rw [sizeLine_eq]; omega
  have z3 : rows.length + 1 ≤ sizeLine := by rw [sizeLine_eq]; omega
  unfold bandBody
  simp [-List.append_nil, sSeq, sAsg, mOp, mVar, mC, mLst, mTup, mCons, mNil, mCall, bindR, ofE, ofG, seqS, gmName, dPlus_int, okIf, mkL, p3, q3, dPlus, dCat, getL, getLs, List.set_set, z1, z2, z3, rowD, dce]
end K11
end
section
set_option Elab.async false
set_option linter.all false
set_option maxRecDepth 100000
namespace K11
open PySem DV L2
theorem band_loop {n : Nat} {most : Int} (h0 : 0 ≤ most) (h1 : most < 100000000) : ∀ (ds : List D) (rows : List (Int × Int)) (f : Int) (k : Option D) (h : AH) (a b m : Int), h[n]? = some (dce a b m) → Rows most f rows → 0 ≤ f → rows.length + ds.length < 100 →
    ∃ rows' f' k' a' b' m', forL (gmName 4) bandBody ds [some (.ref n), some (.int most), some (.lst (rows.map rowD)), some (.int f), k] h = .ok (.nx [some (.ref n), some (.int most), some (.lst (rows'.map rowD)), some (.int f'), k']) (h.set n (dce a' b' m')) ∧
      Rows most f' rows' ∧ 0 ≤ f' ∧ f' ≤ f + 60 * ds.length ∧ rows'.length = rows.length + ds.length ∧ (∃ t, rows' = rows ++ t ∧ ∀ p, t.head? = some p → p.1 = f)
  | [], rows, f, k, h, a, b, m, e, r, hf, hl => by
    refine ⟨rows, f, k, a, b, m, ?_, r, hf, by simp, rfl, [], by simp, by simp⟩
    have z : h.set n (dce a b m) = h := by
      apply List.ext_getElem?
      intro j
      by_cases hj : n = j
      · subst hj
        rw [List.getElem?_set_self (List.getElem?_eq_some_iff.mp e).1, e]
      · rw [List.getElem?_set_ne hj]
    rw [z]
    rfl
  | d :: ds, rows, f, k, h, a, b, m, e, r, hf, hl => by
    have hn : n < List.length h := (List.getElem?_eq_some_iff.mp e).1
    obtain ⟨s, g, a1, b1, m1, p1, p2, p3, p4, p5⟩ := band_step (k := d) e h0 h1 r hf (by simp at hl; omega)
    obtain ⟨rows', f', k', a2, b2, m2, q1, q2, q3, q4, q5, t, q6, q7⟩ := band_loop h0 h1 ds (rows ++ [(f, s)]) (f + 1 + g) (some d) (h.set n (dce a1 b1 m1)) a1 b1 m1 (List.getElem?_set_self hn) (r.snoc hf p1 p2 p3) (by omega) (by simp at hl ⊢; omega)
    refine ⟨rows', f', k', a2, b2, m2, ?_, q2, q3, by simp at q4 ⊢; omega, by rw [q5]; simp; omega, (f, s) :: t, by rw [q6]; simp, fun p hp => by simp at hp; rw [← hp]⟩
    unfold forL
    show loopS (bandBody [some (.ref n), some (.int most), some (.lst (rows.map rowD)), some (.int f), some d] h) _ = _
    rw [p5]
    show forL (gmName 4) bandBody ds _ _ = _
    rw [q1, List.set_set]
end K11
end
section
set_option Elab.async false
set_option linter.all false
set_option maxRecDepth 100000
namespace K11
open PySem DV L2
theorem bands_ok {n : Nat} {most a b m : Int} {h : AH} (h0 : 0 ≤ most) (h1 : most < 100000000) (e : h[n]? = some (dce a b m)) :
    ∃ rows f a' b' m', f_law_bands [.ref n, .int most] h = .ok (.lst (rows.map rowD)) (h.set n (dce a' b' m')) ∧ Rows most f rows ∧ f ≤ 180 ∧ 1 ≤ rows.length ∧ rows.length ≤ 3 ∧ ∀ p, rows.head? = some p → p.1 = 0 := by
  have hn : n < List.length h := (List.getElem?_eq_some_iff.mp e).1
  obtain ⟨r, a1, b1, m1, p1, p2, p3⟩ := roll_ok (many := 3) e (by omega) (by omega)
  obtain ⟨rows, f, k, a2, b2, m2, q1, q2, q3, q4, q5, t, q6, q7⟩ := band_loop (n := n) h0 h1 (rgD 0 1 (1 + r).toNat) [] 0 none (h.set n (dce a1 b1 m1)) a1 b1 m1 (List.getElem?_set_self hn) ⟨List.Pairwise.nil, by simp⟩ (by omega) (by simp [rgD]; omega)
  have hlen : (rgD 0 1 (1 + r).toNat).length = (1 + r).toNat := by simp [rgD]
  rw [hlen] at q4 q5
  refine ⟨rows, f, a2, b2, m2, ?_, q2, by omega, by simp at q5; omega, by simp at q5; omega, fun p hp => q7 p (by rw [q6] at hp; simpa using hp)⟩
  unfold f_law_bands runF m_law_bands
  have s0 : 0 ≤ sizeLine := Nat.zero_le _
  have hi : ∀ σ, σ = [some (.ref n), some (.int most), some (.lst []), some (.int 0), none] → miCall rg1D (mCons (mOp (dPlus false) (mC (.int 1)) (mCall (fun xs => f_law_roll (xs ++ [])) (mCons (mVar 0) (mCons (mC (.int 3)) (mNil))))) (mNil)) σ h = .ok (itRg 0 1 (1 + r).toNat) (h.set n (dce a1 b1 m1)) := by
    rintro σ rfl
    have rb : rgB (1 + r) := ⟨by omega, by omega⟩
    simp [-List.append_nil, miCall, mCons, mNil, mOp, mC, mCall, mVar, bindR, p3, dPlus_int, rg1D, rb, dce]
  have loop := sFor_eq (mg := gmName 4) (s := bandBody) (hi _ rfl) (itIs_rg 0 1 (1 + r).toNat) (by rw [hlen]; simp [bigN]; omega)
  rw [show ([] : List (Int × Int)).map rowD = [] from rfl] at q1
  rw [q1, List.set_set] at loop
  unfold bandBody at loop
  simp [-List.append_nil, startA, sSeq, sPar, parS, parSet, mLst, mCons, mNil, mC, bindR, ofE, seqS, okIf, mkL, s0, loop, sRet, mVar]
end K11
end
section
set_option Elab.async false
set_option linter.all false
set_option maxRecDepth 100000
namespace K11
open PySem DV L2
def objF (rows : List (Int × Int)) (least duty : Int) : D := .obj 0 [("bands", .tup (rows.map pD)), ("least", .int least), ("duty", .int duty)]
section
variable {rows : List (Int × Int)} {least duty : Int} {h : AH}
@[simp] theorem fld_bands : fldD [0] "bands" (objF rows least duty) h = .ok (.tup (rows.map pD)) h := rfl
@[simp] theorem fld_least : fldD [0] "least" (objF rows least duty) h = .ok (.int least) h := rfl
@[simp] theorem fld_duty : fldD [0] "duty" (objF rows least duty) h = .ok (.int duty) h := rfl
@[simp] theorem rcv_fee : rcvD 0 "fee_of" (objF rows least duty) h = true := rfl
@[simp] theorem rcv_duty : rcvD 0 "duty_of" (objF rows least duty) h = true := rfl
@[simp] theorem rcv_pays : rcvD 0 "buyer_pays" (objF rows least duty) h = true := rfl
@[simp] theorem rcv_gets : rcvD 0 "seller_gets" (objF rows least duty) h = true := rfl
@[simp] theorem rcv_price : rcvD 0 "price_for" (objF rows least duty) h = true := rfl
@[simp] theorem rcv_share : rcvD 0 "share_of" (objF rows least duty) h = true := rfl
@[simp] theorem rcv_parts : rcvD 0 "band_parts" (objF rows least duty) h = true := rfl
end
theorem max2_int (a b : Int) (h : AH) : bMax2 [.int a, .int b] h = .ok (.int (max a b)) h := by
  simp only [bMax2, Rv.ok.injEq, D.int.injEq, and_true]
  split <;> omega
theorem min2_int (a b : Int) (h : AH) : bMin2 [.int a, .int b] h = .ok (.int (min a b)) h := by
  simp only [bMin2, Rv.ok.injEq, D.int.injEq, and_true]
  split <;> omega
theorem len_tup (ds : List D) (h : AH) : bLen [.tup ds] h = .ok (.int ds.length) h := rfl
theorem len_lst (ds : List D) (h : AH) : bLen [.lst ds] h = .ok (.int ds.length) h := rfl
theorem atI_of {ds : List D} {n : Nat} {i : Int} {d : D} (hi : i = n) (e : ds[n]? = some d) : atI ds i = some d := by
  subst hi
  exact atI_nat e
theorem ix_tup2 {ds : List D} {n : Nat} {i : Int} {d : D} {h : AH} (hi : i = n) (e : ds[n]? = some d) : ixD (.tup ds) (.int i) h = .ok d h := by
  simp only [ixD, getS, atI_of hi e]
theorem ix_lst2 {ds : List D} {n : Nat} {i : Int} {d : D} {h : AH} (hi : i = n) (e : ds[n]? = some d) : ixD (.lst ds) (.int i) h = .ok d h := by
  simp only [ixD, getS, getL, atI_of hi e]
def feeBody : MS := (sSeq (sAsg (mIf (mTB (mOp dLt (mOp (dPlus false) (mVar 3) (mC (.int 1))) (mCB bLen (mCons (mFld [0] "bands" (mVar 0)) (mNil))))) (mOp ixD (mOp ixD (mFld [0] "bands" (mVar 0)) (mOp (dPlus false) (mVar 3) (mC (.int 1)))) (mC (.int 0))) (mVar 1)) (gmName 6)) (sAug dIAdd 2 (mOp (dMul false) (mCB bMax2 (mCons (mC (.int 0)) (mCons (mOp (dMinus) (mCB bMin2 (mCons (mVar 1) (mCons (mVar 6) (mNil)))) (mVar 4)) (mNil)))) (mVar 5))))
theorem cmul_small {a b : Int} (h0 : 0 ≤ b) (h1 : b ≤ 1000000) : CMul a b := .inr ⟨by omega, by omega⟩
theorem fee_loop {least duty p : Int} {rows : List (Int × Int)} (hb : ∀ q ∈ rows, 0 ≤ q.2 ∧ q.2 ≤ 10000) (h : AH) : ∀ (suf pre : List (Int × Int)) (w : Int) (k3 k4 k5 k6 : Option D), rows = pre ++ suf →
    ∃ k3' k4' k5' k6', forL (gmTup 2 (gmCons (gmName 3) (gmCons (gmTup 2 (gmCons (gmName 4) (gmCons (gmName 5) (gmNil)))) (gmNil)))) feeBody (enD pre.length (suf.map pD)) [some (objF rows least duty), some (.int p), some (.int w), k3, k4, k5, k6] h
      = .ok (.nx [some (objF rows least duty), some (.int p), some (.int (w + bS suf p)), k3', k4', k5', k6']) h
  | [], pre, w, k3, k4, k5, k6, e => ⟨k3, k4, k5, k6, by simp [enD, bS]⟩
  | [a], pre, w, k3, k4, k5, k6, e => by
    have ha := hb a (by rw [e]; simp)
    have hl : rows.length = pre.length + 1 := by rw [e]; simp
    have hm := fun x => cmul_small (a := x) ha.1 (by omega : a.2 ≤ 1000000)
    refine ⟨some (.int pre.length), some (.int a.1), some (.int a.2), some (.int p), ?_⟩
    simp [enD, forL, feeBody, pD, dPlus_int, dLt_int, len_tup, hl, min2_int, dMinus_int, max2_int, dMul_int (hm _), dIAdd, bS]
  | a :: b :: r, pre, w, k3, k4, k5, k6, e => by
    have ha := hb a (by rw [e]; simp)
    have hl : rows.length = pre.length + 1 + 1 + r.length := by rw [e]; simp; omega
    have hm := fun x => cmul_small (a := x) ha.1 (by omega : a.2 ≤ 1000000)
    have e2 : (rows.map pD)[pre.length + 1]? = some (pD b) := by rw [e]; simp
    obtain ⟨k3', k4', k5', k6', q⟩ := fee_loop (least := least) (duty := duty) (p := p) hb h (b :: r) (pre ++ [a]) (w + max 0 (min p b.1 - a.1) * a.2) (some (.int pre.length)) (some (.int a.1)) (some (.int a.2)) (some (.int b.1)) (by rw [e]; simp)
    refine ⟨k3', k4', k5', k6', ?_⟩
    have hlt : (pre.length : Int) + 1 < rows.length := by omega
    rw [show bS (a :: b :: r) p = max 0 (min p b.1 - a.1) * a.2 + bS (b :: r) p from rfl, ← Int.add_assoc, ← q]
    rw [show (pre ++ [a]).length = pre.length + 1 by simp]
    conv => lhs; rw [List.map_cons, enD, forL]
    simp [feeBody, pD, dPlus_int, dLt_int, len_tup, hlt, min2_int, dMinus_int, max2_int, dMul_int (hm _), dIAdd, ix_tup2 (show (pre.length : Int) + 1 = ((pre.length + 1 : Nat) : Int) by simp) e2, ix_tup2 (show (0 : Int) = ((0 : Nat) : Int) from rfl) (show [D.int b.1, .int b.2][0]? = some (.int b.1) from rfl)]
end K11
end
section
set_option Elab.async false
set_option linter.all false
set_option maxRecDepth 100000
namespace K11
open PySem DV L2
theorem enD_len : ∀ (ds : List D) (k : Nat), (enD k ds).length = ds.length
  | [], _ => rfl
  | _ :: ds, k => by simp [enD, enD_len ds (k + 1)]
theorem big3 {n : Nat} (h : n ≤ 1000) : n < bigN := by simp [bigN]; omega
theorem line3 {n : Nat} (h : n ≤ 1000) : n < sizeLine := by rw [sizeLine_eq]; omega
theorem line3' {n : Nat} (h : n ≤ 1000) : n ≤ sizeLine := by rw [sizeLine_eq]; omega
theorem Bands.sh {most : Int} {rows : List (Int × Int)} (hb : Bands most rows) (hm : most ≤ 10000) : ∀ q ∈ rows, 0 ≤ q.2 ∧ q.2 ≤ 10000 := fun q hq => ⟨(hb.2.2.2.2 q hq).2.2.1, by have := (hb.2.2.2.2 q hq).2.2.2; omega⟩
variable {most least duty p : Int} {rows : List (Int × Int)}
theorem fee_ok (hb : Bands most rows) (hm : most ≤ 10000) (hp : 0 ≤ p) (h : AH) : f_fees_fee_of [objF rows least duty, .int p] h = .ok (.int (feeV rows least p)) h := by
  obtain ⟨k3, k4, k5, k6, q⟩ := fee_loop (least := least) (duty := duty) (p := p) (hb.sh hm) h rows [] 0 none none none none rfl
  have hl := hb.2.2.1
  have loop := sFor_eq (mi := miEnum (mCons (mFld [0] "bands" (mVar 0)) (mNil))) (mg := gmTup 2 (gmCons (gmName 3) (gmCons (gmTup 2 (gmCons (gmName 4) (gmCons (gmName 5) (gmNil)))) (gmNil)))) (s := feeBody) (σ := [some (objF rows least duty), some (.int p), some (.int 0), none, none, none, none]) (h := h) (h1 := h) (it := itEn (.tup (rows.map pD))) (ds := enD 0 (rows.map pD)) (by simp [enIt, getS]) (itIs_en fun _ => rfl) (big3 (by rw [enD_len]; simp; omega))
  rw [show ([] : List (Int × Int)).length = 0 from rfl] at q
  rw [q] at loop
  unfold feeBody at loop
  unfold f_fees_fee_of runF m_fees_fee_of
  simp [startA, dLt_int, Int.not_lt.mpr hp, loop, max2_int, dDiv_int (show (0 : Int) < 1000 by decide) (by decide), feeV]
theorem duty_ok (hb : Bands most rows) (hm : most ≤ 10000) (hd : 0 ≤ duty) (hd2 : duty ≤ 1000) (hp : 0 ≤ p) (h : AH) : f_fees_duty_of [objF rows least duty, .int p] h = .ok (.int (dueV rows least duty p)) h := by
  unfold f_fees_duty_of runF m_fees_duty_of
  simp [startA, fee_ok hb hm hp, dMul_int (show CMul 2 _ from .inl ⟨by decide, by decide⟩), dMul_int (cmul_small hd (by omega : duty ≤ 1000000)), dPlus_int, dDiv_int (show (0 : Int) < 2000 by decide) (by decide), dueV]
theorem pays_ok (hb : Bands most rows) (hm : most ≤ 10000) (hd : 0 ≤ duty) (hd2 : duty ≤ 1000) (hp : 0 ≤ p) (h : AH) : f_fees_buyer_pays [objF rows least duty, .int p] h = .ok (.int (payV rows least duty p)) h := by
  unfold f_fees_buyer_pays runF m_fees_buyer_pays
  simp [startA, fee_ok hb hm hp, duty_ok hb hm hd hd2 hp, dPlus_int, payV]
theorem gets_ok (hb : Bands most rows) (hm : most ≤ 10000) (hd : 0 ≤ duty) (hd2 : duty ≤ 1000) (hp : 0 ≤ p) (h : AH) : f_fees_seller_gets [objF rows least duty, .int p] h = .ok (.int (getV rows least duty p)) h := by
  unfold f_fees_seller_gets runF m_fees_seller_gets
  simp [startA, fee_ok hb hm hp, duty_ok hb hm hd hd2 hp, dMinus_int, getV]
theorem share_ok (hb : Bands most rows) (hm : most ≤ 10000) (hp : 1 ≤ p) (hp2 : p < 1073741824) (h : AH) : f_fees_share_of [objF rows least duty, .int p] h = .ok (.int (1000 * feeV rows least p / p)) h := by
  unfold f_fees_share_of runF m_fees_share_of
  simp [startA, fee_ok hb hm (show 0 ≤ p by omega), dLt_int, Int.not_lt.mpr hp, dMul_int (show CMul 1000 _ from .inl ⟨by decide, by decide⟩), dDiv_int (show 0 < p by omega) hp2]
end K11
end
section
set_option Elab.async false
set_option linter.all false
set_option maxRecDepth 100000
namespace K11
open PySem DV L2
variable {most least duty p paid : Int} {rows : List (Int × Int)}
def priceBody : MS := (sSeq (sAsg (mOp (dDiv) (mOp (dPlus false) (mOp (dPlus false) (mVar 2) (mVar 3)) (mC (.int 1))) (mC (.int 2))) (gmName 4)) (sIf (mTB (mOp dLe (mMeth 0 "buyer_pays" (fun xs => f_fees_buyer_pays (xs ++ [])) (mVar 0) (mCons (mVar 4) (mNil))) (mVar 1))) (sAsg (mVar 4) (gmName 2)) (sAsg (mOp (dMinus) (mVar 4) (mC (.int 1))) (gmName 3))))
def priceT : MT := (mTB (mOp dLt (mVar 2) (mVar 3)))
theorem price_loop (hb : Bands most rows) (hm : most ≤ 10000) (hl0 : 0 ≤ least) (hd : 0 ≤ duty) (hd2 : duty ≤ 1000) (h : AH) : ∀ (n : Nat) (lo hi : Int) (k : Option D), (hi - lo).toNat < n → 0 ≤ lo → lo ≤ hi → hi ≤ paid → payV rows least duty lo ≤ paid → paid < payV rows least duty (hi + 1) →
    ∃ b k', Best rows least duty paid b ∧ whileN priceT priceBody n [some (objF rows least duty), some (.int paid), some (.int lo), some (.int hi), k] h = .ok (.nx [some (objF rows least duty), some (.int paid), some (.int b), some (.int b), k']) h
  | 0, lo, hi, k, hn, _, _, _, _, _ => by omega
  | n + 1, lo, hi, k, hn, h0, h1, h2, h3, h4 => by
    unfold whileN
    by_cases q : lo < hi
    · have m0 : 0 ≤ (lo + hi + 1) / 2 := by omega
      by_cases q2 : payV rows least duty ((lo + hi + 1) / 2) ≤ paid
      · obtain ⟨b, k', e1, e2⟩ := price_loop hb hm hl0 hd hd2 h n ((lo + hi + 1) / 2) hi (some (.int ((lo + hi + 1) / 2))) (by omega) (by omega) (by omega) h2 q2 h4
        refine ⟨b, k', e1, ?_⟩
        rw [← e2]
        simp [priceT, priceBody, dLt_int, q, dPlus_int, dDiv_int (show (0 : Int) < 2 by decide) (by decide), pays_ok hb hm hd hd2 m0, dLe_int, q2]
      · obtain ⟨b, k', e1, e2⟩ := price_loop hb hm hl0 hd hd2 h n lo ((lo + hi + 1) / 2 - 1) (some (.int ((lo + hi + 1) / 2))) (by omega) (by omega) (by omega) (by omega) h3 (by rw [Int.sub_add_cancel]; omega)
        refine ⟨b, k', e1, ?_⟩
        rw [← e2]
        simp [priceT, priceBody, dLt_int, q, dPlus_int, dMinus_int, dDiv_int (show (0 : Int) < 2 by decide) (by decide), pays_ok hb hm hd hd2 m0, dLe_int, q2]
    · have e : lo = hi := by omega
      subst e
      exact ⟨lo, k, ⟨h0, h2, h3, h4⟩, by simp [priceT, dLt_int]⟩
theorem price_ok (hb : Bands most rows) (hm : most ≤ 10000) (hl0 : 0 ≤ least) (hd : 0 ≤ duty) (hd2 : duty ≤ 1000) (hp : 0 ≤ paid) (hp2 : paid ≤ 1000) (h : AH) :
    (paid < payV rows least duty 0 ∧ f_fees_price_for [objF rows least duty, .int paid] h = .ok .non h) ∨ ∃ b, Best rows least duty paid b ∧ f_fees_price_for [objF rows least duty, .int paid] h = .ok (.int b) h := by
  by_cases q : paid < payV rows least duty 0
  · refine .inl ⟨q, ?_⟩
    unfold f_fees_price_for runF m_fees_price_for
    simp [startA, dLt_int, Int.not_lt.mpr hp, pays_ok hb hm hd hd2 (Int.le_refl 0), dGt_int, q]
  · have g := hb.pay_ge (least := least) (duty := duty) hl0 hd (p := paid + 1)
    obtain ⟨b, k, e1, e2⟩ := price_loop hb hm hl0 hd hd2 h bigN 0 paid none (big3 (by omega)) (Int.le_refl 0) hp (Int.le_refl _) (by omega) (by omega)
    refine .inr ⟨b, e1, ?_⟩
    unfold f_fees_price_for runF m_fees_price_for
    unfold priceT priceBody at e2
    simp [-List.append_nil, startA, dLt_int, Int.not_lt.mpr hp, pays_ok hb hm hd hd2 (Int.le_refl 0), dGt_int, q, parS, parSet, sWhile, e2]
end K11
end
section
set_option Elab.async false
set_option linter.all false
set_option maxRecDepth 100000
namespace K11
open PySem DV L2
/-! parts of a price by bands -/
def one1P (x s : Int) : List (Int × Int) := if 0 < x then [(x, s)] else []
def pts : List (Int × Int) → Int → List (Int × Int)
  | [], _ => []
  | [a], p => one1P (max 0 (p - a.1)) a.2
  | a :: b :: r, p => one1P (max 0 (min p b.1 - a.1)) a.2 ++ pts (b :: r) p
@[simp] theorem get_end {h : AH} {x : Option O} : (h ++ [x])[h.length]? = some x := by simp
@[simp] theorem set_end {h : AH} {x y : Option O} : (h ++ [x]).set h.length y = h ++ [y] := by simp
theorem iadd_end {h : AH} {xs ys : List D} (hl : xs.length + ys.length ≤ sizeLine) : dIAdd (.ref h.length) (.lst ys) (h ++ [some (.lst xs)]) = .ok (.ref h.length) (h ++ [some (.lst (xs ++ ys))]) := by
  simp [dIAdd, listAt, getLs, okIf, hl]
theorem one1_len (x s : Int) : (one1P x s).length ≤ 1 := by unfold one1P; split <;> simp
def partBody : MS := (sSeq (sAsg (mIf (mTB (mOp dLt (mOp (dPlus false) (mVar 3) (mC (.int 1))) (mCB bLen (mCons (mFld [0] "bands" (mVar 0)) (mNil))))) (mOp ixD (mOp ixD (mFld [0] "bands" (mVar 0)) (mOp (dPlus false) (mVar 3) (mC (.int 1)))) (mC (.int 0))) (mVar 1)) (gmName 6)) (sSeq (sAsg (mCB bMax2 (mCons (mC (.int 0)) (mCons (mOp (dMinus) (mCB bMin2 (mCons (mVar 1) (mCons (mVar 6) (mNil)))) (mVar 4)) (mNil)))) (gmName 7)) (sAug dIAdd 2 (mIf (mTB (mOp dGt (mVar 7) (mC (.int 0)))) (mLst false (mCons (mTup (mCons (mVar 7) (mCons (mVar 5) (mNil)))) (mNil))) (mLst false (mNil))))))
theorem part_add {h : AH} {acc : List (Int × Int)} {x s : Int} (hl : acc.length ≤ 100) : (if 0 < x then dIAdd (.ref h.length) (.lst [.tup [.int x, .int s]]) (h ++ [some (.lst (acc.map pD))]) else dIAdd (.ref h.length) (.lst []) (h ++ [some (.lst (acc.map pD))])) = .ok (.ref h.length) (h ++ [some (.lst ((acc ++ one1P x s).map pD))]) := by
  unfold one1P
  split
  · rw [iadd_end (by simp; exact line3' (by omega))]; simp [pD]
  · rw [iadd_end (by simp; exact line3' (by omega))]; simp
theorem parts_loop {least duty p : Int} {rows : List (Int × Int)} (h : AH) : ∀ (suf pre : List (Int × Int)) (acc : List (Int × Int)) (k3 k4 k5 k6 k7 : Option D), rows = pre ++ suf → acc.length + suf.length ≤ 100 →
    ∃ k3' k4' k5' k6' k7', forL (gmTup 2 (gmCons (gmName 3) (gmCons (gmTup 2 (gmCons (gmName 4) (gmCons (gmName 5) (gmNil)))) (gmNil)))) partBody (enD pre.length (suf.map pD)) [some (objF rows least duty), some (.int p), some (.ref h.length), k3, k4, k5, k6, k7] (h ++ [some (.lst (acc.map pD))])
      = .ok (.nx [some (objF rows least duty), some (.int p), some (.ref h.length), k3', k4', k5', k6', k7']) (h ++ [some (.lst ((acc ++ pts suf p).map pD))])
  | [], pre, acc, k3, k4, k5, k6, k7, e, hc => ⟨k3, k4, k5, k6, k7, by simp [enD, pts]⟩
  | [a], pre, acc, k3, k4, k5, k6, k7, e, hc => by
    have hl : rows.length = pre.length + 1 := by rw [e]; simp
    refine ⟨some (.int pre.length), some (.int a.1), some (.int a.2), some (.int p), some (.int (max 0 (p - a.1))), ?_⟩
    have key := part_add (h := h) (acc := acc) (x := max 0 (p - a.1)) (s := a.2) (by simp at hc; omega)
    simp only [List.map_cons, enD, forL]
    by_cases q : 0 < max 0 (p - a.1)
    · rw [if_pos q] at key
      have q' : a.1 < p := by omega
      simp [enD, partBody, pD, dPlus_int, dLt_int, len_tup, hl, min2_int, dMinus_int, max2_int, dGt_int, q, key, pts, line3', q']
    · rw [if_neg q] at key
      have q' : ¬ a.1 < p := by omega
      simp [enD, partBody, pD, dPlus_int, dLt_int, len_tup, hl, min2_int, dMinus_int, max2_int, dGt_int, q, key, pts, line3', q']
  | a :: b :: r, pre, acc, k3, k4, k5, k6, k7, e, hc => by
    have hl : rows.length = pre.length + 1 + 1 + r.length := by rw [e]; simp; omega
    have e2 : (rows.map pD)[pre.length + 1]? = some (pD b) := by rw [e]; simp
    have key := part_add (h := h) (acc := acc) (x := max 0 (min p b.1 - a.1)) (s := a.2) (by simp at hc; omega)
    have o1 := one1_len (max 0 (min p b.1 - a.1)) a.2
    obtain ⟨k3', k4', k5', k6', k7', q⟩ := parts_loop (rows := rows) (least := least) (duty := duty) (p := p) h (b :: r) (pre ++ [a]) (acc ++ one1P (max 0 (min p b.1 - a.1)) a.2) (some (.int pre.length)) (some (.int a.1)) (some (.int a.2)) (some (.int b.1)) (some (.int (max 0 (min p b.1 - a.1)))) (by rw [e]; simp) (by simp at hc ⊢; omega)
    refine ⟨k3', k4', k5', k6', k7', ?_⟩
    have hlt : (pre.length : Int) + 1 < rows.length := by omega
    rw [show pts (a :: b :: r) p = one1P (max 0 (min p b.1 - a.1)) a.2 ++ pts (b :: r) p from rfl, ← List.append_assoc, ← q]
    rw [show (pre ++ [a]).length = pre.length + 1 by simp]
    conv => lhs; rw [List.map_cons, enD, forL]
    by_cases z : 0 < max 0 (min p b.1 - a.1)
    · rw [if_pos z] at key
      have z' : a.1 < p ∧ a.1 < b.1 := by omega
      simp [partBody, pD, dPlus_int, dLt_int, len_tup, hlt, min2_int, dMinus_int, max2_int, dGt_int, z, key, line3', z', ix_tup2 (show (pre.length : Int) + 1 = ((pre.length + 1 : Nat) : Int) by simp) e2, ix_tup2 (show (0 : Int) = ((0 : Nat) : Int) from rfl) (show [D.int b.1, .int b.2][0]? = some (.int b.1) from rfl)]
    · rw [if_neg z] at key
      have z' : a.1 < p → ¬ a.1 < b.1 := by omega
      simp [partBody, pD, dPlus_int, dLt_int, len_tup, hlt, min2_int, dMinus_int, max2_int, dGt_int, z, key, line3', z', ix_tup2 (show (pre.length : Int) + 1 = ((pre.length + 1 : Nat) : Int) by simp) e2, ix_tup2 (show (0 : Int) = ((0 : Nat) : Int) from rfl) (show [D.int b.1, .int b.2][0]? = some (.int b.1) from rfl)]
end K11
end
section
set_option Elab.async false
set_option linter.all false
set_option maxRecDepth 100000
namespace K11
open PySem DV L2
variable {most least duty p : Int} {rows : List (Int × Int)}
theorem pts_len : ∀ (rows : List (Int × Int)) (p : Int), (pts rows p).length ≤ rows.length
  | [], _ => Nat.le_refl _
  | [a], p => one1_len _ _
  | a :: b :: r, p => by
    have h1 := one1_len (max 0 (min p b.1 - a.1)) a.2
    have h2 := pts_len (b :: r) p
    simp only [pts, List.length_append, List.length_cons] at h2 ⊢
    omega
theorem parts_ok (hb : Bands most rows) (hp : 0 ≤ p) (h : AH) : f_fees_band_parts [objF rows least duty, .int p] h = .ok (.tup ((pts rows p).map pD)) (h ++ [some (.lst ((pts rows p).map pD))]) := by
  have hl := hb.2.2.1
  obtain ⟨k3, k4, k5, k6, k7, q⟩ := parts_loop (rows := rows) (least := least) (duty := duty) (p := p) h rows [] [] none none none none none rfl (by simp; omega)
  have loop := sFor_eq (mi := miEnum (mCons (mFld [0] "bands" (mVar 0)) (mNil))) (mg := gmTup 2 (gmCons (gmName 3) (gmCons (gmTup 2 (gmCons (gmName 4) (gmCons (gmName 5) (gmNil)))) (gmNil)))) (s := partBody) (σ := [some (objF rows least duty), some (.int p), some (.ref h.length), none, none, none, none, none]) (h := h ++ [some (.lst [])]) (h1 := h ++ [some (.lst [])]) (it := itEn (.tup (rows.map pD))) (ds := enD 0 (rows.map pD)) (by simp [enIt, getS]) (itIs_en fun _ => rfl) (big3 (by rw [enD_len]; simp; omega))
  rw [show ([] : List (Int × Int)).length = 0 from rfl, show ([] : List (Int × Int)).map pD = [] from rfl, List.nil_append] at q
  rw [q] at loop
  unfold partBody at loop
  unfold f_fees_band_parts runF m_fees_band_parts
  simp [startA, dLt_int, Int.not_lt.mpr hp, line3', loop, bTuple, getL]
theorem split_ok {rows2 : List (Int × Int)} {most2 least2 duty2 : Int} (hb : Bands most rows) (hm : most ≤ 10000) (hd : 0 ≤ duty) (hd2 : duty ≤ 1000) (hb2 : Bands most2 rows2) (hm2 : most2 ≤ 10000) (he : 0 ≤ duty2) (he2 : duty2 ≤ 1000) (hp : 0 ≤ p) (h : AH) :
    f_split_whole [.int p, objF rows least duty, objF rows2 least2 duty2] h = .ok (.tup [.int (payV rows least duty p), .int (getV rows2 least2 duty2 p), .int (payV rows least duty p - getV rows2 least2 duty2 p - (dueV rows least duty p + dueV rows2 least2 duty2 p)), .int (dueV rows least duty p + dueV rows2 least2 duty2 p)]) h := by
  unfold f_split_whole runF m_split_whole
  simp [startA, pays_ok hb hm hd hd2 hp, gets_ok hb2 hm2 he he2 hp, duty_ok hb hm hd hd2 hp, duty_ok hb2 hm2 he he2 hp, parS, parSet, dPlus_int, dMinus_int, line3']
/-- the first that is cheaper -/
def gapD (rows : List (Int × Int)) (least duty : Int) (rows2 : List (Int × Int)) (least2 duty2 : Int) : List Int → D
  | [] => .non
  | x :: xs => if payV rows least duty x < payV rows2 least2 duty2 x then .int x else gapD rows least duty rows2 least2 duty2 xs
def gapBody : MS := (sIf (mTB (mOp dLt (mMeth 0 "buyer_pays" (fun xs => f_fees_buyer_pays (xs ++ [])) (mVar 0) (mCons (mVar 3) (mNil))) (mMeth 0 "buyer_pays" (fun xs => f_fees_buyer_pays (xs ++ [])) (mVar 1) (mCons (mVar 3) (mNil))))) (sRet (mVar 3)) (sNext))
theorem gap_loop {rows2 : List (Int × Int)} {most2 least2 duty2 : Int} (hb : Bands most rows) (hm : most ≤ 10000) (hd : 0 ≤ duty) (hd2 : duty ≤ 1000) (hb2 : Bands most2 rows2) (hm2 : most2 ≤ 10000) (he : 0 ≤ duty2) (he2 : duty2 ≤ 1000) (v2 : Option D) (h : AH) :
    ∀ (xs : List Int) (k : Option D), (∀ x ∈ xs, 0 ≤ x) → (∃ k', seqS (forL (gmName 3) gapBody (xs.map D.int) [some (objF rows least duty), some (objF rows2 least2 duty2), v2, k] h) (sRet (mC .non)) = .ok (.rt (gapD rows least duty rows2 least2 duty2 xs)) k' ∧ k' = h)
  | [], k, _ => ⟨h, by simp [gapD], rfl⟩
  | x :: xs, k, hx => by
    obtain ⟨k', e, e2⟩ := gap_loop (least2 := least2) hb hm hd hd2 hb2 hm2 he he2 v2 h xs (some (.int x)) (fun y hy => hx y (by simp [hy]))
    have x0 := hx x (by simp)
    refine ⟨h, ?_, rfl⟩
    subst e2
    rw [List.map_cons, forL]
    by_cases q : payV rows least duty x < payV rows2 least2 duty2 x
    · simp [gapBody, pays_ok hb hm hd hd2 x0, pays_ok hb2 hm2 he he2 x0, dLt_int, q, gapD]
    · rw [gapD, if_neg q, ← e]
      simp [gapBody, pays_ok hb hm hd hd2 x0, pays_ok hb2 hm2 he he2 x0, dLt_int, q]
theorem gap_ok {rows2 : List (Int × Int)} {most2 least2 duty2 : Int} {xs : List Int} (hb : Bands most rows) (hm : most ≤ 10000) (hd : 0 ≤ duty) (hd2 : duty ≤ 1000) (hb2 : Bands most2 rows2) (hm2 : most2 ≤ 10000) (he : 0 ≤ duty2) (he2 : duty2 ≤ 1000) (hx : ∀ x ∈ xs, 0 ≤ x) (hl : xs.length ≤ 1000) (h : AH) :
    f_fee_gap [objF rows least duty, objF rows2 least2 duty2, .lst (xs.map D.int)] h = .ok (gapD rows least duty rows2 least2 duty2 xs) h := by
  obtain ⟨k', e, rfl⟩ := gap_loop (least := least) (least2 := least2) hb hm hd hd2 hb2 hm2 he he2 (some (.lst (xs.map D.int))) h xs none hx
  have loop := sFor_eq (mi := miLT (mVar 2)) (mg := gmName 3) (s := gapBody) (σ := [some (objF rows least duty), some (objF rows2 least2 duty2), some (.lst (xs.map D.int)), none]) (h := k') (h1 := k') (it := itOf (.lst (xs.map D.int))) (ds := xs.map D.int) (by simp [itLT, getL]) (itIs_lst _) (big3 (by simp; omega))
  rw [← loop] at e
  unfold gapBody at e
  unfold f_fee_gap runF m_fee_gap
  simp only [startA, List.map_cons, List.map_nil, List.length_cons, List.length_nil, List.replicate, List.cons_append, List.nil_append, sSeq_d]
  rw [e]
end K11
end
section
set_option Elab.async false
set_option linter.all false
set_option maxRecDepth 100000
namespace K11
open PySem DV L2
variable {most least duty p : Int} {rows : List (Int × Int)}
theorem intsD_map : ∀ ns : List Int, intsD (ns.map D.int) = some ns
  | [] => rfl
  | n :: ns => by simp [intsD, intsD_map ns]
theorem sum_sumI : ∀ ns : List Int, ns.sum = sumI ns
  | [] => rfl
  | n :: ns => by simp [sumI, sum_sumI ns]
theorem bSum_lst (ns : List Int) (h : AH) : bSum [.lst (ns.map D.int)] h = .ok (.int (sumI ns)) h := by
  simp [bSum, getS, getL, intsD_map, sum_sumI]
theorem ix_last {ds : List D} {d : D} {h : AH} : ixD (.lst (ds ++ [d])) (.int (-1)) h = .ok d h := by
  simp only [ixD, getS, getL, atI_last]
theorem fil_loop (a b : Option D) (c : Int) (h : AH) : ∀ (rows : List (Int × Int)) (acc : List D), acc.length + rows.length ≤ 100 →
    compL (gmTup 2 (gmCons (gmName 3) (gmCons (gmName 4) (gmNil)))) (mTB (mOp dLe (mVar 3) (mVar 2))) (mVar 4) (rows.map pD) [a, b, some (.int c), none, none] acc h = .ok (acc ++ (fil c rows).map D.int) h
  | [], acc, _ => by simp [compL, fil]
  | x :: r, acc, hc => by
    simp only [List.length_cons] at hc
    rw [List.map_cons, compL]
    by_cases q : x.1 ≤ c
    · have ih := fil_loop a b c h r (acc ++ [.int x.2]) (by simp; omega)
      have e : fil c (x :: r) = x.2 :: fil c r := by simp [fil, List.filter_cons, q]
      have s1 : acc.length < sizeLine := line3 (by omega)
      rw [e]
      simp [pD, dLe_int, q, s1, ih]
    · have ih := fil_loop a b c h r acc (by omega)
      have e : fil c (x :: r) = fil c r := by simp [fil, List.filter_cons, q]
      rw [e]
      simp [pD, dLe_int, q, ih]
def sumMe : ME := (mOp ixD (mLc false (miLT (mVar 0)) [3, 4] (gmTup 2 (gmCons (gmName 3) (gmCons (gmName 4) (gmNil)))) (mTB (mOp dLe (mVar 3) (mVar 2))) (mVar 4)) (mNeg (mC (.int 1))))
theorem sum_one (hb : Bands most rows) (b : Option D) {c : Int} (hc : 0 ≤ c) (h : AH) : sumMe [some (.lst (rows.map pD)), b, some (.int c), none, none] h = .ok (.int (lastS rows c)) h := by
  have hl := hb.2.2.1
  have hl1 := hb.2.1
  obtain ⟨l, e⟩ := fil_last (c := c) hb.1 (by intro e; rw [e] at hl1; simp at hl1) (fun a ha => by rw [hb.2.2.2.1 a ha]; exact hc)
  have lp := fil_loop (some (.lst (rows.map pD))) b c h rows [] (by simp; omega)
  have lc := mLc_eq (mu := false) (mi := miLT (mVar 0)) (vs := [3, 4]) (mg := gmTup 2 (gmCons (gmName 3) (gmCons (gmName 4) (gmNil)))) (mt := mTB (mOp dLe (mVar 3) (mVar 2))) (me := mVar 4) (σ := [some (.lst (rows.map pD)), b, some (.int c), none, none]) (h := h) (h1 := h) (it := itOf (.lst (rows.map pD))) (ds := rows.map pD) (by simp [itLT, getL]) (itIs_lst _) (big3 (by simp; omega))
  simp only [wipeA, List.set_cons_succ, List.set_cons_zero, lp] at lc
  unfold sumMe
  rw [mOp_d, lc, e]
  simp [ix_last]
theorem sum_loop (hb : Bands most rows) (b : Option D) (h : AH) : ∀ (ks : List Nat) (acc : List D), acc.length + ks.length ≤ 1000 →
    compL (gmName 2) mYes sumMe (ks.map fun (i : Nat) => D.int (0 + (i : Int) * 1)) [some (.lst (rows.map pD)), b, none, none, none] acc h = .ok (acc ++ ks.map fun (i : Nat) => D.int (lastS rows i)) h
  | [], acc, _ => by simp [compL]
  | k :: ks, acc, hc => by
    simp only [List.length_cons] at hc
    have ih := sum_loop hb b h ks (acc ++ [.int (lastS rows k)]) (by simp; omega)
    have s1 : acc.length < sizeLine := line3 (by omega)
    rw [List.map_cons, compL]
    have one := sum_one hb b (c := k) (by omega) h
    simp only [Int.zero_add, Int.mul_one] at ih ⊢
    simp [one, s1, ih]
theorem sum_ok (hb : Bands most rows) (hp : 0 ≤ p) (hp2 : p ≤ 1000) (h : AH) : f_law_sum [.lst (rows.map pD), .int p] h = .ok (.int (bS rows p)) h := by
  have lp := sum_loop hb (some (.int p)) h (List.range p.toNat) [] (by simp; omega)
  have rb : rgB p := ⟨by omega, by omega⟩
  have lc := mLc_eq (mu := false) (mi := miCall rg1D (mCons (mVar 1) (mNil))) (vs := [2]) (mg := gmName 2) (mt := mYes) (me := sumMe) (σ := [some (.lst (rows.map pD)), some (.int p), none, none, none]) (h := h) (h1 := h) (it := itRg 0 1 p.toNat) (ds := rgD 0 1 p.toNat) (by simp [rg1D, rb]) (itIs_rg 0 1 p.toNat) (big3 (by simp [rgD]; omega))
  unfold rgD at lc
  simp only [wipeA, List.set_cons_succ, List.set_cons_zero, lp, bindR_okS, List.nil_append, mkL_f] at lc
  have e : ((List.range p.toNat).map fun (i : Nat) => D.int (lastS rows i)) = ((List.range p.toNat).map fun (i : Nat) => lastS rows i).map D.int := by simp
  unfold sumMe at lc
  unfold f_law_sum runF m_law_sum
  simp only [startA, List.map_cons, List.map_nil, List.length_cons, List.length_nil, List.replicate, List.cons_append, List.nil_append, sRet_d, mCB_d, mCons_d]
  rw [lc, e]
  simp [-List.map_map, bSum_lst, hb.sum p.toNat, Int.toNat_of_nonneg hp]
end K11
end
section
set_option Elab.async false
set_option linter.all false
set_option maxRecDepth 100000
namespace K11
open PySem DV L2
variable {most p most2 : Int} {rows : List (Int × Int)}
def resBody : MS := (sSeq (sAsg (mIf (mTB (mOp dLt (mOp (dPlus false) (mVar 4) (mC (.int 1))) (mCB bLen (mCons (mVar 1) (mNil))))) (mOp ixD (mOp ixD (mVar 1) (mOp (dPlus false) (mVar 4) (mC (.int 1)))) (mC (.int 0))) (mVar 0)) (gmName 7)) (sAug dIAdd 3 (mOp (dMul false) (mCB bMax2 (mCons (mC (.int 0)) (mCons (mOp (dMinus) (mCB bMin2 (mCons (mVar 0) (mCons (mVar 7) (mNil)))) (mVar 5)) (mNil)))) (mVar 6))))
theorem res_loop {v2 k8 k9 : Option D} {p : Int} {rows : List (Int × Int)} (hb : ∀ q ∈ rows, 0 ≤ q.2 ∧ q.2 ≤ 10000) (h : AH) : ∀ (suf pre : List (Int × Int)) (w : Int) (k4 k5 k6 k7 : Option D), rows = pre ++ suf →
    ∃ k4' k5' k6' k7', forL (gmTup 2 (gmCons (gmName 4) (gmCons (gmTup 2 (gmCons (gmName 5) (gmCons (gmName 6) (gmNil)))) (gmNil)))) resBody (enD pre.length (suf.map pD)) [some (.int p), some (.lst (rows.map pD)), v2, some (.int w), k4, k5, k6, k7, k8, k9] h
      = .ok (.nx [some (.int p), some (.lst (rows.map pD)), v2, some (.int (w + bS suf p)), k4', k5', k6', k7', k8, k9]) h
  | [], pre, w, k3, k4, k5, k6, e => ⟨k3, k4, k5, k6, by simp [enD, bS]⟩
  | [a], pre, w, k3, k4, k5, k6, e => by
    have ha := hb a (by rw [e]; simp)
    have hl : rows.length = pre.length + 1 := by rw [e]; simp
    have hm := fun x => cmul_small (a := x) ha.1 (by omega : a.2 ≤ 1000000)
    refine ⟨some (.int pre.length), some (.int a.1), some (.int a.2), some (.int p), ?_⟩
    simp [enD, forL, resBody, pD, dPlus_int, dLt_int, len_lst, hl, min2_int, dMinus_int, max2_int, dMul_int (hm _), dIAdd, bS]
  | a :: b :: r, pre, w, k3, k4, k5, k6, e => by
    have ha := hb a (by rw [e]; simp)
    have hl : rows.length = pre.length + 1 + 1 + r.length := by rw [e]; simp; omega
    have hm := fun x => cmul_small (a := x) ha.1 (by omega : a.2 ≤ 1000000)
    have e2 : (rows.map pD)[pre.length + 1]? = some (pD b) := by rw [e]; simp
    obtain ⟨k3', k4', k5', k6', q⟩ := res_loop (v2 := v2) (k8 := k8) (k9 := k9) (p := p) hb h (b :: r) (pre ++ [a]) (w + max 0 (min p b.1 - a.1) * a.2) (some (.int pre.length)) (some (.int a.1)) (some (.int a.2)) (some (.int b.1)) (by rw [e]; simp)
    refine ⟨k3', k4', k5', k6', ?_⟩
    have hlt : (pre.length : Int) + 1 < rows.length := by omega
    rw [show bS (a :: b :: r) p = max 0 (min p b.1 - a.1) * a.2 + bS (b :: r) p from rfl, ← Int.add_assoc, ← q]
    rw [show (pre ++ [a]).length = pre.length + 1 by simp]
    conv => lhs; rw [List.map_cons, enD, forL]
    simp [resBody, pD, dPlus_int, dLt_int, len_lst, hlt, min2_int, dMinus_int, max2_int, dMul_int (hm _), dIAdd, ix_lst2 (show (pre.length : Int) + 1 = ((pre.length + 1 : Nat) : Int) by simp) e2, ix_tup2 (show (0 : Int) = ((0 : Nat) : Int) from rfl) (show [D.int b.1, .int b.2][0]? = some (.int b.1) from rfl)]
/-! whether firsts rise -/
theorem cutD_tl (d : D) (ds : List D) : cutD (d :: ds) (some 1) none = ds := by
  unfold cutD
  simp [HT.sIx]
theorem zipD_len : ∀ xs ys : List D, (zipD xs ys).length ≤ xs.length
  | [], _ => by simp [zipD]
  | _ :: _, [] => by simp [zipD]
  | x :: xs, y :: ys => by
    have := zipD_len xs ys
    simp only [zipD, List.length_cons]
    omega
theorem rise_loop {a b : Nat} {n : Nat} {σ : AS} {h : AH} (hab : a ≠ b) (ha : a < σ.length) (hbn : b < σ.length) : ∀ (rows : List (Int × Int)) (x : Int × Int), Rise (x :: rows) →
    gxL (gmTup 2 (gmCons (gmName a) (gmCons (gmName b) (gmNil)))) (mYes) (mOp dLe (mOp ixD (mVar b) (mC (.int 0))) (mOp ixD (mVar a) (mC (.int 0)))) tkAny (zipD ((x :: rows).map pD) (rows.map pD)) σ false h = .ok false h
  | [], x, _ => rfl
  | y :: r, x, hr => by
    have h1 : x.1 < y.1 := (List.pairwise_cons.mp hr).1 y (by simp)
    have ih := rise_loop (h := h) (n := n) hab ha hbn r y (List.pairwise_cons.mp hr).2
    have e1 : ((σ.set a (some (pD x))).set b (some (pD y)))[b]? = some (some (pD y)) := List.getElem?_set_self (by simpa using hbn)
    have e2 : ((σ.set a (some (pD x))).set b (some (pD y)))[a]? = some (some (pD x)) := by rw [List.getElem?_set_ne (Ne.symm hab), List.getElem?_set_self ha]
    have i0 : ∀ (u : Int × Int) (h : AH), ixD (pD u) (.int 0) h = .ok (.int u.1) h := fun u h => ix_tup2 (show (0 : Int) = ((0 : Nat) : Int) from rfl) rfl
    rw [show zipD ((x :: y :: r).map pD) ((y :: r).map pD) = .tup [pD x, pD y] :: zipD ((y :: r).map pD) (r.map pD) from rfl, gxL]
    simp only [gmTup_d, List.length_cons, List.length_nil, gmCons_d, gmName_d, gmNil_d, mYes_d, noX_ok, bindR_okS, if_true, mOp_d, mVar_d, e1, e2, mC_d, i0, dLe_int, Int.not_le.mpr h1, decide_false, tkAny, ih]
theorem resale_ok {mo : Int} (hb : Bands most rows) (hm : most ≤ 10000) (hp : 0 ≤ p) (ho : 0 ≤ mo) (h : AH) : f_resale_right [.int p, .lst (rows.map pD), .int mo] h = .ok (.int (min mo (bS rows p / 10000))) h := by
  have hl := hb.2.2.1
  have hl1 := hb.2.1
  obtain ⟨x, r, e⟩ : ∃ x r, rows = x :: r := by
    cases rows with
    | nil => simp at hl1
    | cons x r => exact ⟨x, r, rfl⟩
  have hx : x.1 = 0 := hb.2.2.2.1 x (by rw [e]; rfl)
  obtain ⟨k4, k5, k6, k7, q⟩ := res_loop (v2 := some (.int mo)) (k8 := none) (k9 := none) (p := p) (hb.sh hm) h rows [] 0 none none none none rfl
  have loop := sFor_eq (mi := miEnum (mCons (mVar 1) (mNil))) (mg := gmTup 2 (gmCons (gmName 4) (gmCons (gmTup 2 (gmCons (gmName 5) (gmCons (gmName 6) (gmNil)))) (gmNil)))) (s := resBody) (σ := [some (.int p), some (.lst (rows.map pD)), some (.int mo), some (.int 0), none, none, none, none, none, none]) (h := h) (h1 := h) (it := itEn (.lst (rows.map pD))) (ds := enD 0 (rows.map pD)) (by simp [enIt, getS, getL]) (itIs_en fun _ => rfl) (big3 (by rw [enD_len]; simp; omega))
  rw [show ([] : List (Int × Int)).length = 0 from rfl] at q
  rw [q] at loop
  have rz := rise_loop (a := 8) (b := 9) (n := 0) (σ := [some (.int p), some (.lst (rows.map pD)), some (.int mo), none, none, none, none, none, none, none]) (h := h) (by decide) (by simp) (by simp) r x (by rw [← e]; exact hb.1)
  have gx := mGx_eq (mi := miZip (mCons (mVar 1) (mCons (mSl false (mVar 1) (mPS (mC (.int 1))) (mPN)) (mNil)))) (vs := [8, 9]) (mg := gmTup 2 (gmCons (gmName 8) (gmCons (gmName 9) (gmNil)))) (mt := mYes) (me := mOp dLe (mOp ixD (mVar 9) (mC (.int 0))) (mOp ixD (mVar 8) (mC (.int 0)))) (tk := tkAny) (st := false) (fk := fkB) (σ := [some (.int p), some (.lst (rows.map pD)), some (.int mo), none, none, none, none, none, none, none]) (h := h) (h1 := h)
    (it := itZp (.lst (rows.map pD)) (.lst (r.map pD))) (ds := zipD ((x :: r).map pD) (r.map pD)) (by rw [e]; simp [slD, getL, cutD_tl, zpIt]) (itIs_zp (fun _ => by rw [e]; rfl) fun _ => rfl) (line3 (by have := zipD_len ((x :: r).map pD) (r.map pD); rw [e] at hl; simp at hl this ⊢; omega))
  simp only [wipeA, List.set_cons_succ, List.set_cons_zero, rz, bindR_okS] at gx
  unfold resBody at loop
  unfold f_resale_right runF m_resale_right
  have i0 : ixD (.lst (rows.map pD)) (.int 0) h = .ok (pD x) h := ix_lst2 (show (0 : Int) = ((0 : Nat) : Int) from rfl) (by rw [e]; rfl)
  have i1 : ixD (pD x) (.int 0) h = .ok (.int x.1) h := ix_tup2 (show (0 : Int) = ((0 : Nat) : Int) from rfl) rfl
  have hl0 : ¬ rows.length = 0 := by omega
  simp [startA, dLt_int, Int.not_lt.mpr hp, Int.not_lt.mpr ho, len_lst, dEq_int, hl0, i0, i1, dNe_int, hx, gx, fkB, loop, min2_int, dDiv_int (show (0 : Int) < 10000 by decide) (by decide)]
end K11
end
section
set_option Elab.async false
set_option linter.all false
set_option maxRecDepth 100000
namespace K11
open PySem DV L2 SrtO
/-! shares of a cost: one more at some places -/
def bump : List Int → List Int → List Int
  | xs, [] => xs
  | xs, k :: ks => bump (xs.set k.toNat (xs.getD k.toNat 0 + 1)) ks
theorem bump_len : ∀ (ks xs : List Int), (bump xs ks).length = xs.length
  | [], xs => rfl
  | k :: ks, xs => by rw [bump, bump_len ks]; simp
theorem bump_get : ∀ (ks xs : List Int) (i : Nat), (∀ k ∈ ks, 0 ≤ k) → ks.Nodup → (bump xs ks)[i]? = xs[i]?.map fun x => x + if (i : Int) ∈ ks then 1 else 0
  | [], xs, i, _, _ => by cases e : xs[i]? <;> simp [bump, e]
  | k :: ks, xs, i, h0, hn => by
    have k0 := h0 k (by simp)
    have n1 := (List.nodup_cons.mp hn).1
    rw [bump, bump_get ks _ i (fun q hq => h0 q (by simp [hq])) (List.nodup_cons.mp hn).2, List.getElem?_set]
    by_cases e : k.toNat = i
    · have ek : (i : Int) = k := by omega
      rw [if_pos e, e]
      have nm : ¬ (i : Int) ∈ ks := by rw [ek]; exact n1
      by_cases hl : i < xs.length
      · rw [if_pos hl, List.getElem?_eq_getElem hl]
        have : xs.getD i 0 = xs[i] := by simp [hl]
        rw [this]
        simp [n1, ek]
      · rw [if_neg hl, List.getElem?_eq_none (by omega)]
        rfl
    · have ek : ¬ (i : Int) = k := by omega
      rw [if_neg e]
      cases e3 : xs[i]? <;> simp [ek]
def plusF (F : List Int) : Nat → List Int → List Int
  | _, [] => []
  | k, x :: xs => (x + if (k : Int) ∈ F then 1 else 0) :: plusF F (k + 1) xs
theorem plusF_get (F : List Int) : ∀ (xs : List Int) (k i : Nat), (plusF F k xs)[i]? = xs[i]?.map fun x => x + if ((k + i : Nat) : Int) ∈ F then 1 else 0
  | [], k, i => by simp [plusF]
  | x :: xs, k, 0 => by simp [plusF]
  | x :: xs, k, i + 1 => by
    rw [plusF, List.getElem?_cons_succ, plusF_get F xs, List.getElem?_cons_succ, show k + 1 + i = k + (i + 1) by omega]
theorem bump_plus {F xs : List Int} (h0 : ∀ k ∈ F, 0 ≤ k) (hn : F.Nodup) : bump xs F = plusF F 0 xs := by
  apply List.ext_getElem?
  intro i
  rw [bump_get F xs i h0 hn, plusF_get]
  simp
/-- (minus the weight, the place) -/
def prs : Nat → List Int → List (Int × Int)
  | _, [] => []
  | k, w :: ws => (-w, (k : Int)) :: prs (k + 1) ws
theorem prs_len : ∀ (ws : List Int) (k : Nat), (prs k ws).length = ws.length
  | [], k => rfl
  | w :: ws, k => by simp [prs, prs_len ws]
theorem prs_ge : ∀ (ws : List Int) (k : Nat), ∀ q ∈ prs k ws, (k : Int) ≤ q.2 ∧ q.2 < k + ws.length
  | [], k, q, hq => by simp [prs] at hq
  | w :: ws, k, q, hq => by
    rcases List.mem_cons.mp hq with rfl | hq
    · simp; omega
    · have := prs_ge ws (k + 1) q hq
      simp at this ⊢
      omega
theorem prs_nodup : ∀ (ws : List Int) (k : Nat), ((prs k ws).map (·.2)).Nodup
  | [], k => by simp [prs]
  | w :: ws, k => by
    rw [prs, List.map_cons, List.nodup_cons]
    refine ⟨fun h => ?_, prs_nodup ws (k + 1)⟩
    obtain ⟨q, hq, e⟩ := List.mem_map.mp h
    have := prs_ge ws (k + 1) q hq
    dsimp only at e
    omega
def mineL (l : List Int) : List Int := if 0 < sumI l then l else List.replicate l.length 1
theorem mineL_len (l : List Int) : (mineL l).length = l.length := by unfold mineL; split <;> simp
theorem sumI_rep : ∀ n : Nat, sumI (List.replicate n 1) = n
  | 0 => rfl
  | n + 1 => by rw [List.replicate_succ, sumI, sumI_rep n]; omega
theorem sumI_le : ∀ l : List Int, (∀ x ∈ l, 0 ≤ x ∧ x ≤ 9) → sumI l ≤ 9 * l.length
  | [], _ => by simp [sumI]
  | x :: l, h => by
    have h1 := sumI_le l fun y hy => h y (by simp [hy])
    have h2 := h x (by simp)
    simp only [sumI, List.length_cons]
    omega
theorem mineL_sum {l : List Int} (hl : 1 ≤ l.length) (hl2 : l.length ≤ 4) (hb : ∀ x ∈ l, 0 ≤ x ∧ x ≤ 9) : 0 < sumI (mineL l) ∧ sumI (mineL l) ≤ 1000 := by
  unfold mineL
  split
  · have := sumI_le l hb
    omega
  · rw [sumI_rep]
    omega
theorem mineL_mem {l : List Int} (hb : ∀ x ∈ l, 0 ≤ x ∧ x ≤ 9) : ∀ x ∈ mineL l, 0 ≤ x ∧ x ≤ 9 := by
  unfold mineL
  split
  · exact hb
  · intro x hx
    rw [List.eq_of_mem_replicate hx]
    omega
def shrL (cost : Int) (m : List Int) : List Int := m.map fun w => cost * w / sumI m
def ordL (m : List Int) : List (Int × Int) := isortB lexB (prs 0 m)
/-- a slice from the front -/
def frontL {α : Type} (xs : List α) (c : Int) : List α := xs.take (HT.sIx xs.length xs.length (some c))
theorem cutD_front {α : Type} (f : α → D) (xs : List α) (c : Int) : cutD (xs.map f) none (some c) = (frontL xs c).map f := by
  unfold cutD frontL
  simp [HT.sIx, List.map_take]
theorem frontL_map {α β : Type} (f : α → β) (xs : List α) (c : Int) : frontL (xs.map f) c = (frontL xs c).map f := by
  unfold frontL
  simp [List.map_take]
def topL (cost : Int) (m : List Int) : List (Int × Int) := frontL (ordL m) (cost - sumI (shrL cost m))
theorem topL_ok (cost : Int) (m : List Int) : ((topL cost m).map (·.2)).Nodup ∧ (∀ q ∈ topL cost m, 0 ≤ q.2 ∧ q.2 < m.length) ∧ (topL cost m).length ≤ m.length := by
  have hp : (ordL m).Perm (prs 0 m) := isortB_perm _
  have hs : (topL cost m).Sublist (ordL m) := List.take_sublist _ _
  refine ⟨?_, fun q hq => ?_, ?_⟩
  · exact ((hp.map (·.2)).nodup_iff.mpr (prs_nodup m 0)).sublist (hs.map _)
  · have := prs_ge m 0 q (hp.mem_iff.mp (hs.subset hq))
    simp at this
    omega
  · have h1 := hs.length_le
    have h2 := hp.length_eq
    rw [prs_len] at h2
    omega
def costL (cost : Int) (l : List Int) : List Int := bump (shrL cost (mineL l)) ((topL cost (mineL l)).map (·.2))
end K11
end
section
set_option Elab.async false
set_option linter.all false
set_option maxRecDepth 100000
namespace K11
open PySem DV L2 SrtO
theorem pairsD_map : ∀ ns : List (Int × Int), pairsD (ns.map pD) = some ns
  | [] => rfl
  | n :: ns => by
    show (pairsD (ns.map pD)).map _ = _
    rw [pairsD_map ns]
    rfl
theorem srtD_prs (m : List Int) (hm : 1 ≤ m.length) : srtD ((prs 0 m).map pD) = some ((ordL m).map pD) := by
  have h1 : intsD ((prs 0 m).map pD) = none := by
    cases m with
    | nil => simp at hm
    | cons w ws => rfl
  unfold srtD
  rw [h1]
  show (pairsD ((prs 0 m).map pD)).map _ = _
  rw [pairsD_map]
  rfl
theorem fkS_prs (m : List Int) (hm : 1 ≤ m.length) (h : AH) : fkS false ((prs 0 m).map pD) h = .ok (.lst ((ordL m).map pD)) h := by
  unfold fkS
  rw [srtD_prs m hm]
  rfl
theorem dMul_ones (n : Nat) (hn : n ≤ 1000) (h : AH) : dMul false (.lst [.int 1]) (.int n) h = .ok (.lst ((List.replicate n (1 : Int)).map D.int)) h := by
  have e : (List.replicate n [D.int 1]).flatten = (List.replicate n (1 : Int)).map D.int := by
    induction n with
    | zero => rfl
    | succ n ih => rw [List.replicate_succ, List.flatten_cons, ih (by omega), List.replicate_succ]; rfl
  have s : n ≤ sizeLine := line3' hn
  simp [dMul, getLs, okIf, e, s]
  omega
/-! the loops -/
theorem shr_loop (mg : MG) (hmg : ∀ d (σ : AS) h, mg d σ h = .ok (σ.set 7 (some d)) h) (cost : Int) {W : Int} {σ : AS} (me : ME) (h : AH) (hme : ∀ w : Int, 0 ≤ w → w ≤ 9 → me (σ.set 7 (some (.int w))) h = .ok (.int (cost * w / W)) h) :
    ∀ (m : List Int) (acc : List D), (∀ x ∈ m, 0 ≤ x ∧ x ≤ 9) → acc.length + m.length ≤ 100 → compL mg mYes me (m.map D.int) σ acc h = .ok (acc ++ (m.map fun w => cost * w / W).map D.int) h
  | [], acc, _, _ => by simp [compL]
  | w :: m, acc, hb, hc => by
    have b := hb w (by simp)
    simp only [List.length_cons] at hc
    have ih := shr_loop mg hmg cost me h hme m (acc ++ [.int (cost * w / W)]) (fun x hx => hb x (by simp [hx])) (by simp; omega)
    have s1 : acc.length < sizeLine := line3 (by omega)
    rw [List.map_cons, compL]
    simp [hmg, hme w b.1 b.2, s1, ih]
theorem ord_loop {σ : AS} (mg : MG) (me : ME) (h : AH) (hme : ∀ (w : Int) (k : Nat), ∃ σ', mg (.tup [.int k, .int w]) σ h = .ok σ' h ∧ me σ' h = .ok (pD (-w, k)) h) :
    ∀ (m : List Int) (k : Nat) (st : List D), gxL mg mYes me tkCol (enD k (m.map D.int)) σ st h = .ok (st ++ (prs k m).map pD) h
  | [], k, st => by simp [enD, gxL, prs]
  | w :: m, k, st => by
    obtain ⟨σ', e1, e2⟩ := hme w k
    have ih := ord_loop mg me h hme m (k + 1) (st ++ [pD (-w, k)])
    rw [List.map_cons, enD, gxL, e1]
    simp [e2, tkCol, ih, prs]
theorem bump_loop {σ : AS} {n : Nat} (hn : 7 ≤ σ.length) (h : AH) (h3 : σ[3]? = some (some (.ref h.length))) : ∀ (z : List (Int × Int)) (xs : List Int) (k5 k6 : Option D), (∀ q ∈ z, 0 ≤ q.2 ∧ q.2 < xs.length) →
    ∃ k5' k6', forL (gmTup 2 (gmCons (gmName 5) (gmCons (gmName 6) (gmNil)))) (sAugI dIAdd (mVar 3) (mVar 6) (mC (.int 1))) (z.map pD) ((σ.set 5 k5).set 6 k6) (h ++ [some (.lst (xs.map D.int))])
      = .ok (.nx ((σ.set 5 k5').set 6 k6')) (h ++ [some (.lst ((bump xs (z.map (·.2))).map D.int))])
  | [], xs, k5, k6, _ => ⟨k5, k6, by simp [bump]⟩
  | q :: z, xs, k5, k6, hz => by
    have hq := hz q (by simp)
    obtain ⟨k5', k6', e⟩ := bump_loop (n := n) hn h h3 z (xs.set q.2.toNat (xs.getD q.2.toNat 0 + 1)) (some (.int q.1)) (some (.int q.2)) (fun y hy => by have := hz y (by simp [hy]); simpa using this)
    refine ⟨k5', k6', ?_⟩
    rw [List.map_cons, List.map_cons, bump, ← e, forL]
    have hs : (((((σ.set 5 k5).set 6 k6).set 5 (some (.int q.1))).set 6 (some (.int q.2)))) = (σ.set 5 (some (.int q.1))).set 6 (some (.int q.2)) := by
      apply List.ext_getElem?
      intro j
      simp only [List.getElem?_set, List.length_set]
      split
      · rfl
      · split
        · simp_all
        · simp_all
    have g3 : ((σ.set 5 (some (.int q.1))).set 6 (some (.int q.2)))[3]? = some (some (.ref h.length)) := by simp [List.getElem?_set, h3]
    have g6 : ((σ.set 5 (some (.int q.1))).set 6 (some (.int q.2)))[6]? = some (some (.int q.2)) := by rw [List.getElem?_set_self (by simp; omega)]
    have i1 : ixN (List.map D.int xs).length q.2 = some q.2.toNat := by simp [ixN, hq.1, hq.2]
    have a1 : atI (xs.map D.int) q.2 = some (.int (xs.getD q.2.toNat 0)) := by
      have : q.2.toNat < xs.length := by omega
      have i2 : ixN xs.length q.2 = some q.2.toNat := by simpa using i1
      simp [atI, i2, this]
    have e2 : (xs.map D.int).set q.2.toNat (.int (xs.getD q.2.toNat 0 + 1)) = (xs.set q.2.toNat (xs.getD q.2.toNat 0 + 1)).map D.int := by rw [List.map_set]
    have st : sAugI dIAdd (mVar 3) (mVar 6) (mC (.int 1)) ((σ.set 5 (some (.int q.1))).set 6 (some (.int q.2))) (h ++ [some (.lst (xs.map D.int))]) = .ok (.nx ((σ.set 5 (some (.int q.1))).set 6 (some (.int q.2)))) (h ++ [some (.lst ((xs.set q.2.toNat (xs.getD q.2.toNat 0 + 1)).map D.int))]) := by
      unfold sAugI
      simp only [mVar_d, g3, g6, ofE_ok, getL, get_end, a1, mC_d, dIAdd, setAt, listAt, i1, Option.map, set_end, e2]
    rw [show pD q = .tup [.int q.1, .int q.2] from rfl]
    simp only [gmTup_d, List.length_cons, List.length_nil, gmCons_d, gmName_d, gmNil_d, if_true, hs, st, loopS_nx]
end K11
end
section
set_option Elab.async false
set_option linter.all false
set_option maxRecDepth 100000
namespace K11
open PySem DV L2 SrtO
theorem len_lst' (ns : List Int) (h : AH) : bLen [.lst (ns.map D.int)] h = .ok (.int ns.length) h := by rw [len_lst, List.length_map]
theorem leastI_ge : ∀ (ns : List Int) (n : Int), 0 ≤ n → (∀ x ∈ ns, 0 ≤ x) → 0 ≤ leastI n ns
  | [], n, h, _ => h
  | x :: ns, n, h, hx => by
    unfold leastI
    have := hx x (by simp)
    first
      | exact leastI_ge ns _ (by split <;> assumption) fun y hy => hx y (by simp [hy])
theorem bMin_ge {l : List Int} (hl : 1 ≤ l.length) (hb : ∀ x ∈ l, 0 ≤ x) (h : AH) : ∃ m, 0 ≤ m ∧ bMin [.lst (l.map D.int)] h = .ok (.int m) h := by
  cases l with
  | nil => simp at hl
  | cons x l =>
    refine ⟨leastI x l, leastI_ge l x (hb x (by simp)) fun y hy => hb y (by simp [hy]), ?_⟩
    have e := intsD_map (x :: l)
    simp only [bMin, getS, getL, Option.bind_some, e]
theorem ones_len (l : List Int) (h : AH) {mx : ME} {σ : AS} (s1 : 1 ≤ sizeLine) (hl2 : l.length ≤ 1000) (hmx : mx σ h = .ok (.lst (l.map D.int)) h) : mOp (dMul false) (mLst false (mCons (mC (.int 1)) (mNil))) (mCB bLen (mCons mx (mNil))) σ h = .ok (.lst ((List.replicate l.length (1 : Int)).map D.int)) h := by
  have e : mLst false (mCons (mC (.int 1)) (mNil)) σ h = .ok (.lst [.int 1]) h := by
    simp only [mLst_d, mCons_d, mC_d, bindR_okS, mNil_d, okIf_d, mkL_f]
    exact if_pos s1
  rw [mOp_d, e, bindR_okS, mCB_d, mCons_d, hmx, bindR_okS, mNil_d, bindR_okS, bindR_okS, len_lst', bindR_okS, dMul_ones l.length hl2]
theorem cost_mine (l : List Int) (h : AH) (v : D) (hv : v = .lst (l.map D.int)) (hl2 : l.length ≤ 4) {mx : ME} {σ : AS} (hmx : mx σ h = .ok v h) (m2 : ME) (hm2 : m2 σ h = .ok v h) :
    mIf (mTB (mOp dGt (mCB bSum (mCons mx (mNil))) (mC (.int 0)))) m2 (mOp (dMul false) (mLst false (mCons (mC (.int 1)) (mNil))) (mCB bLen (mCons mx (mNil)))) σ h = .ok (.lst ((mineL l).map D.int)) h := by
  subst hv
  have s1 : 1 ≤ sizeLine := line3' (by omega)
  unfold mineL
  by_cases q : 0 < sumI l
  · rw [if_pos q]
    simp only [mIf_d, mTB_d, mOp_d, mCB_d, mCons_d, hmx, bindR_okS, mNil_d, bSum_lst, mC_d, dGt_int, q, decide_true, asB_d, if_true, hm2]
  · rw [if_neg q]
    have s2 := ones_len l h s1 (by omega) hmx
    rw [mIf_d, show mTB (mOp dGt (mCB bSum (mCons mx (mNil))) (mC (.int 0))) σ h = .ok false h by simp only [mTB_d, mOp_d, mCB_d, mCons_d, hmx, bindR_okS, mNil_d, bSum_lst, mC_d, dGt_int, q, decide_false, asB_d]]
    exact s2
end K11
end
section
set_option Elab.async false
set_option linter.all false
set_option maxRecDepth 100000
namespace K11
open PySem DV L2 SrtO
theorem cost_ok {cost : Int} {l : List Int} (hc : 0 ≤ cost) (hl : 1 ≤ l.length) (hl2 : l.length ≤ 4) (hb : ∀ x ∈ l, 0 ≤ x ∧ x ≤ 9) (h : AH) :
    ∃ x, f_shared_cost [.int cost, .lst (l.map D.int)] h = .ok (.tup ((costL cost l).map D.int)) (h ++ [x]) := by
  obtain ⟨mn, mn0, mne⟩ := bMin_ge hl (fun x hx => (hb x hx).1) h
  have hm := mineL_mem hb
  have hml := mineL_len l
  have hS := mineL_sum hl hl2 hb
  have hl0 : ¬ l.length = 0 := by omega
  have mine := cost_mine l h _ rfl hl2 (mx := mVar 1) (σ := [some (.int cost), some (.lst (l.map D.int)), none, none, none, none, none, none]) (by simp) (mCB (bList false) (mCons (mVar 1) (mNil))) (by simp [bList, getS, getL])
  generalize hM : mineL l = M at *
  -- found
  have sl := shr_loop (gmName 7) (fun _ _ _ => rfl) cost (W := sumI M) (σ := [some (.int cost), some (.lst (l.map D.int)), some (.lst (M.map D.int)), none, none, none, none, none]) (mOp (dDiv) (mOp (dMul false) (mVar 0) (mVar 7)) (mCB bSum (mCons (mVar 2) (mNil)))) h
    (fun w h0 h9 => by simp [dMul_int (cmul_small h0 (by omega : w ≤ 1000000)), bSum_lst, dDiv_int hS.1 (by omega : sumI M < 1073741824)]) M [] hm (by simp; omega)
  have lc := mLc_eq (mu := true) (mi := miLT (mVar 2)) (vs := [7]) (mg := gmName 7) (mt := mYes) (me := mOp (dDiv) (mOp (dMul false) (mVar 0) (mVar 7)) (mCB bSum (mCons (mVar 2) (mNil)))) (σ := [some (.int cost), some (.lst (l.map D.int)), some (.lst (M.map D.int)), none, none, none, none, none]) (h := h) (h1 := h) (it := itOf (.lst (M.map D.int))) (ds := M.map D.int) (by simp [itLT, getL]) (itIs_lst _) (big3 (by simp; omega))
  simp only [wipeA, List.set_cons_succ, List.set_cons_zero, sl, bindR_okS, List.nil_append, mkL_t] at lc
  rw [show (M.map fun w => cost * w / sumI M) = shrL cost M from rfl] at lc
  -- order
  have ol := ord_loop (σ := [some (.int cost), some (.lst (l.map D.int)), some (.lst (M.map D.int)), some (.ref h.length), none, none, none, none]) (gmTup 2 (gmCons (gmName 6) (gmCons (gmName 7) (gmNil)))) (mTup (mCons (mOp (dMinus) (mC (.int 0)) (mVar 7)) (mCons (mVar 6) (mNil)))) (h ++ [some (.lst ((shrL cost M).map D.int))])
    (fun w k => ⟨[some (.int cost), some (.lst (l.map D.int)), some (.lst (M.map D.int)), some (.ref h.length), none, none, some (.int k), some (.int w)], by simp, by simp [dMinus_int, pD, line3']⟩) M 0 []
  have gx := mGx_eq (mi := miEnum (mCons (mVar 2) (mNil))) (vs := [6, 7]) (mg := gmTup 2 (gmCons (gmName 6) (gmCons (gmName 7) (gmNil)))) (mt := mYes) (me := mTup (mCons (mOp (dMinus) (mC (.int 0)) (mVar 7)) (mCons (mVar 6) (mNil)))) (tk := tkCol) (st := []) (fk := fkS false) (σ := [some (.int cost), some (.lst (l.map D.int)), some (.lst (M.map D.int)), some (.ref h.length), none, none, none, none]) (h := h ++ [some (.lst ((shrL cost M).map D.int))]) (h1 := h ++ [some (.lst ((shrL cost M).map D.int))]) (it := itEn (.lst (M.map D.int))) (ds := enD 0 (M.map D.int)) (by simp [enIt, getS, getL]) (itIs_en fun _ => rfl) (line3 (by rw [enD_len]; simp; omega))
  simp only [wipeA, List.set_cons_succ, List.set_cons_zero, ol, bindR_okS, List.nil_append] at gx
  rw [fkS_prs M (by omega)] at gx
  -- bumps
  have hz := topL_ok cost M
  have slen : (shrL cost M).length = M.length := by simp [shrL]
  obtain ⟨k5, k6, bl⟩ := bump_loop (n := 0) (σ := [some (.int cost), some (.lst (l.map D.int)), some (.lst (M.map D.int)), some (.ref h.length), some (.lst ((ordL M).map pD)), none, none, none]) (by simp) h rfl (topL cost M) (shrL cost M) none none (fun q hq => by rw [slen]; exact hz.2.1 q hq)
  have loop := sFor_eq (mi := miLT (mSl false (mVar 4) (mPN) (mPS (mOp (dMinus) (mVar 0) (mCB bSum (mCons (mVar 3) (mNil))))))) (mg := gmTup 2 (gmCons (gmName 5) (gmCons (gmName 6) (gmNil)))) (s := sAugI dIAdd (mVar 3) (mVar 6) (mC (.int 1))) (σ := [some (.int cost), some (.lst (l.map D.int)), some (.lst (M.map D.int)), some (.ref h.length), some (.lst ((ordL M).map pD)), none, none, none]) (h := h ++ [some (.lst ((shrL cost M).map D.int))]) (h1 := h ++ [some (.lst ((shrL cost M).map D.int))]) (it := itOf (.lst ((topL cost M).map pD))) (ds := (topL cost M).map pD)
    (by simp [itLT, getL, slD, bSum, getS, intsD_map, sum_sumI, dMinus_int, cutD_front, topL]) (itIs_lst _) (big3 (by simp; omega))
  simp only [List.set_cons_succ, List.set_cons_zero] at bl
  rw [bl] at loop
  refine ⟨some (.lst ((costL cost l).map D.int)), ?_⟩
  unfold costL
  rw [hM]
  unfold f_shared_cost runF m_shared_cost
  refine runF_rt ?_
  rw [show startA _ _ = [some (.int cost), some (.lst (l.map D.int)), none, none, none, none, none, none] from rfl]
  rw [seq_nx (if_no (h1 := h) (by simp [dLt_int, Int.not_lt.mpr hc, len_lst', dEq_int, hl0, mne, Int.not_lt.mpr mn0]))]
  rw [seq_nx (asg_nx mine)]
  simp only [List.set_cons_succ, List.set_cons_zero]
  rw [seq_nx (asg_nx lc)]
  simp only [List.set_cons_succ, List.set_cons_zero]
  rw [seq_nx (asg_nx gx)]
  simp only [List.set_cons_succ, List.set_cons_zero]
  rw [seq_nx loop]
  exact ret_rt (by simp [bTuple, getL])
end K11
end
section
set_option Elab.async false
set_option linter.all false
set_option maxRecDepth 100000
namespace K11
open PySem DV L2 SrtO
variable {least duty most : Int} {rows : List (Int × Int)}
theorem share_loop {a b : Nat} {σ : AS} {h : AH} (hab : a ≠ b) (ha : a < σ.length) (hbn : b < σ.length) : ∀ (rows : List (Int × Int)), (∀ q ∈ rows, 0 ≤ q.2 ∧ q.2 ≤ 1000) →
    gxL (gmTup 2 (gmCons (gmName a) (gmCons (gmName b) (gmNil)))) (mYes) (mNotV (mChain dLe dLe (mC (.int 0)) (mVar b) (mC (.int 1000)))) tkAny (rows.map pD) σ false h = .ok false h
  | [], _ => rfl
  | y :: r, hr => by
    have h1 := hr y (by simp)
    have ih := share_loop (h := h) hab ha hbn r (fun q hq => hr q (by simp [hq]))
    have e1 : ((σ.set a (some (.int y.1))).set b (some (.int y.2)))[b]? = some (some (.int y.2)) := List.getElem?_set_self (by simpa using hbn)
    rw [List.map_cons, gxL, show pD y = .tup [.int y.1, .int y.2] from rfl]
    simp only [gmTup_d, List.length_cons, List.length_nil, gmCons_d, gmName_d, gmNil_d, mYes_d, noX_ok, bindR_okS, if_true, mNotV_d, mChain_d, mVar_d, e1, mC_d, dLe_int, asB_d, truD_b, h1.1, h1.2, decide_true, tkAny, ih, Bool.not_true]
theorem tup_loop {σ : AS} {h : AH} (ha : 8 < σ.length) : ∀ (rows : List (Int × Int)) (st : List D),
    gxL (gmName 8) (mYes) (mCB bTuple (mCons (mVar 8) (mNil))) tkCol (rows.map pD) σ st h = .ok (st ++ rows.map pD) h
  | [], st => by simp [gxL]
  | y :: r, st => by
    have ih := tup_loop (h := h) ha r (st ++ [pD y])
    have e1 : (σ.set 8 (some (pD y)))[8]? = some (some (pD y)) := List.getElem?_set_self ha
    rw [List.map_cons, gxL]
    simp only [gmName_d, mYes_d, noX_ok, bindR_okS, if_true, mCB_d, mCons_d, mVar_d, e1, mNil_d]
    rw [show bTuple [pD y] h = .ok (pD y) h from rfl]
    simp only [noX_ok, bindR_okS, tkCol, ih, List.append_assoc, List.cons_append, List.nil_append]
theorem init_ok (hb : Bands most rows) (hm : most ≤ 1000) (hl0 : 0 ≤ least) (hd : 0 ≤ duty) (hd2 : duty ≤ 1000) (h : AH) :
    f_fees_init [.ref h.length, .lst (rows.map pD), .int least, .int duty] (h ++ [some (.ins 0 [])]) = .ok .non (h ++ [some (.ins 0 [("bands", .tup (rows.map pD)), ("least", .int least), ("duty", .int duty)])]) := by
  have hl := hb.2.2.1
  have hl1 := hb.2.1
  obtain ⟨x, r, e⟩ : ∃ x r, rows = x :: r := by
    cases rows with
    | nil => simp at hl1
    | cons x r => exact ⟨x, r, rfl⟩
  have hx : x.1 = 0 := hb.2.2.2.1 x (by rw [e]; rfl)
  generalize hh : h ++ [some (O.ins 0 [])] = h1
  have i0 : ixD (.lst (rows.map pD)) (.int 0) h1 = .ok (pD x) h1 := ix_lst2 (show (0 : Int) = ((0 : Nat) : Int) from rfl) (by rw [e]; rfl)
  have i1 : ixD (pD x) (.int 0) h1 = .ok (.int x.1) h1 := ix_tup2 (show (0 : Int) = ((0 : Nat) : Int) from rfl) rfl
  have c1 : (1 : Int) ≤ rows.length := by omega
  have c2 : (rows.length : Int) ≤ 10 := by omega
  have rz := rise_loop (a := 4) (b := 5) (n := 0) (σ := [some (.ref h.length), some (.lst (rows.map pD)), some (.int least), some (.int duty), none, none, none, none, none]) (h := h1) (by decide) (by simp) (by simp) r x (by rw [← e]; exact hb.1)
  have gx := mGx_eq (mi := miZip (mCons (mVar 1) (mCons (mSl false (mVar 1) (mPS (mC (.int 1))) (mPN)) (mNil)))) (vs := [4, 5]) (mg := gmTup 2 (gmCons (gmName 4) (gmCons (gmName 5) (gmNil)))) (mt := mYes) (me := mOp dLe (mOp ixD (mVar 5) (mC (.int 0))) (mOp ixD (mVar 4) (mC (.int 0)))) (tk := tkAny) (st := false) (fk := fkB) (σ := [some (.ref h.length), some (.lst (rows.map pD)), some (.int least), some (.int duty), none, none, none, none, none]) (h := h1) (h1 := h1)
    (it := itZp (.lst (rows.map pD)) (.lst (r.map pD))) (ds := zipD ((x :: r).map pD) (r.map pD)) (by rw [e]; simp [slD, getL, cutD_tl, zpIt]) (itIs_zp (fun _ => by rw [e]; rfl) fun _ => rfl) (line3 (by have := zipD_len ((x :: r).map pD) (r.map pD); rw [e] at hl; simp at hl this ⊢; omega))
  simp only [wipeA, List.set_cons_succ, List.set_cons_zero, rz, bindR_okS, fkB] at gx
  have sz := share_loop (a := 6) (b := 7) (σ := [some (.ref h.length), some (.lst (rows.map pD)), some (.int least), some (.int duty), none, none, none, none, none]) (h := h1) (by decide) (by simp) (by simp) rows (fun q hq => ⟨(hb.2.2.2.2 q hq).2.2.1, by have := (hb.2.2.2.2 q hq).2.2.2; omega⟩)
  have gs := mGx_eq (mi := miLT (mVar 1)) (vs := [6, 7]) (mg := gmTup 2 (gmCons (gmName 6) (gmCons (gmName 7) (gmNil)))) (mt := mYes) (me := mNotV (mChain dLe dLe (mC (.int 0)) (mVar 7) (mC (.int 1000)))) (tk := tkAny) (st := false) (fk := fkB) (σ := [some (.ref h.length), some (.lst (rows.map pD)), some (.int least), some (.int duty), none, none, none, none, none]) (h := h1) (h1 := h1)
    (it := itOf (.lst (rows.map pD))) (ds := rows.map pD) (by simp [itLT, getL]) (itIs_lst _) (line3 (by simp; omega))
  simp only [wipeA, List.set_cons_succ, List.set_cons_zero, sz, bindR_okS, fkB] at gs
  have tz := tup_loop (σ := [some (.ref h.length), some (.lst (rows.map pD)), some (.int least), some (.int duty), none, none, none, none, none]) (h := h1) (by simp) rows []
  have gt := mGx_eq (mi := miLT (mVar 1)) (vs := [8]) (mg := gmName 8) (mt := mYes) (me := mCB bTuple (mCons (mVar 8) (mNil))) (tk := tkCol) (st := []) (fk := fkT) (σ := [some (.ref h.length), some (.lst (rows.map pD)), some (.int least), some (.int duty), none, none, none, none, none]) (h := h1) (h1 := h1)
    (it := itOf (.lst (rows.map pD))) (ds := rows.map pD) (by simp [itLT, getL]) (itIs_lst _) (line3 (by simp; omega))
  simp only [wipeA, List.set_cons_succ, List.set_cons_zero, tz, bindR_okS, fkT, List.nil_append] at gt
  unfold f_fees_init runF m_fees_init
  rw [show startA _ _ = [some (.ref h.length), some (.lst (rows.map pD)), some (.int least), some (.int duty), none, none, none, none, none] from rfl]
  rw [seq_nx (if_no (h1 := h1) (by simp [len_lst, dLe_int, c1, c2, i0, i1, dNe_int, hx]))]
  rw [seq_nx (if_no (h1 := h1) (by simp [gx]))]
  rw [seq_nx (if_no (h1 := h1) (by simp [gs, dLt_int, Int.not_lt.mpr hl0, dLe_int, hd, hd2]))]
  simp [gt]
  subst hh
  simp [putI, putFd]
  rfl
end K11
end
section
set_option Elab.async false
set_option linter.all false
set_option maxRecDepth 100000
namespace K11
open PySem DV L2 SrtO
def lawS1 : MS := (sAsg (mTup (mCons (mCall (fun xs => f_law_bands (xs ++ [])) (mCons (mVar 1) (mCons (mC (.int 1000)) (mNil)))) (mCons (mCall (fun xs => f_law_roll (xs ++ [])) (mCons (mVar 1) (mCons (mC (.int 20)) (mNil)))) (mCons (mCall (fun xs => f_law_roll (xs ++ [])) (mCons (mVar 1) (mCons (mC (.int 400)) (mNil)))) (mNil))))) (gmTup 3 (gmCons (gmName 2) (gmCons (gmName 3) (gmCons (gmName 4) (gmNil))))))
def lawS2 : MS := (sAsg (mTup (mCons (mFrz (mMake 0 (fun xs => f_fees_init (xs ++ [])) (mCons (mVar 2) (mCons (mVar 3) (mCons (mVar 4) (mNil)))))) (mCons (mCall (fun xs => f_law_roll (xs ++ [])) (mCons (mVar 1) (mCons (mC (.int 180)) (mNil)))) (mCons (mCall (fun xs => f_law_roll (xs ++ [])) (mCons (mVar 1) (mCons (mC (.int 260)) (mNil)))) (mNil))))) (gmTup 3 (gmCons (gmName 5) (gmCons (gmName 6) (gmCons (gmName 7) (gmNil))))))
def lawS3 : MS := (sAsg (mCB bMax2 (mCons (mVar 3) (mCons (mOp (dDiv) (mCall (fun xs => f_law_sum (xs ++ [])) (mCons (mVar 2) (mCons (mVar 6) (mNil)))) (mC (.int 1000))) (mNil)))) (gmName 8))
def lawS4 : MS := (sAsg (mCall (fun xs => f_law_half (xs ++ [])) (mCons (mOp (dMul false) (mVar 8) (mVar 4)) (mCons (mC (.int 1000)) (mNil)))) (gmName 9))
def lawS5 : MS := (sIf (mTB (mOp dNe (mTup (mCons (mMeth 0 "fee_of" (fun xs => f_fees_fee_of (xs ++ [])) (mVar 5) (mCons (mVar 6) (mNil))) (mCons (mMeth 0 "duty_of" (fun xs => f_fees_duty_of (xs ++ [])) (mVar 5) (mCons (mVar 6) (mNil))) (mCons (mMeth 0 "buyer_pays" (fun xs => f_fees_buyer_pays (xs ++ [])) (mVar 5) (mCons (mVar 6) (mNil))) (mCons (mMeth 0 "seller_gets" (fun xs => f_fees_seller_gets (xs ++ [])) (mVar 5) (mCons (mVar 6) (mNil))) (mNil)))))) (mTup (mCons (mVar 8) (mCons (mVar 9) (mCons (mOp (dPlus false) (mOp (dPlus false) (mVar 6) (mVar 8)) (mVar 9)) (mCons (mOp (dMinus) (mOp (dMinus) (mVar 6) (mVar 8)) (mVar 9)) (mNil)))))))) (sRet (mC (.bl false))) (sNext))
def lawS6 : MS := (sAsg (mIf (mTB (mOp dLt (mVar 7) (mC (.int 60)))) (mLc false (miCall rg1D (mCons (mOp (dPlus false) (mVar 7) (mC (.int 1))) (mNil))) [27] (gmName 27) (mTB (mOp dLe (mOp (dPlus false) (mOp (dPlus false) (mVar 27) (mCB bMax2 (mCons (mVar 3) (mCons (mOp (dDiv) (mCall (fun xs => f_law_sum (xs ++ [])) (mCons (mVar 2) (mCons (mVar 27) (mNil)))) (mC (.int 1000))) (mNil))))) (mCall (fun xs => f_law_half (xs ++ [])) (mCons (mOp (dMul false) (mCB bMax2 (mCons (mVar 3) (mCons (mOp (dDiv) (mCall (fun xs => f_law_sum (xs ++ [])) (mCons (mVar 2) (mCons (mVar 27) (mNil)))) (mC (.int 1000))) (mNil)))) (mVar 4)) (mCons (mC (.int 1000)) (mNil))))) (mVar 7))) (mVar 27)) (mC .non)) (gmName 10))
def lawS7 : MS := (sAsg (mMeth 0 "price_for" (fun xs => f_fees_price_for (xs ++ [])) (mVar 5) (mCons (mVar 7) (mNil))) (gmName 11))
def lawS8 : MS := (sIf (mOr (mAnd (mTB (mOp dNotN (mVar 10) (mC .non))) (mTB (mOp dNe (mVar 11) (mIf (mTB (mOp dNe (mVar 10) (mLst false (mNil)))) (mOp ixD (mVar 10) (mNeg (mC (.int 1)))) (mC .non))))) (mOr (mAnd (mTB (mOp dNotN (mVar 11) (mC .non))) (mOr (mTB (mOp dGt (mMeth 0 "buyer_pays" (fun xs => f_fees_buyer_pays (xs ++ [])) (mVar 5) (mCons (mVar 11) (mNil))) (mVar 7))) (mTB (mOp dLe (mMeth 0 "buyer_pays" (fun xs => f_fees_buyer_pays (xs ++ [])) (mVar 5) (mCons (mOp (dPlus false) (mVar 11) (mC (.int 1))) (mNil))) (mVar 7))))) (mAnd (mTB (mOp dIsN (mVar 11) (mC .non))) (mTB (mOp dLe (mMeth 0 "buyer_pays" (fun xs => f_fees_buyer_pays (xs ++ [])) (mVar 5) (mCons (mC (.int 0)) (mNil))) (mVar 7)))))) (sRet (mC (.bl false))) (sNext))
def lawS9 : MS := (sAsg (mOp (dPlus false) (mLc false (miLT (mVar 2)) [28, 29] (gmTup 2 (gmCons (gmName 28) (gmCons (gmName 29) (gmNil)))) (mYes) (mVar 28)) (mLst false (mCons (mCB bMax2 (mCons (mVar 6) (mCons (mOp ixD (mOp ixD (mVar 2) (mNeg (mC (.int 1)))) (mC (.int 0))) (mNil)))) (mNil)))) (gmName 12))
def lawS10 : MS := (sAsg (mLc false (miEnum (mCons (mLz false (mCons (mVar 12) (mCons (mSl false (mVar 12) (mPS (mC (.int 1))) (mPN)) (mNil)))) (mNil))) [30, 31, 32] (gmTup 2 (gmCons (gmName 30) (gmCons (gmTup 2 (gmCons (gmName 31) (gmCons (gmName 32) (gmNil)))) (gmNil)))) (mTB (mOp dGt (mCB bMin2 (mCons (mVar 6) (mCons (mVar 32) (mNil)))) (mVar 31))) (mTup (mCons (mOp (dMinus) (mCB bMin2 (mCons (mVar 6) (mCons (mVar 32) (mNil)))) (mVar 31)) (mCons (mOp ixD (mOp ixD (mVar 2) (mVar 30)) (mC (.int 1))) (mNil))))) (gmName 13))
def lawS11 : MS := (sIf (mOr (mTB (mOp dNe (mCB (bList false) (mCons (mMeth 0 "band_parts" (fun xs => f_fees_band_parts (xs ++ [])) (mVar 5) (mCons (mVar 6) (mNil))) (mNil))) (mVar 13))) (mAnd (mTB (mOp dGt (mVar 6) (mC (.int 0)))) (mTB (mOp dNe (mMeth 0 "share_of" (fun xs => f_fees_share_of (xs ++ [])) (mVar 5) (mCons (mVar 6) (mNil))) (mOp (dDiv) (mOp (dMul false) (mC (.int 1000)) (mVar 8)) (mVar 6)))))) (sRet (mC (.bl false))) (sNext))
def lawS12 : MS := (sAsg (mFrz (mMake 0 (fun xs => f_fees_init (xs ++ [])) (mCons (mCall (fun xs => f_law_bands (xs ++ [])) (mCons (mVar 1) (mCons (mC (.int 300)) (mNil)))) (mCons (mCall (fun xs => f_law_roll (xs ++ [])) (mCons (mVar 1) (mCons (mC (.int 9)) (mNil)))) (mCons (mCall (fun xs => f_law_roll (xs ++ [])) (mCons (mVar 1) (mCons (mC (.int 300)) (mNil)))) (mNil)))))) (gmName 14))
def lawS13 : MS := (sPar [15, 16, 17] (mCons (mMeth 0 "buyer_pays" (fun xs => f_fees_buyer_pays (xs ++ [])) (mVar 5) (mCons (mVar 6) (mNil))) (mCons (mMeth 0 "seller_gets" (fun xs => f_fees_seller_gets (xs ++ [])) (mVar 14) (mCons (mVar 6) (mNil))) (mCons (mOp (dPlus false) (mVar 9) (mMeth 0 "duty_of" (fun xs => f_fees_duty_of (xs ++ [])) (mVar 14) (mCons (mVar 6) (mNil)))) (mNil)))))
def lawS14 : MS := (sAsg (mCB (bSorted false) (mCons (mLc false (miCall rg1D (mCons (mCall (fun xs => f_law_roll (xs ++ [])) (mCons (mVar 1) (mCons (mC (.int 6)) (mNil)))) (mNil))) [30] (gmName 30) (mYes) (mCall (fun xs => f_law_roll (xs ++ [])) (mCons (mVar 1) (mCons (mC (.int 200)) (mNil))))) (mNil))) (gmName 18))
def lawS15 : MS := (sAsg (mLc false (miLT (mVar 18)) [27] (gmName 27) (mTB (mOp dLt (mMeth 0 "buyer_pays" (fun xs => f_fees_buyer_pays (xs ++ [])) (mVar 5) (mCons (mVar 27) (mNil))) (mMeth 0 "buyer_pays" (fun xs => f_fees_buyer_pays (xs ++ [])) (mVar 14) (mCons (mVar 27) (mNil))))) (mVar 27)) (gmName 19))
def lawS16 : MS := (sIf (mTB (mOp dNe (mCall (fun xs => f_split_whole (xs ++ [])) (mCons (mVar 6) (mCons (mVar 5) (mCons (mVar 14) (mNil))))) (mTup (mCons (mVar 15) (mCons (mVar 16) (mCons (mOp (dMinus) (mOp (dMinus) (mVar 15) (mVar 16)) (mVar 17)) (mCons (mVar 17) (mNil)))))))) (sRet (mC (.bl false))) (sNext))
def lawS17 : MS := (sIf (mTB (mOp dNe (mCall (fun xs => f_fee_gap (xs ++ [])) (mCons (mVar 5) (mCons (mVar 14) (mCons (mVar 18) (mNil))))) (mIf (mTB (mOp dNe (mVar 19) (mLst false (mNil)))) (mOp ixD (mVar 19) (mC (.int 0))) (mC .non)))) (sRet (mC (.bl false))) (sNext))
def lawS18 : MS := (sAsg (mTup (mCons (mCall (fun xs => f_law_roll (xs ++ [])) (mCons (mVar 1) (mCons (mC (.int 90)) (mNil)))) (mCons (mLc false (miCall rg1D (mCons (mOp (dPlus false) (mC (.int 1)) (mCall (fun xs => f_law_roll (xs ++ [])) (mCons (mVar 1) (mCons (mC (.int 4)) (mNil))))) (mNil))) [30] (gmName 30) (mYes) (mCall (fun xs => f_law_roll (xs ++ [])) (mCons (mVar 1) (mCons (mC (.int 9)) (mNil))))) (mNil)))) (gmTup 2 (gmCons (gmName 20) (gmCons (gmName 21) (gmNil)))))
def lawS19 : MS := (sAsg (mIf (mTB (mOp dGt (mCB bSum (mCons (mVar 21) (mNil))) (mC (.int 0)))) (mVar 21) (mOp (dMul false) (mLst false (mCons (mC (.int 1)) (mNil))) (mCB bLen (mCons (mVar 21) (mNil))))) (gmName 22))
def lawS20 : MS := (sAsg (mLc false (miLT (mVar 22)) [33] (gmName 33) (mYes) (mOp (dDiv) (mOp (dMul false) (mVar 20) (mVar 33)) (mCB bSum (mCons (mVar 22) (mNil))))) (gmName 23))
def lawS21 : MS := (sAsg (mSl false (mLc false (miLT (mCB (bSorted false) (mCons (mLc false (miEnum (mCons (mVar 22) (mNil))) [30, 33] (gmTup 2 (gmCons (gmName 30) (gmCons (gmName 33) (gmNil)))) (mYes) (mTup (mCons (mNeg (mVar 33)) (mCons (mVar 30) (mNil))))) (mNil)))) [34] (gmName 34) (mYes) (mOp ixD (mVar 34) (mC (.int 1)))) (mPN) (mPS (mOp (dMinus) (mVar 20) (mCB bSum (mCons (mVar 23) (mNil)))))) (gmName 24))
def lawS22 : MS := (sIf (mTB (mOp dNe (mCB (bList false) (mCons (mCall (fun xs => f_shared_cost (xs ++ [])) (mCons (mVar 20) (mCons (mVar 21) (mNil)))) (mNil))) (mLc false (miEnum (mCons (mVar 23) (mNil))) [30, 29] (gmTup 2 (gmCons (gmName 30) (gmCons (gmName 29) (gmNil)))) (mYes) (mOp (dPlus false) (mVar 29) (mCB bInt (mCons (mOp dIn (mVar 30) (mVar 24)) (mNil))))))) (sRet (mC (.bl false))) (sNext))
def lawS23 : MS := (sPar [25, 26] (mCons (mCall (fun xs => f_law_bands (xs ++ [])) (mCons (mVar 1) (mCons (mC (.int 10000)) (mNil)))) (mCons (mCall (fun xs => f_law_roll (xs ++ [])) (mCons (mVar 1) (mCons (mC (.int 90)) (mNil)))) (mNil))))
def lawS24 : MS := (sIf (mTB (mOp dNe (mCall (fun xs => f_resale_right (xs ++ [])) (mCons (mVar 6) (mCons (mVar 25) (mCons (mVar 26) (mNil))))) (mCB bMin2 (mCons (mVar 26) (mCons (mOp (dDiv) (mCall (fun xs => f_law_sum (xs ++ [])) (mCons (mVar 25) (mCons (mVar 6) (mNil)))) (mC (.int 10000))) (mNil)))))) (sRet (mC (.bl false))) (sNext))
def lawB : MS := (sSeq lawS1 (sSeq lawS2 (sSeq lawS3 (sSeq lawS4 (sSeq lawS5 (sSeq lawS6 (sSeq lawS7 (sSeq lawS8 (sSeq lawS9 (sSeq lawS10 (sSeq lawS11 (sSeq lawS12 (sSeq lawS13 (sSeq lawS14 (sSeq lawS15 (sSeq lawS16 (sSeq lawS17 (sSeq lawS18 (sSeq lawS19 (sSeq lawS20 (sSeq lawS21 (sSeq lawS22 (sSeq lawS23 lawS24)))))))))))))))))))))))
theorem m_law_eq : m_law = sSeq (sFor (miLT (mCall (fun xs => f_law_rounds (xs ++ [])) (mCons (mVar 0) (mCons (mC (.int 1)) (mNil))))) (gmName 1) lawB) (sRet (mCallN f_law_plain)) := rfl
end K11
end
section
set_option Elab.async false
set_option linter.all false
set_option maxRecDepth 100000
namespace K11
open PySem DV L2 SrtO
/-- the dice lie at place 0 -/
def Dh (h : AH) : Prop := ∃ a b m : Int, h[0]? = some (dce a b m)
theorem Dh.set {h : AH} (d : Dh h) {a b m : Int} : Dh (h.set 0 (dce a b m)) := by
  obtain ⟨x, y, z, e⟩ := d
  exact ⟨a, b, m, List.getElem?_set_self (List.getElem?_eq_some_iff.mp e).1⟩
theorem Dh.app {h : AH} (d : Dh h) (x : Option O) : Dh (h ++ [x]) := by
  obtain ⟨a, y, z, e⟩ := d
  exact ⟨a, y, z, by rw [List.getElem?_append_left (List.getElem?_eq_some_iff.mp e).1, e]⟩
theorem roll' {h : AH} (d : Dh h) (many : Int) (h0 : 0 < many) (h1 : many ≤ 100000000) : ∃ r h', 0 ≤ r ∧ r < many ∧ Dh h' ∧ f_law_roll [.ref 0, .int many] h = .ok (.int r) h' := by
  have d' := d
  obtain ⟨a, b, m, e⟩ := d
  obtain ⟨r, a', b', m', p1, p2, p3⟩ := roll_ok e h0 h1
  exact ⟨r, _, p1, p2, d'.set, p3⟩
theorem bands' {h : AH} (d : Dh h) (most : Int) (h0 : 0 ≤ most) (h1 : most < 100000000) : ∃ rows h', Bands most rows ∧ Dh h' ∧ f_law_bands [.ref 0, .int most] h = .ok (.lst (rows.map pD)) h' := by
  have d' := d
  obtain ⟨a, b, m, e⟩ := d
  obtain ⟨rows, f, a', b', m', p1, p2, p3, p4, p5, p6⟩ := bands_ok h0 h1 e
  refine ⟨rows, _, ⟨p2.1, p4, p5, p6, fun q hq => ?_⟩, d'.set, p1⟩
  obtain ⟨x1, x2, x3, x4⟩ := p2.2 q hq
  exact ⟨x1, by omega, x3, x4⟩
theorem make' {h : AH} (d : Dh h) {rows : List (Int × Int)} {least duty most : Int} (hb : Bands most rows) (hm : most ≤ 1000) (hl0 : 0 ≤ least) (hd : 0 ≤ duty) (hd2 : duty ≤ 1000) :
    ∃ h', Dh h' ∧ bindR (initD 0 (fun xs => f_fees_init (xs ++ [])) [.lst (rows.map pD), .int least, .int duty] h) frzD = .ok (objF rows least duty) h' := by
  refine ⟨h ++ [none], d.app none, ?_⟩
  have e := init_ok hb hm hl0 hd hd2 h
  unfold initD
  simp only [List.append_nil, e, bindR_okS, frzD, get_end, set_end]
  rfl
variable {σ : AS} {h : AH} {rows : List (Int × Int)} {least duty price paid most : Int}
theorem s1 (hl : σ.length = 35) (d : Dh h) (v1 : σ[1]? = some (some (.ref 0))) : ∃ rows least duty h', Bands 1000 rows ∧ 0 ≤ least ∧ least < 20 ∧ 0 ≤ duty ∧ duty < 400 ∧ Dh h' ∧
    lawS1 σ h = .ok (.nx (((σ.set 2 (some (.lst (rows.map pD)))).set 3 (some (.int least))).set 4 (some (.int duty)))) h' := by
  obtain ⟨rows, h1, a1, a2, a3⟩ := bands' d 1000 (by omega) (by omega)
  obtain ⟨least, h2, b1, b2, b3, b4⟩ := roll' a2 20 (by omega) (by omega)
  obtain ⟨duty, h3, c1, c2, c3, c4⟩ := roll' b3 400 (by omega) (by omega)
  refine ⟨rows, least, duty, h3, a1, b1, b2, c1, c2, c3, ?_⟩
  unfold lawS1
  simp [v1, a3, b4, c4, line3']
theorem s2 (hl : σ.length = 35) (d : Dh h) (v1 : σ[1]? = some (some (.ref 0))) (v2 : σ[2]? = some (some (.lst (rows.map pD)))) (v3 : σ[3]? = some (some (.int least))) (v4 : σ[4]? = some (some (.int duty))) (hb : Bands 1000 rows) (hl0 : 0 ≤ least) (hd : 0 ≤ duty) (hd2 : duty ≤ 1000) :
    ∃ price paid h', 0 ≤ price ∧ price < 180 ∧ 0 ≤ paid ∧ paid < 260 ∧ Dh h' ∧ lawS2 σ h = .ok (.nx (((σ.set 5 (some (objF rows least duty))).set 6 (some (.int price))).set 7 (some (.int paid)))) h' := by
  obtain ⟨h1, a1, a2⟩ := make' d hb (Int.le_refl _) hl0 hd hd2
  obtain ⟨price, h2, b1, b2, b3, b4⟩ := roll' a1 180 (by omega) (by omega)
  obtain ⟨paid, h3, c1, c2, c3, c4⟩ := roll' b3 260 (by omega) (by omega)
  refine ⟨price, paid, h3, b1, b2, c1, c2, c3, ?_⟩
  unfold lawS2
  simp [-List.append_nil] at a2 ⊢
  simp [-List.append_nil, v1, v2, v3, v4, a2, b4, c4, line3']
theorem feeV_eq (rows : List (Int × Int)) (least p : Int) : max least (bS rows p / 1000) = feeV rows least p := rfl
theorem s3 (v2 : σ[2]? = some (some (.lst (rows.map pD)))) (v3 : σ[3]? = some (some (.int least))) (v6 : σ[6]? = some (some (.int price))) (hb : Bands most rows) (hp : 0 ≤ price) (hp2 : price ≤ 1000) :
    lawS3 σ h = .ok (.nx (σ.set 8 (some (.int (feeV rows least price))))) h := by
  unfold lawS3
  simp [v2, v3, v6, sum_ok hb hp hp2, dDiv_int (show (0 : Int) < 1000 by decide) (by decide), max2_int, feeV]
theorem s4 (v8 : σ[8]? = some (some (.int (feeV rows least price)))) (v4 : σ[4]? = some (some (.int duty))) (hd : 0 ≤ duty) (hd2 : duty ≤ 1000) :
    lawS4 σ h = .ok (.nx (σ.set 9 (some (.int (dueV rows least duty price))))) h := by
  unfold lawS4
  simp [v8, v4, dMul_int (cmul_small hd (by omega : duty ≤ 1000000)), half_ok (show (0 : Int) < 1000 by decide) (by decide), half_due]
theorem s5 (v5 : σ[5]? = some (some (objF rows least duty))) (v6 : σ[6]? = some (some (.int price))) (v8 : σ[8]? = some (some (.int (feeV rows least price)))) (v9 : σ[9]? = some (some (.int (dueV rows least duty price)))) (hb : Bands most rows) (hm : most ≤ 10000) (hd : 0 ≤ duty) (hd2 : duty ≤ 1000) (hp : 0 ≤ price) :
    lawS5 σ h = .ok (.nx σ) h := by
  unfold lawS5
  refine if_no ?_
  simp [v5, v6, v8, v9, fee_ok hb hm hp, duty_ok hb hm hd hd2 hp, pays_ok hb hm hd hd2 hp, gets_ok hb hm hd hd2 hp, line3', dPlus_int, dMinus_int]
  rw [show payV rows least duty price = price + feeV rows least price + dueV rows least duty price from rfl, show getV rows least duty price = price - feeV rows least price - dueV rows least duty price from rfl, dNe_tup_int4]
  rfl
end K11
end
section
set_option Elab.async false
set_option linter.all false
set_option maxRecDepth 100000
namespace K11
open PySem DV L2 SrtO
variable {σ : AS} {h : AH} {rows : List (Int × Int)} {least duty price paid most : Int}
def ableL (rows : List (Int × Int)) (least duty paid : Int) (n : Nat) : List Int := ((List.range n).filter fun (i : Nat) => decide (payV rows least duty i ≤ paid)).map fun (i : Nat) => (i : Int)
theorem able_none (hb : Bands most rows) (hd : 0 ≤ duty) (q : paid < payV rows least duty 0) (n : Nat) : ableL rows least duty paid n = [] := by
  unfold ableL
  rw [List.map_eq_nil_iff, List.filter_eq_nil_iff]
  intro i hi
  have : payV rows least duty 0 ≤ payV rows least duty i := by
    by_cases z : i = 0
    · subst z; exact Int.le_refl _
    · exact Int.le_of_lt (hb.pay_mono hd (Int.le_refl 0) (by omega))
  simp
  omega
theorem able_best (hb : Bands most rows) (hd : 0 ≤ duty) {b : Int} (q : Best rows least duty paid b) : ∀ n : Nat, b < n → ∃ l, ableL rows least duty paid n = l ++ [b]
  | 0, hn => by have := q.1; omega
  | n + 1, hn => by
    have e : ableL rows least duty paid (n + 1) = ableL rows least duty paid n ++ if payV rows least duty n ≤ paid then [(n : Int)] else [] := by
      unfold ableL
      rw [List.range_succ, List.filter_append, List.map_append]
      congr 1
      by_cases z : payV rows least duty n ≤ paid <;> simp [z]
    by_cases z : b = n
    · subst z
      rw [e, if_pos q.2.2.1]
      exact ⟨_, rfl⟩
    · obtain ⟨l, e2⟩ := able_best hb hd q n (by omega)
      have : payV rows least duty (b + 1) ≤ payV rows least duty n := by
        by_cases y : b + 1 = n
        · rw [y]; exact Int.le_refl _
        · exact Int.le_of_lt (hb.pay_mono hd (by have := q.1; omega) (by omega))
      have := q.2.2.2
      rw [e, if_neg (by omega), List.append_nil]
      exact ⟨l, e2⟩
def ableD (rows : List (Int × Int)) (least duty paid : Int) : D := if paid < 60 then .lst ((ableL rows least duty paid (paid + 1).toNat).map D.int) else .non
theorem able_one {τ : AS} {c : Int} (so : ∀ h : AH, f_law_sum [.lst (rows.map pD), .int c] h = .ok (.int (bS rows c)) h) (t2 : τ[2]? = some (some (.lst (rows.map pD)))) (t3 : τ[3]? = some (some (.int least))) (t4 : τ[4]? = some (some (.int duty))) (t7 : τ[7]? = some (some (.int paid))) (t27 : τ[27]? = some (some (.int c))) (hd : 0 ≤ duty) (hd2 : duty ≤ 1000) :
    mTB (mOp dLe (mOp (dPlus false) (mOp (dPlus false) (mVar 27) (mCB bMax2 (mCons (mVar 3) (mCons (mOp (dDiv) (mCall (fun xs => f_law_sum (xs ++ [])) (mCons (mVar 2) (mCons (mVar 27) (mNil)))) (mC (.int 1000))) (mNil))))) (mCall (fun xs => f_law_half (xs ++ [])) (mCons (mOp (dMul false) (mCB bMax2 (mCons (mVar 3) (mCons (mOp (dDiv) (mCall (fun xs => f_law_sum (xs ++ [])) (mCons (mVar 2) (mCons (mVar 27) (mNil)))) (mC (.int 1000))) (mNil)))) (mVar 4)) (mCons (mC (.int 1000)) (mNil))))) (mVar 7)) τ h = .ok (decide (payV rows least duty c ≤ paid)) h := by
  simp [t2, t3, t4, t7, t27, so, dDiv_int (show (0 : Int) < 1000 by decide) (by decide), max2_int, dPlus_int, dMul_int (cmul_small hd (by omega : duty ≤ 1000000)), half_ok (show (0 : Int) < 1000 by decide) (by decide), dLe_int, feeV_eq, half_due, payV]
  exact decide_eq_decide.mpr Iff.rfl
theorem s6 (hl : σ.length = 35) (v2 : σ[2]? = some (some (.lst (rows.map pD)))) (v3 : σ[3]? = some (some (.int least))) (v4 : σ[4]? = some (some (.int duty))) (v7 : σ[7]? = some (some (.int paid))) (hb : Bands most rows) (hd : 0 ≤ duty) (hd2 : duty ≤ 1000) (hp : 0 ≤ paid) :
    lawS6 σ h = .ok (.nx (σ.set 10 (some (ableD rows least duty paid)))) h := by
  unfold lawS6
  refine asg_nx ?_
  unfold ableD
  by_cases q : paid < 60
  · rw [if_pos q, mIf_d, show mTB (mOp dLt (mVar 7) (mC (.int 60))) σ h = .ok true h by simp [v7, dLt_int, q]]
    rw [bindR_okS, if_pos rfl]
    have rb : rgB (paid + 1) := ⟨by omega, by omega⟩
    rw [mLc_eq (it := itRg 0 1 (paid + 1).toNat) (ds := rgD 0 1 (paid + 1).toNat) (h1 := h) (by simp [v7, dPlus_int, rg1D, rb]) (itIs_rg 0 1 _) (big3 (by simp [rgD]; omega))]
    unfold rgD
    rw [compL_filter (P := fun (i : Nat) => decide (payV rows least duty i ≤ paid)) (out := fun (i : Nat) => .int i) (List.range (paid + 1).toNat) (fun i hi => ?_) [] (by simp; omega)]
    · rw [bindR_okS, mkL_f]
      unfold ableL
      simp
    · have hi' : i < 1000 := by have := List.mem_range.mp hi; omega
      have so := sum_ok hb (p := (i : Int)) (by omega) (by omega)
      have t27 : ((wipeA σ [27]).set 27 (some (.int i)))[27]? = some (some (.int (i : Int))) := List.getElem?_set_self (by simp [wipeA, hl])
      have tn : ∀ j, j ≠ 27 → ((wipeA σ [27]).set 27 (some (.int i)))[j]? = σ[j]? := fun j hj => by
        rw [List.getElem?_set_ne (Ne.symm hj), wipeA, wipeA, List.getElem?_set_ne (Ne.symm hj)]
      have t2 := (tn 2 (by decide)).trans v2
      have t3 := (tn 3 (by decide)).trans v3
      have t4 := (tn 4 (by decide)).trans v4
      have t7 := (tn 7 (by decide)).trans v7
      refine ⟨(wipeA σ [27]).set 27 (some (.int i)), by simp, ?_⟩
      generalize (wipeA σ [27]).set 27 (some (.int i)) = τ at *
      exact ⟨able_one so t2 t3 t4 t7 t27 hd hd2, fun _ => by simp only [mVar_d, t27]⟩
  · rw [if_neg q, mIf_d, show mTB (mOp dLt (mVar 7) (mC (.int 60))) σ h = .ok false h by simp [v7, dLt_int, q]]
    rfl
theorem dNe_non (h : AH) : dNe .non .non h = .ok (.bl false) h := by simp [dNe, dEqB, toP, PyData.eqv]
theorem s78 (hl : σ.length = 35) (v5 : σ[5]? = some (some (objF rows least duty))) (v7 : σ[7]? = some (some (.int paid))) (v10 : σ[10]? = some (some (ableD rows least duty paid))) (hb : Bands most rows) (hm : most ≤ 10000) (hl0 : 0 ≤ least) (hd : 0 ≤ duty) (hd2 : duty ≤ 1000) (hp : 0 ≤ paid) (hp2 : paid ≤ 1000) :
    ∃ v, lawS7 σ h = .ok (.nx (σ.set 11 v)) h ∧ lawS8 (σ.set 11 v) h = .ok (.nx (σ.set 11 v)) h := by
  rcases price_ok (least := least) hb hm hl0 hd hd2 hp hp2 h with ⟨q, e⟩ | ⟨b, q, e⟩
  · refine ⟨some .non, ?_, ?_⟩
    · unfold lawS7
      exact asg_nx (by simp [v5, v7, e])
    · unfold lawS8
      refine if_no ?_
      unfold ableD at v10
      by_cases z : paid < 60
      · rw [if_pos z, able_none hb hd q] at v10
        have ne : dNe (.lst []) (.lst []) h = .ok (.bl false) h := dNe_ints [] h
        simp [-getElem?_pos, List.getElem?_set, hl, v5, v7, v10, dNotN, dIsN, isN, ne, dNe_non, pays_ok hb hm hd hd2 (Int.le_refl 0), dLe_int, Int.not_le.mpr q, line3']
      · rw [if_neg z] at v10
        simp [-getElem?_pos, List.getElem?_set, hl, v5, v7, v10, dNotN, dIsN, isN, dNe_non, pays_ok hb hm hd hd2 (Int.le_refl 0), dLe_int, Int.not_le.mpr q, line3']
  · refine ⟨some (.int b), ?_, ?_⟩
    · unfold lawS7
      exact asg_nx (by simp [v5, v7, e])
    · unfold lawS8
      refine if_no ?_
      unfold ableD at v10
      have b0 := q.1
      have p1 := q.2.2.1
      have p2 := q.2.2.2
      by_cases z : paid < 60
      · obtain ⟨l, el⟩ := able_best hb hd q (paid + 1).toNat (by have := q.2.1; omega)
        rw [if_pos z, el] at v10
        have ne := dNe_ints_nil (l ++ [b]) h
        simp only [List.map_append, List.map_cons, List.map_nil] at v10 ne
        rw [show (l ++ [b]).isEmpty = false by simp, Bool.not_false] at ne
        have x1 : ixD (.lst (l.map D.int ++ [.int b])) (.int (-1)) h = .ok (.int b) h := ix_last
        simp [-getElem?_pos, List.getElem?_set, hl, v5, v7, v10, dNotN, dIsN, isN, ne, x1, dNe_int, pays_ok hb hm hd hd2 b0, pays_ok hb hm hd hd2 (show 0 ≤ b + 1 by omega), dPlus_int, dGt_int, Int.not_lt.mpr p1, dLe_int, Int.not_le.mpr p2, line3']
      · rw [if_neg z] at v10
        simp [-getElem?_pos, List.getElem?_set, hl, v5, v7, v10, dNotN, dIsN, isN, dNe_int, pays_ok hb hm hd hd2 b0, pays_ok hb hm hd hd2 (show 0 ≤ b + 1 by omega), dPlus_int, dGt_int, Int.not_lt.mpr p1, dLe_int, Int.not_le.mpr p2, line3']
end K11
end
section
set_option Elab.async false
set_option linter.all false
set_option maxRecDepth 100000
namespace K11
open PySem DV L2 SrtO
variable {σ : AS} {h : AH} {rows : List (Int × Int)} {least duty price paid most : Int}
def edgeL (m : Int) (rows : List (Int × Int)) : List Int := rows.map (·.1) ++ [m]
def lastF : List (Int × Int) → Int
  | [] => 0
  | [a] => a.1
  | _ :: b :: r => lastF (b :: r)
theorem lastF_eq : ∀ (rows : List (Int × Int)), rows ≠ [] → ∃ l x, rows = l ++ [x] ∧ lastF rows = x.1
  | [], h => absurd rfl h
  | [a], _ => ⟨[], a, rfl, rfl⟩
  | a :: b :: r, _ => by
    obtain ⟨l, x, e1, e2⟩ := lastF_eq (b :: r) (by simp)
    exact ⟨a :: l, x, by rw [e1]; rfl, e2⟩
theorem ix_pD1 (x : Int × Int) (h : AH) : ixD (pD x) (.int 0) h = .ok (.int x.1) h := ix_tup2 (show (0 : Int) = ((0 : Nat) : Int) from rfl) rfl
theorem ix_pD2 (x : Int × Int) (h : AH) : ixD (pD x) (.int 1) h = .ok (.int x.2) h := ix_tup2 (show (1 : Int) = ((1 : Nat) : Int) from rfl) rfl
theorem s9 (hl : σ.length = 35) (v2 : σ[2]? = some (some (.lst (rows.map pD)))) (v6 : σ[6]? = some (some (.int price))) (hb : Bands most rows) :
    lawS9 σ h = .ok (.nx (σ.set 12 (some (.lst ((edgeL (max price (lastF rows)) rows).map D.int))))) h := by
  have hl3 := hb.2.2.1
  have hl1 := hb.2.1
  obtain ⟨l, x, e1, e2⟩ := lastF_eq rows (by intro e; rw [e] at hl1; simp at hl1)
  unfold lawS9
  refine asg_nx ?_
  have lc : mLc false (miLT (mVar 2)) [28, 29] (gmTup 2 (gmCons (gmName 28) (gmCons (gmName 29) (gmNil)))) (mYes) (mVar 28) σ h = .ok (.lst ((rows.map (·.1)).map D.int)) h := by
    rw [mLc_eq (it := itOf (.lst (rows.map pD))) (ds := rows.map pD) (h1 := h) (by simp [v2, itLT, getL]) (itIs_lst _) (big3 (by simp; omega))]
    rw [compL_map (out := fun p => .int p.1) rows (fun p hp => ⟨((wipeA σ [28, 29]).set 28 (some (.int p.1))).set 29 (some (.int p.2)), by simp [pD], rfl, ?_⟩) [] (by simp; omega)]
    · simp
    · have : (((wipeA σ [28, 29]).set 28 (some (.int p.1))).set 29 (some (.int p.2)))[28]? = some (some (.int p.1)) := by
        rw [List.getElem?_set_ne (by decide), List.getElem?_set_self (by simp [wipeA, hl])]
      simp only [mVar_d, this]
  have ix : ixD (.lst (rows.map pD)) (.int (-1)) h = .ok (pD x) h := by rw [e1, List.map_append]; exact ix_last
  have mx : mLst false (mCons (mCB bMax2 (mCons (mVar 6) (mCons (mOp ixD (mOp ixD (mVar 2) (mNeg (mC (.int 1)))) (mC (.int 0))) (mNil)))) (mNil)) σ h = .ok (.lst [.int (max price (lastF rows))]) h := by
    simp [v2, v6, ix, ix_pD1, max2_int, e2, line3']
  rw [mOp_d, lc, bindR_okS, mx, bindR_okS]
  have s1 : rows.length + 1 ≤ sizeLine := line3' (by omega)
  simp [dPlus, dCat, getLs, okIf, s1, edgeL]
/-! the parts -/
def partMt : MT := (mTB (mOp dGt (mCB bMin2 (mCons (mVar 6) (mCons (mVar 32) (mNil)))) (mVar 31)))
def partMe : ME := (mTup (mCons (mOp (dMinus) (mCB bMin2 (mCons (mVar 6) (mCons (mVar 32) (mNil)))) (mVar 31)) (mCons (mOp ixD (mOp ixD (mVar 2) (mVar 30)) (mC (.int 1))) (mNil))))
theorem part_one {τ : AS} {a b : Int} {k : Int} {x : Int × Int} (t2 : τ[2]? = some (some (.lst (rows.map pD)))) (t6 : τ[6]? = some (some (.int price))) (t30 : τ[30]? = some (some (.int k))) (t31 : τ[31]? = some (some (.int a))) (t32 : τ[32]? = some (some (.int b)))
    (ik : ixD (.lst (rows.map pD)) (.int k) h = .ok (pD x) h) : partMt τ h = .ok (decide (a < min price b)) h ∧ partMe τ h = .ok (pD (min price b - a, x.2)) h := by
  constructor
  · simp only [partMt, mTB_d, mOp_d, mCB_d, mCons_d, mVar_d, t6, t31, t32, mNil_d, bindR_okS, min2_int, dGt_int, asB_d]
  · rw [show pD (min price b - a, x.2) = .tup [.int (min price b - a), .int x.2] from rfl]
    simp [partMe, t2, t6, t30, t31, t32, min2_int, dMinus_int, ik, ix_pD2, line3']
theorem part_law (hl : σ.length = 35) (v2 : σ[2]? = some (some (.lst (rows.map pD)))) (v6 : σ[6]? = some (some (.int price))) {m : Int} (hm : price ≤ m) : ∀ (suf pre : List (Int × Int)) (acc : List D), rows = pre ++ suf → acc.length + suf.length ≤ 100 →
    compL (gmTup 2 (gmCons (gmName 30) (gmCons (gmTup 2 (gmCons (gmName 31) (gmCons (gmName 32) (gmNil)))) (gmNil)))) partMt partMe (enD pre.length (zipD ((edgeL m suf).map D.int) ((edgeL m suf).tail.map D.int))) σ acc h = .ok (acc ++ (pts suf price).map pD) h
  | [], pre, acc, _, _ => by simp [edgeL, zipD, enD, compL, pts]
  | a :: r, pre, acc, e, hc => by
    have key : ∀ b : Int, ∃ τ, (gmTup 2 (gmCons (gmName 30) (gmCons (gmTup 2 (gmCons (gmName 31) (gmCons (gmName 32) (gmNil)))) (gmNil)))) (.tup [.int pre.length, .tup [.int a.1, .int b]]) σ h = .ok τ h ∧ partMt τ h = .ok (decide (a.1 < min price b)) h ∧ partMe τ h = .ok (pD (min price b - a.1, a.2)) h := fun b => by
      refine ⟨((σ.set 30 (some (.int pre.length))).set 31 (some (.int a.1))).set 32 (some (.int b)), by simp, ?_⟩
      generalize hk : (pre.length : Int) = k
      refine part_one (rows := rows) (k := k) (x := a) ?_ ?_ ?_ ?_ ?_ ?_
      · rw [List.getElem?_set_ne (by decide), List.getElem?_set_ne (by decide), List.getElem?_set_ne (by decide), v2]
      · rw [List.getElem?_set_ne (by decide), List.getElem?_set_ne (by decide), List.getElem?_set_ne (by decide), v6]
      · rw [List.getElem?_set_ne (by decide), List.getElem?_set_ne (by decide), List.getElem?_set_self (by simp [hl])]
      · rw [List.getElem?_set_ne (by decide), List.getElem?_set_self (by simp [hl])]
      · rw [List.getElem?_set_self (by simp [hl])]
      · exact ix_lst2 hk.symm (by rw [e]; simp)
    have s1 : acc.length < sizeLine := line3 (by simp at hc; omega)
    simp only [List.length_cons] at hc
    cases r with
    | nil =>
      obtain ⟨τ, g, p1, p2⟩ := key m
      have mm : min price m = price := by omega
      rw [mm] at p1 p2
      rw [show zipD ((edgeL m [a]).map D.int) ((edgeL m [a]).tail.map D.int) = [.tup [.int a.1, .int m]] from rfl, enD, enD, compL, g]
      dsimp only
      rw [p1]
      by_cases q : a.1 < price
      · rw [show decide (a.1 < price) = true from decide_eq_true q]
        simp only [noX_ok, bindR_okS, if_true, p2, s1, compL]
        rw [show pts [a] price = [(price - a.1, a.2)] by
          show one1P _ _ = _
          rw [show max 0 (price - a.1) = price - a.1 by omega]
          exact if_pos (by omega)]
        rfl
      · rw [show decide (a.1 < price) = false from decide_eq_false q]
        simp only [noX_ok, bindR_okS, Bool.false_eq_true, if_false, compL]
        rw [show pts [a] price = [] from if_neg (by omega)]
        simp
    | cons b r =>
      obtain ⟨τ, g, p1, p2⟩ := key b.1
      have ih := fun acc hc => part_law hl v2 v6 hm (b :: r) (pre ++ [a]) acc (by rw [e]; simp) hc
      rw [show (pre ++ [a]).length = pre.length + 1 by simp] at ih
      rw [show zipD ((edgeL m (a :: b :: r)).map D.int) ((edgeL m (a :: b :: r)).tail.map D.int) = .tup [.int a.1, .int b.1] :: zipD ((edgeL m (b :: r)).map D.int) ((edgeL m (b :: r)).tail.map D.int) from rfl, enD, compL, g]
      dsimp only
      rw [p1, show pts (a :: b :: r) price = one1P (max 0 (min price b.1 - a.1)) a.2 ++ pts (b :: r) price from rfl]
      by_cases q : a.1 < min price b.1
      · rw [show decide (a.1 < min price b.1) = true from decide_eq_true q]
        simp only [noX_ok, bindR_okS, if_true, p2, s1]
        rw [ih _ (by simp at hc ⊢; omega)]
        have o : one1P (max 0 (min price b.1 - a.1)) a.2 = [(min price b.1 - a.1, a.2)] := by
          rw [show max 0 (min price b.1 - a.1) = min price b.1 - a.1 by omega]
          unfold one1P
          rw [if_pos (by omega)]
        rw [o]
        simp
      · rw [show decide (a.1 < min price b.1) = false from decide_eq_false q]
        simp only [noX_ok, bindR_okS, Bool.false_eq_true, if_false]
        rw [ih _ (by simp at hc ⊢; omega)]
        have o : one1P (max 0 (min price b.1 - a.1)) a.2 = [] := by
          unfold one1P
          rw [if_neg (by omega)]
        rw [o]
        simp
theorem edge_len (m : Int) (rows : List (Int × Int)) : (edgeL m rows).length = rows.length + 1 := by simp [edgeL]
theorem s10 (hl : σ.length = 35) (v2 : σ[2]? = some (some (.lst (rows.map pD)))) (v6 : σ[6]? = some (some (.int price))) {m : Int} (hm : price ≤ m) (v12 : σ[12]? = some (some (.lst ((edgeL m rows).map D.int)))) (hb : Bands most rows) :
    lawS10 σ h = .ok (.nx (σ.set 13 (some (.lst ((pts rows price).map pD))))) h := by
  have hl3 := hb.2.2.1
  unfold lawS10
  refine asg_nx ?_
  obtain ⟨x, xs, ex⟩ : ∃ x xs, edgeL m rows = x :: xs := by
    have := edge_len m rows
    cases hE : edgeL m rows with
    | nil => rw [hE] at this; simp at this
    | cons x xs => exact ⟨x, xs, rfl⟩
  have zl := zipD_len ((edgeL m rows).map D.int) ((edgeL m rows).tail.map D.int)
  have el := edge_len m rows
  rw [mLc_eq (it := itEn (.lst (zipD ((edgeL m rows).map D.int) ((edgeL m rows).tail.map D.int)))) (ds := enD 0 (zipD ((edgeL m rows).map D.int) ((edgeL m rows).tail.map D.int))) (h1 := h) (by rw [ex] at v12 ⊢; simp [v12, mLz, slD, getL, cutD_tl, lzD, enIt, getS]) (itIs_en fun _ => rfl) (big3 (by rw [enD_len]; simp at zl ⊢; omega))]
  have w2 : (wipeA σ [30, 31, 32])[2]? = some (some (.lst (rows.map pD))) := by
    simp only [wipeA]
    rw [List.getElem?_set_ne (by decide), List.getElem?_set_ne (by decide), List.getElem?_set_ne (by decide), v2]
  have w6 : (wipeA σ [30, 31, 32])[6]? = some (some (.int price)) := by
    simp only [wipeA]
    rw [List.getElem?_set_ne (by decide), List.getElem?_set_ne (by decide), List.getElem?_set_ne (by decide), v6]
  have pl := part_law (σ := wipeA σ [30, 31, 32]) (h := h) (by simp [wipeA, hl]) w2 w6 hm rows [] [] rfl (by simp; omega)
  unfold partMt partMe at pl
  rw [show ([] : List (Int × Int)).length = 0 from rfl] at pl
  rw [pl]
  simp
theorem s11 (v5 : σ[5]? = some (some (objF rows least duty))) (v6 : σ[6]? = some (some (.int price))) (v8 : σ[8]? = some (some (.int (feeV rows least price)))) (v13 : σ[13]? = some (some (.lst ((pts rows price).map pD)))) (hb : Bands most rows) (hm : most ≤ 10000) (hp : 0 ≤ price) (hp2 : price ≤ 1000) (d : Dh h) :
    ∃ h', Dh h' ∧ lawS11 σ h = .ok (.nx σ) h' := by
  refine ⟨_, d.app (some (.lst ((pts rows price).map pD))), ?_⟩
  unfold lawS11
  refine if_no (h1 := h ++ [some (.lst ((pts rows price).map pD))]) ?_
  have ne := fun h => dNe_prs (pts rows price) h
  by_cases q : 0 < price
  · simp [v5, v6, v8, v13, parts_ok hb hp, bList, getS, ne, dGt_int, q, share_ok hb hm (show 1 ≤ price by omega) (show price < 1073741824 by omega), dMul_int (show CMul 1000 _ from .inl ⟨by decide, by decide⟩), dDiv_int q (show price < 1073741824 by omega), dNe_int]
  · simp [v5, v6, v8, v13, parts_ok hb hp, bList, getS, ne, dGt_int, q]
end K11
end
section
set_option Elab.async false
set_option linter.all false
set_option maxRecDepth 100000
namespace K11
open PySem DV L2 SrtO
variable {σ : AS} {h : AH} {rows rows2 : List (Int × Int)} {least duty price paid most most2 least2 duty2 : Int}
theorem s12 (d : Dh h) (v1 : σ[1]? = some (some (.ref 0))) : ∃ rows least duty h', Bands 300 rows ∧ 0 ≤ least ∧ 0 ≤ duty ∧ duty < 300 ∧ Dh h' ∧ lawS12 σ h = .ok (.nx (σ.set 14 (some (objF rows least duty)))) h' := by
  obtain ⟨rows, h1, a1, a2, a3⟩ := bands' d 300 (by omega) (by omega)
  obtain ⟨least, h2, b1, b2, b3, b4⟩ := roll' a2 9 (by omega) (by omega)
  obtain ⟨duty, h3, c1, c2, c3, c4⟩ := roll' b3 300 (by omega) (by omega)
  obtain ⟨h4, e1, e2⟩ := make' c3 a1 (by omega) b1 c1 (by omega : duty ≤ 1000)
  refine ⟨rows, least, duty, h4, a1, b1, c1, c2, e1, ?_⟩
  unfold lawS12
  refine asg_nx ?_
  simp [-List.append_nil] at e2 ⊢
  simp [-List.append_nil, v1, a3, b4, c4, e2]
theorem s13 (v5 : σ[5]? = some (some (objF rows least duty))) (v6 : σ[6]? = some (some (.int price))) (v9 : σ[9]? = some (some (.int (dueV rows least duty price)))) (v14 : σ[14]? = some (some (objF rows2 least2 duty2)))
    (hb : Bands most rows) (hm : most ≤ 10000) (hd : 0 ≤ duty) (hd2 : duty ≤ 1000) (hb2 : Bands most2 rows2) (hm2 : most2 ≤ 10000) (he : 0 ≤ duty2) (he2 : duty2 ≤ 1000) (hp : 0 ≤ price) :
    lawS13 σ h = .ok (.nx (((σ.set 15 (some (.int (payV rows least duty price)))).set 16 (some (.int (getV rows2 least2 duty2 price)))).set 17 (some (.int (dueV rows least duty price + dueV rows2 least2 duty2 price))))) h := by
  unfold lawS13
  simp [v5, v6, v9, v14, pays_ok hb hm hd hd2 hp, gets_ok hb2 hm2 he he2 hp, duty_ok hb2 hm2 he he2 hp, dPlus_int, parS, parSet]
theorem rolls_loop (mg : MG) (me : ME) (N : Int) (σ : AS) (hst : ∀ (d : D) (h : AH), Dh h → ∃ r σ' h', 0 ≤ r ∧ r < N ∧ Dh h' ∧ mg d σ h = .ok σ' h ∧ me σ' h = .ok (.int r) h') : ∀ (ds : List D) (acc : List Int) (h : AH), Dh h → acc.length + ds.length ≤ 100 →
    ∃ xs h', xs.length = ds.length ∧ (∀ x ∈ xs, 0 ≤ x ∧ x < N) ∧ Dh h' ∧ compL mg mYes me ds σ (acc.map D.int) h = .ok ((acc ++ xs).map D.int) h'
  | [], acc, h, d, _ => ⟨[], h, rfl, by simp, d, by simp [compL]⟩
  | x :: ds, acc, h, d, hc => by
    simp only [List.length_cons] at hc
    obtain ⟨r, σ', h1, a1, a2, a3, a4, a5⟩ := hst x h d
    obtain ⟨xs, h2, b1, b2, b3, b4⟩ := rolls_loop mg me N σ hst ds (acc ++ [r]) h1 a3 (by simp; omega)
    refine ⟨r :: xs, h2, by simp [b1], fun y hy => ?_, b3, ?_⟩
    · rcases List.mem_cons.mp hy with rfl | hy
      · exact ⟨a1, a2⟩
      · exact b2 y hy
    · have s1 : (acc.map D.int).length < sizeLine := line3 (by simp; omega)
      rw [compL, a4]
      simp only [mYes_d, noX_ok, bindR_okS, if_true, a5, s1]
      rw [show acc.map D.int ++ [D.int r] = (acc ++ [r]).map D.int by simp, b4, List.append_assoc]
      rfl
theorem rgD_len (a b : Int) (n : Nat) : (rgD a b n).length = n := by simp [rgD]
theorem srt_ints {xs : List Int} (h : AH) : bSorted false [.lst (xs.map D.int)] h = .ok (.lst ((isortB ltI xs).map D.int)) h := by
  simp only [bSorted, srt1, getL, srtD, intsD_map, mkL_f]
theorem one_roll {many : Int} (h0 : 0 < many) (h1 : many ≤ 100000000) (hl : σ.length = 35) (v1 : σ[1]? = some (some (.ref 0))) : ∀ (d : D) (h : AH), Dh h → ∃ r σ' h', 0 ≤ r ∧ r < many ∧ Dh h' ∧ gmName 30 d (wipeA σ [30]) h = .ok σ' h ∧ mCall (fun xs => f_law_roll (xs ++ [])) (mCons (mVar 1) (mCons (mC (.int many)) (mNil))) σ' h = .ok (.int r) h' := by
  intro d h dh
  obtain ⟨r, h', a1, a2, a3, a4⟩ := roll' dh many h0 h1
  refine ⟨r, _, h', a1, a2, a3, rfl, ?_⟩
  have : ((wipeA σ [30]).set 30 (some d))[1]? = some (some (.ref 0)) := by
    simp only [wipeA]
    rw [List.getElem?_set_ne (by decide), List.getElem?_set_ne (by decide), v1]
  simp [this, a4]
theorem s14 (hl : σ.length = 35) (d : Dh h) (v1 : σ[1]? = some (some (.ref 0))) : ∃ (xs : List Int) (h' : AH), xs.length ≤ 6 ∧ (∀ x ∈ xs, 0 ≤ x) ∧ Dh h' ∧ lawS14 σ h = .ok (.nx (σ.set 18 (some (.lst (xs.map D.int))))) h' := by
  obtain ⟨n, h1, a1, a2, a3, a4⟩ := roll' d 6 (by omega) (by omega)
  obtain ⟨xs, h2, b1, b2, b3, b4⟩ := rolls_loop _ _ 200 _ (one_roll (many := 200) (by omega) (by omega) hl v1) (rgD 0 1 n.toNat) [] h1 a3 (by rw [rgD_len]; simp; omega)
  rw [rgD_len] at b1
  refine ⟨isortB ltI xs, h2, by rw [(isortB_perm xs).length_eq]; omega, fun x hx => (b2 x ((isortB_perm xs).mem_iff.mp hx)).1, b3, ?_⟩
  unfold lawS14
  refine asg_nx ?_
  have rb : rgB n := ⟨by omega, by omega⟩
  have lc := mLc_eq (mu := false) (vs := [30]) (mg := gmName 30) (mt := mYes) (me := mCall (fun xs => f_law_roll (xs ++ [])) (mCons (mVar 1) (mCons (mC (.int 200)) (mNil)))) (σ := σ) (it := itRg 0 1 n.toNat) (ds := rgD 0 1 n.toNat) (h1 := h1) (mi := miCall rg1D (mCons (mCall (fun xs => f_law_roll (xs ++ [])) (mCons (mVar 1) (mCons (mC (.int 6)) (mNil)))) (mNil))) (h := h) (by simp [v1, a4, rg1D, rb]) (itIs_rg 0 1 _) (big3 (by rw [rgD_len]; omega))
  rw [show ([] : List Int).map D.int = [] from rfl, List.nil_append] at b4
  rw [b4, bindR_okS, mkL_f] at lc
  rw [mCB_d, mCons_d, lc]
  simp only [bindR_okS, mNil_d, srt_ints]
theorem gap_filter {rows rows2 : List (Int × Int)} {least duty least2 duty2 : Int} : ∀ xs : List Int, gapD rows least duty rows2 least2 duty2 xs = match xs.filter fun x => decide (payV rows least duty x < payV rows2 least2 duty2 x) with | [] => D.non | x :: _ => .int x
  | [] => rfl
  | x :: xs => by
    rw [gapD, List.filter_cons]
    by_cases q : payV rows least duty x < payV rows2 least2 duty2 x
    · rw [if_pos q, if_pos (decide_eq_true q)]
    · rw [if_neg q, if_neg (by simpa using q)]
      exact gap_filter xs
theorem s15 (hl : σ.length = 35) (v5 : σ[5]? = some (some (objF rows least duty))) (v14 : σ[14]? = some (some (objF rows2 least2 duty2))) {xs : List Int} (v18 : σ[18]? = some (some (.lst (xs.map D.int)))) (hx : ∀ x ∈ xs, 0 ≤ x) (hxl : xs.length ≤ 6)
    (hb : Bands most rows) (hm : most ≤ 10000) (hd : 0 ≤ duty) (hd2 : duty ≤ 1000) (hb2 : Bands most2 rows2) (hm2 : most2 ≤ 10000) (he : 0 ≤ duty2) (he2 : duty2 ≤ 1000) :
    lawS15 σ h = .ok (.nx (σ.set 19 (some (.lst ((xs.filter fun x => decide (payV rows least duty x < payV rows2 least2 duty2 x)).map D.int))))) h := by
  unfold lawS15
  refine asg_nx ?_
  rw [mLc_eq (it := itOf (.lst (xs.map D.int))) (ds := xs.map D.int) (h1 := h) (by simp [v18, itLT, getL]) (itIs_lst _) (big3 (by simp; omega))]
  rw [compL_filter (P := fun x => decide (payV rows least duty x < payV rows2 least2 duty2 x)) (out := D.int) xs (fun x hx' => ⟨(wipeA σ [27]).set 27 (some (.int x)), rfl, ?_, fun _ => ?_⟩) [] (by simp; omega)]
  · rfl
  · have x0 := hx x hx'
    have t5 : ((wipeA σ [27]).set 27 (some (.int x)))[5]? = some (some (objF rows least duty)) := by
      simp only [wipeA]
      rw [List.getElem?_set_ne (by decide), List.getElem?_set_ne (by decide), v5]
    have t14 : ((wipeA σ [27]).set 27 (some (.int x)))[14]? = some (some (objF rows2 least2 duty2)) := by
      simp only [wipeA]
      rw [List.getElem?_set_ne (by decide), List.getElem?_set_ne (by decide), v14]
    have t27 : ((wipeA σ [27]).set 27 (some (.int x)))[27]? = some (some (.int x)) := List.getElem?_set_self (by simp [wipeA, hl])
    generalize (wipeA σ [27]).set 27 (some (.int x)) = τ at *
    simp [t5, t14, t27, pays_ok hb hm hd hd2 x0, pays_ok hb2 hm2 he he2 x0, dLt_int]
  · have t27 : ((wipeA σ [27]).set 27 (some (.int x)))[27]? = some (some (.int x)) := List.getElem?_set_self (by simp [wipeA, hl])
    simp only [mVar_d, t27]
theorem s16 {pay get dut : Int} (v5 : σ[5]? = some (some (objF rows least duty))) (v6 : σ[6]? = some (some (.int price))) (v14 : σ[14]? = some (some (objF rows2 least2 duty2))) (v15 : σ[15]? = some (some (.int (payV rows least duty price)))) (v16 : σ[16]? = some (some (.int (getV rows2 least2 duty2 price)))) (v17 : σ[17]? = some (some (.int (dueV rows least duty price + dueV rows2 least2 duty2 price))))
    (hb : Bands most rows) (hm : most ≤ 10000) (hd : 0 ≤ duty) (hd2 : duty ≤ 1000) (hb2 : Bands most2 rows2) (hm2 : most2 ≤ 10000) (he : 0 ≤ duty2) (he2 : duty2 ≤ 1000) (hp : 0 ≤ price) :
    lawS16 σ h = .ok (.nx σ) h := by
  unfold lawS16
  refine if_no ?_
  simp [v5, v6, v14, v15, v16, v17, split_ok hb hm hd hd2 hb2 hm2 he he2 hp, line3', dMinus_int, dNe_tup_int4]
theorem s17 (v5 : σ[5]? = some (some (objF rows least duty))) (v14 : σ[14]? = some (some (objF rows2 least2 duty2))) {xs : List Int} (v18 : σ[18]? = some (some (.lst (xs.map D.int)))) (v19 : σ[19]? = some (some (.lst ((xs.filter fun x => decide (payV rows least duty x < payV rows2 least2 duty2 x)).map D.int)))) (hx : ∀ x ∈ xs, 0 ≤ x) (hxl : xs.length ≤ 6)
    (hb : Bands most rows) (hm : most ≤ 10000) (hd : 0 ≤ duty) (hd2 : duty ≤ 1000) (hb2 : Bands most2 rows2) (hm2 : most2 ≤ 10000) (he : 0 ≤ duty2) (he2 : duty2 ≤ 1000) :
    lawS17 σ h = .ok (.nx σ) h := by
  unfold lawS17
  refine if_no ?_
  have ge := gap_ok (least := least) (least2 := least2) hb hm hd hd2 hb2 hm2 he he2 hx (by omega : xs.length ≤ 1000) h
  rw [gap_filter] at ge
  generalize (xs.filter fun x => decide (payV rows least duty x < payV rows2 least2 duty2 x)) = ys at *
  cases ys with
  | nil =>
    have ne : dNe (.lst []) (.lst []) h = .ok (.bl false) h := dNe_ints [] h
    simp [v5, v14, v18, v19, ge, ne, dNe_non, line3']
  | cons y ys =>
    have ne := dNe_ints_nil (y :: ys) h
    simp only [List.map_cons, List.isEmpty_cons, Bool.not_false] at ne v19
    have ix : ixD (.lst (.int y :: ys.map D.int)) (.int 0) h = .ok (.int y) h := ix_lst2 (show (0 : Int) = ((0 : Nat) : Int) from rfl) rfl
    simp [v5, v14, v18, v19, ge, ne, ix, dNe_int, line3']
end K11
end
section
set_option Elab.async false
set_option linter.all false
set_option maxRecDepth 100000
namespace K11
open PySem DV L2 SrtO
variable {σ : AS} {h : AH} {rows rows2 : List (Int × Int)} {least duty price paid most most2 least2 duty2 cost : Int} {l : List Int}
def enumL {α : Type} : Nat → List α → List (Nat × α)
  | _, [] => []
  | k, x :: xs => (k, x) :: enumL (k + 1) xs
theorem enumL_len {α : Type} : ∀ (xs : List α) (k : Nat), (enumL k xs).length = xs.length
  | [], _ => rfl
  | _ :: xs, k => by simp [enumL, enumL_len xs]
def enP (p : Nat × Int) : D := .tup [.int (p.1 : Int), .int p.2]
theorem enD_ints : ∀ (xs : List Int) (k : Nat), enD k (xs.map D.int) = (enumL k xs).map enP
  | [], _ => rfl
  | x :: xs, k => by rw [List.map_cons, enD, enumL, List.map_cons, enD_ints xs]; rfl
theorem prs_enum : ∀ (xs : List Int) (k : Nat), prs k xs = (enumL k xs).map fun p => (-p.2, (p.1 : Int))
  | [], _ => rfl
  | x :: xs, k => by rw [prs, enumL, List.map_cons, prs_enum xs]
theorem plusF_enum (F : List Int) : ∀ (xs : List Int) (k : Nat), plusF F k xs = (enumL k xs).map fun p => p.2 + if (p.1 : Int) ∈ F then 1 else 0
  | [], _ => rfl
  | x :: xs, k => by rw [plusF, enumL, List.map_cons, plusF_enum F xs]
theorem s18 (hl : σ.length = 35) (d : Dh h) (v1 : σ[1]? = some (some (.ref 0))) : ∃ (cost : Int) (l : List Int) (h' : AH), 0 ≤ cost ∧ 1 ≤ l.length ∧ l.length ≤ 4 ∧ (∀ x ∈ l, 0 ≤ x ∧ x ≤ 9) ∧ Dh h' ∧ lawS18 σ h = .ok (.nx ((σ.set 20 (some (.int cost))).set 21 (some (.lst (l.map D.int))))) h' := by
  obtain ⟨cost, h1, a1, a2, a3, a4⟩ := roll' d 90 (by omega) (by omega)
  obtain ⟨n, h2, b1, b2, b3, b4⟩ := roll' a3 4 (by omega) (by omega)
  obtain ⟨l, h3, c1, c2, c3, c4⟩ := rolls_loop _ _ 9 _ (one_roll (many := 9) (by omega) (by omega) hl v1) (rgD 0 1 (1 + n).toNat) [] h2 b3 (by rw [rgD_len]; simp; omega)
  rw [rgD_len] at c1
  refine ⟨cost, l, h3, a1, by omega, by omega, fun x hx => by have := c2 x hx; omega, c3, ?_⟩
  have rb : rgB (1 + n) := ⟨by omega, by omega⟩
  have lc := mLc_eq (mu := false) (vs := [30]) (mg := gmName 30) (mt := mYes) (me := mCall (fun xs => f_law_roll (xs ++ [])) (mCons (mVar 1) (mCons (mC (.int 9)) (mNil)))) (σ := σ) (it := itRg 0 1 (1 + n).toNat) (ds := rgD 0 1 (1 + n).toNat) (h1 := h2) (mi := miCall rg1D (mCons (mOp (dPlus false) (mC (.int 1)) (mCall (fun xs => f_law_roll (xs ++ [])) (mCons (mVar 1) (mCons (mC (.int 4)) (mNil))))) (mNil))) (h := h1) (by simp [v1, b4, dPlus_int, rg1D, rb]) (itIs_rg 0 1 _) (big3 (by rw [rgD_len]; omega))
  rw [show ([] : List Int).map D.int = [] from rfl, List.nil_append] at c4
  rw [c4, bindR_okS, mkL_f] at lc
  have e1 : mCall (fun xs => f_law_roll (xs ++ [])) (mCons (mVar 1) (mCons (mC (.int 90)) (mNil))) σ h = .ok (.int cost) h1 := by simp [v1, a4]
  unfold lawS18
  rw [sAsg_d, mTup_d, mCons_d, e1, bindR_okS, mCons_d, lc]
  simp [line3']
theorem s19 (v21 : σ[21]? = some (some (.lst (l.map D.int)))) (hl2 : l.length ≤ 4) : lawS19 σ h = .ok (.nx (σ.set 22 (some (.lst ((mineL l).map D.int))))) h := by
  unfold lawS19
  exact asg_nx (cost_mine l h _ rfl hl2 (by simp only [mVar_d, v21]) _ (by simp only [mVar_d, v21]))
theorem s20 (hl : σ.length = 35) {M : List Int} (v20 : σ[20]? = some (some (.int cost))) (v22 : σ[22]? = some (some (.lst (M.map D.int)))) (hM : ∀ x ∈ M, 0 ≤ x ∧ x ≤ 9) (hS : 0 < sumI M ∧ sumI M ≤ 1000) (hML : M.length ≤ 4) :
    lawS20 σ h = .ok (.nx (σ.set 23 (some (.lst ((shrL cost M).map D.int))))) h := by
  unfold lawS20
  refine asg_nx ?_
  rw [mLc_eq (it := itOf (.lst (M.map D.int))) (ds := M.map D.int) (h1 := h) (by simp [v22, itLT, getL]) (itIs_lst _) (big3 (by simp; omega))]
  rw [compL_map (out := fun w => .int (cost * w / sumI M)) M (fun w hw => ⟨(wipeA σ [33]).set 33 (some (.int w)), rfl, rfl, ?_⟩) [] (by simp; omega)]
  · simp [shrL]
  · have hb := hM w hw
    have t20 : ((wipeA σ [33]).set 33 (some (.int w)))[20]? = some (some (.int cost)) := by
      simp only [wipeA]
      rw [List.getElem?_set_ne (by decide), List.getElem?_set_ne (by decide), v20]
    have t22 : ((wipeA σ [33]).set 33 (some (.int w)))[22]? = some (some (.lst (M.map D.int))) := by
      simp only [wipeA]
      rw [List.getElem?_set_ne (by decide), List.getElem?_set_ne (by decide), v22]
    have t33 : ((wipeA σ [33]).set 33 (some (.int w)))[33]? = some (some (.int w)) := List.getElem?_set_self (by simp [wipeA, hl])
    generalize (wipeA σ [33]).set 33 (some (.int w)) = τ at *
    simp [t20, t22, t33, dMul_int (cmul_small hb.1 (by omega : w ≤ 1000000)), bSum_lst, dDiv_int hS.1 (by omega : sumI M < 1073741824)]
theorem srt_prs (M : List Int) (hm : 1 ≤ M.length) (h : AH) : bSorted false [.lst ((prs 0 M).map pD)] h = .ok (.lst ((ordL M).map pD)) h := by
  simp only [bSorted, srt1, getL, srtD_prs M hm, mkL_f]
theorem s21 (hl : σ.length = 35) {M : List Int} (v20 : σ[20]? = some (some (.int cost))) (v22 : σ[22]? = some (some (.lst (M.map D.int)))) (v23 : σ[23]? = some (some (.lst ((shrL cost M).map D.int)))) (hM1 : 1 ≤ M.length) (hML : M.length ≤ 4) :
    lawS21 σ h = .ok (.nx (σ.set 24 (some (.lst (((topL cost M).map (·.2)).map D.int))))) h := by
  have ho : (ordL M).length = M.length := by unfold ordL; rw [(isortB_perm (lt := lexB) (prs 0 M)).length_eq, prs_len]
  have l1 : mLc false (miEnum (mCons (mVar 22) (mNil))) [30, 33] (gmTup 2 (gmCons (gmName 30) (gmCons (gmName 33) (gmNil)))) (mYes) (mTup (mCons (mNeg (mVar 33)) (mCons (mVar 30) (mNil)))) σ h = .ok (.lst ((prs 0 M).map pD)) h := by
    rw [mLc_eq (it := itEn (.lst (M.map D.int))) (ds := enD 0 (M.map D.int)) (h1 := h) (by simp [v22, enIt, getS, getL]) (itIs_en fun _ => rfl) (big3 (by rw [enD_len]; simp; omega))]
    rw [enD_ints, compL_map (out := fun p => pD (-p.2, (p.1 : Int))) (enumL 0 M) (fun p hp => ⟨((wipeA σ [30, 33]).set 30 (some (.int (p.1 : Int)))).set 33 (some (.int p.2)), by simp [enP], rfl, ?_⟩) [] (by rw [enumL_len]; simp; omega)]
    · rw [prs_enum]
      simp
    · have t30 : (((wipeA σ [30, 33]).set 30 (some (.int (p.1 : Int)))).set 33 (some (.int p.2)))[30]? = some (some (.int (p.1 : Int))) := by
        rw [List.getElem?_set_ne (by decide), List.getElem?_set_self (by simp [wipeA, hl])]
      have t33 : (((wipeA σ [30, 33]).set 30 (some (.int (p.1 : Int)))).set 33 (some (.int p.2)))[33]? = some (some (.int p.2)) := List.getElem?_set_self (by simp [wipeA, hl])
      generalize ((wipeA σ [30, 33]).set 30 (some (.int (p.1 : Int)))).set 33 (some (.int p.2)) = τ at *
      generalize (p.1 : Int) = c at *
      simp [t30, t33, line3', pD]
  have l2 : mCB (bSorted false) (mCons (mLc false (miEnum (mCons (mVar 22) (mNil))) [30, 33] (gmTup 2 (gmCons (gmName 30) (gmCons (gmName 33) (gmNil)))) (mYes) (mTup (mCons (mNeg (mVar 33)) (mCons (mVar 30) (mNil))))) (mNil)) σ h = .ok (.lst ((ordL M).map pD)) h := by
    rw [mCB_d, mCons_d, l1]
    simp only [bindR_okS, mNil_d, srt_prs M hM1]
  have l3 : mLc false (miLT (mCB (bSorted false) (mCons (mLc false (miEnum (mCons (mVar 22) (mNil))) [30, 33] (gmTup 2 (gmCons (gmName 30) (gmCons (gmName 33) (gmNil)))) (mYes) (mTup (mCons (mNeg (mVar 33)) (mCons (mVar 30) (mNil))))) (mNil)))) [34] (gmName 34) (mYes) (mOp ixD (mVar 34) (mC (.int 1))) σ h = .ok (.lst (((ordL M).map (·.2)).map D.int)) h := by
    rw [mLc_eq (it := itOf (.lst ((ordL M).map pD))) (ds := (ordL M).map pD) (h1 := h) (by rw [miLT_d, l2]; simp only [bindR_okS, itLT, getL]) (itIs_lst _) (big3 (by simp; omega))]
    rw [compL_map (out := fun p => .int p.2) (ordL M) (fun p hp => ⟨(wipeA σ [34]).set 34 (some (pD p)), rfl, rfl, ?_⟩) [] (by simp; omega)]
    · simp
    · have t34 : ((wipeA σ [34]).set 34 (some (pD p)))[34]? = some (some (pD p)) := List.getElem?_set_self (by simp [wipeA, hl])
      simp only [mOp_d, mVar_d, t34, bindR_okS, mC_d, ix_pD2]
  unfold lawS21
  refine asg_nx ?_
  rw [mSl_d, l3]
  have fr := cutD_front D.int ((ordL M).map (·.2)) (cost - sumI (shrL cost M))
  rw [frontL_map] at fr
  have ps : mPS (mOp (dMinus) (mVar 20) (mCB bSum (mCons (mVar 23) (mNil)))) σ h = .ok (some (cost - sumI (shrL cost M))) h := by
    simp only [mPS_d, mOp_d, mVar_d, v20, bindR_okS, mCB_d, mCons_d, v23, mNil_d, bSum_lst, dMinus_int]
  rw [bindR_okS, mPN_d, bindR_okS, ps, bindR_okS]
  show slD false (.lst (((ordL M).map (·.2)).map D.int)) none (some (cost - sumI (shrL cost M))) h = _
  simp only [slD, getL, mkL_f]
  rw [fr]
  rfl
theorem s22 (hl : σ.length = 35) (v20 : σ[20]? = some (some (.int cost))) (v21 : σ[21]? = some (some (.lst (l.map D.int)))) (v23 : σ[23]? = some (some (.lst ((shrL cost (mineL l)).map D.int)))) (v24 : σ[24]? = some (some (.lst (((topL cost (mineL l)).map (·.2)).map D.int)))) (hc : 0 ≤ cost) (hl1 : 1 ≤ l.length) (hl2 : l.length ≤ 4) (hb : ∀ x ∈ l, 0 ≤ x ∧ x ≤ 9) (d : Dh h) :
    ∃ h', Dh h' ∧ lawS22 σ h = .ok (.nx σ) h' := by
  obtain ⟨x, e⟩ := cost_ok hc hl1 hl2 hb h
  refine ⟨h ++ [x], d.app x, ?_⟩
  have tk := topL_ok cost (mineL l)
  have cp : costL cost l = plusF ((topL cost (mineL l)).map (·.2)) 0 (shrL cost (mineL l)) := bump_plus (fun k hk => by obtain ⟨q, hq, rfl⟩ := List.mem_map.mp hk; exact (tk.2.1 q hq).1) tk.1
  have sl : (shrL cost (mineL l)).length ≤ 4 := by unfold shrL; rw [List.length_map, mineL_len]; exact hl2
  unfold lawS22
  refine if_no (h1 := h ++ [x]) ?_
  have e1 : mCB (bList false) (mCons (mCall (fun xs => f_shared_cost (xs ++ [])) (mCons (mVar 20) (mCons (mVar 21) (mNil)))) (mNil)) σ h = .ok (.lst ((costL cost l).map D.int)) (h ++ [x]) := by
    simp only [mCB_d, mCons_d, mCall_d, mVar_d, v20, v21, bindR_okS, mNil_d, List.append_nil, e, bList, getS, mkL_f]
  have e2 : mLc false (miEnum (mCons (mVar 23) (mNil))) [30, 29] (gmTup 2 (gmCons (gmName 30) (gmCons (gmName 29) (gmNil)))) (mYes) (mOp (dPlus false) (mVar 29) (mCB bInt (mCons (mOp dIn (mVar 30) (mVar 24)) (mNil)))) σ (h ++ [x]) = .ok (.lst ((costL cost l).map D.int)) (h ++ [x]) := by
    rw [mLc_eq (it := itEn (.lst ((shrL cost (mineL l)).map D.int))) (ds := enD 0 ((shrL cost (mineL l)).map D.int)) (h1 := h ++ [x]) (by simp only [miEnum_d, mCons_d, mVar_d, v23, bindR_okS, mNil_d, enIt, getS, getL]) (itIs_en fun _ => rfl) (big3 (by rw [enD_len, List.length_map]; omega))]
    rw [enD_ints, compL_map (out := fun p => .int (p.2 + if (p.1 : Int) ∈ (topL cost (mineL l)).map (·.2) then 1 else 0)) (enumL 0 (shrL cost (mineL l))) (fun p hp => ⟨((wipeA σ [30, 29]).set 30 (some (.int (p.1 : Int)))).set 29 (some (.int p.2)), by simp [enP], rfl, ?_⟩) [] (by rw [enumL_len]; simp; omega)]
    · rw [cp, plusF_enum]
      simp
    · have t29 : (((wipeA σ [30, 29]).set 30 (some (.int (p.1 : Int)))).set 29 (some (.int p.2)))[29]? = some (some (.int p.2)) := List.getElem?_set_self (by simp [wipeA, hl])
      have t30 : (((wipeA σ [30, 29]).set 30 (some (.int (p.1 : Int)))).set 29 (some (.int p.2)))[30]? = some (some (.int (p.1 : Int))) := by
        rw [List.getElem?_set_ne (by decide), List.getElem?_set_self (by simp [wipeA, hl])]
      have t24 : (((wipeA σ [30, 29]).set 30 (some (.int (p.1 : Int)))).set 29 (some (.int p.2)))[24]? = some (some (.lst (((topL cost (mineL l)).map (·.2)).map D.int))) := by
        simp only [wipeA]
        rw [List.getElem?_set_ne (by decide), List.getElem?_set_ne (by decide), List.getElem?_set_ne (by decide), List.getElem?_set_ne (by decide), v24]
      generalize ((wipeA σ [30, 29]).set 30 (some (.int (p.1 : Int)))).set 29 (some (.int p.2)) = τ at *
      generalize (p.1 : Int) = c at *
      simp only [mOp_d, mVar_d, t29, t30, t24, bindR_okS, mCB_d, mCons_d, dIn_ints, mNil_d, bInt, dPlus_int]
      by_cases q : c ∈ (topL cost (mineL l)).map (·.2)
      · rw [decide_eq_true q, if_pos q]
        rfl
      · rw [decide_eq_false q, if_neg q]
        rfl
  rw [mTB_d, mOp_d, e1, bindR_okS, e2, bindR_okS, dNe_ints]
  rfl
theorem s23 (d : Dh h) (v1 : σ[1]? = some (some (.ref 0))) : ∃ rows mo h', Bands 10000 rows ∧ 0 ≤ mo ∧ Dh h' ∧ lawS23 σ h = .ok (.nx ((σ.set 25 (some (.lst (rows.map pD)))).set 26 (some (.int mo)))) h' := by
  obtain ⟨rows, h1, a1, a2, a3⟩ := bands' d 10000 (by omega) (by omega)
  obtain ⟨mo, h2, b1, b2, b3, b4⟩ := roll' a2 90 (by omega) (by omega)
  refine ⟨rows, mo, h2, a1, b1, b3, ?_⟩
  unfold lawS23
  simp [v1, a3, b4, parS, parSet]
theorem s24 {mo : Int} (v6 : σ[6]? = some (some (.int price))) (v25 : σ[25]? = some (some (.lst (rows.map pD)))) (v26 : σ[26]? = some (some (.int mo))) (hb : Bands 10000 rows) (ho : 0 ≤ mo) (hp : 0 ≤ price) (hp2 : price ≤ 1000) : lawS24 σ h = .ok (.nx σ) h := by
  unfold lawS24
  refine if_no ?_
  simp [v6, v25, v26, resale_ok hb (Int.le_refl _) hp ho, sum_ok hb hp hp2, dDiv_int (show (0 : Int) < 10000 by decide) (by decide), min2_int, dNe_int]
end K11
end
section
set_option Elab.async false
set_option linter.all false
set_option maxRecDepth 100000
namespace K11
open PySem DV L2 SrtO
theorem body_ok {σ : AS} {h : AH} (hl : σ.length = 35) (d : Dh h) (v1 : σ[1]? = some (some (.ref 0))) : ∃ σ' h', lawB σ h = .ok (.nx σ') h' := by
  obtain ⟨rows, least, duty, h1, a1, a2, a3, a4, a5, d1, e1⟩ := s1 hl d v1
  unfold lawB
  rw [seq_nx e1]
  generalize hσ1 : ((σ.set 2 (some (.lst (rows.map pD)))).set 3 (some (.int least))).set 4 (some (.int duty)) = σ1
  have q1 : σ1[1]? = some (some (.ref 0)) := by rw [← hσ1]; simpa [List.getElem?_set] using v1
  have q2 : σ1[2]? = some (some (.lst (rows.map pD))) := by rw [← hσ1]; simp [-getElem?_pos, List.getElem?_set, hl]
  have q3 : σ1[3]? = some (some (.int least)) := by rw [← hσ1]; simp [-getElem?_pos, List.getElem?_set, hl]
  have q4 : σ1[4]? = some (some (.int duty)) := by rw [← hσ1]; simp [-getElem?_pos, List.getElem?_set, hl]
  have l1 : σ1.length = 35 := by rw [← hσ1]; simpa using hl
  clear hσ1 e1 v1 hl
  obtain ⟨price, paid, h2, b1, b2, b3, b4, d2, e2⟩ := s2 l1 d1 q1 q2 q3 q4 a1 a2 a4 (by omega)
  rw [seq_nx e2]
  generalize hσ2 : ((σ1.set 5 (some (objF rows least duty))).set 6 (some (.int price))).set 7 (some (.int paid)) = σ2
  have p1 : σ2[1]? = some (some (.ref 0)) := by rw [← hσ2]; simpa [List.getElem?_set] using q1
  have p2 : σ2[2]? = some (some (.lst (rows.map pD))) := by rw [← hσ2]; simpa [List.getElem?_set] using q2
  have p3 : σ2[3]? = some (some (.int least)) := by rw [← hσ2]; simpa [List.getElem?_set] using q3
  have p4 : σ2[4]? = some (some (.int duty)) := by rw [← hσ2]; simpa [List.getElem?_set] using q4
  have p5 : σ2[5]? = some (some (objF rows least duty)) := by rw [← hσ2]; simp [-getElem?_pos, List.getElem?_set, l1]
  have p6 : σ2[6]? = some (some (.int price)) := by rw [← hσ2]; simp [-getElem?_pos, List.getElem?_set, l1]
  have p7 : σ2[7]? = some (some (.int paid)) := by rw [← hσ2]; simp [-getElem?_pos, List.getElem?_set, l1]
  have l2 : σ2.length = 35 := by rw [← hσ2]; simpa using l1
  clear hσ2 e2 q1 q2 q3 q4 l1
  rw [seq_nx (s3 p2 p3 p6 a1 b1 (by omega))]
  generalize hσ3 : σ2.set 8 (some (.int (feeV rows least price))) = σ3
  have q1 : σ3[1]? = some (some (.ref 0)) := by rw [← hσ3]; simpa [List.getElem?_set] using p1
  have q2 : σ3[2]? = some (some (.lst (rows.map pD))) := by rw [← hσ3]; simpa [List.getElem?_set] using p2
  have q3 : σ3[3]? = some (some (.int least)) := by rw [← hσ3]; simpa [List.getElem?_set] using p3
  have q4 : σ3[4]? = some (some (.int duty)) := by rw [← hσ3]; simpa [List.getElem?_set] using p4
  have q5 : σ3[5]? = some (some (objF rows least duty)) := by rw [← hσ3]; simpa [List.getElem?_set] using p5
  have q6 : σ3[6]? = some (some (.int price)) := by rw [← hσ3]; simpa [List.getElem?_set] using p6
  have q7 : σ3[7]? = some (some (.int paid)) := by rw [← hσ3]; simpa [List.getElem?_set] using p7
  have q8 : σ3[8]? = some (some (.int (feeV rows least price))) := by rw [← hσ3]; simp [-getElem?_pos, List.getElem?_set, l2]
  have l3 : σ3.length = 35 := by rw [← hσ3]; simpa using l2
  clear hσ3 p1 p2 p3 p4 p5 p6 p7 l2
  rw [seq_nx (s4 q8 q4 a4 (by omega))]
  generalize hσ4 : σ3.set 9 (some (.int (dueV rows least duty price))) = σ4
  have p1 : σ4[1]? = some (some (.ref 0)) := by rw [← hσ4]; simpa [List.getElem?_set] using q1
  have p2 : σ4[2]? = some (some (.lst (rows.map pD))) := by rw [← hσ4]; simpa [List.getElem?_set] using q2
  have p3 : σ4[3]? = some (some (.int least)) := by rw [← hσ4]; simpa [List.getElem?_set] using q3
  have p4 : σ4[4]? = some (some (.int duty)) := by rw [← hσ4]; simpa [List.getElem?_set] using q4
  have p5 : σ4[5]? = some (some (objF rows least duty)) := by rw [← hσ4]; simpa [List.getElem?_set] using q5
  have p6 : σ4[6]? = some (some (.int price)) := by rw [← hσ4]; simpa [List.getElem?_set] using q6
  have p7 : σ4[7]? = some (some (.int paid)) := by rw [← hσ4]; simpa [List.getElem?_set] using q7
  have p8 : σ4[8]? = some (some (.int (feeV rows least price))) := by rw [← hσ4]; simpa [List.getElem?_set] using q8
  have p9 : σ4[9]? = some (some (.int (dueV rows least duty price))) := by rw [← hσ4]; simp [-getElem?_pos, List.getElem?_set, l3]
  have l4 : σ4.length = 35 := by rw [← hσ4]; simpa using l3
  clear hσ4 q1 q2 q3 q4 q5 q6 q7 q8 l3
  rw [seq_nx (s5 p5 p6 p8 p9 a1 (by omega) a4 (by omega) b1)]
  rw [seq_nx (s6 l4 p2 p3 p4 p7 a1 a4 (by omega) b3)]
  generalize hσ5 : σ4.set 10 (some (ableD rows least duty paid)) = σ5
  have q1 : σ5[1]? = some (some (.ref 0)) := by rw [← hσ5]; simpa [List.getElem?_set] using p1
  have q2 : σ5[2]? = some (some (.lst (rows.map pD))) := by rw [← hσ5]; simpa [List.getElem?_set] using p2
  have q5 : σ5[5]? = some (some (objF rows least duty)) := by rw [← hσ5]; simpa [List.getElem?_set] using p5
  have q6 : σ5[6]? = some (some (.int price)) := by rw [← hσ5]; simpa [List.getElem?_set] using p6
  have q7 : σ5[7]? = some (some (.int paid)) := by rw [← hσ5]; simpa [List.getElem?_set] using p7
  have q8 : σ5[8]? = some (some (.int (feeV rows least price))) := by rw [← hσ5]; simpa [List.getElem?_set] using p8
  have q9 : σ5[9]? = some (some (.int (dueV rows least duty price))) := by rw [← hσ5]; simpa [List.getElem?_set] using p9
  have q10 : σ5[10]? = some (some (ableD rows least duty paid)) := by rw [← hσ5]; simp [-getElem?_pos, List.getElem?_set, l4]
  have l5 : σ5.length = 35 := by rw [← hσ5]; simpa using l4
  clear hσ5 p1 p2 p3 p4 p5 p6 p7 p8 p9 l4
  obtain ⟨v, e7, e8⟩ := s78 (h := h2) l5 q5 q7 q10 a1 (by omega) a2 a4 (by omega) b3 (by omega)
  rw [seq_nx e7, seq_nx e8]
  generalize hσ6 : σ5.set 11 v = σ6
  have p1 : σ6[1]? = some (some (.ref 0)) := by rw [← hσ6]; simpa [List.getElem?_set] using q1
  have p2 : σ6[2]? = some (some (.lst (rows.map pD))) := by rw [← hσ6]; simpa [List.getElem?_set] using q2
  have p5 : σ6[5]? = some (some (objF rows least duty)) := by rw [← hσ6]; simpa [List.getElem?_set] using q5
  have p6 : σ6[6]? = some (some (.int price)) := by rw [← hσ6]; simpa [List.getElem?_set] using q6
  have p8 : σ6[8]? = some (some (.int (feeV rows least price))) := by rw [← hσ6]; simpa [List.getElem?_set] using q8
  have p9 : σ6[9]? = some (some (.int (dueV rows least duty price))) := by rw [← hσ6]; simpa [List.getElem?_set] using q9
  have l6 : σ6.length = 35 := by rw [← hσ6]; simpa using l5
  clear hσ6 q1 q2 q5 q6 q7 q8 q9 q10 l5 e7 e8
  rw [seq_nx (s9 l6 p2 p6 a1)]
  generalize hσ7 : σ6.set 12 (some (.lst ((edgeL (max price (lastF rows)) rows).map D.int))) = σ7
  have q1 : σ7[1]? = some (some (.ref 0)) := by rw [← hσ7]; simpa [List.getElem?_set] using p1
  have q2 : σ7[2]? = some (some (.lst (rows.map pD))) := by rw [← hσ7]; simpa [List.getElem?_set] using p2
  have q5 : σ7[5]? = some (some (objF rows least duty)) := by rw [← hσ7]; simpa [List.getElem?_set] using p5
  have q6 : σ7[6]? = some (some (.int price)) := by rw [← hσ7]; simpa [List.getElem?_set] using p6
  have q8 : σ7[8]? = some (some (.int (feeV rows least price))) := by rw [← hσ7]; simpa [List.getElem?_set] using p8
  have q9 : σ7[9]? = some (some (.int (dueV rows least duty price))) := by rw [← hσ7]; simpa [List.getElem?_set] using p9
  have q12 : σ7[12]? = some (some (.lst ((edgeL (max price (lastF rows)) rows).map D.int))) := by rw [← hσ7]; simp [-getElem?_pos, List.getElem?_set, l6]
  have l7 : σ7.length = 35 := by rw [← hσ7]; simpa using l6
  clear hσ7 p1 p2 p5 p6 p8 p9 l6
  rw [seq_nx (s10 l7 q2 q6 (by omega) q12 a1)]
  generalize hσ8 : σ7.set 13 (some (.lst ((pts rows price).map pD))) = σ8
  have p1 : σ8[1]? = some (some (.ref 0)) := by rw [← hσ8]; simpa [List.getElem?_set] using q1
  have p5 : σ8[5]? = some (some (objF rows least duty)) := by rw [← hσ8]; simpa [List.getElem?_set] using q5
  have p6 : σ8[6]? = some (some (.int price)) := by rw [← hσ8]; simpa [List.getElem?_set] using q6
  have p8 : σ8[8]? = some (some (.int (feeV rows least price))) := by rw [← hσ8]; simpa [List.getElem?_set] using q8
  have p9 : σ8[9]? = some (some (.int (dueV rows least duty price))) := by rw [← hσ8]; simpa [List.getElem?_set] using q9
  have p13 : σ8[13]? = some (some (.lst ((pts rows price).map pD))) := by rw [← hσ8]; simp [-getElem?_pos, List.getElem?_set, l7]
  have l8 : σ8.length = 35 := by rw [← hσ8]; simpa using l7
  clear hσ8 q1 q2 q5 q6 q8 q9 q12 l7
  obtain ⟨h3, d3, e11⟩ := s11 p5 p6 p8 p13 a1 (by omega) b1 (by omega) d2
  rw [seq_nx e11]
  obtain ⟨rows2, least2, duty2, h4, c1, c2, c3, c4, d4, e12⟩ := s12 d3 p1
  rw [seq_nx e12]
  generalize hσ9 : σ8.set 14 (some (objF rows2 least2 duty2)) = σ9
  have q1 : σ9[1]? = some (some (.ref 0)) := by rw [← hσ9]; simpa [List.getElem?_set] using p1
  have q5 : σ9[5]? = some (some (objF rows least duty)) := by rw [← hσ9]; simpa [List.getElem?_set] using p5
  have q6 : σ9[6]? = some (some (.int price)) := by rw [← hσ9]; simpa [List.getElem?_set] using p6
  have q9 : σ9[9]? = some (some (.int (dueV rows least duty price))) := by rw [← hσ9]; simpa [List.getElem?_set] using p9
  have q14 : σ9[14]? = some (some (objF rows2 least2 duty2)) := by rw [← hσ9]; simp [-getElem?_pos, List.getElem?_set, l8]
  have l9 : σ9.length = 35 := by rw [← hσ9]; simpa using l8
  clear hσ9 p1 p5 p6 p8 p9 p13 l8 e11 e12
  rw [seq_nx (s13 q5 q6 q9 q14 a1 (by omega) a4 (by omega) c1 (by omega) c3 (by omega) b1)]
  generalize hσ10 : ((σ9.set 15 (some (.int (payV rows least duty price)))).set 16 (some (.int (getV rows2 least2 duty2 price)))).set 17 (some (.int (dueV rows least duty price + dueV rows2 least2 duty2 price))) = σ10
  have p1 : σ10[1]? = some (some (.ref 0)) := by rw [← hσ10]; simpa [List.getElem?_set] using q1
  have p5 : σ10[5]? = some (some (objF rows least duty)) := by rw [← hσ10]; simpa [List.getElem?_set] using q5
  have p6 : σ10[6]? = some (some (.int price)) := by rw [← hσ10]; simpa [List.getElem?_set] using q6
  have p14 : σ10[14]? = some (some (objF rows2 least2 duty2)) := by rw [← hσ10]; simpa [List.getElem?_set] using q14
  have p15 : σ10[15]? = some (some (.int (payV rows least duty price))) := by rw [← hσ10]; simp [-getElem?_pos, List.getElem?_set, l9]
  have p16 : σ10[16]? = some (some (.int (getV rows2 least2 duty2 price))) := by rw [← hσ10]; simp [-getElem?_pos, List.getElem?_set, l9]
  have p17 : σ10[17]? = some (some (.int (dueV rows least duty price + dueV rows2 least2 duty2 price))) := by rw [← hσ10]; simp [-getElem?_pos, List.getElem?_set, l9]
  have l10 : σ10.length = 35 := by rw [← hσ10]; simpa using l9
  clear hσ10 q1 q5 q6 q9 q14 l9
  obtain ⟨xs, h5, x1, x2, d5, e14⟩ := s14 l10 d4 p1
  rw [seq_nx e14]
  generalize hσ11 : σ10.set 18 (some (.lst (xs.map D.int))) = σ11
  have q1 : σ11[1]? = some (some (.ref 0)) := by rw [← hσ11]; simpa [List.getElem?_set] using p1
  have q5 : σ11[5]? = some (some (objF rows least duty)) := by rw [← hσ11]; simpa [List.getElem?_set] using p5
  have q6 : σ11[6]? = some (some (.int price)) := by rw [← hσ11]; simpa [List.getElem?_set] using p6
  have q14 : σ11[14]? = some (some (objF rows2 least2 duty2)) := by rw [← hσ11]; simpa [List.getElem?_set] using p14
  have q15 : σ11[15]? = some (some (.int (payV rows least duty price))) := by rw [← hσ11]; simpa [List.getElem?_set] using p15
  have q16 : σ11[16]? = some (some (.int (getV rows2 least2 duty2 price))) := by rw [← hσ11]; simpa [List.getElem?_set] using p16
  have q17 : σ11[17]? = some (some (.int (dueV rows least duty price + dueV rows2 least2 duty2 price))) := by rw [← hσ11]; simpa [List.getElem?_set] using p17
  have q18 : σ11[18]? = some (some (.lst (xs.map D.int))) := by rw [← hσ11]; simp [-getElem?_pos, List.getElem?_set, l10]
  have l11 : σ11.length = 35 := by rw [← hσ11]; simpa using l10
  clear hσ11 p1 p5 p6 p14 p15 p16 p17 l10 e14
  rw [seq_nx (s15 l11 q5 q14 q18 x2 x1 a1 (by omega) a4 (by omega) c1 (by omega) c3 (by omega))]
  generalize hσ12 : σ11.set 19 (some (.lst ((xs.filter fun x => decide (payV rows least duty x < payV rows2 least2 duty2 x)).map D.int))) = σ12
  have p1 : σ12[1]? = some (some (.ref 0)) := by rw [← hσ12]; simpa [List.getElem?_set] using q1
  have p5 : σ12[5]? = some (some (objF rows least duty)) := by rw [← hσ12]; simpa [List.getElem?_set] using q5
  have p6 : σ12[6]? = some (some (.int price)) := by rw [← hσ12]; simpa [List.getElem?_set] using q6
  have p14 : σ12[14]? = some (some (objF rows2 least2 duty2)) := by rw [← hσ12]; simpa [List.getElem?_set] using q14
  have p15 : σ12[15]? = some (some (.int (payV rows least duty price))) := by rw [← hσ12]; simpa [List.getElem?_set] using q15
  have p16 : σ12[16]? = some (some (.int (getV rows2 least2 duty2 price))) := by rw [← hσ12]; simpa [List.getElem?_set] using q16
  have p17 : σ12[17]? = some (some (.int (dueV rows least duty price + dueV rows2 least2 duty2 price))) := by rw [← hσ12]; simpa [List.getElem?_set] using q17
  have p18 : σ12[18]? = some (some (.lst (xs.map D.int))) := by rw [← hσ12]; simpa [List.getElem?_set] using q18
  have p19 : σ12[19]? = some (some (.lst ((xs.filter fun x => decide (payV rows least duty x < payV rows2 least2 duty2 x)).map D.int))) := by rw [← hσ12, List.getElem?_set_self (by rw [l11]; decide)]
  have l12 : σ12.length = 35 := by rw [← hσ12]; simpa using l11
  clear hσ12 q1 q5 q6 q14 q15 q16 q17 q18 l11
  rw [seq_nx (s16 (pay := 0) (get := 0) (dut := 0) p5 p6 p14 p15 p16 p17 a1 (by omega) a4 (by omega) c1 (by omega) c3 (by omega) b1)]
  rw [seq_nx (s17 p5 p14 p18 p19 x2 x1 a1 (by omega) a4 (by omega) c1 (by omega) c3 (by omega))]
  obtain ⟨cost, l, h6, y1, y2, y3, y4, d6, e18⟩ := s18 l12 d5 p1
  rw [seq_nx e18]
  generalize hσ13 : (σ12.set 20 (some (.int cost))).set 21 (some (.lst (l.map D.int))) = σ13
  have q1 : σ13[1]? = some (some (.ref 0)) := by rw [← hσ13]; simpa [List.getElem?_set] using p1
  have q6 : σ13[6]? = some (some (.int price)) := by rw [← hσ13]; simpa [List.getElem?_set] using p6
  have q20 : σ13[20]? = some (some (.int cost)) := by rw [← hσ13, List.getElem?_set_ne (by decide), List.getElem?_set_self (by rw [l12]; decide)]
  have q21 : σ13[21]? = some (some (.lst (l.map D.int))) := by rw [← hσ13, List.getElem?_set_self (by rw [List.length_set, l12]; decide)]
  have l13 : σ13.length = 35 := by rw [← hσ13]; simpa using l12
  clear hσ13 p1 p5 p6 p14 p15 p16 p17 p18 p19 l12 e18
  rw [seq_nx (s19 q21 y3)]
  have hM1 := mineL_len l
  have hM := mineL_mem y4
  have hS := mineL_sum y2 y3 y4
  generalize hσ14 : σ13.set 22 (some (.lst ((mineL l).map D.int))) = σ14
  have p1 : σ14[1]? = some (some (.ref 0)) := by rw [← hσ14]; simpa [List.getElem?_set] using q1
  have p6 : σ14[6]? = some (some (.int price)) := by rw [← hσ14]; simpa [List.getElem?_set] using q6
  have p20 : σ14[20]? = some (some (.int cost)) := by rw [← hσ14]; simpa [List.getElem?_set] using q20
  have p21 : σ14[21]? = some (some (.lst (l.map D.int))) := by rw [← hσ14]; simpa [List.getElem?_set] using q21
  have p22 : σ14[22]? = some (some (.lst ((mineL l).map D.int))) := by rw [← hσ14, List.getElem?_set_self (by rw [l13]; decide)]
  have l14 : σ14.length = 35 := by rw [← hσ14]; simpa using l13
  clear hσ14 q1 q6 q20 q21 l13
  rw [seq_nx (s20 l14 p20 p22 hM hS (by omega))]
  generalize hσ15 : σ14.set 23 (some (.lst ((shrL cost (mineL l)).map D.int))) = σ15
  have q1 : σ15[1]? = some (some (.ref 0)) := by rw [← hσ15]; simpa [List.getElem?_set] using p1
  have q6 : σ15[6]? = some (some (.int price)) := by rw [← hσ15]; simpa [List.getElem?_set] using p6
  have q20 : σ15[20]? = some (some (.int cost)) := by rw [← hσ15]; simpa [List.getElem?_set] using p20
  have q21 : σ15[21]? = some (some (.lst (l.map D.int))) := by rw [← hσ15]; simpa [List.getElem?_set] using p21
  have q22 : σ15[22]? = some (some (.lst ((mineL l).map D.int))) := by rw [← hσ15]; simpa [List.getElem?_set] using p22
  have q23 : σ15[23]? = some (some (.lst ((shrL cost (mineL l)).map D.int))) := by rw [← hσ15, List.getElem?_set_self (by rw [l14]; decide)]
  have l15 : σ15.length = 35 := by rw [← hσ15]; simpa using l14
  clear hσ15 p1 p6 p20 p21 p22 l14
  rw [seq_nx (s21 l15 q20 q22 q23 (by omega) (by omega))]
  generalize hσ16 : σ15.set 24 (some (.lst (((topL cost (mineL l)).map (·.2)).map D.int))) = σ16
  have p1 : σ16[1]? = some (some (.ref 0)) := by rw [← hσ16]; simpa [List.getElem?_set] using q1
  have p6 : σ16[6]? = some (some (.int price)) := by rw [← hσ16]; simpa [List.getElem?_set] using q6
  have p20 : σ16[20]? = some (some (.int cost)) := by rw [← hσ16]; simpa [List.getElem?_set] using q20
  have p21 : σ16[21]? = some (some (.lst (l.map D.int))) := by rw [← hσ16]; simpa [List.getElem?_set] using q21
  have p23 : σ16[23]? = some (some (.lst ((shrL cost (mineL l)).map D.int))) := by rw [← hσ16]; simpa [List.getElem?_set] using q23
  have p24 : σ16[24]? = some (some (.lst (((topL cost (mineL l)).map (·.2)).map D.int))) := by rw [← hσ16, List.getElem?_set_self (by rw [l15]; decide)]
  have l16 : σ16.length = 35 := by rw [← hσ16]; simpa using l15
  clear hσ16 q1 q6 q20 q21 q22 q23 l15
  obtain ⟨h7, d7, e22⟩ := s22 l16 p20 p21 p23 p24 y1 y2 y3 y4 d6
  rw [seq_nx e22]
  obtain ⟨rows3, mo, h8, z1, z2, d8, e23⟩ := s23 d7 p1
  rw [seq_nx e23]
  exact ⟨_, _, s24 (rows := rows3) (mo := mo) (price := price) (by rw [List.getElem?_set_ne (by decide), List.getElem?_set_ne (by decide), p6]) (by rw [List.getElem?_set_ne (by decide), List.getElem?_set_self (by rw [l16]; decide)]) (by rw [List.getElem?_set_self (by rw [List.length_set, l16]; decide)]) z1 z2 b1 (by omega)⟩
end K11
end
section
set_option Elab.async false
set_option linter.all false
set_option maxRecDepth 100000
namespace K11
open PySem DV L2 SrtO
theorem law_ok : Plain 63 f_law := by
  intro ns _ _
  obtain ⟨a, b, m, er⟩ := rounds_ok ns
  obtain ⟨hp, ep⟩ := plain_ok
  have hl : (startA 35 [D.scr ns]).length = 35 := rfl
  have v0 : (startA 35 [D.scr ns])[0]? = some (some (.scr ns)) := rfl
  obtain ⟨σ', h', eb⟩ := body_ok (σ := (startA 35 [D.scr ns]).set 1 (some (.ref 0))) (h := [some (.lst [.int a, .int b, .int m])]) (by rw [List.length_set]; exact hl) ⟨a, b, m, rfl⟩ rfl
  have lp := sFor_eq (mi := miLT (mCall (fun xs => f_law_rounds (xs ++ [])) (mCons (mVar 0) (mCons (mC (.int 1)) (mNil))))) (mg := gmName 1) (s := lawB) (σ := startA 35 [D.scr ns]) (h := []) (h1 := [some (.lst [.int a, .int b, .int m])]) (it := itOf (.lst [.ref 0])) (ds := [.ref 0]) (by simp [v0, er, itLT, getL]) (itIs_lst _) (big3 (by simp))
  rw [forL, gmName_d] at lp
  dsimp only at lp
  rw [eb, loopS_nx, forL_nil] at lp
  refine ⟨List.replicate h'.length none, ?_⟩
  unfold f_law
  refine runF_rt ?_
  rw [m_law_eq]
  show sSeq _ _ (startA 35 [D.scr ns]) [] = _
  rw [seq_nx lp]
  refine ret_rt ?_
  unfold mCallN
  rw [ep]
end K11
end
theorem PySem.Challenge.cw_auctionstack_k11_fees_on_prices_holds : PySem.Challenge.rw_auctionstack_k11_fees_on_prices.Holds := by
  exact K11.finish K11.law_ok

